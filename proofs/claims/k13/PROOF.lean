import PyProof.Rows.All
import Wide.All
import OpenK.AllK
import Wide.FinOn
import HandS.ForMost
import HandS.TupAny
import HandS.TupMul
import HandS.Walk
import HandS.IsInst
import HandS.TupSets
import HandS.ExcInit
import KE.KxSplit
import HandS.EndTab
import HandS.Lambda
import HandS.Deep
import KE.GoesEnum
import HandS.Zip
import HandS.SortInts
import HandS.RevTup
import HandS.Rev
import HandS.More
import PyProof.P3In
import HandS.Strs
import HandS.SetFor
import HandS.Style
import HandS.Small
import HandS.Conv
import KE.SortKeyHeap
import HandS.Words
import HandS.WordsExc
import HandS.ExcOwn
import HandS.ExcField
import KE.KExcIs
import HandS.ExcIs
import HandS.NoneIn
import PySem.Challenge.RW_homingpost_k13_texts_refused
set_option Elab.async false
set_option linter.all false
set_option maxRecDepth 100000
set_option maxHeartbeats 4000000
namespace Z
open PySem PySem.Spec L2
/-- the state of the law's drawing -/
structure Rg where
  s : Int
  c : List Int
  k : Int
/-- a slot of any other kind, by what it says of what stays, of the heap, of its value and of what is its own; mt: it may be the caller's -/
structure Cus where
  P : PySem.W.Frag → Hp → Hp → Option V → List Addr → Prop
  mt : Bool
  move : ∀ (K : PySem.W.Frag) (G H G2 H2 : Hp) (o : Option V) (as : List Addr), Same G G2 → P K G H o as → (∀ a ∈ as, ∀ u, H a = some u → H2 a = some u) → P K G2 H2 o as
  there : ∀ (K : PySem.W.Frag) (G H : Hp) (o : Option V) (as : List Addr), P K G H o as → ∀ a ∈ as, ∃ u, H a = some u ∧ ∀ ps, u ≠ .tbl ps
/-- what a slot holds: nothing known, data that stays, a list of our own, the drawing state, an instance that stays, a dict of our own -/
inductive SK where
  | no
  | dat (d : PyData)
  | own (ds : List PyData)
  | rng (a b : Addr) (r : Rg)
  | ins (C : Addr) (fs : List (Str × PyData))
  | dic (kvs : List (Int × PyData))
  | ptr (a : Addr)
  | tlo (d0 ds d1 : List PyData)
  | oin (a dx C : Addr) (fs : List (Str × PyData))
  | cus (c : Cus)
def isRng : SK → Bool
  | .rng _ _ _ => true
  | .oin _ _ _ _ => true
  | .cus c => c.mt
  | _ => false
/-- where a def began: what stays, the heap, what it may change -/
structure Wd where
  G : Hp
  H : Hp
  M : Addr → Prop
/-- the tables of code objects that the program's lambdas go into, each with its lambdas' name -/
class Tabl where
  T : List (Addr × Str)
variable [Tabl]
/-- the tables are as they shall be, and none of them is among what stays -/
structure TbO (G H : Hp) : Prop where
  g : ∀ p ∈ Tabl.T, G p.1 = none
  t : LamX.Tabs Tabl.T H
/-- a thing that is neither a table nor known by a statement alone -/
def Pl (u : HO) : Prop := (∀ ps, u ≠ .tbl ps) ∧ ∀ φ, u ≠ .ext φ
theorem pl_lst {xs : List V} : Pl (.lst xs) := ⟨(fun _ z => by cases z), (fun _ z => by cases z)⟩
theorem TbO.at {G H : Hp} (t : TbO G H) {p : Addr × Str} (hp : p ∈ Tabl.T) : ∃ ps, H p.1 = some (.tbl ps) := let ⟨ps, h, _⟩ := t.t p hp; ⟨ps, h⟩
theorem TbO.mono {G H G2 H2 : Hp} (t : TbO G H) (hg : ∀ p ∈ Tabl.T, G2 p.1 = none) (k : ∀ b o, ¬ Pl o → H b = some o → H2 b = some o) : TbO G2 H2 := ⟨hg, fun p hp => by
  obtain ⟨ps, h1, h2, h3⟩ := t.t p hp
  refine ⟨ps, k _ _ (fun z => z.1 ps rfl) h1, h2, fun q cv hc => ?_⟩
  obtain ⟨c, e1, e2⟩ := h3 q cv hc
  exact ⟨c, e1, k _ _ (fun z => z.2 _ rfl) e2⟩⟩
theorem TbO.upd {G H : Hp} {a : Addr} {o : HO} (t : TbO G H) (n : ∀ u, H a = some u → Pl u) : TbO G (upd H a o) := t.mono t.g fun b u nu e => by
  have : b ≠ a := fun z => by subst z; exact nu (n u e)
  rw [upd_ne this]; exact e
theorem TbO.updG {G H : Hp} {a : Addr} {o : HO} (t : TbO G H) (n : H a = some o) (pl : Pl o) : TbO (L2.upd G a o) H := t.mono (fun p hp => by
  obtain ⟨ps, h⟩ := t.at hp
  have : p.1 ≠ a := fun z => by rw [z, n] at h; cases h; exact pl.1 ps rfl
  rw [upd_ne this]; exact t.g p hp) fun b u _ e => e
structure Le (W : Wd) (G H : Hp) : Prop where
  g : Same W.G G
  gh : Same G H
  keep : ∀ a o, ¬ W.M a → (∀ ps, o ≠ .tbl ps) → W.H a = some o → H a = some o
  there : ∀ a o, W.H a = some o → ∃ o', H a = some o'
  fz : ∀ a o, W.G a = none → W.H a = some o → G a = none
  m : ∀ a, W.M a → ∃ o, W.H a = some o
  tb : TbO G H
/-- nothing that stood is changed -/
structure Lp (G0 H0 G H : Hp) : Prop where
  g : Same G0 G
  gh : Same G H
  keep : ∀ a o, ¬ False → H0 a = some o → H a = some o
  there : ∀ a o, H0 a = some o → ∃ o', H a = some o'
  fz : ∀ a o, G0 a = none → H0 a = some o → G a = none
abbrev pur (G H : Hp) : Wd := ⟨G, H, fun _ => False⟩
theorem Le.refl {G H : Hp} (h : Same G H) (t : TbO G H) : Le (pur G H) G H :=
  ⟨Same.refl G, h, fun _ _ _ _ e => e, fun _ o e => ⟨o, e⟩, fun _ _ e _ => e, fun _ z => z.elim, t⟩
theorem Lp.refl {G H : Hp} (h : Same G H) : Lp G H G H :=
  ⟨Same.refl G, h, fun _ _ _ e => e, fun _ o e => ⟨o, e⟩, fun _ _ e _ => e⟩
theorem TbO.step {G H G2 H2 : Hp} (t : TbO G H) (l : Lp G H G2 H2) : TbO G2 H2 := t.mono (fun p hp => by
  obtain ⟨ps, h⟩ := t.at hp
  exact l.fz _ _ (t.g p hp) h) fun b o _ e => l.keep b o (fun z => z) e
theorem Le.trans {W : Wd} {G H G2 H2 : Hp} (a : Le W G H) (b : Lp G H G2 H2) : Le W G2 H2 where
  g := a.g.trans b.g
  gh := b.gh
  keep := fun x o m nt e => b.keep x o (fun z => z) (a.keep x o m nt e)
  there := fun x o e => let ⟨o', e'⟩ := a.there x o e; b.there x o' e'
  fz := fun x o n e => let ⟨o', e'⟩ := a.there x o e; b.fz x o' (a.fz x o n e) e'
  m := a.m
  tb := a.tb.step b
theorem Le.transL {W : Wd} {G H G2 H2 : Hp} (a : Le W G H) (b : Le (pur G H) G2 H2) : Le W G2 H2 where
  g := a.g.trans b.g
  gh := b.gh
  keep := fun x o m nt e => b.keep x o (fun z => z) nt (a.keep x o m nt e)
  there := fun x o e => let ⟨o', e'⟩ := a.there x o e; b.there x o' e'
  fz := fun x o n e => let ⟨o', e'⟩ := a.there x o e; b.fz x o' (a.fz x o n e) e'
  m := a.m
  tb := b.tb
theorem Lp.le {G H G2 H2 : Hp} (l : Lp G H G2 H2) (t : TbO G H) : Le (pur G H) G2 H2 := ⟨l.g, l.gh, fun a o _ _ e => l.keep a o (fun z => z) e, l.there, l.fz, fun _ z => z.elim, t.step l⟩
theorem Lp.trans {G H G1 H1 G2 H2 : Hp} (a : Lp G H G1 H1) (b : Lp G1 H1 G2 H2) : Lp G H G2 H2 where
  g := a.g.trans b.g
  gh := b.gh
  keep := fun x o m e => b.keep x o m (a.keep x o m e)
  there := fun x o e => let ⟨o', e'⟩ := a.there x o e; b.there x o' e'
  fz := fun x o n e => let ⟨o', e'⟩ := a.there x o e; b.fz x o' (a.fz x o n e) e'
/-- a new thing that stays -/
theorem Lp.new {G H : Hp} {p : Addr} {o : HO} (h : Same G H) (n : H p = none) : Lp G H (upd G p o) (upd H p o) where
  g := fun b u e => by
    have : b ≠ p := fun z => by rw [z] at e; rw [h p u e] at n; cases n
    rw [upd_ne this]; exact e
  gh := fun b u e => by
    by_cases q : b = p
    · subst q; rw [upd_same] at e ⊢; exact e
    · rw [upd_ne q] at e ⊢; exact h b u e
  keep := fun x u _ e => by rw [upd_ne (ne_of_none e n)]; exact e
  there := fun x u e => ⟨u, by rw [upd_ne (ne_of_none e n)]; exact e⟩
  fz := fun x u e e' => by
    have e' : H x = some u := e'
    rw [upd_ne (ne_of_none e' n)]; exact e
/-- a new thing of our own -/
theorem Lp.newOwn {G H : Hp} {p : Addr} {o : HO} (h : Same G H) (n : H p = none) : Lp G H G (upd H p o) where
  g := Same.refl G
  gh := fun b u e => by
    have : b ≠ p := fun z => by rw [z] at e; rw [h p u e] at n; cases n
    rw [upd_ne this]; exact h b u e
  keep := fun x u _ e => by rw [upd_ne (ne_of_none e n)]; exact e
  there := fun x u e => ⟨u, by rw [upd_ne (ne_of_none e n)]; exact e⟩
  fz := fun x u e _ => e
end Z
namespace L2
open PySem PySem.Spec
/-! ### data stays -/
theorem Same.seqT {K : PySem.W.Frag} {H H' : Hp} {a : Addr} {xs : List V} (e : Same H H') (h : SqT K H a xs) : SqT K H' a xs := by
  rcases h with (h | ⟨o, h⟩) | h
  · exact .inl (.inl (e _ _ h))
  · exact .inl (.inr ⟨o, e _ _ h⟩)
  · exact .inr h
mutual
theorem Dp.mono {K : PySem.W.Frag} {G G' : Hp} (e : Same G G') : ∀ {v : V} {d : PyData}, Dp K G v d → Dp K G' v d
  | _, _, .non => .non
  | _, _, .bl b => .bl b
  | _, _, .int i => .int i
  | _, _, .str x => .str x
  | _, _, .lst h t => .lst (e.seq h) (DpAll.mono e t)
  | _, _, .tup h t => .tup (Same.seqT e h) (DpAll.mono e t)
theorem DpAll.mono {K : PySem.W.Frag} {G G' : Hp} (e : Same G G') : ∀ {vs : List V} {ds : List PyData}, DpAll K G vs ds → DpAll K G' vs ds
  | _, _, .nil => .nil
  | _, _, .cons h t => .cons (Dp.mono e h) (DpAll.mono e t)
end
section
variable {K : PySem.W.Frag} {G : Hp}
theorem DpAll.len : ∀ {vs : List V} {ds : List PyData}, DpAll K G vs ds → vs.length = ds.length
  | _, _, .nil => rfl
  | _, _, .cons _ t => congrArg (· + 1) (DpAll.len t)
theorem DpAll.get : ∀ {vs : List V} {ds : List PyData} {i : Nat} {d : PyData}, DpAll K G vs ds → ds[i]? = some d → ∃ v, vs[i]? = some v ∧ Dp K G v d
  | _, _, _, _, .nil, e => by simp at e
  | _, _, 0, _, .cons h _, e => by
    simp at e; subst e; exact ⟨_, rfl, h⟩
  | _, _, i + 1, _, .cons _ t, e => by
    obtain ⟨v, a, b⟩ := DpAll.get (i := i) t (by simpa using e)
    exact ⟨v, by simpa using a, b⟩
theorem DpAll.getV : ∀ {vs : List V} {ds : List PyData} {i : Nat} {v : V}, DpAll K G vs ds → vs[i]? = some v → ∃ d, ds[i]? = some d ∧ Dp K G v d
  | _, _, _, _, .nil, e => by simp at e
  | _, _, 0, _, .cons h _, e => by
    simp at e; subst e; exact ⟨_, rfl, h⟩
  | _, _, i + 1, _, .cons _ t, e => by
    obtain ⟨v, a, b⟩ := DpAll.getV (i := i) t (by simpa using e)
    exact ⟨v, by simpa using a, b⟩
theorem DpAll.append : ∀ {vs ws : List V} {ds es : List PyData}, DpAll K G vs ds → DpAll K G ws es → DpAll K G (vs ++ ws) (ds ++ es)
  | _, _, _, _, .nil, b => b
  | _, _, _, _, .cons h t, b => .cons h (DpAll.append t b)
theorem DpAll.set : ∀ {vs : List V} {ds : List PyData} {v : V} {d : PyData} (i : Nat), DpAll K G vs ds → Dp K G v d → DpAll K G (vs.set i v) (ds.set i d)
  | _, _, _, _, _, .nil, _ => .nil
  | _, _, _, _, 0, .cons _ t, h => .cons h t
  | _, _, _, _, i + 1, .cons q t, h => .cons q (DpAll.set i t h)
theorem DpAll.take : ∀ {vs : List V} {ds : List PyData} (i : Nat), DpAll K G vs ds → DpAll K G (vs.take i) (ds.take i)
  | _, _, 0, _ => by simpa using DpAll.nil
  | _, _, _ + 1, .nil => by simpa using DpAll.nil
  | _, _, i + 1, .cons q t => by simpa using DpAll.cons q (DpAll.take i t)
theorem DpAll.drop : ∀ {vs : List V} {ds : List PyData} (i : Nat), DpAll K G vs ds → DpAll K G (vs.drop i) (ds.drop i)
  | _, _, 0, h => by simpa using h
  | _, _, _ + 1, .nil => by simpa using DpAll.nil
  | _, _, i + 1, .cons _ t => by simpa using DpAll.drop i t
theorem DpAll.ints : ∀ {ns : List Int}, DpAll K G (ns.map V.int) (ns.map PyData.int)
  | [] => .nil
  | n :: r => .cons (.int n) (DpAll.ints)
theorem Dp.int_inv {v : V} {i : Int} (h : Dp K G v (.int i)) : v = .int i := by cases h; rfl
theorem Dp.bl_inv {v : V} {b : Bool} (h : Dp K G v (.bool b)) : v = .bl b := by cases h; rfl
theorem Dp.str_inv {v : V} {x : Str} (h : Dp K G v (.str x)) : v = .str x := by cases h; rfl
theorem Dp.non_inv {v : V} (h : Dp K G v .none) : v = .non := by cases h; rfl
theorem Dp.lst_inv {v : V} {ds : List PyData} (h : Dp K G v (.list ds)) : ∃ a xs, v = .ref a ∧ SqL K G a xs ∧ DpAll K G xs ds := by
  cases h with | lst s t => exact ⟨_, _, rfl, s, t⟩
theorem Dp.tup_inv {v : V} {ds : List PyData} (h : Dp K G v (.tuple ds)) : ∃ a xs, v = .ref a ∧ SqT K G a xs ∧ DpAll K G xs ds := by
  cases h with | tup s t => exact ⟨_, _, rfl, s, t⟩
theorem DpAll.ints_inv : ∀ {vs : List V} {ns : List Int}, DpAll K G vs (ns.map PyData.int) → vs = ns.map V.int
  | _, [], h => by cases h; rfl
  | _, n :: r, h => by
    cases h with | cons a b => cases a; rw [DpAll.ints_inv b]; rfl
end
end L2
namespace Z
open PySem PySem.Spec L2
variable [Tabl]
/-! ### what the slots hold -/
def FsD (K : PySem.W.Frag) (G : Hp) : List (Str × V) → List (Str × PyData) → Prop := Paired fun p q => p.1 = q.1 ∧ Dp K G p.2 q.2
def KvD (K : PySem.W.Frag) (G : Hp) : List (Key × V) → List (Int × PyData) → Prop := Paired fun p q => p.1 = .inl q.1 ∧ Dp K G p.2 q.2
def Sl (K : PySem.W.Frag) (G H : Hp) : SK → Option V → List Addr → Prop
  | .no, _, as => as = []
  | .dat d, o, as => as = [] ∧ ∃ v, o = some v ∧ Dp K G v d
  | .own ds, o, as => ∃ a vs, o = some (.ref a) ∧ as = [a] ∧ H a = some (.lst vs) ∧ DpAll K G vs ds
  | .rng a b r, o, as => o = some (.ref a) ∧ as = [a, b] ∧ H a = some (.lst [.int r.s, .ref b, .int r.k]) ∧ H b = some (.lst (r.c.map V.int)) ∧ a ≠ b
  | .ins C fs, o, as => as = [] ∧ ∃ p dx vs, o = some (.ref p) ∧ G p = some (.ins C dx vs) ∧ FsD K G vs fs
  | .dic kvs, o, as => ∃ a vs, o = some (.ref a) ∧ as = [a] ∧ H a = some (.dK vs) ∧ KvD K G vs kvs
  | .ptr a, o, as => as = [] ∧ o = some (.ref a)
  | .tlo d0 ds d1, o, as => ∃ p a vs us ws, o = some (.ref p) ∧ as = [a] ∧ G p = some (.tup (vs ++ .ref a :: ws)) ∧ DpAll K G vs d0 ∧ H a = some (.lst us) ∧ DpAll K G us ds ∧ DpAll K G ws d1
  | .oin a dx C fs, o, as => o = some (.ref a) ∧ as = [a, dx] ∧ (∃ vs, H a = some (.ins C dx vs) ∧ FsD K G vs fs) ∧ H dx = some (.own a) ∧ a ≠ dx
  | .cus c, o, as => c.P K G H o as
structure Ow (W : Wd) (ks : List SK) (G : Hp) (ow : Nat → List Addr) : Prop where
  dis : ∀ i j a, a ∈ ow i → a ∈ ow j → i = j
  mine : ∀ i a, a ∈ ow i → G a = none ∧ (W.H a = none ∨ (W.M a ∧ ∃ k, ks[i]? = some k ∧ isRng k = true))
  out : ∀ i, ks.length ≤ i → ow i = []
structure Sts (K : PySem.W.Frag) (W : Wd) (ks : List SK) (σ : St) (G H : Hp) : Prop where
  le : Le W G H
  len : σ.length = ks.length
  own : ∃ ow : Nat → List Addr, Ow W ks G ow ∧ ∀ i k, ks[i]? = some k → Sl K G H k ((σ[i]?).getD none) (ow i)
section
variable {K : PySem.W.Frag} {W : Wd} {ks : List SK} {σ : St} {G H G2 H2 : Hp}
theorem FsD.mono (e : Same G G2) {vs : List (Str × V)} {fs : List (Str × PyData)} (h : FsD K G vs fs) : FsD K G2 vs fs := Paired.mapP h fun _ _ q => ⟨q.1, Dp.mono e q.2⟩
theorem KvD.mono (e : Same G G2) {vs : List (Key × V)} {fs : List (Int × PyData)} (h : KvD K G vs fs) : KvD K G2 vs fs := Paired.mapP h fun _ _ q => ⟨q.1, Dp.mono e q.2⟩
theorem Sl.move {k : SK} {o : Option V} {as : List Addr} (e : Same G G2) (h : Sl K G H k o as) (k2 : ∀ a ∈ as, ∀ u, H a = some u → H2 a = some u) : Sl K G2 H2 k o as := by
  cases k with
  | no => exact h
  | dat d => obtain ⟨a, v, b, c⟩ := h; exact ⟨a, v, b, Dp.mono e c⟩
  | own ds => obtain ⟨a, vs, b, rfl, c, d⟩ := h; exact ⟨a, vs, b, rfl, k2 a (by simp) _ c, DpAll.mono e d⟩
  | rng a b r => obtain ⟨c, rfl, d, f, g⟩ := h; exact ⟨c, rfl, k2 a (by simp) _ d, k2 b (by simp) _ f, g⟩
  | ins C fs => obtain ⟨a, p, dx, vs, b, c, d⟩ := h; exact ⟨a, p, dx, vs, b, e _ _ c, FsD.mono e d⟩
  | dic kvs => obtain ⟨a, vs, b, rfl, c, d⟩ := h; exact ⟨a, vs, b, rfl, k2 a (by simp) _ c, KvD.mono e d⟩
  | tlo d0 ds d1 => obtain ⟨p, a, vs, us, ws, b, rfl, c, d, f, g, gw⟩ := h; exact ⟨p, a, vs, us, ws, b, rfl, e _ _ c, DpAll.mono e d, k2 a (by simp) _ f, DpAll.mono e g, DpAll.mono e gw⟩
  | ptr a => exact h
  | oin a dx C fs => obtain ⟨c, rfl, ⟨vs, d, f⟩, g, n⟩ := h; exact ⟨c, rfl, ⟨vs, k2 a (by simp) _ d, FsD.mono e f⟩, k2 dx (by simp) _ g, n⟩
  | cus c => exact c.move K G H G2 H2 o as e h k2
theorem Sl.there {k : SK} {o : Option V} {as : List Addr} (h : Sl K G H k o as) : ∀ a ∈ as, ∃ u, H a = some u := by
  cases k with
  | no => cases (show as = [] from h); simp
  | dat d => obtain ⟨rfl, _⟩ := h; simp
  | own ds => obtain ⟨a, vs, b, rfl, c, d⟩ := h; intro x hx; simp at hx; subst hx; exact ⟨_, c⟩
  | rng a b r =>
    obtain ⟨c, rfl, d, f, g⟩ := h
    intro x hx
    simp at hx
    rcases hx with rfl | rfl
    · exact ⟨_, d⟩
    · exact ⟨_, f⟩
  | ins C fs => obtain ⟨rfl, _⟩ := h; simp
  | dic kvs => obtain ⟨a, vs, b, rfl, c, d⟩ := h; intro x hx; simp at hx; subst hx; exact ⟨_, c⟩
  | tlo d0 ds d1 => obtain ⟨p, a, vs, us, ws, b, rfl, c, d, f, g, gw⟩ := h; intro x hx; simp at hx; subst hx; exact ⟨_, f⟩
  | ptr a => obtain ⟨rfl, _⟩ := h; simp
  | oin a dx C fs =>
    obtain ⟨c, rfl, ⟨vs, d, f⟩, g, n⟩ := h
    intro x hx
    simp at hx
    rcases hx with rfl | rfl
    · exact ⟨_, d⟩
    · exact ⟨_, g⟩
  | cus c => exact fun a ha => (c.there K G H o as h a ha).imp fun _ z => z.1
theorem Sl.thereN {k : SK} {o : Option V} {as : List Addr} (h : Sl K G H k o as) : ∀ a ∈ as, ∃ u, H a = some u ∧ ∀ ps, u ≠ .tbl ps := by
  cases k with
  | no => cases (show as = [] from h); simp
  | dat d => obtain ⟨rfl, _⟩ := h; simp
  | own ds => obtain ⟨a, vs, b, rfl, c, d⟩ := h; intro x hx; simp at hx; subst hx; exact ⟨_, c, fun _ z => by cases z⟩
  | rng a b r =>
    obtain ⟨c, rfl, d, f, g⟩ := h
    intro x hx
    simp at hx
    rcases hx with rfl | rfl
    · exact ⟨_, d, fun _ z => by cases z⟩
    · exact ⟨_, f, fun _ z => by cases z⟩
  | ins C fs => obtain ⟨rfl, _⟩ := h; simp
  | dic kvs => obtain ⟨a, vs, b, rfl, c, d⟩ := h; intro x hx; simp at hx; subst hx; exact ⟨_, c, fun _ z => by cases z⟩
  | tlo d0 ds d1 => obtain ⟨p, a, vs, us, ws, b, rfl, c, d, f, g, gw⟩ := h; intro x hx; simp at hx; subst hx; exact ⟨_, f, fun _ z => by cases z⟩
  | ptr a => obtain ⟨rfl, _⟩ := h; simp
  | oin a dx C fs =>
    obtain ⟨c, rfl, ⟨vs, d, f⟩, g, n⟩ := h
    intro x hx
    simp at hx
    rcases hx with rfl | rfl
    · exact ⟨_, d, fun _ z => by cases z⟩
    · exact ⟨_, g, fun _ z => by cases z⟩
  | cus c => exact c.there K G H o as h
/-- a step that changes nothing of ours -/
theorem Sts.pure (S : Sts K W ks σ G H) (l : Lp G H G2 H2) : Sts K W ks σ G2 H2 := by
  obtain ⟨le, len, ow, o, f⟩ := S
  have live : ∀ i a, a ∈ ow i → ∃ u, H a = some u := fun i a ha => by
    by_cases hi : i < ks.length
    · exact (f i ks[i] (by simp [hi])).there a ha
    · rw [o.out i (by omega)] at ha; cases ha
  refine ⟨le.trans l, len, ow, ⟨o.dis, fun i a ha => ?_, o.out⟩, fun i k hk => ?_⟩
  · obtain ⟨g0, w0⟩ := o.mine i a ha
    obtain ⟨u, hu⟩ := live i a ha
    exact ⟨l.fz a u g0 hu, w0⟩
  · exact (f i k hk).move l.g fun a _ u hu => l.keep a u (fun z => z) hu
/-- .. but to tables -/
theorem Sts.step (S : Sts K W ks σ G H) (l : Le (pur G H) G2 H2) : Sts K W ks σ G2 H2 := by
  obtain ⟨le, len, ow, o, f⟩ := S
  have live : ∀ i a, a ∈ ow i → ∃ u, H a = some u ∧ ∀ ps, u ≠ .tbl ps := fun i a ha => by
    by_cases hi : i < ks.length
    · exact (f i ks[i] (by simp [hi])).thereN a ha
    · rw [o.out i (by omega)] at ha; cases ha
  refine ⟨le.transL l, len, ow, ⟨o.dis, fun i a ha => ?_, o.out⟩, fun i k hk => ?_⟩
  · obtain ⟨g0, w0⟩ := o.mine i a ha
    obtain ⟨u, hu, _⟩ := live i a ha
    exact ⟨l.fz a u g0 hu, w0⟩
  · refine (f i k hk).move l.g fun a ha u hu => ?_
    obtain ⟨u', hu', nt⟩ := live i a ha
    rw [hu] at hu'
    cases hu'
    exact l.keep a u (fun z => z) nt hu
theorem Sts.gh (S : Sts K W ks σ G H) : Same G H := S.le.gh
theorem Sts.dat (S : Sts K W ks σ G H) {i : Nat} {d : PyData} (h : ks[i]? = some (.dat d)) : ∃ v, σ[i]? = some (some v) ∧ Dp K G v d := by
  obtain ⟨le, len, ow, o, f⟩ := S
  obtain ⟨_, v, e, q⟩ := f i _ h
  have hi : i < σ.length := by rw [len]; exact (List.getElem?_eq_some_iff.mp h).1
  refine ⟨v, ?_, q⟩
  rw [List.getElem?_eq_getElem hi] at e ⊢
  simpa using e
end
end Z
namespace Z
open PySem PySem.Spec L2
variable [Tabl]
/-! ### the context of a body, by what is fixed -/
structure Sta where
  N : List Str
  sc : Scope
  fn : Str → Bool
/-- q: no exception is handled here -/
structure CtxB (q : Bool) (P : Program) (w : World) (K : PySem.W.Frag) (mg : Str → Option Value) (base : Heap) (T : Sta) (k : Nat) (X : Cx) : Prop where
  hP : X.prog = P
  hw : X.w = w
  hK : X.K = K
  hmg : X.mg = mg
  hbase : X.base = base
  hN : X.N = T.N
  nd : T.N.Nodup
  hs : X.env.scope = T.sc
  calm' : q = true → X.calm = true
  room' : q = true → Room k X.A
  un : X.A.units + 200 < cLine
  po : PassesOwn (model X.prog X.w) X.A X.env X.xe
  fn : X.fn = T.fn
abbrev Ctx (P : Program) (w : World) (K : PySem.W.Frag) (mg : Str → Option Value) (base : Heap) (T : Sta) (k : Nat) (X : Cx) : Prop := CtxB true P w K mg base T k X
theorem CtxB.calm {P : Program} {w : World} {K : PySem.W.Frag} {mg : Str → Option Value} {base : Heap} {T : Sta} {k : Nat} {X : Cx} (c : CtxB true P w K mg base T k X) : X.calm = true := c.calm' rfl
theorem CtxB.room {P : Program} {w : World} {K : PySem.W.Frag} {mg : Str → Option Value} {base : Heap} {T : Sta} {k : Nat} {X : Cx} (c : CtxB true P w K mg base T k X) : Room k X.A := c.room' rfl
theorem CtxB.units {q : Bool} {P : Program} {w : World} {K : PySem.W.Frag} {mg : Str → Option Value} {base : Heap} {T : Sta} {k : Nat} {X : Cx} (c : CtxB q P w K mg base T k X) : X.A.units + 64 < cLine := by have := c.un; omega
structure EV (X : Cx) (e : Expr) (σ : St) (H : Hp) (Q : VK) : Prop where
  run : ∀ (pins : List (Addr × Obj)) (s : Shared), Inv X pins σ H s → wpAny (model X.prog X.w) X.A (eval e X.env) (EP X pins σ Q) X.xe s
theorem pe_ev {X : Cx} {e : Expr} : PE X e (EV X e) := ⟨fun pins s σ H Q I h => h.run pins s I⟩
theorem ev_of {X : Cx} {e : Expr} {t : TE} {σ : St} {H : Hp} {Q : VK} (h : PE X e t) (q : t σ H Q) : EV X e σ H Q := ⟨fun pins s I => h.run pins s σ H Q I q⟩
structure TV (X : Cx) (e : Expr) (σ : St) (H : Hp) (Q : Bool → Hp → Prop) : Prop where
  run : ∀ (pins : List (Addr × Obj)) (s : Shared), Inv X pins σ H s → wpAny (model X.prog X.w) X.A (isTrue e X.env (eval e X.env)) (TP X pins σ Q) X.xe s
theorem pt_tv {X : Cx} {e : Expr} : PT X e (TV X e) := ⟨fun pins s σ H Q I h => h.run pins s I⟩
theorem tv_of {X : Cx} {e : Expr} {t : TT} {σ : St} {H : Hp} {Q : Bool → Hp → Prop} (h : PT X e t) (q : t σ H Q) : TV X e σ H Q := ⟨fun pins s I => h.run pins s σ H Q I q⟩
structure WV (X : Cx) (e : Expr) (σ : St) (H : Hp) (Q : Bool → Hp → Prop) : Prop where
  run : ∀ (whole : Sem Value) (pins : List (Addr × Obj)) (s : Shared), Inv X pins σ H s → wpAny (model X.prog X.w) X.A (isTrue e X.env whole) (TP X pins σ Q) X.xe s
theorem pw_wv {X : Cx} {e : Expr} : PW X e (WV X e) := ⟨fun whole pins s σ H Q I h => h.run whole pins s I⟩
theorem wv_of {X : Cx} {e : Expr} {t : TT} {σ : St} {H : Hp} {Q : Bool → Hp → Prop} (h : PW X e t) (q : t σ H Q) : WV X e σ H Q := ⟨fun whole pins s I => h.run whole pins s σ H Q I q⟩
structure AV (X : Cx) (es : List Expr) (σ : St) (H : Hp) (Q : List V → Hp → Prop) : Prop where
  run : ∀ (pos : Pos) (pins : List (Addr × Obj)) (s : Shared), Inv X pins σ H s → wpAny (model X.prog X.w) X.A (spliced (backTo pos (starEach es X.env))) (AP X pins σ Q) X.xe s
theorem pa_av {X : Cx} {es : List Expr} : PA X es (AV X es) := ⟨fun pos pins s σ H Q I h => h.run pos pins s I⟩
theorem av_of {X : Cx} {es : List Expr} {t : TA} {σ : St} {H : Hp} {Q : List V → Hp → Prop} (h : PA X es t) (q : t σ H Q) : AV X es σ H Q := ⟨fun pos pins s I => h.run pos pins s σ H Q I q⟩
/-! ### what evaluates to what data, the slots' contents ahead and behind -/
def ED (X : Cx) (ks : List SK) (e : Expr) (ks' : List SK) (d : PyData) : Prop :=
  ∀ W σ G H, Sts X.K W ks σ G H → ∀ Q : VK, (∀ v G2 H2, Sts X.K W ks' σ G2 H2 → Same G G2 → Dp X.K G2 v d → Q v H2) → EV X e σ H Q
/-- a new list of our own: it stands as one more slot -/
def EL (X : Cx) (ks : List SK) (e : Expr) (ks' : List SK) (ds : List PyData) : Prop :=
  ∀ W σ G H, Sts X.K W ks σ G H → ∀ Q : VK, (∀ a G2 H2, Sts X.K W (ks' ++ [.own ds]) (σ ++ [some (.ref a)]) G2 H2 → Same G G2 → Q (.ref a) H2) → EV X e σ H Q
def TD (X : Cx) (ks : List SK) (e : Expr) (ks' : List SK) (b : Bool) : Prop :=
  ∀ W σ G H, Sts X.K W ks σ G H → ∀ Q : Bool → Hp → Prop, (∀ G2 H2, Sts X.K W ks' σ G2 H2 → Same G G2 → Q b H2) → TV X e σ H Q
def WD (X : Cx) (ks : List SK) (e : Expr) (ks' : List SK) (b : Bool) : Prop :=
  ∀ W σ G H, Sts X.K W ks σ G H → ∀ Q : Bool → Hp → Prop, (∀ G2 H2, Sts X.K W ks' σ G2 H2 → Same G G2 → Q b H2) → WV X e σ H Q
def AD (X : Cx) (ks : List SK) (es : List Expr) (ks' : List SK) (ds : List PyData) : Prop :=
  ∀ W σ G H, Sts X.K W ks σ G H → ∀ Q : List V → Hp → Prop, (∀ vs G2 H2, Sts X.K W ks' σ G2 H2 → Same G G2 → DpAll X.K G2 vs ds → Q vs H2) → AV X es σ H Q
section
variable {P : Program} {w : World} {K : PySem.W.Frag} {mg : Str → Option Value} {base : Heap} {T : Sta} {k : Nat} {X : Cx} {ks k1 k2 k3 : List SK} {a b e : Expr} {es : List Expr} {d da db : PyData} {ds : List PyData} {pos : Pos}
/-! ### names and constants -/
theorem vis_of (c : CtxB cq P w K mg base T k X) {x : Str} (h : Vis T.sc x) : Vis X.env.scope x := by rw [c.hs]; exact h
theorem ix_of (c : CtxB cq P w K mg base T k X) {i : Nat} {x : Str} (h : T.N[i]? = some x) : X.N[i]? = some x := by rw [c.hN]; exact h
theorem ed_var (c : CtxB cq P w K mg base T k X) (i : Nat) {x : Str} (hN : T.N[i]? = some x) (hv : Vis T.sc x) (hk : ks[i]? = some (.dat d)) (hd : (x == ("__debug__" : Str)) = false) (hcd : (x == ("__classdict__" : Str)) = false) : ED X ks (.Name x pos) ks d := by
  intro W σ G H S Q q
  obtain ⟨v, e, r⟩ := S.dat hk
  exact ev_of (pe_var (ix_of c hN) (vis_of c hv) hd hcd) ⟨v, e, q v G H S (Same.refl G) r⟩
theorem ed_int {i : Int} {j : Nat} : ED X ks (.Constant (.int i) j pos) ks (.int i) := fun W σ G H S Q q => ev_of pe_int (q (.int i) G H S (Same.refl G) (.int i))
theorem ed_bl {b : Bool} {j : Nat} : ED X ks (.Constant (.bool b) j pos) ks (.bool b) := fun W σ G H S Q q => ev_of pe_bl (q (.bl b) G H S (Same.refl G) (.bl b))
theorem ed_str {x : Str} {j : Nat} : ED X ks (.Constant (.str x) j pos) ks (.str x) := fun W σ G H S Q q => ev_of pe_str (q (.str x) G H S (Same.refl G) (.str x))
theorem gl_of (c : CtxB cq P w K mg base T k X) {x : Str} (h : T.sc.names.lookup x = some .globalImplicit) : Gl X x := by
  show X.env.scope.names.lookup x = _
  rw [c.hs]; exact h
/-- a module's int -/
theorem ed_gint (c : CtxB cq P w K mg base T k X) {x : Str} {i : Int} (hg : T.sc.names.lookup x = some .globalImplicit) (hm : ∃ t, mg x = some (.int i t)) (hd : (x == ("__debug__" : Str)) = false) : ED X ks (.Name x pos) ks (.int i) := by
  intro W σ G H S Q q
  obtain ⟨t, hm⟩ := hm
  exact ev_of (pe_glob (v := .int i) (gl_of c hg) (by rw [c.hmg]; exact hm) ⟨t, rfl⟩ hd) (q (.int i) G H S (Same.refl G) (.int i))
/-! ### operators -/
/-- two data give data by an operation on values -/
def RD (K : PySem.W.Frag) (r : R2) (da db d : PyData) : Prop := ∀ G H x y, Same G H → Dp K G x da → Dp K G y db → ∀ Q : VK, (∀ v G2 H2, Lp G H G2 H2 → Dp K G2 v d → Q v H2) → r x y H Q
theorem RD.flat {r : R2} (h : ∀ G H x y, Same G H → Dp K G x da → Dp K G y db → ∃ v, (∀ G, Dp K G v d) ∧ ∀ Q : VK, Q v H → r x y H Q) : RD K r da db d := fun G H x y g ha hb Q q => by
  obtain ⟨v, r1, r2⟩ := h G H x y g ha hb
  exact r2 Q (q v G H (Lp.refl g) (r1 G))
theorem bin_go {r : R2} {W : Wd} {σ : St} {G H : Hp} {Q : VK} (ha : ED X ks a k1 da) (hb : ED X k1 b k2 db) (hr : RD X.K r da db d) (S : Sts X.K W ks σ G H) (q : ∀ v G2 H2, Sts X.K W k2 σ G2 H2 → Same G G2 → Dp X.K G2 v d → Q v H2) : tOp r (EV X a) (EV X b) σ H Q := by
  refine ha W σ G H S _ fun x G1 H1 S1 g1 r1 => ?_
  refine hb W σ G1 H1 S1 _ fun y G2 H2 S2 g2 r2 => ?_
  exact hr G2 H2 x y S2.gh (Dp.mono g2 r1) r2 Q fun v G3 H3 l r3 => q v G3 H3 (S2.pure l) ((g1.trans g2).trans l.g) r3
/-- what a + b (..) is of data -/
structure BinD (X : Cx) (op : Operator) (da db d : PyData) : Prop where
  out : ∃ r, OpR X (binaryOp op) r ∧ RD X.K r da db d
theorem ed_bin {op : Operator} (ha : ED X ks a k1 da) (hb : ED X k1 b k2 db) (h : BinD X op da db d) : ED X ks (.BinOp a op b pos) k2 d := by
  obtain ⟨r, ho, hr⟩ := h.out
  intro W σ G H S Q q
  exact ev_of (pe_op ho pe_ev pe_ev) (bin_go ha hb hr S q)
theorem rd_I0 {g : Int → Int → V} {i j : Int} (hd : ∀ G, Dp K G (g i j) d) : RD K (rI0 g) (.int i) (.int j) d := RD.flat fun G H x y _ ha hb => ⟨g i j, hd, fun Q q => ⟨i, j, ha.int_inv, hb.int_inv, q⟩⟩
theorem rd_I {C : Int → Int → Prop} {g : Int → Int → V} {i j : Int} (hc : C i j) (hd : ∀ G, Dp K G (g i j) d) : RD K (rI C g) (.int i) (.int j) d := RD.flat fun G H x y _ ha hb => ⟨g i j, hd, fun Q q => ⟨i, j, ha.int_inv, hb.int_inv, hc, q⟩⟩
theorem bd_add {i j : Int} : BinD X .Add (.int i) (.int j) (.int (i + j)) := ⟨_, op_add, rd_I0 fun _ => .int _⟩
theorem bd_sub {i j : Int} : BinD X .Sub (.int i) (.int j) (.int (i - j)) := ⟨_, op_sub, rd_I0 fun _ => .int _⟩
theorem bd_mul {i j : Int} (h : CMul i j) : BinD X .Mult (.int i) (.int j) (.int (i * j)) := ⟨_, op_mul, rd_I h fun _ => .int _⟩
theorem bd_mod {i j : Int} (h : 0 < j) : BinD X .Mod (.int i) (.int j) (.int (i % j)) := ⟨_, op_mod, rd_I h fun _ => .int _⟩
theorem bd_fdiv {i j : Int} (h : 0 < j ∧ j < 1073741824) : BinD X .FloorDiv (.int i) (.int j) (.int (i / j)) := ⟨_, op_fdiv, rd_I h fun _ => .int _⟩
theorem bd_pow {i j : Int} (h : CPow i j) : BinD X .Pow (.int i) (.int j) (.int (i ^ j.toNat)) := ⟨_, op_pow, rd_I h fun _ => .int _⟩
/-! ### comparisons -/
structure CmpD (X : Cx) (op : CmpOp) (da db : PyData) (c : Bool) : Prop where
  out : ∃ r, OpR X (compareOp op) r ∧ RD X.K r da db (.bool c)
theorem ed_cmp {op : CmpOp} {c : Bool} (ha : ED X ks a k1 da) (hb : ED X k1 b k2 db) (h : CmpD X op da db c) (hm : behindInMarks op b = false) : ED X ks (.Compare a [op] [b] pos) k2 (.bool c) := by
  obtain ⟨r, ho, hr⟩ := h.out
  intro W σ G H S Q q
  exact ev_of (pe_cmpR ho pe_ev pe_ev hm) (bin_go ha hb hr S q)
theorem td_cmp {op : CmpOp} {c : Bool} (ha : ED X ks a k1 da) (hb : ED X k1 b k2 db) (h : CmpD X op da db c) (hm : behindInMarks op b = false) : TD X ks (.Compare a [op] [b] pos) k2 c := by
  obtain ⟨r, ho, hr⟩ := h.out
  intro W σ G H S Q q
  refine tv_of (pt_cmpR ho pe_ev pe_ev hm) (bin_go (Q := fun x H' => ∃ k, x = .bl k ∧ Q k H') ha hb hr S fun v G2 H2 S2 g r2 => ⟨c, r2.bl_inv, q G2 H2 S2 g⟩)
theorem cd_lt {i j : Int} : CmpD X .Lt (.int i) (.int j) (decide (i < j)) := ⟨_, op_lt, rd_I0 fun _ => .bl _⟩
theorem cd_le {i j : Int} : CmpD X .LtE (.int i) (.int j) (decide (i ≤ j)) := ⟨_, op_le, rd_I0 fun _ => .bl _⟩
theorem cd_gt {i j : Int} : CmpD X .Gt (.int i) (.int j) (decide (j < i)) := ⟨_, op_gt, rd_I0 fun _ => .bl _⟩
theorem cd_ge {i j : Int} : CmpD X .GtE (.int i) (.int j) (decide (j ≤ i)) := ⟨_, op_ge, rd_I0 fun _ => .bl _⟩
theorem cd_eqI {i j : Int} : CmpD X .Eq (.int i) (.int j) (decide (i = j)) := ⟨_, op_eq, RD.flat fun G H x y _ ha hb => ⟨.bl (decide (i = j)), fun _ => .bl _, fun Q q => by
  rw [ha.int_inv, hb.int_inv]
  refine ⟨rfl, ?_⟩
  have e : decide (V.int i = V.int j) = decide (i = j) := by rw [dec_int, Bool.beq_eq_decide_eq]
  rw [e]; exact q⟩⟩
theorem cd_neI {i j : Int} : CmpD X .NotEq (.int i) (.int j) (!decide (i = j)) := ⟨_, op_ne, RD.flat fun G H x y _ ha hb => ⟨.bl (!decide (i = j)), fun _ => .bl _, fun Q q => by
  rw [ha.int_inv, hb.int_inv]
  refine ⟨rfl, ?_⟩
  have e : decide (V.int i = V.int j) = decide (i = j) := by rw [dec_int, Bool.beq_eq_decide_eq]
  rw [e]; exact q⟩⟩
/-- == of data of any shape -/
theorem cd_eqD (c : CtxB cq P w K mg base T k X) (sa : SeqAt.shaped da = true) (sb : SeqAt.shaped db = true) : CmpD X .Eq da db (PyData.eqv da db) :=
  ⟨_, op_eqD (c.units), fun G H x y g ha hb Q q => ⟨da, db, Dp.mono g ha, Dp.mono g hb, sa, sb, q _ G H (Lp.refl g) (.bl _)⟩⟩
theorem cd_neD (c : CtxB cq P w K mg base T k X) (sa : SeqAt.shaped da = true) (sb : SeqAt.shaped db = true) : CmpD X .NotEq da db (!PyData.eqv da db) :=
  ⟨_, op_neD (c.units), fun G H x y g ha hb Q q => ⟨da, db, Dp.mono g ha, Dp.mono g hb, sa, sb, q _ G H (Lp.refl g) (.bl _)⟩⟩
def isNoneD : PyData → Bool
  | .none => true
  | _ => false
theorem non_dec {G : Hp} {v : V} (h : Dp K G v d) : decide (v = .non) = isNoneD d := by cases h <;> first | rfl | exact decide_eq_false (fun z => nomatch z)
theorem cd_isN : CmpD X .Is d .none (isNoneD d) := ⟨_, op_isN, RD.flat fun G H x y _ ha hb => ⟨.bl (isNoneD d), fun _ => .bl _, fun Q q => ⟨hb.non_inv, by rw [non_dec ha]; exact q⟩⟩⟩
theorem cd_notN : CmpD X .IsNot d .none (!isNoneD d) := ⟨_, op_notN, RD.flat fun G H x y _ ha hb => ⟨.bl (!isNoneD d), fun _ => .bl _, fun Q q => ⟨hb.non_inv, by rw [non_dec ha]; exact q⟩⟩⟩
/-- a < b < c -/
theorem ed_chain {op op' : CmpOp} {x y : Bool} {e3 : Expr} {dc : PyData} (ha : ED X ks a ks da) (hb : ED X ks b ks db) (hc : x = true → ED X ks e3 ks dc) (h : CmpD X op da db x) (h' : CmpD X op' db dc y)
    (hm : lastMarks [op, op'] [b, e3] = false) : ED X ks (.Compare a [op, op'] [b, e3] pos) ks (.bool (x && y)) := by
  obtain ⟨r, ho, hr⟩ := h.out
  obtain ⟨r', ho', hr'⟩ := h'.out
  intro W σ G H S Q q
  cases x with
  | false =>
    refine ev_of (pe_chain ho ho' pe_ev pe_ev pe_ev hm) ?_
    refine ha W σ G H S _ fun x G1 H1 S1 g1 r1 => ?_
    refine hb W σ G1 H1 S1 _ fun y G2 H2 S2 g2 r2 => ?_
    refine hr G2 H2 x y S2.gh (Dp.mono g2 r1) r2 _ fun v G3 H3 l r3 => ⟨false, r3.bl_inv, ?_⟩
    show Q (.bl false) H3
    exact q _ G3 H3 (S2.pure l) ((g1.trans g2).trans l.g) (.bl _)
  | true =>
    refine ev_of (pe_chain ho ho' pe_ev pe_ev pe_ev hm) ?_
    refine ha W σ G H S _ fun x G1 H1 S1 g1 r1 => ?_
    refine hb W σ G1 H1 S1 _ fun y G2 H2 S2 g2 r2 => ?_
    refine hr G2 H2 x y S2.gh (Dp.mono g2 r1) r2 _ fun v G3 H3 l r3 => ⟨true, r3.bl_inv, ?_⟩
    show EV X e3 σ H3 _
    refine hc rfl W σ G3 H3 (S2.pure l) _ fun z G4 H4 S4 g4 r4 => ?_
    refine hr' G4 H4 y z S4.gh (Dp.mono (l.g.trans g4) r2) r4 _ fun v G5 H5 l5 r5 => ?_
    exact q v G5 H5 (S4.pure l5) ((((g1.trans g2).trans l.g).trans g4).trans l5.g) r5
theorem td_val {c : Bool} (h : ED X ks e k1 (.bool c)) (he : ∀ whole, isTrue e X.env whole = (do let v ← whole; standAt e.pos; holding [v] (truthy v))) : TD X ks e k1 c := by
  intro W σ G H S Q q
  refine tv_of (pt_val pe_ev he) (h W σ G H S _ fun v G2 H2 S2 g r => ⟨c, r.bl_inv, q G2 H2 S2 g⟩)
theorem td_chain {op op' : CmpOp} {x y : Bool} {e3 : Expr} {dc : PyData} (ha : ED X ks a ks da) (hb : ED X ks b ks db) (hc : x = true → ED X ks e3 ks dc) (h : CmpD X op da db x) (h' : CmpD X op' db dc y)
    (hm : lastMarks [op, op'] [b, e3] = false) : TD X ks (.Compare a [op, op'] [b, e3] pos) ks (x && y) := by
  obtain ⟨r, ho, hr⟩ := h.out
  obtain ⟨r', ho', hr'⟩ := h'.out
  intro W σ G H S Q q
  cases x with
  | false =>
    refine tv_of (pt_chain ho ho' pe_ev pe_ev pe_ev hm) ?_
    refine ha W σ G H S _ fun x G1 H1 S1 g1 r1 => ?_
    refine hb W σ G1 H1 S1 _ fun y G2 H2 S2 g2 r2 => ?_
    refine hr G2 H2 x y S2.gh (Dp.mono g2 r1) r2 _ fun v G3 H3 l r3 => ⟨false, r3.bl_inv, ?_⟩
    show ∃ k, V.bl false = .bl k ∧ Q k H3
    exact ⟨false, rfl, q G3 H3 (S2.pure l) ((g1.trans g2).trans l.g)⟩
  | true =>
    refine tv_of (pt_chain ho ho' pe_ev pe_ev pe_ev hm) ?_
    refine ha W σ G H S _ fun x G1 H1 S1 g1 r1 => ?_
    refine hb W σ G1 H1 S1 _ fun y G2 H2 S2 g2 r2 => ?_
    refine hr G2 H2 x y S2.gh (Dp.mono g2 r1) r2 _ fun v G3 H3 l r3 => ⟨true, r3.bl_inv, ?_⟩
    show EV X e3 σ H3 _
    refine hc rfl W σ G3 H3 (S2.pure l) _ fun z G4 H4 S4 g4 r4 => ?_
    refine hr' G4 H4 y z S4.gh (Dp.mono (l.g.trans g4) r2) r4 _ fun v G5 H5 l5 r5 => ?_
    exact ⟨_, r5.bl_inv, q G5 H5 (S4.pure l5) ((((g1.trans g2).trans l.g).trans g4).trans l5.g)⟩
/-! ### and, or, not, if -/
theorem td_not {c : Bool} (h : TD X ks a k1 c) : TD X ks (.UnaryOp .Not a pos) k1 (!c) := fun W σ G H S Q q => tv_of (pt_not pt_tv) (h W σ G H S _ fun G2 H2 S2 g => q G2 H2 S2 g)
theorem td_w {c : Bool} (h : WD X ks a k1 c) : TD X ks a k1 c := fun W σ G H S Q q => tv_of pw_wv.pt (h W σ G H S _ fun G2 H2 S2 g => q G2 H2 S2 g)
theorem wd_and1 {c : Bool} (h : TD X ks a k1 c) : WD X ks (.BoolOp .And [a] pos) k1 c := fun W σ G H S Q q => wv_of (pw_and1 pt_tv) (h W σ G H S _ fun G2 H2 S2 g => q G2 H2 S2 g)
theorem wd_or1 {c : Bool} (h : TD X ks a k1 c) : WD X ks (.BoolOp .Or [a] pos) k1 c := fun W σ G H S Q q => wv_of (pw_or1 pt_tv) (h W σ G H S _ fun G2 H2 S2 g => q G2 H2 S2 g)
theorem wd_and {x y : Bool} (ha : TD X ks a ks x) (hb : x = true → WD X ks (.BoolOp .And (b :: es) pos) ks y) : WD X ks (.BoolOp .And (a :: b :: es) pos) ks (x && y) := fun W σ G H S Q q => by
  refine wv_of (pw_and pt_tv pw_wv) (ha W σ G H S _ fun G2 H2 S2 g => ?_)
  cases x with
  | false => exact q G2 H2 S2 g
  | true => exact hb rfl W σ G2 H2 S2 Q fun G3 H3 S3 g3 => q G3 H3 S3 (g.trans g3)
theorem wd_or {x y : Bool} (ha : TD X ks a ks x) (hb : x = false → WD X ks (.BoolOp .Or (b :: es) pos) ks y) : WD X ks (.BoolOp .Or (a :: b :: es) pos) ks (x || y) := fun W σ G H S Q q => by
  refine wv_of (pw_or pt_tv pw_wv) (ha W σ G H S _ fun G2 H2 S2 g => ?_)
  cases x with
  | true => exact q G2 H2 S2 g
  | false => exact hb rfl W σ G2 H2 S2 Q fun G3 H3 S3 g3 => q G3 H3 S3 (g.trans g3)
theorem ed_and1 {op : BoolOp} (h : ED X ks a k1 d) : ED X ks (.BoolOp op [a] pos) k1 d := fun W σ G H S Q q => ev_of (pe_one pe_ev) (h W σ G H S Q q)
theorem ed_and {x y : Bool} (ha : ED X ks a ks (.bool x)) (hb : x = true → ED X ks (.BoolOp .And (b :: es) pos) ks (.bool y)) : ED X ks (.BoolOp .And (a :: b :: es) pos) ks (.bool (x && y)) := fun W σ G H S Q q => by
  refine ev_of (pe_and pe_ev pe_ev) (ha W σ G H S _ fun v G2 H2 S2 g r => ⟨x, r.bl_inv, ?_⟩)
  cases x with
  | false => exact q _ G2 H2 S2 g (.bl _)
  | true => exact hb rfl W σ G2 H2 S2 Q fun v G3 H3 S3 g3 => q v G3 H3 S3 (g.trans g3)
theorem ed_or {x y : Bool} (ha : ED X ks a ks (.bool x)) (hb : x = false → ED X ks (.BoolOp .Or (b :: es) pos) ks (.bool y)) : ED X ks (.BoolOp .Or (a :: b :: es) pos) ks (.bool (x || y)) := fun W σ G H S Q q => by
  refine ev_of (pe_or pe_ev pe_ev) (ha W σ G H S _ fun v G2 H2 S2 g r => ⟨x, r.bl_inv, ?_⟩)
  cases x with
  | true => exact q _ G2 H2 S2 g (.bl _)
  | false => exact hb rfl W σ G2 H2 S2 Q fun v G3 H3 S3 g3 => q v G3 H3 S3 (g.trans g3)
theorem ed_if {x : Bool} {t : Expr} (ht : TD X ks t k1 x) (ha : x = true → ED X k1 a k2 d) (hb : x = false → ED X k1 b k2 d) : ED X ks (.IfExp t a b pos) k2 d := fun W σ G H S Q q => by
  refine ev_of (pe_ifExp pt_tv pe_ev pe_ev) (ht W σ G H S _ fun G2 H2 S2 g => ?_)
  cases x with
  | true => exact ha rfl W σ G2 H2 S2 Q fun v G3 H3 S3 g3 => q v G3 H3 S3 (g.trans g3)
  | false => exact hb rfl W σ G2 H2 S2 Q fun v G3 H3 S3 g3 => q v G3 H3 S3 (g.trans g3)
/-! ### argument lists, displays -/
theorem ad_nil : AD X ks [] ks [] := fun W σ G H S Q q => av_of pa_nil (q [] G H S (Same.refl G) .nil)
theorem ad_cons (ha : ED X ks a k1 d) (hr : AD X k1 es k2 ds) (hs : starEach (a :: es) X.env = (false, eval a X.env) :: starEach es X.env) : AD X ks (a :: es) k2 (d :: ds) := fun W σ G H S Q q =>
  av_of (pa_cons pe_ev pa_av hs) (ha W σ G H S _ fun v G1 H1 S1 g1 r1 => hr W σ G1 H1 S1 _ fun vs G2 H2 S2 g2 r2 => q _ G2 H2 S2 (g1.trans g2) (.cons (Dp.mono g2 r1) r2))
theorem ed_tup {x1} (h : AD X ks es k1 ds) (hl : ds.length ≤ sizeLine) : ED X ks (.Tuple es x1 pos) k1 (.tuple ds) := fun W σ G H S Q q =>
  ev_of (pe_tup pa_av) (h W σ G H S _ fun vs G1 H1 S1 g1 r1 => ⟨by rw [r1.len]; exact hl, fun p np => by
    have l := Lp.new (o := .tup vs) S1.gh np
    exact q _ _ _ (S1.pure l) (g1.trans l.g) (.tup (SqT.of upd_same) (DpAll.mono l.g r1))⟩)
/-! ### subscripts -/
theorem ed_ixT {ds : List PyData} {i : Int} (ha : ED X ks a k1 (.tuple ds)) (hb : ED X k1 b k2 (.int i)) (hi : atI ds i = some d) (hs : PlainIx b) : ED X ks (.Subscript a b pos) k2 d := fun W σ G H S Q q => by
  refine ev_of (pe_ix ix_tup pe_ev pe_ev hs) (bin_go ha hb (d := d) (fun G H x y g ra rb Q q => ?_) S q)
  obtain ⟨p, vs, rfl, sp, ap⟩ := ra.tup_inv
  rw [rb.int_inv]
  obtain ⟨j, h1, h2, h3, h4, h5⟩ := atI_get hi
  obtain ⟨v, hv, rv⟩ := ap.get h2
  refine ⟨p, vs, i, v, rfl, rfl, Same.seqT g sp, ?_, q v G H (Lp.refl g) rv⟩
  unfold atI at hi ⊢
  rw [ap.len]
  cases e : ixN ds.length i with
  | none => rw [e] at hi; cases hi
  | some j' =>
    rw [e] at hi
    have hj := (ixN_seq e).1
    rw [hj] at h1
    cases h1
    exact hv
theorem ed_ixL {ds : List PyData} {i : Int} (ha : ED X ks a k1 (.list ds)) (hb : ED X k1 b k2 (.int i)) (hi : atI ds i = some d) (hs : PlainIx b) : ED X ks (.Subscript a b pos) k2 d := fun W σ G H S Q q => by
  refine ev_of (pe_ix ix_list pe_ev pe_ev hs) (bin_go ha hb (d := d) (fun G H x y g ra rb Q q => ?_) S q)
  obtain ⟨p, vs, rfl, sp, ap⟩ := ra.lst_inv
  rw [rb.int_inv]
  obtain ⟨j, h1, h2, h3, h4, h5⟩ := atI_get hi
  obtain ⟨v, hv, rv⟩ := ap.get h2
  refine ⟨p, vs, i, v, rfl, rfl, g.seq sp, ?_, q v G H (Lp.refl g) rv⟩
  unfold atI at hi ⊢
  rw [ap.len]
  cases e : ixN ds.length i with
  | none => rw [e] at hi; cases hi
  | some j' =>
    rw [e] at hi
    have hj := (ixN_seq e).1
    rw [hj] at h1
    cases h1
    exact hv
end
end Z
namespace Z
open PySem PySem.Spec L2
variable [Tabl]
section
variable {K : PySem.W.Frag} {W : Wd} {ks : List SK} {σ : St} {G H G2 H2 : Hp}
theorem Le.upd {W : Wd} {G H : Hp} {a : Addr} {o : HO} (l : Le W G H) (h : ∃ u, H a = some u) (n : ∀ u, H a = some u → Pl u) (g : G a = none) (m : W.H a = none ∨ W.M a) : Le W G (upd H a o) where
  g := l.g
  gh := fun b u e => by
    have : b ≠ a := fun z => by rw [z, g] at e; cases e
    rw [upd_ne this]; exact l.gh b u e
  keep := fun b u hm nt e => by
    have : b ≠ a := fun z => by
      subst z
      rcases m with m | m
      · rw [m] at e; cases e
      · exact hm m
    rw [upd_ne this]; exact l.keep b u hm nt e
  there := fun b u e => by
    by_cases q : b = a
    · subst q; exact ⟨_, upd_same⟩
    · rw [upd_ne q]; exact l.there b u e
  fz := l.fz
  m := l.m
  tb := l.tb.upd n
theorem Ow.live {ow : Nat → List Addr} (o : Ow W ks G ow) (f : ∀ i k, ks[i]? = some k → Sl K G H k ((σ[i]?).getD none) (ow i)) : ∀ i a, a ∈ ow i → ∃ u, H a = some u := fun i a ha => by
  by_cases hi : i < ks.length
  · exact (f i ks[i] (by simp [hi])).there a ha
  · rw [o.out i (by omega)] at ha; cases ha
theorem Ow.liveN {ow : Nat → List Addr} (o : Ow W ks G ow) (f : ∀ i k, ks[i]? = some k → Sl K G H k ((σ[i]?).getD none) (ow i)) : ∀ i a, a ∈ ow i → ∃ u, H a = some u ∧ ∀ ps, u ≠ .tbl ps := fun i a ha => by
  by_cases hi : i < ks.length
  · exact (f i ks[i] (by simp [hi])).thereN a ha
  · rw [o.out i (by omega)] at ha; cases ha
/-- slot i is set anew; what else is ours stays as it is -/
theorem Sts.put {i : Nat} {k : SK} {v : Option V} (S : Sts K W ks σ G H) (hi : i < ks.length) (l : Le W G2 H2) (gg : Same G G2)
    (gz : ∀ a u, G a = none → H a = some u → G2 a = none)
    (kp : ∀ ow, Ow W ks G ow → (∀ i k, ks[i]? = some k → Sl K G H k ((σ[i]?).getD none) (ow i)) → (∀ j a, j ≠ i → a ∈ ow j → ∀ u, H a = some u → H2 a = some u) ∧
      ∃ as, Sl K G2 H2 k v as ∧ (∀ a ∈ as, (∀ j, j ≠ i → a ∉ ow j) ∧ G2 a = none ∧ (W.H a = none ∨ (W.M a ∧ isRng k = true)))) :
    Sts K W (ks.set i k) (σ.set i v) G2 H2 := by
  obtain ⟨le, len, ow, o, f⟩ := S
  obtain ⟨kp, as, s1, s2⟩ := kp ow o f
  refine ⟨l, by simp [len], fun j => if j = i then as else ow j, ⟨fun j j' a h h' => ?_, fun j a h => ?_, fun j hj => ?_⟩, fun j kj hj => ?_⟩
  · by_cases q : j = i <;> by_cases q' : j' = i
    · rw [q, q']
    · simp only [q, if_true, q', if_false] at h h'
      exact ((s2 a h).1 j' q' h').elim
    · simp only [q, if_false, q', if_true] at h h'
      exact ((s2 a h').1 j q h).elim
    · simp only [q, q', if_false] at h h'
      exact o.dis j j' a h h'
  · by_cases q : j = i
    · simp only [q, if_true] at h
      obtain ⟨_, b, c⟩ := s2 a h
      refine ⟨b, ?_⟩
      rcases c with c | ⟨c, e⟩
      · exact .inl c
      · exact .inr ⟨c, k, by rw [q, List.getElem?_set_self hi], e⟩
    · simp only [q, if_false] at h
      obtain ⟨b, c⟩ := o.mine j a h
      obtain ⟨u, hu⟩ := o.live f j a h
      refine ⟨gz a u b hu, ?_⟩
      rcases c with c | ⟨c, r, e⟩
      · exact .inl c
      · exact .inr ⟨c, r, by rw [List.getElem?_set_ne (Ne.symm q)]; exact e.1, e.2⟩
  · have : j ≠ i := by simp at hj; omega
    simp only [this, if_false]
    exact o.out j (by simpa using hj)
  · by_cases q : j = i
    · subst q
      rw [List.getElem?_set_self hi] at hj
      cases hj
      simp only [if_true]
      rw [List.getElem?_set_self (by omega)]
      exact s1
    · rw [List.getElem?_set_ne (Ne.symm q)] at hj
      simp only [q, if_false]
      rw [List.getElem?_set_ne (Ne.symm q)]
      exact (f j kj hj).move gg fun a ha u hu => kp j a q ha u hu
theorem Sts.setDat {i : Nat} {v : V} {d : PyData} (S : Sts K W ks σ G H) (hi : i < ks.length) (r : Dp K G v d) : Sts K W (ks.set i (.dat d)) (σ.set i (some v)) G H :=
  S.put hi S.le (Same.refl G) (fun _ _ e _ => e) fun ow o f => ⟨fun _ _ _ _ u e => e, [], ⟨rfl, v, rfl, r⟩, fun _ h => by cases h⟩
/-- one more slot, a list that nobody else has -/
theorem Sts.pushL {p : Addr} {vs : List V} {ds : List PyData} (S : Sts K W ks σ G H) (l : Le (pur G H) G2 H2) (np : H p = none) (gp : G2 p = none) (hp : H2 p = some (.lst vs)) (r : DpAll K G2 vs ds) :
    Sts K W (ks ++ [.own ds]) (σ ++ [some (.ref p)]) G2 H2 := by
  have S2 := S.step l
  obtain ⟨_, _, ow0, o0, f0⟩ := S
  have wp : W.H p = none := by
    cases e : W.H p with
    | none => rfl
    | some u =>
      obtain ⟨u', e'⟩ := ‹Le W G H›.there p u e
      rw [np] at e'; cases e'
  obtain ⟨le, len, _⟩ := S2
  have live := o0.live f0
  refine ⟨le, by simp [len], fun j => if j = ks.length then [p] else ow0 j, ⟨fun j j' a h h' => ?_, fun j a h => ?_, fun j hj => ?_⟩, fun j kj hj => ?_⟩
  · have no : ∀ j, p ∉ ow0 j := fun j h => by
      obtain ⟨u, hu⟩ := live j p h
      rw [np] at hu; cases hu
    by_cases q : j = ks.length <;> by_cases q' : j' = ks.length
    · rw [q, q']
    · simp only [q, if_true, q', if_false] at h h'
      simp at h; subst h
      exact (no j' h').elim
    · simp only [q, if_false, q', if_true] at h h'
      simp at h'; subst h'
      exact (no j h).elim
    · simp only [q, q', if_false] at h h'
      exact o0.dis j j' a h h'
  · by_cases q : j = ks.length
    · simp only [q, if_true] at h
      simp at h; subst h
      exact ⟨gp, .inl wp⟩
    · simp only [q, if_false] at h
      obtain ⟨b, c⟩ := o0.mine j a h
      obtain ⟨u, hu⟩ := live j a h
      refine ⟨l.fz a u b hu, ?_⟩
      rcases c with c | ⟨c, r, e⟩
      · exact .inl c
      · refine .inr ⟨c, r, ?_, e.2⟩
        rw [List.getElem?_append_left (List.getElem?_eq_some_iff.mp e.1).1]; exact e.1
  · have : j ≠ ks.length := by simp at hj; omega
    simp only [this, if_false]
    exact o0.out j (by simp at hj; omega)
  · by_cases q : j = ks.length
    · subst q
      rw [List.getElem?_append_right (Nat.le_refl _)] at hj
      simp at hj
      subst hj
      simp only [if_true]
      rw [List.getElem?_append_right (by omega), len]
      simp only [Nat.sub_self]
      exact ⟨p, vs, rfl, rfl, hp, r⟩
    · have hj' : j < ks.length := by
        have := (List.getElem?_eq_some_iff.mp hj).1
        simp at this; omega
      rw [List.getElem?_append_left hj'] at hj
      simp only [q, if_false]
      rw [List.getElem?_append_left (by omega)]
      exact (f0 j kj hj).move l.g fun a ha u hu => by
        obtain ⟨u', hu', nt⟩ := (f0 j kj hj).thereN a ha
        rw [hu] at hu'
        cases hu'
        exact l.keep a u (fun z => z) nt hu
theorem Sts.push {p : Addr} {vs : List V} {ds : List PyData} (S : Sts K W ks σ G H) (l : Lp G H G2 H2) (np : H p = none) (gp : G2 p = none) (hp : H2 p = some (.lst vs)) (r : DpAll K G2 vs ds) :
    Sts K W (ks ++ [.own ds]) (σ ++ [some (.ref p)]) G2 H2 := S.pushL (l.le S.le.tb) np gp hp r
/-- the slot more taken away again, what it held told -/
theorem Sts.pop {a : Addr} {ds : List PyData} (S : Sts K W (ks ++ [.own ds]) (σ ++ [some (.ref a)]) G H) : Sts K W ks σ G H ∧ G a = none ∧ W.H a = none ∧ ∃ vs, H a = some (.lst vs) ∧ DpAll K G vs ds ∧
    ∃ ow, Ow W ks G ow ∧ (∀ i k, ks[i]? = some k → Sl K G H k ((σ[i]?).getD none) (ow i)) ∧ ∀ j, a ∉ ow j := by
  obtain ⟨le, len, ow, o, f⟩ := S
  have len' : σ.length = ks.length := by simpa using len
  have z := f ks.length (.own ds) (by simp)
  rw [List.getElem?_append_right (by omega), len', Nat.sub_self] at z
  obtain ⟨a', vs, e1, e2, e3, e4⟩ := z
  cases e1
  obtain ⟨m1, m2⟩ := o.mine ks.length a (by rw [e2]; simp)
  have m2 : W.H a = none := by
    rcases m2 with m2 | ⟨_, r, m2, m3⟩
    · exact m2
    · simp at m2
      subst m2
      cases m3
  have O : Ow W ks G (fun j => if j < ks.length then ow j else []) := by
    refine ⟨fun i j b h h' => ?_, fun i b h => ?_, fun i hi => by rw [if_neg (by omega)]⟩
    · by_cases q : i < ks.length <;> by_cases q' : j < ks.length <;> simp only [q, q', if_true, if_false] at h h' <;> first | exact o.dis i j b h h' | cases h | cases h'
    · by_cases q : i < ks.length
      · simp only [q, if_true] at h
        obtain ⟨b1, c⟩ := o.mine i b h
        refine ⟨b1, ?_⟩
        rcases c with c | ⟨c, r, e⟩
        · exact .inl c
        · refine .inr ⟨c, r, ?_, e.2⟩
          have e := e.1
          rw [List.getElem?_append_left q] at e; exact e
      · simp only [q, if_false] at h; cases h
  have Fs : ∀ i k, ks[i]? = some k → Sl K G H k ((σ[i]?).getD none) (if i < ks.length then ow i else []) := fun i k hk => by
    have hi := (List.getElem?_eq_some_iff.mp hk).1
    rw [if_pos hi]
    have q := f i k (by rw [List.getElem?_append_left hi]; exact hk)
    rw [List.getElem?_append_left (by omega)] at q
    exact q
  refine ⟨⟨le, len', _, O, Fs⟩, m1, m2, vs, e3, e4, _, O, Fs, fun j h => ?_⟩
  by_cases q : j < ks.length
  · simp only [q, if_true] at h
    have := o.dis j ks.length a h (by rw [e2]; simp)
    omega
  · simp only [q, if_false] at h; cases h
/-- what is ours becomes what stays -/
theorem Sts.freeze {a : Addr} {o : HO} {ow : Nat → List Addr} (le : Le W G H) (len : σ.length = ks.length) (ow1 : Ow W ks G ow) (f : ∀ i k, ks[i]? = some k → Sl K G H k ((σ[i]?).getD none) (ow i)) (no : ∀ j, a ∉ ow j)
    (ga : G a = none) (wa : W.H a = none) (ha : H a = some o) (pl : Pl o) : Sts K W ks σ (upd G a o) H ∧ Same G (upd G a o) := by
  have gg : Same G (upd G a o) := fun b u e => by
    have : b ≠ a := fun z => by rw [z, ga] at e; cases e
    rw [upd_ne this]; exact e
  refine ⟨⟨⟨le.g.trans gg, fun b u e => ?_, le.keep, le.there, fun b u e1 e2 => ?_, le.m, le.tb.updG ha pl⟩, len, ow, ⟨ow1.dis, fun i b hb => ?_, ow1.out⟩, fun i k hk => (f i k hk).move gg fun _ _ _ e => e⟩, gg⟩
  · by_cases q : b = a
    · subst q; rw [upd_same] at e; cases e; exact ha
    · rw [upd_ne q] at e; exact le.gh b u e
  · have : b ≠ a := fun z => by rw [z, wa] at e2; cases e2
    rw [upd_ne this]; exact le.fz b u e1 e2
  · have : b ≠ a := fun z => no i (z ▸ hb)
    rw [upd_ne this]; exact ow1.mine i b hb
theorem Sts.popFreeze {a : Addr} {ds : List PyData} (S : Sts K W (ks ++ [.own ds]) (σ ++ [some (.ref a)]) G H) : ∃ G2, Sts K W ks σ G2 H ∧ Same G G2 ∧ Dp K G2 (.ref a) (.list ds) := by
  obtain ⟨S1, g, w, vs, ha, r, ow, o, f, no⟩ := S.pop
  obtain ⟨S2, gg⟩ := Sts.freeze S1.le S1.len o f no g w ha pl_lst
  exact ⟨_, S2, gg, .lst (SqL.of upd_same) (DpAll.mono gg r)⟩
/-- the slot more goes to slot i -/
theorem Sts.popTo {i : Nat} {a : Addr} {ds : List PyData} (S : Sts K W (ks ++ [.own ds]) (σ ++ [some (.ref a)]) G H) (hi : i < ks.length) : Sts K W (ks.set i (.own ds)) (σ.set i (some (.ref a))) G H := by
  obtain ⟨S1, g, w, vs, ha, r, ow, o, f, no⟩ := S.pop
  refine ⟨S1.le, by simp [S1.len], fun j => if j = i then [a] else ow j, ⟨fun j j' b h h' => ?_, fun j b h => ?_, fun j hj => ?_⟩, fun j kj hj => ?_⟩
  · by_cases q : j = i <;> by_cases q' : j' = i
    · rw [q, q']
    · simp only [q, if_true, q', if_false] at h h'
      simp at h; subst h; exact (no j' h').elim
    · simp only [q, if_false, q', if_true] at h h'
      simp at h'; subst h'; exact (no j h).elim
    · simp only [q, q', if_false] at h h'
      exact o.dis j j' b h h'
  · by_cases q : j = i
    · simp only [q, if_true] at h
      simp at h; subst h
      exact ⟨g, .inl w⟩
    · simp only [q, if_false] at h
      obtain ⟨b1, c⟩ := o.mine j b h
      refine ⟨b1, ?_⟩
      rcases c with c | ⟨c, r, e⟩
      · exact .inl c
      · exact .inr ⟨c, r, by rw [List.getElem?_set_ne (Ne.symm q)]; exact e.1, e.2⟩
  · have : j ≠ i := by simp at hj; omega
    simp only [this, if_false]
    exact o.out j (by simpa using hj)
  · by_cases q : j = i
    · subst q
      rw [List.getElem?_set_self hi] at hj
      cases hj
      simp only [if_true]
      rw [List.getElem?_set_self (by rw [S1.len]; exact hi)]
      exact ⟨a, vs, rfl, rfl, ha, r⟩
    · rw [List.getElem?_set_ne (Ne.symm q)] at hj
      simp only [q, if_false]
      rw [List.getElem?_set_ne (Ne.symm q)]
      exact f j kj hj
/-- a slot of our own list -/
theorem Sts.ownAt {i : Nat} {ds : List PyData} (S : Sts K W ks σ G H) (h : ks[i]? = some (.own ds)) : ∃ a vs, σ[i]? = some (some (.ref a)) ∧ H a = some (.lst vs) ∧ DpAll K G vs ds ∧ G a = none ∧ W.H a = none ∧
    ∃ ow, Ow W ks G ow ∧ (∀ i k, ks[i]? = some k → Sl K G H k ((σ[i]?).getD none) (ow i)) ∧ ow i = [a] ∧ ∀ j, j ≠ i → a ∉ ow j := by
  obtain ⟨le, len, ow, o, f⟩ := S
  obtain ⟨a, vs, e1, e2, e3, e4⟩ := f i _ h
  have hi : i < σ.length := by rw [len]; exact (List.getElem?_eq_some_iff.mp h).1
  obtain ⟨m1, m2⟩ := o.mine i a (by rw [e2]; simp)
  have m2 : W.H a = none := by
    rcases m2 with m2 | ⟨_, r, m2, m3⟩
    · exact m2
    · rw [h] at m2; cases m2; cases m3
  refine ⟨a, vs, ?_, e3, e4, m1, m2, ow, o, f, e2, fun j hj ha => hj (o.dis j i a ha (by rw [e2]; simp))⟩
  rw [List.getElem?_eq_getElem hi] at e1 ⊢
  simpa using e1
/-- slot i's own list is changed -/
theorem Sts.mutOwn {i : Nat} {a : Addr} {vs us : List V} {ds es : List PyData} (S : Sts K W ks σ G H) (h : ks[i]? = some (.own ds)) (ha : σ[i]? = some (some (.ref a))) (r : DpAll K G us es) : Sts K W (ks.set i (.own es)) σ G (upd H a (.lst us)) := by
  obtain ⟨a', vs', e1, e2, e3, e4, e5, ow, o, f, e6, e7⟩ := S.ownAt h
  rw [ha] at e1
  cases e1
  have hi := (List.getElem?_eq_some_iff.mp h).1
  have hσ : σ.set i (some (.ref a)) = σ := by
    apply List.ext_getElem?
    intro j
    by_cases q : j = i
    · subst q; rw [List.getElem?_set_self (by rw [S.len]; exact hi), ha]
    · rw [List.getElem?_set_ne (Ne.symm q)]
  rw [← hσ]
  refine S.put hi (S.le.upd ⟨_, e2⟩ (fun u e => by rw [e2] at e; cases e; exact pl_lst) e4 (.inl e5)) (Same.refl G) (fun _ _ e _ => e) fun ow' o' f' => ⟨fun j b hj hb u hu => ?_, [a], ⟨a, us, rfl, rfl, upd_same, r⟩, fun b hb => ?_⟩
  · obtain ⟨a2, vs2, q1, q2, q3, q4⟩ := f' i _ h
    rw [ha] at q1
    cases q1
    have : b ≠ a := fun z => hj (o'.dis j i b hb (by rw [q2, z]; simp))
    rw [upd_ne this]; exact hu
  · simp at hb; subst hb
    refine ⟨fun j hj hb => ?_, e4, .inl e5⟩
    obtain ⟨a2, vs2, q1, q2, q3, q4⟩ := f' i _ h
    rw [ha] at q1
    cases q1
    exact hj (o'.dis j i b hb (by rw [q2]; simp))
/-- weaker -/
def Wk : List SK → List SK → Prop
  | [], [] => True
  | a :: as, b :: bs => (b = .no ∨ a = b) ∧ Wk as bs
  | _, _ => False
theorem Wk.len : ∀ {ks ls : List SK}, Wk ks ls → ks.length = ls.length
  | [], [], _ => rfl
  | _ :: _, _ :: _, h => congrArg (· + 1) (Wk.len h.2)
theorem Wk.at : ∀ {ks ls : List SK} {i : Nat} {k : SK}, Wk ks ls → ls[i]? = some k → k = .no ∨ ks[i]? = some k
  | [], [], _, _, _, e => by simp at e
  | a :: as, b :: bs, 0, k, h, e => by
    simp at e; subst e
    rcases h.1 with q | q
    · exact .inl q
    · exact .inr (by simp [q])
  | a :: as, b :: bs, i + 1, k, h, e => by
    have := Wk.at (i := i) h.2 (by simpa using e)
    simpa using this
theorem Wk.rfl' : ∀ {ks : List SK}, Wk ks ks
  | [] => trivial
  | _ :: _ => ⟨.inr rfl, Wk.rfl'⟩
theorem Sts.weak {ls : List SK} (S : Sts K W ks σ G H) (h : Wk ks ls) : Sts K W ls σ G H := by
  obtain ⟨le, len, ow, o, f⟩ := S
  have hl := h.len
  classical
  refine ⟨le, by omega, fun j => if ls[j]? = some .no ∨ ls.length ≤ j then [] else ow j, ⟨fun i j a ha hb => ?_, fun i a ha => ?_, fun i hi => ?_⟩, fun i k hk => ?_⟩
  · by_cases q : ls[i]? = some .no ∨ ls.length ≤ i
    · simp only [q, if_true] at ha; cases ha
    · by_cases q' : ls[j]? = some .no ∨ ls.length ≤ j
      · simp only [q', if_true] at hb; cases hb
      · simp only [q, q', if_false] at ha hb
        exact o.dis i j a ha hb
  · by_cases q : ls[i]? = some .no ∨ ls.length ≤ i
    · simp only [q, if_true] at ha; cases ha
    · simp only [q, if_false] at ha
      obtain ⟨b, c⟩ := o.mine i a ha
      refine ⟨b, ?_⟩
      rcases c with c | ⟨c, r, e⟩
      · exact .inl c
      · refine .inr ⟨c, r, ?_, e.2⟩
        have e := e.1
        have hi : i < ls.length := by omega
        have e' : ls[i]? = some ls[i] := by simp [hi]
        rcases h.at e' with z | z
        · exact (q (.inl (by rw [e', z]))).elim
        · rw [e', ← z, e]
  · simp only [hi, or_true, if_true]
  · rcases h.at hk with z | z
    · subst z
      simp only [hk, true_or, if_true]
      exact (show ([] : List Addr) = [] from rfl)
    · by_cases q : k = .no
      · subst q
        simp only [hk, true_or, if_true]
        exact (show ([] : List Addr) = [] from rfl)
      · have : ¬ (ls[i]? = some .no ∨ ls.length ≤ i) := by
          have hi := (List.getElem?_eq_some_iff.mp hk).1
          rintro (e | e)
          · rw [hk] at e; exact q (Option.some.inj e)
          · omega
        simp only [this, if_false]
        exact f i k z
end
end Z
namespace Z
open PySem PySem.Spec L2
variable [Tabl]
section
variable {P : Program} {w : World} {K : PySem.W.Frag} {mg : Str → Option Value} {base : Heap} {T : Sta} {k : Nat} {X : Cx} {ks k1 k2 k3 : List SK} {a b e : Expr} {es : List Expr} {d da db : PyData} {ds : List PyData} {pos : Pos}
/-! ### new lists -/
theorem el_lst (h : AD X ks es k1 ds) (hl : ds.length ≤ sizeLine) : EL X ks (.List es pos) k1 ds := fun W σ G H S Q q =>
  ev_of (pe_lst pa_av) (h W σ G H S _ fun vs G1 H1 S1 g1 r1 => ⟨by rw [r1.len]; exact hl, fun p np => by
    have gp : G1 p = none := by
      cases e : G1 p with
      | none => rfl
      | some u => rw [S1.gh p u e] at np; cases np
    have l := Lp.newOwn (o := .lst vs) S1.gh np
    exact q p G1 _ (S1.push l np gp upd_same r1) g1⟩)
theorem ed_el (h : EL X ks e k1 ds) : ED X ks e k1 (.list ds) := fun W σ G H S Q q => h W σ G H S Q fun a G2 H2 S2 g => by
  obtain ⟨G3, S3, g3, r⟩ := S2.popFreeze
  exact q _ G3 H2 S3 (g.trans g3) r
/-! ### built-ins by their name -/
structure CallD (X : Cx) (f : Value) (ds : List PyData) (d : PyData) : Prop where
  out : ∃ r, CallR X f r ∧ ∀ G H vs, Same G H → DpAll X.K G vs ds → ∀ Q : VK, (∀ v G2 H2, Lp G H G2 H2 → Dp X.K G2 v d → Q v H2) → r vs H Q
structure CallL (X : Cx) (f : Value) (ds : List PyData) (es : List PyData) : Prop where
  out : ∃ r, CallR X f r ∧ ∀ G H vs, Same G H → DpAll X.K G vs ds → ∀ Q : VK, (∀ p us G2 H2, Lp G H G2 H2 → H p = none → G2 p = none → H2 p = some (.lst us) → DpAll X.K G2 us es → Q (.ref p) H2) → r vs H Q
section
variable {x : Str} {p : Pos} {id : String}
theorem ed_callB (c : CtxB cq P w K mg base T k X) (hg : T.sc.names.lookup x = some .globalImplicit) (hm : mg x = none) (hv : bootBuiltins x = some (.builtin id)) (ha : AD X ks (e :: es) k1 ds) (h : CallD X (.builtin id) ds d) (hn : x ≠ "__name__") (hdb : (x == ("__debug__" : Str)) = false)
    (he : starEach (e :: es) X.env = (false, eval e X.env) :: starEach es X.env) (hpl : (backTo pos (starEach es X.env)).any (·.1) = false) : ED X ks (.Call (.Name x p) (e :: es) [] pos) k1 d := by
  obtain ⟨r, hc, hr⟩ := h.out
  intro W σ G H S Q q
  exact ev_of (pe_callB hc (gl_of c hg) (by rw [c.hmg]; exact hm) hv pa_av hn hdb he hpl) (ha W σ G H S _ fun vs G1 H1 S1 g1 r1 => hr G1 H1 vs S1.gh r1 Q fun v G2 H2 l r2 => q v G2 H2 (S1.pure l) (g1.trans l.g) r2)
theorem ed_callT (c : CtxB cq P w K mg base T k X) (hg : T.sc.names.lookup x = some .globalImplicit) (hm : mg x = none) (hv : bootBuiltins x = some (.type id)) (ha : AD X ks (e :: es) k1 ds) (h : CallD X (.type id) ds d) (hn : x ≠ "__name__") (hdb : (x == ("__debug__" : Str)) = false)
    (he : starEach (e :: es) X.env = (false, eval e X.env) :: starEach es X.env) (hpl : (backTo pos (starEach es X.env)).any (·.1) = false) : ED X ks (.Call (.Name x p) (e :: es) [] pos) k1 d := by
  obtain ⟨r, hc, hr⟩ := h.out
  intro W σ G H S Q q
  exact ev_of (pe_callTy hc (gl_of c hg) (by rw [c.hmg]; exact hm) hv pa_av hn hdb he hpl) (ha W σ G H S _ fun vs G1 H1 S1 g1 r1 => hr G1 H1 vs S1.gh r1 Q fun v G2 H2 l r2 => q v G2 H2 (S1.pure l) (g1.trans l.g) r2)
theorem DpAll.one {G : Hp} {vs : List V} (h : DpAll K G vs [d]) : ∃ v, vs = [v] ∧ Dp K G v d := by
  cases h with | cons a b => cases b; exact ⟨_, rfl, a⟩
theorem DpAll.two {G : Hp} {vs : List V} (h : DpAll K G vs [da, db]) : ∃ v u, vs = [v, u] ∧ Dp K G v da ∧ Dp K G u db := by
  cases h with | cons a b => cases b with | cons b c => cases c; exact ⟨_, _, rfl, a, b⟩
theorem cl_lenL {xs : List PyData} : CallD X (.builtin "len") [.list xs] (.int xs.length) := ⟨_, call_len_seq, fun G H vs g r Q q => by
  obtain ⟨v, rfl, r1⟩ := DpAll.one r
  obtain ⟨p, us, rfl, sp, ap⟩ := r1.lst_inv
  exact ⟨p, us, rfl, .inl (g.seq sp), by rw [ap.len]; exact q _ G H (Lp.refl g) (.int _)⟩⟩
theorem cl_lenT {xs : List PyData} : CallD X (.builtin "len") [.tuple xs] (.int xs.length) := ⟨_, call_len_seq, fun G H vs g r Q q => by
  obtain ⟨v, rfl, r1⟩ := DpAll.one r
  obtain ⟨p, us, rfl, sp, ap⟩ := r1.tup_inv
  exact ⟨p, us, rfl, .inr (Same.seqT g sp), by rw [ap.len]; exact q _ G H (Lp.refl g) (.int _)⟩⟩
theorem cl_max2 (hc : X.calm = true) {i j : Int} : CallD X (.builtin "max") [.int i, .int j] (.int (max i j)) := ⟨_, call_max2 hc, fun G H vs g r Q q => by
  obtain ⟨v, u, rfl, r1, r2⟩ := DpAll.two r
  rw [r1.int_inv, r2.int_inv]
  have e : (if j > i then j else i) = max i j := by
    split <;> omega
  exact ⟨i, j, rfl, by rw [e]; exact q _ G H (Lp.refl g) (.int _)⟩⟩
theorem cl_min2 (hc : X.calm = true) {i j : Int} : CallD X (.builtin "min") [.int i, .int j] (.int (min i j)) := ⟨_, call_min2 hc, fun G H vs g r Q q => by
  obtain ⟨v, u, rfl, r1, r2⟩ := DpAll.two r
  rw [r1.int_inv, r2.int_inv]
  have e : (if j < i then j else i) = min i j := by
    split <;> omega
  exact ⟨i, j, rfl, by rw [e]; exact q _ G H (Lp.refl g) (.int _)⟩⟩
theorem cl_intB {x : Bool} : CallD X (.type "int") [.bool x] (.int (if x then 1 else 0)) := ⟨_, call_int1, fun G H vs g r Q q => by
  obtain ⟨v, rfl, r1⟩ := DpAll.one r
  rw [r1.bl_inv]
  exact .inr ⟨x, rfl, q _ G H (Lp.refl g) (.int _)⟩⟩
theorem cl_tupL {xs : List PyData} : CallD X (.type "tuple") [.list xs] (.tuple xs) := ⟨_, call_tuple_of, fun G H vs g r Q q => by
  obtain ⟨v, rfl, r1⟩ := DpAll.one r
  obtain ⟨p, us, rfl, sp, ap⟩ := r1.lst_inv
  refine ⟨p, us, rfl, .inl ⟨g.seq sp, fun l nl => ?_⟩⟩
  have le := Lp.new (o := .tup us) g nl
  exact q _ _ _ le (.tup (SqT.of upd_same) (DpAll.mono le.g ap))⟩
theorem cl_lstL {xs : List PyData} : CallL X (.type "list") [.list xs] xs := ⟨_, call_list_of, fun G H vs g r Q q => by
  obtain ⟨v, rfl, r1⟩ := DpAll.one r
  obtain ⟨p, us, rfl, sp, ap⟩ := r1.lst_inv
  refine ⟨p, us, rfl, .inl (g.seq sp), fun l nl => ?_⟩
  have gl : G l = none := by
    cases e : G l with
    | none => rfl
    | some u => rw [g l u e] at nl; cases nl
  exact q l us G _ (Lp.newOwn g nl) nl gl upd_same ap⟩
theorem cl_lstT {xs : List PyData} : CallL X (.type "list") [.tuple xs] xs := ⟨_, call_list_of, fun G H vs g r Q q => by
  obtain ⟨v, rfl, r1⟩ := DpAll.one r
  obtain ⟨p, us, rfl, sp, ap⟩ := r1.tup_inv
  refine ⟨p, us, rfl, .inr (Same.seqT g sp), fun l nl => ?_⟩
  have gl : G l = none := by
    cases e : G l with
    | none => rfl
    | some u => rw [g l u e] at nl; cases nl
  exact q l us G _ (Lp.newOwn g nl) nl gl upd_same ap⟩
end
/-! ### a list of our own that is read where it stands -/
/-! ### calls of defs -/
/-- what a def promises of data: no change of what stood -/
def spP (K : PySem.W.Frag) (R : List PyData → PyData → Prop) : Sp := fun vs H Q _ => ∃ G ds d, Same G H ∧ TbO G H ∧ DpAll K G vs ds ∧ R ds d ∧ ∀ v G2 H2, Le (pur G H) G2 H2 → Dp K G2 v d → Q v H2
def RngAt (H : Hp) (a b : Addr) (r : Rg) : Prop := H a = some (.lst [.int r.s, .ref b, .int r.k]) ∧ H b = some (.lst (r.c.map V.int)) ∧ a ≠ b
/-- .. that draws -/
def spR (K : PySem.W.Frag) (R : Rg → List PyData → Rg → PyData → Prop) : Sp := fun vs H Q _ => ∃ G a b us r ds r2 d, vs = .ref a :: us ∧ Same G H ∧ TbO G H ∧ RngAt H a b r ∧ G a = none ∧ G b = none ∧ DpAll K G us ds ∧ R r ds r2 d ∧
  ∀ v G2 H2, Le ⟨G, H, fun x => x = a ∨ x = b⟩ G2 H2 → RngAt H2 a b r2 → Dp K G2 v d → Q v H2
/-- a def of the module that keeps a promise -/
structure FnG (P : Program) (w : World) (K : PySem.W.Frag) (mg : Str → Option Value) (base : Heap) (x : Str) (ps : List Str) (j : Nat) (sp : Sp) : Prop where
  ex : ∃ f fd, FnOk P w K mg base CX0 j f fd ps sp ∧ mg x = some (.ref f) ∧ PySem.W.keepIn K (.ref f) = true ∧ Binds K fd ps []
theorem FnG.mono {x : Str} {ps : List Str} {j j' : Nat} {sp : Sp} (F : FnG P w K mg base x ps j sp) (h : j ≤ j') : FnG P w K mg base x ps j' sp := by
  obtain ⟨f, fd, a, b⟩ := F.ex
  exact ⟨f, fd, a.mono h, b⟩
section
variable {x : Str} {p : Pos} {ps : List Str} {j : Nat}
theorem fn_run (c : Ctx P w K mg base T k X) {sp : Sp} (F : FnG P w K mg base x ps j sp) (hj : j ≤ k) (hg : T.sc.names.lookup x = some .globalImplicit) (hdb : (x == ("__debug__" : Str)) = false)
    (he : starEach (e :: es) X.env = (false, eval e X.env) :: starEach es X.env) (hpl : (backTo pos (starEach es X.env)).any (·.1) = false) {t : TA} (ha : PA X (e :: es) t) : PE X (.Call (.Name x p) (e :: es) [] pos) (tCall sp [] E0 t) := by
  obtain ⟨f, fd, F, hm, hk, hb⟩ := F.ex
  have h1 := c.hP
  have h2 := c.hw
  have h3 := c.hK
  have h4 := c.hmg
  have h5 := c.hbase
  subst h1 h2 h3 h4 h5
  exact pe_call F (c.room.mono hj) (gl_of c hg) hm hk hb .nil pass0 ha hdb he hpl
theorem ed_call (c : Ctx P w K mg base T k X) {R : List PyData → PyData → Prop} (F : FnG P w K mg base x ps j (spP K R)) (hj : j ≤ k) (hg : T.sc.names.lookup x = some .globalImplicit) (ha : AD X ks (e :: es) k1 ds) (hR : R ds d) (hdb : (x == ("__debug__" : Str)) = false)
    (he : starEach (e :: es) X.env = (false, eval e X.env) :: starEach es X.env) (hpl : (backTo pos (starEach es X.env)).any (·.1) = false) : ED X ks (.Call (.Name x p) (e :: es) [] pos) k1 d := fun W σ G H S Q q => by
  have hK := c.hK
  refine ev_of (fn_run c F hj hg hdb he hpl pa_av) (ha W σ G H S _ fun vs G1 H1 S1 g1 r1 => ?_)
  show spP K R (vs ++ []) H1 Q E0
  rw [List.append_nil]
  rw [hK] at r1
  exact ⟨G1, ds, d, S1.gh, S1.le.tb, r1, hR, fun v G2 H2 l r2 => q v G2 H2 (S1.step l) (g1.trans l.g) (by rw [hK]; exact r2)⟩
theorem Sts.rngAt {W : Wd} {σ : St} {G H : Hp} {i : Nat} {a b : Addr} {r : Rg} (S : Sts K W ks σ G H) (h : ks[i]? = some (.rng a b r)) : σ[i]? = some (some (.ref a)) ∧ RngAt H a b r ∧ G a = none ∧ G b = none ∧ (W.H a = none ∨ W.M a) ∧ (W.H b = none ∨ W.M b) ∧
    ∃ ow, Ow W ks G ow ∧ (∀ i k, ks[i]? = some k → Sl K G H k ((σ[i]?).getD none) (ow i)) ∧ ow i = [a, b] := by
  obtain ⟨le, len, ow, o, f⟩ := S
  obtain ⟨e1, e2, e3, e4, e5⟩ := f i _ h
  have hi : i < σ.length := by rw [len]; exact (List.getElem?_eq_some_iff.mp h).1
  have m1 := o.mine i a (by rw [e2]; simp)
  have m2 := o.mine i b (by rw [e2]; simp)
  refine ⟨?_, ⟨e3, e4, e5⟩, m1.1, m2.1, m1.2.imp id (·.1), m2.2.imp id (·.1), ow, o, f, e2⟩
  rw [List.getElem?_eq_getElem hi] at e1 ⊢
  simpa using e1
/-- behind a call that draws -/
theorem Sts.rngStep {W : Wd} {σ : St} {G H G2 H2 : Hp} {i : Nat} {r r2 : Rg} {a b : Addr} (S : Sts K W ks σ G H) (h : ks[i]? = some (.rng a b r)) (l : Le ⟨G, H, fun x => x = a ∨ x = b⟩ G2 H2) (hr2 : RngAt H2 a b r2) :
    Sts K W (ks.set i (.rng a b r2)) σ G2 H2 := by
  obtain ⟨ha, hr, e3, e4, e5, e6, ow, o, f, e7⟩ := S.rngAt h
  have hi := (List.getElem?_eq_some_iff.mp h).1
  have hσ : σ.set i (some (.ref a)) = σ := by
    apply List.ext_getElem?
    intro j
    by_cases q : j = i
    · subst q; rw [List.getElem?_set_self (by rw [S.len]; exact hi), ha]
    · rw [List.getElem?_set_ne (Ne.symm q)]
  have nab : ∀ x u, ¬ W.M x → W.H x = some u → ¬ (x = a ∨ x = b) := fun x u hm hx => by
    rintro (z | z) <;> subst z
    · rcases e5 with e5 | e5
      · rw [hx] at e5; cases e5
      · exact hm e5
    · rcases e6 with e6 | e6
      · rw [hx] at e6; cases e6
      · exact hm e6
  have le : Le W G2 H2 := ⟨S.le.g.trans l.g, l.gh, fun x u hm nt hx => l.keep x u (nab x u hm hx) nt (S.le.keep x u hm nt hx), fun x u hx => by
    obtain ⟨u', hu⟩ := S.le.there x u hx
    exact l.there x u' hu, fun x u h1 h2 => by
    obtain ⟨u', hu⟩ := S.le.there x u h2
    exact l.fz x u' (S.le.fz x u h1 h2) hu, S.le.m, l.tb⟩
  rw [← hσ]
  refine S.put hi le l.g (fun x u h1 h2 => l.fz x u h1 h2) fun ow' o' f' => ?_
  obtain ⟨q1, q2, q3, q4, q5⟩ := f' i _ h
  refine ⟨fun j x hj hx u hu => by
    obtain ⟨u', hu', nt⟩ := o'.liveN f' j x hx
    rw [hu] at hu'
    cases hu'
    refine l.keep x u ?_ nt hu
    rintro (z | z) <;> subst z
    · exact hj (o'.dis j i _ hx (by rw [q2]; simp))
    · exact hj (o'.dis j i _ hx (by rw [q2]; simp)), [a, b], ⟨rfl, rfl, hr2.1, hr2.2.1, hr2.2.2⟩, fun x hx => ⟨fun j hj hx' => ?_, ?_, ?_⟩⟩
  · exact hj (o'.dis j i x hx' (by rw [q2]; exact hx))
  · have : x = a ∨ x = b := by simpa using hx
    rcases this with z | z
    · rw [z]; exact l.fz a _ e3 hr.1
    · rw [z]; exact l.fz b _ e4 hr.2.1
  · have : x = a ∨ x = b := by simpa using hx
    rcases this with z | z
    · subst z; exact e5.imp id fun z => ⟨z, rfl⟩
    · subst z; exact e6.imp id fun z => ⟨z, rfl⟩
theorem ed_callR (c : Ctx P w K mg base T k X) {R : Rg → List PyData → Rg → PyData → Prop} (F : FnG P w K mg base x ps j (spR K R)) (hj : j ≤ k) (hg : T.sc.names.lookup x = some .globalImplicit) (i : Nat) {y : Str} {py : Pos} {r0 r r2 : Rg} {a' b' a0 b0 : Addr} (hN : T.N[i]? = some y) (hv : Vis T.sc y)
    (hk0 : ks[i]? = some (.rng a0 b0 r0)) (ha : AD X ks es k1 ds) (hk : k1[i]? = some (.rng a' b' r)) (hR : R r ds r2 d) (hdb : (x == ("__debug__" : Str)) = false) (hd : (y == ("__debug__" : Str)) = false) (hcd : (y == ("__classdict__" : Str)) = false)
    (he : starEach (.Name y py :: es) X.env = (false, eval (.Name y py) X.env) :: starEach es X.env) (hpl : (backTo pos (starEach es X.env)).any (·.1) = false) : ED X ks (.Call (.Name x p) (.Name y py :: es) [] pos) (k1.set i (.rng a' b' r2)) d := fun W σ G H S Q q => by
  have hK := c.hK
  obtain ⟨e1, _⟩ := S.rngAt hk0
  refine ev_of (fn_run c F hj hg hdb he hpl (pa_cons (pe_var (ix_of c hN) (vis_of c hv) hd hcd) pa_av he)) ?_
  refine ⟨.ref a0, e1, ha W σ G H S _ fun vs G1 H1 S1 g1 r1 => ?_⟩
  obtain ⟨e1', e2, e3, e4, _⟩ := S1.rngAt hk
  rw [e1] at e1'
  cases e1'
  show spR K R (.ref _ :: vs ++ []) H1 Q E0
  rw [List.append_nil]
  rw [hK] at r1
  exact ⟨G1, _, b', vs, r, ds, r2, d, rfl, S1.gh, S1.le.tb, e2, e3, e4, r1, hR, fun v G2 H2 l hr2 r3 => q v G2 H2 (S1.rngStep hk l hr2) (g1.trans l.g) (by rw [hK]; exact r3)⟩
end
end
end Z
namespace Z
open PySem PySem.Spec L2
variable [Tabl]
/-- what is wanted behind statements, by the slots' contents -/
structure Po where
  nx : List SK → Prop
  rt : List SK → PyData → Prop
  rl : List SK → List PyData → Prop := fun _ _ => False
  bk : List SK → Prop := fun _ => False
  ct : List SK → Prop := fun _ => False
  rT : List SK → List PyData → List PyData → List PyData → Prop := fun _ _ _ _ => False
  ex : List SK → Value → List (Str × PyData) → Prop := fun _ _ _ => False
  rc : List SK → SK → Prop := fun _ _ => False
/-- the fields of an exception that stays -/
def ExF (K : PySem.W.Frag) (G : Hp) (d : Option Addr) (fs : List (Str × PyData)) : Prop := match d with
  | none => fs = []
  | some dx => ∃ vs, G dx = some (.xd vs) ∧ FsD K G vs fs
theorem ExF.mono {K : PySem.W.Frag} {G G2 : Hp} {d : Option Addr} {fs : List (Str × PyData)} (e : Same G G2) (h : ExF K G d fs) : ExF K G2 d fs := by
  cases d with
  | none => exact h
  | some dx => obtain ⟨vs, a, b⟩ := h; exact ⟨vs, e _ _ a, FsD.mono e b⟩
structure Mt (X : Cx) (W : Wd) (Φ : Po) (D : Ends) : Prop where
  nx : ∀ ks σ G H, Φ.nx ks → Sts X.K W ks σ G H → D.nx σ H
  bk : ∀ ks σ G H, Φ.bk ks → Sts X.K W ks σ G H → D.bk σ H
  ct : ∀ ks σ G H, Φ.ct ks → Sts X.K W ks σ G H → D.ct σ H
  rt : ∀ ks σ G H v d, Φ.rt ks d → Sts X.K W ks σ G H → Dp X.K G v d → D.rt v H
  rl : ∀ ks σ G H a ds, Φ.rl ks ds → Sts X.K W (ks ++ [.own ds]) (σ ++ [some (.ref a)]) G H → D.rt (.ref a) H
  rT : ∀ ks σ G H a ds es fs, Φ.rT ks ds es fs → Sts X.K W (ks ++ [.tlo ds es fs]) (σ ++ [some (.ref a)]) G H → D.rt (.ref a) H
  ex : (∃ Wx : WX, Takes X Wx ∧ ∀ ks σ G H cls d fs, Φ.ex ks cls fs → Sts X.K W ks σ G H → ExF X.K G d fs → Wx cls d σ H) ∧ ∀ ks σ G H v k, Φ.rc ks k → Sts X.K W (ks ++ [k]) (σ ++ [some v]) G H → D.rt v H
structure SV (X : Cx) (sts : List Stmt) (D : Ends) (σ : St) (H : Hp) : Prop where
  run : ∀ (pins : List (Addr × Obj)) (s : Shared), Inv X pins σ H s → wpAny (model X.prog X.w) X.A (execs sts X.env) (SP X pins D) X.xe s
theorem pss_sv {X : Cx} {sts : List Stmt} : PSs X sts (SV X sts) := ⟨fun pins s σ H D I h => h.run pins s I⟩
theorem sv_of {X : Cx} {sts : List Stmt} {t : TS} {D : Ends} {σ : St} {H : Hp} (h : PSs X sts t) (q : t D σ H) : SV X sts D σ H := ⟨fun pins s I => h.run pins s σ H D I q⟩
def SD (X : Cx) (ks : List SK) (sts : List Stmt) (Φ : Po) : Prop := ∀ W σ G H D, Sts X.K W ks σ G H → Mt X W Φ D → SV X sts D σ H
section
variable {P : Program} {w : World} {K : PySem.W.Frag} {mg : Str → Option Value} {base : Heap} {T : Sta} {k : Nat} {X : Cx} {ks k1 k2 k3 : List SK} {a b e : Expr} {es : List Expr} {d da db : PyData} {ds : List PyData} {pos p : Pos} {rest body orelse : List Stmt} {Φ : Po}
theorem SD.imp {Ψ : Po} (h : SD X ks rest Φ) (hn : ∀ k, Φ.nx k → Ψ.nx k) (hr : ∀ k d, Φ.rt k d → Ψ.rt k d) (hl : ∀ k d, Φ.rl k d → Ψ.rl k d) (hb : ∀ k, Φ.bk k → Ψ.bk k) (hc : ∀ k, Φ.ct k → Ψ.ct k) (hT : ∀ k d e f, Φ.rT k d e f → Ψ.rT k d e f) (hx : ∀ k c f, Φ.ex k c f → Ψ.ex k c f) (hC : ∀ k s, Φ.rc k s → Ψ.rc k s) : SD X ks rest Ψ := fun W σ G H D S M =>
  h W σ G H D S ⟨fun ks σ G H q => M.nx ks σ G H (hn _ q), fun ks σ G H q => M.bk ks σ G H (hb _ q), fun ks σ G H q => M.ct ks σ G H (hc _ q), fun ks σ G H v d q => M.rt ks σ G H v d (hr _ _ q), fun ks σ G H a ds q => M.rl ks σ G H a ds (hl _ _ q), fun ks σ G H a ds es fs q => M.rT ks σ G H a ds es fs (hT _ _ _ _ q), let ⟨⟨Wx, t, h⟩, h'⟩ := M.ex; ⟨⟨Wx, t, fun ks σ G H c d f q => h ks σ G H c d f (hx _ _ _ q)⟩, fun ks σ G H v k q => h' ks σ G H v k (hC _ _ q)⟩⟩
theorem sd_nil (h : Φ.nx ks) : SD X ks [] Φ := fun W σ G H D S M => sv_of pss_nil (M.nx ks σ G H h S)
theorem sd_weak {ls : List SK} (h : Wk ks ls) (q : SD X ls rest Φ) : SD X ks rest Φ := fun W σ G H D S M => q W σ G H D (S.weak h) M
theorem loc_of (c : CtxB cq P w K mg base T k X) {x : Str} (h : Loc T.sc x) : Loc X.env.scope x := by rw [c.hs]; exact h
theorem fn_of' (c : CtxB cq P w K mg base T k X) {x : Str} (h : T.fn x = true ∨ T.sc.names.lookup x = some .local) : X.fn x = true ∨ X.env.scope.names.lookup x = some .local := by rw [c.fn, c.hs]; exact h
theorem nd_of (c : CtxB cq P w K mg base T k X) : X.N.Nodup := by rw [c.hN]; exact c.nd
section
variable {x : Str} {i : Nat}
theorem sd_asg (c : CtxB cq P w K mg base T k X) (i : Nat) (hi : T.N[i]? = some x) (hx : Loc T.sc x) (hf : T.fn x = true ∨ T.sc.names.lookup x = some .local) (hl : i < k1.length) (h : ED X ks e k1 d) (hs : swapsWith e (some (.Name x p)) pos.line X.env = pure false)
    (q : SD X (k1.set i (.dat d)) rest Φ) : SD X ks (.Assign [.Name x p] e pos :: rest) Φ := fun W σ G H D S M => by
  refine sv_of (pss_cons (ps_set (nd_of c) (ix_of c hi) (loc_of c hx) pe_ev hs (fn_of' c hf)) pss_sv) ?_
  exact h W σ G H S _ fun v G2 H2 S2 g r => q W _ G2 H2 D (S2.setDat hl r) M
theorem sd_asgL (c : CtxB cq P w K mg base T k X) (i : Nat) (hi : T.N[i]? = some x) (hx : Loc T.sc x) (hf : T.fn x = true ∨ T.sc.names.lookup x = some .local) (hl : i < k1.length) (h : EL X ks e k1 ds) (hs : swapsWith e (some (.Name x p)) pos.line X.env = pure false)
    (q : SD X (k1.set i (.own ds)) rest Φ) : SD X ks (.Assign [.Name x p] e pos :: rest) Φ := fun W σ G H D S M => by
  refine sv_of (pss_cons (ps_set (nd_of c) (ix_of c hi) (loc_of c hx) pe_ev hs (fn_of' c hf)) pss_sv) ?_
  exact h W σ G H S _ fun a G2 H2 S2 g => q W _ G2 H2 D (S2.popTo hl) M
end
theorem sd_expr (h : ED X ks e k1 d) (hs : swapsWith e none pos.line X.env = pure false) (q : SD X k1 rest Φ) : SD X ks (.Expr e pos :: rest) Φ := fun W σ G H D S M =>
  sv_of (pss_cons (ps_expr pe_ev hs) pss_sv) (h W σ G H S _ fun v G2 H2 S2 g r => q W σ G2 H2 D S2 M)
theorem sd_ret (h : ED X ks e k1 d) (q : Φ.rt k1 d) : SD X ks (.Return (some e) pos :: rest) Φ := fun W σ G H D S M =>
  sv_of (pss_cons (ps_ret pe_ev) pss_sv) (h W σ G H S _ fun v G2 H2 S2 g r => M.rt k1 σ G2 H2 v d q S2 r)
theorem sd_if {t : Expr} {c : Bool} (h : TD X ks t k1 c) (h1 : c = true → SD X k1 body { Φ with nx := fun k => SD X k rest Φ }) (h0 : c = false → SD X k1 orelse { Φ with nx := fun k => SD X k rest Φ }) : SD X ks (.If t body orelse pos :: rest) Φ := fun W σ G H D S M => by
  refine sv_of (pss_cons (ps_if pt_tv pss_sv pss_sv) pss_sv) (h W σ G H S _ fun G2 H2 S2 g => ?_)
  have M' : Mt X W { Φ with nx := fun k => SD X k rest Φ } { D with nx := SV X rest D } := ⟨fun ks σ G H q S => q W σ G H D S M, M.bk, M.ct, M.rt, M.rl, M.rT, M.ex⟩
  cases c with
  | true => exact h1 rfl W σ G2 H2 _ S2 M'
  | false => exact h0 rfl W σ G2 H2 _ S2 M'
/-- an if whose ways end (return) or go on alike -/
theorem sd_ifT {t : Expr} (h : TD X ks t k1 true) (h1 : SD X k1 body { Φ with nx := fun k => SD X k rest Φ }) : SD X ks (.If t body orelse pos :: rest) Φ := sd_if h (fun _ => h1) (fun e => nomatch e)
theorem sd_ifF {t : Expr} (h : TD X ks t k1 false) (h0 : SD X k1 orelse { Φ with nx := fun k => SD X k rest Φ }) : SD X ks (.If t body orelse pos :: rest) Φ := sd_if h (fun e => nomatch e) (fun _ => h0)
/-! ### lists of our own changed -/
theorem sd_append (c : CtxB cq P w K mg base T k X) (i : Nat) {x : Str} {p2 p3 : Pos} (hN : T.N[i]? = some x) (hv : Vis T.sc x) (h : ED X ks e k1 d) (hk : k1[i]? = some (.own ds)) (hk0 : ks[i]? = some (.own da')) (hz : ds.length < sizeLine)
    (q : SD X (k1.set i (.own (ds ++ [d]))) rest Φ) (hd : (x == ("__debug__" : Str)) = false) (hcd : (x == ("__classdict__" : Str)) = false)
    (hs : swapsWith (.Call (.Attribute (.Name x p) "append" p2) [e] [] p3) none pos.line X.env = pure false)
    (he : starEach [e] X.env = (false, eval e X.env) :: starEach [] X.env) (hfew : (((backTo p3 (starEach [e] X.env)).all fun x => !x.fst) && ((backToKw p3 (keywordEach [] X.env)).all fun x => x.fst.isSome) && decide (([e].length + ([] : List Keyword).length + if ([] : List Keyword).isEmpty = true then 0 else 1) < 30)) = true)
    (hline : (p2.endLine == p3.line) = true) : SD X ks (.Expr (.Call (.Attribute (.Name x p) "append" p2) [e] [] p3) pos :: rest) Φ := fun W σ G H D S M => by
  obtain ⟨a0, vs0, e0, h0, r0, g0, w0, _⟩ := S.ownAt hk0
  refine sv_of (pss_cons (ps_expr (pe_bm PySem.F.plainAttrs_list PySem.F.slot_list_append PySem.F.type_list_append mt_append (pe_var (ix_of c hN) (vis_of c hv) hd hcd) (pa_cons pe_ev pa_nil he) (hs := he) (hfew := hfew) (hline := hline)) hs) pss_sv) ?_
  refine ⟨.ref a0, e0, .inl ⟨rfl, _, SqL.of h0⟩, ?_⟩
  refine h W σ G H S _ fun v G1 H1 S1 g1 r1 => ?_
  obtain ⟨a, vs, e1, h1, r, g2, w1, _⟩ := S1.ownAt hk
  rw [e0] at e1
  cases e1
  refine ⟨a0, vs, v, rfl, rfl, h1, by rw [r.len]; exact hz, ?_⟩
  exact q W σ G1 _ D (S1.mutOwn (vs := vs) hk e0 (DpAll.append r (.cons r1 .nil))) M
theorem sd_freeze (i : Nat) (hk : ks[i]? = some (.own ds)) (q : SD X (ks.set i (.dat (.list ds))) rest Φ) : SD X ks rest Φ := fun W σ G H D S M => by
  obtain ⟨a, vs, e1, h1, r, g, w1, ow, o, f, e2, no⟩ := S.ownAt hk
  have hi := (List.getElem?_eq_some_iff.mp hk).1
  have hσ : σ.set i (some (.ref a)) = σ := by
    apply List.ext_getElem?
    intro j
    by_cases q : j = i
    · subst q; rw [List.getElem?_set_self (by rw [S.len]; exact hi), e1]
    · rw [List.getElem?_set_ne (Ne.symm q)]
  -- forget the slot, freeze, know it again
  have S1 : Sts X.K W (ks.set i .no) (σ.set i (some (.ref a))) G H := S.put hi S.le (Same.refl G) (fun _ _ e _ => e) fun _ _ _ => ⟨fun _ _ _ _ _ e => e, [], rfl, fun _ h => by cases h⟩
  rw [hσ] at S1
  have O1 : Ow W (ks.set i .no) G (fun j => if j = i then [] else ow j) := by
    refine ⟨fun j j' b hb hb' => ?_, fun j b hb => ?_, fun j hj => ?_⟩
    · by_cases z : j = i <;> by_cases z' : j' = i <;> simp only [z, z', if_true, if_false] at hb hb' <;> first | exact o.dis j j' b hb hb' | cases hb | cases hb'
    · by_cases z : j = i
      · simp only [z, if_true] at hb; cases hb
      · simp only [z, if_false] at hb
        obtain ⟨b1, c⟩ := o.mine j b hb
        refine ⟨b1, ?_⟩
        rcases c with c | ⟨c, r, e⟩
        · exact .inl c
        · exact .inr ⟨c, r, by rw [List.getElem?_set_ne (Ne.symm z)]; exact e.1, e.2⟩
    · by_cases z : j = i
      · simp only [z, if_true]
      · simp only [z, if_false]
        exact o.out j (by simpa using hj)
  have F1 : ∀ j k, (ks.set i .no)[j]? = some k → Sl X.K G H k ((σ[j]?).getD none) (if j = i then [] else ow j) := fun j k hj => by
    by_cases z : j = i
    · subst z
      rw [List.getElem?_set_self hi] at hj
      cases hj
      simp only [if_true]
      exact (show ([] : List Addr) = [] from rfl)
    · rw [List.getElem?_set_ne (Ne.symm z)] at hj
      simp only [z, if_false]
      exact f j k hj
  obtain ⟨S2, gg⟩ := Sts.freeze (pl := pl_lst) S1.le S1.len O1 F1 (fun j hb => by
    by_cases z : j = i
    · simp only [z, if_true] at hb; cases hb
    · simp only [z, if_false] at hb
      exact no j z hb) g w1 h1
  have S3 := S2.setDat (i := i) (d := .list ds) (by simpa using hi) (.lst (SqL.of upd_same) (DpAll.mono gg r))
  rw [hσ] at S3
  rw [List.set_set] at S3
  exact q W σ _ H D S3 M
/-! ### what is walked -/
structure SrcOk (K : PySem.W.Frag) (J : It) (Gs : Hp) (ds : List PyData) : Prop where
  wk : Walk J ds.length (fun H => Same Gs H) (fun i H x H' => ∀ G, Same Gs G → Same G H → ∃ d G', ds[i]? = some d ∧ Lp G H G' H' ∧ Dp K G' x d)
structure IV (X : Cx) (tg iter : Expr) (σ : St) (H : Hp) (R : It → Hp → Prop) : Prop where
  run : ∀ (pins : List (Addr × Obj)) (s : Shared), Inv X pins σ H s →
    wpAny (model X.prog X.w) X.A (eval iter X.env) (fun v s1 => wpAny (model X.prog X.w) X.A (pyIter v) (PIE X pins σ tg R) X.xe s1) X.xe s
theorem pi_iv {X : Cx} {tg iter : Expr} : PI X tg iter (IV X tg iter) := ⟨fun pins s σ H R I h => h.run pins s I⟩
theorem iv_of {X : Cx} {tg iter : Expr} {wi : TI} {σ : St} {H : Hp} {R : It → Hp → Prop} (h : PI X tg iter wi) (q : wi σ H R) : IV X tg iter σ H R := ⟨fun pins s I => h.run pins s σ H R I q⟩
def ID (X : Cx) (ks : List SK) (tg iter : Expr) (ks' : List SK) (ds : List PyData) : Prop := ∀ W σ G H, Sts X.K W ks σ G H → ∀ R : It → Hp → Prop, (∀ J G2 H2, Sts X.K W ks' σ G2 H2 → Same G G2 → SrcOk X.K J G2 ds → R J H2) → IV X tg iter σ H R
theorem id_tup {tg : Expr} (h : ED X ks e k1 (.tuple ds)) : ID X ks tg e k1 ds := fun W σ G H S R q => by
  refine iv_of (pi_tup pe_ev) (h W σ G H S _ fun v G2 H2 S2 g r => ?_)
  obtain ⟨a, vs, rfl, sa, aa⟩ := r.tup_inv
  refine ⟨a, rfl, ⟨vs, Same.seqT S2.gh sa⟩, q _ G2 H2 S2 g ⟨?_⟩⟩
  rw [← aa.len]
  refine walk_tup.mono (fun H' s => Same.seqT s sa) fun i H' x H'' hi s y => ?_
  obtain ⟨rfl, hx⟩ := y
  intro G' s1 s2
  obtain ⟨d, hd, rd⟩ := aa.getV hx
  exact ⟨d, G', hd, Lp.refl s2, Dp.mono s1 rd⟩
theorem id_lst {tg : Expr} (h : ED X ks e k1 (.list ds)) : ID X ks tg e k1 ds := fun W σ G H S R q => by
  refine iv_of (pi_list pe_ev) (h W σ G H S _ fun v G2 H2 S2 g r => ?_)
  obtain ⟨a, vs, rfl, sa, aa⟩ := r.lst_inv
  refine ⟨a, rfl, ⟨vs, S2.gh.seq sa⟩, q _ G2 H2 S2 g ⟨?_⟩⟩
  rw [← aa.len]
  refine walk_list.mono (fun H' s => s.seq sa) fun i H' x H'' hi s y => ?_
  obtain ⟨rfl, hx⟩ := y
  intro G' s1 s2
  obtain ⟨d, hd, rd⟩ := aa.getV hx
  exact ⟨d, G', hd, Lp.refl s2, Dp.mono s1 rd⟩
def rngD (n : Nat) : List PyData := (List.range n).map fun i => .int (i : Nat)
theorem rngD_get {n i : Nat} (h : i < n) : (rngD n)[i]? = some (.int (i : Nat)) := by simp [rngD, h]
theorem id_range {tg : Expr} (c : CtxB cq P w K mg base T k X) {n : Int} (hg : T.sc.names.lookup ("range" : Str) = some .globalImplicit) (hm : mg "range" = none) (h : ED X ks a k1 (.int n)) (hn : n < 2 ^ 62 ∧ -(2 ^ 62) ≤ n)
    (hs : starEach [a] X.env = [(false, eval a X.env)]) : ID X ks tg (.Call (.Name "range" p) [a] [] pos) k1 (rngD n.toNat) := fun W σ G H S R q => by
  refine iv_of (pi_range1 (gl_of c hg) (by rw [c.hmg]; exact hm) (pa_cons pe_ev pa_nil hs) hs) (h W σ G H S _ fun v G2 H2 S2 g r => ?_)
  refine ⟨n, by rw [r.int_inv], hn.2, hn.1, q _ G2 H2 S2 g ⟨?_⟩⟩
  have e : (rngD n.toNat).length = n.toNat := by simp [rngD]
  rw [e]
  refine (walk_range (lo := 0) (n := n.toNat)).mono (fun _ _ => trivial) fun i H' x H'' hi s y => ?_
  obtain ⟨rfl, rfl⟩ := y
  intro G' s1 s2
  refine ⟨_, G', rngD_get hi, Lp.refl s2, ?_⟩
  show Dp X.K G' (V.int (0 + (i : Int))) (.int (i : Int))
  rw [Int.zero_add]; exact .int _
/-! ### targets -/
/-- a target takes data into slots -/
def GD (X : Cx) (tg : Expr) (f : PyData → List SK → Option (List SK)) (js : List Nat) : Prop := ∃ g : TG, PG X tg g ∧ ∀ W σ G H ks v d ks', Sts X.K W ks σ G H → Dp X.K G v d → f d ks = some ks' → ∀ Q : St → Hp → Prop,
  (∀ σ2, Sts X.K W ks' σ2 G H → (∀ i, i ∉ js → σ2[i]? = σ[i]?) → σ2.length = σ.length → Q σ2 H) → g v σ H Q
def tg1 (j : Nat) (d : PyData) (ks : List SK) : Option (List SK) := if j < ks.length then some (ks.set j (.dat d)) else none
def setAll : List Nat → List PyData → List SK → Option (List SK)
  | [], [], ks => some ks
  | j :: js, d :: ds, ks => if j < ks.length then setAll js ds (ks.set j (.dat d)) else none
  | _, _, _ => none
def tgN (js : List Nat) : PyData → List SK → Option (List SK)
  | .tuple ds, ks => setAll js ds ks
  | _, _ => none
theorem gd_name (c : CtxB cq P w K mg base T k X) (j : Nat) {x : Str} (hi : T.N[j]? = some x) (hx : Loc T.sc x) (hf : T.fn x = true ∨ T.sc.names.lookup x = some .local) : GD X (.Name x p) (tg1 j) [j] := by
  refine ⟨_, pg_name (nd_of c) (ix_of c hi) (loc_of c hx) (fn_of' c hf), fun W σ G H ks v d ks' S r e Q q => ?_⟩
  unfold tg1 at e
  split at e
  · cases e
    exact q _ (S.setDat ‹_› r) (fun i hi => List.getElem?_set_ne (fun z => hi (by simp [z]))) (by simp)
  · cases e
def GsD (X : Cx) (es : List Expr) (js : List Nat) : Prop := ∃ g : TGs, PGs X es g ∧ ∀ W σ G H ks vs ds ks', Sts X.K W ks σ G H → DpAll X.K G vs ds → setAll js ds ks = some ks' → ∀ Q : St → Hp → Prop,
  (∀ σ2, Sts X.K W ks' σ2 G H → (∀ i, i ∉ js → σ2[i]? = σ[i]?) → σ2.length = σ.length → Q σ2 H) → g vs σ H Q
theorem gs_nil : GsD X [] [] := ⟨_, pgs_nil, fun W σ G H ks vs ds ks' S r e Q q => by
  cases r with
  | nil => cases e; exact ⟨rfl, q σ S (fun _ _ => rfl) rfl⟩
  | cons _ _ => cases e⟩
theorem gs_cons (c : CtxB cq P w K mg base T k X) (j : Nat) {x : Str} {js : List Nat} (hi : T.N[j]? = some x) (hx : Loc T.sc x) (hf : T.fn x = true ∨ T.sc.names.lookup x = some .local) (h : GsD X es js)
    (hs : (assignEach (.Name x p :: es) X.env).map (·.2) = assign (.Name x p) X.env :: (assignEach es X.env).map (·.2)) : GsD X (.Name x p :: es) (j :: js) := by
  obtain ⟨g, pg, hg⟩ := h
  refine ⟨_, pgs_cons (pg_name (nd_of c) (ix_of c hi) (loc_of c hx) (fn_of' c hf)) pg hs, fun W σ G H ks vs ds ks' S r e Q q => ?_⟩
  cases r with
  | nil => cases e
  | cons r1 r2 =>
    rename_i v vs d ds
    unfold setAll at e
    split at e
    · refine ⟨v, vs, rfl, ?_⟩
      refine hg W _ G H _ vs ds ks' (S.setDat ‹_› r1) r2 e Q fun σ2 S2 h2 l2 => q σ2 S2 (fun i hi => ?_) (by rw [l2]; simp)
      rw [h2 i (fun z => hi (by simp [z]))]
      exact List.getElem?_set_ne (fun z => hi (by simp [z]))
    · cases e
theorem gd_tup {js : List Nat} {kk : Nat} (c : Ctx P w K mg base T k X) (h : GsD X es js) (hn : (assignEach es X.env).length = js.length) (hst : (assignEach es X.env).findIdx? (·.1) = none) : GD X (.Tuple es kk p) (tgN js) js := by
  obtain ⟨g, pg, hg⟩ := h
  refine ⟨_, pg_tup c.calm pg hn hst, fun W σ G H ks v d ks' S r e Q q => ?_⟩
  cases d with
  | tuple ds =>
    obtain ⟨a, vs, rfl, sa, aa⟩ := r.tup_inv
    have e' : setAll js ds ks = some ks' := e
    have hl : ∀ (js : List Nat) (ds : List PyData) (ks : List SK), setAll js ds ks = some ks' → ds.length = js.length := by
      intro js
      induction js with
      | nil => intro ds ks h; cases ds with
        | nil => rfl
        | cons _ _ => cases h
      | cons j js ih => intro ds ks h; cases ds with
        | nil => cases h
        | cons d ds =>
          unfold setAll at h
          split at h
          · simp [ih ds _ h]
          · cases h
    exact ⟨a, vs, rfl, Same.seqT S.gh sa, by rw [aa.len]; exact hl js ds ks e', hg W σ G H ks vs ds ks' S aa e' Q q⟩
  | _ => cases e
/-! ### for -/
theorem Sts.rebase {W : Wd} {σ : St} {G H Gm : Hp} (S : Sts K W ks σ G H) (h1 : Same W.G Gm) (h2 : Same Gm G) : Sts K ⟨Gm, W.H, W.M⟩ ks σ G H := by
  obtain ⟨le, len, ow, o, f⟩ := S
  refine ⟨⟨h2, le.gh, le.keep, le.there, fun a u e e2 => le.fz a u ?_ e2, le.m, le.tb⟩, len, ow, ⟨o.dis, o.mine, o.out⟩, f⟩
  cases q : W.G a with
  | none => rfl
  | some v =>
    have e : Gm a = none := e
    rw [h1 a v q] at e; cases e
theorem Sts.unbase {W : Wd} {σ : St} {G H Gm Hm : Hp} (l : Le W Gm Hm) (S : Sts K ⟨Gm, W.H, W.M⟩ ks σ G H) : Sts K W ks σ G H := by
  obtain ⟨le, len, ow, o, f⟩ := S
  exact ⟨⟨l.g.trans le.g, le.gh, le.keep, le.there, fun a u e e2 => le.fz a u (l.fz a u e e2) e2, le.m, le.tb⟩, len, ow, ⟨o.dis, o.mine, o.out⟩, f⟩
theorem Mt.exU {W : Wd} {Gm Hm : Hp} {D : Ends} (M : Mt X W Φ D) (l : Le W Gm Hm) : (∃ Wx : WX, Takes X Wx ∧ ∀ ks σ G H cls d fs, Φ.ex ks cls fs → Sts X.K ⟨Gm, W.H, W.M⟩ ks σ G H → ExF X.K G d fs → Wx cls d σ H) ∧ ∀ ks σ G H v k, Φ.rc ks k → Sts X.K ⟨Gm, W.H, W.M⟩ (ks ++ [k]) (σ ++ [some v]) G H → D.rt v H := by
  obtain ⟨⟨Wx, t, h⟩, h'⟩ := M.ex
  exact ⟨⟨Wx, t, fun ks σ G H c d f q S => h ks σ G H c d f q (S.unbase l)⟩, fun ks σ G H v k q S => h' ks σ G H v k q (S.unbase l)⟩
theorem ex0 {X : Cx} {W : Wd} {D : V → Hp → Prop} : (∃ Wx : WX, Takes X Wx ∧ ∀ (ks : List SK) (σ : St) (G H : Hp) (cls : Value) (d : Option Addr) (fs : List (Str × PyData)), False → Sts X.K W ks σ G H → ExF X.K G d fs → Wx cls d σ H) ∧ ∀ (ks : List SK) (σ : St) (G H : Hp) (v : V) (k : SK), False → Sts X.K W (ks ++ [k]) (σ ++ [some v]) G H → D v H :=
  ⟨⟨_, LamX.takes0, fun _ _ _ _ _ _ _ z => z.elim⟩, fun _ _ _ _ _ _ z => z.elim⟩
theorem sd_for (c : Ctx P w K mg base T k X) {tg iter : Expr} {f : PyData → List SK → Option (List SK)} {js : List Nat} (F : Nat → List SK) (hi : ID X ks tg iter k1 ds) (hg : GD X tg f js) (h0 : Wk k1 (F 0))
    (turn : ∀ i d, ds[i]? = some d → ∃ kb, f d (F i) = some kb ∧ SD X kb body { Φ with nx := fun k => Wk k (F (i + 1)), ct := fun k => Wk k (F (i + 1)), bk := fun _ => False })
    (fin : SD X (F ds.length) rest Φ) (hs : ∀ x, foldedSetIterable iter X.env x = pure x) : SD X ks (.For tg iter body [] pos :: rest) Φ := fun W σ G H D S M => by
  obtain ⟨g, pg, hg⟩ := hg
  have hp := c.po
  refine sv_of (pss_cons (ps_for hp c.calm pi_iv pg pss_sv hs) pss_sv) ?_
  refine hi W σ G H S _ fun J G2 H2 S2 g2 src => ?_
  refine for_it src.wk (fun i σ' H' => ∃ G', Sts X.K W (F i) σ' G' H' ∧ Same G2 G') ⟨G2, S2.weak h0, Same.refl G2⟩ (fun i σ' H' _ ⟨G', S', g'⟩ => g'.trans S'.gh) ?_ ?_
  · rintro i x σ' H' H'' hlt ⟨G', S', g'⟩ y
    obtain ⟨d, G3, hd, l, r⟩ := y G' g' S'.gh
    obtain ⟨kb, e, b⟩ := turn i d hd
    refine hg W σ' G3 H'' (F i) x d kb (S'.pure l) r e _ fun σ2 S3 _ _ => ?_
    refine b ⟨G2, W.H, W.M⟩ σ2 G3 H'' _ (S3.rebase S2.le.g (g'.trans l.g)) ⟨fun ks σ G H q S => ⟨G, (S.unbase S2.le).weak q, S.le.g⟩, fun _ _ _ _ q => q.elim, fun ks σ G H q S => ⟨G, (S.unbase S2.le).weak q, S.le.g⟩, fun ks σ G H v d q S r => M.rt ks σ G H v d q (S.unbase S2.le) r, fun ks σ G H a ds q S => M.rl ks σ G H a ds q (S.unbase S2.le), fun ks σ G H a ds es fs q S => M.rT ks σ G H a ds es fs q (S.unbase S2.le), M.exU S2.le⟩
  · rintro σ' H' ⟨G', S', g'⟩
    exact fin W σ' G' H' D S' M
end
end Z
namespace Z
open PySem PySem.Spec L2
variable [Tabl]
def GV (X : Cx) (tg : Expr) : TG := fun v σ H Q => ∀ (pins : List (Addr × Obj)) (s : Shared) (u : Value), Inv X pins σ H s → RelV v u → wpAny (model X.prog X.w) X.A (assign tg X.env u) (fun _ s' => ∃ σ' H', Inv X pins σ' H' s' ∧ Q σ' H') X.xe s
def TsV (X : Cx) (ifs : List Expr) : TT := fun σ H Q => ∀ (pins : List (Addr × Obj)) (s : Shared), Inv X pins σ H s →
    wpAny (model X.prog X.w) X.A (forIn ifs true fun c r => if r = true then do let ok ← isTrue c X.env (eval c X.env); pure (ForInStep.yield ok) else pure (ForInStep.yield r)) (TP X pins σ Q) X.xe s
/-- a clause's tests -/
def TsD (X : Cx) (ks : List SK) (ifs : List Expr) (ks' : List SK) (b : Bool) : Prop :=
  ∀ W σ G H, Sts X.K W ks σ G H → ∀ Q : Bool → Hp → Prop, (∀ G2 H2, Sts X.K W ks' σ G2 H2 → Same G G2 → Q b H2) → TsV X ifs σ H Q
def Tb (T : Sta) (scope : Scope) : Sta := ⟨T.N, relS scope T.sc, fun x => scope.names.lookup x == some .cell⟩
def wipeK (ks : List SK) : List Nat → List SK
  | [] => ks
  | v :: vs => (wipeK ks vs).set v .no
theorem wipeK_length (ks : List SK) : ∀ vs, (wipeK ks vs).length = ks.length
  | [] => rfl
  | v :: vs => by unfold wipeK; rw [List.length_set, wipeK_length ks vs]
theorem wipeK_in {ks : List SK} {i : Nat} (h : i < ks.length) : ∀ {vs : List Nat}, i ∈ vs → (wipeK ks vs)[i]? = some .no
  | v :: vs, hm => by
    unfold wipeK
    by_cases q : v = i
    · subst q; rw [List.getElem?_set_self (by rw [wipeK_length]; exact h)]
    · rw [List.getElem?_set_ne q]
      exact wipeK_in h ((List.mem_cons.mp hm).resolve_left (fun z => q z.symm))
theorem wipeK_out {ks : List SK} {i : Nat} : ∀ {vs : List Nat}, i ∉ vs → (wipeK ks vs)[i]? = ks[i]?
  | [], _ => rfl
  | v :: vs, hm => by
    unfold wipeK
    rw [List.getElem?_set_ne (fun z => hm (by simp [z]))]
    exact wipeK_out (fun z => hm (by simp [z]))
theorem wipe_in {σ : St} {i : Nat} (h : i < σ.length) : ∀ {vs : List Nat}, i ∈ vs → (wipe σ vs)[i]? = some none
  | v :: vs, hm => by
    unfold wipe
    by_cases q : v = i
    · subst q; rw [List.getElem?_set_self (by rw [wipe_length]; exact h)]
    · rw [List.getElem?_set_ne q]
      exact wipe_in h ((List.mem_cons.mp hm).resolve_left (fun z => q z.symm))
def gB (X : Cx) (scope : Scope) (tg : Expr) : TG := fun v σ H Q => ∀ s0 H0 C cl fp, GV (X.blk s0 H0 scope (compEnvC scope cl C X.env) fp) tg v σ H Q
def ttB (X : Cx) (scope : Scope) (ifs : List Expr) : TT := fun σ H Q => ∀ s0 H0 C cl fp, TsV (X.blk s0 H0 scope (compEnvC scope cl C X.env) fp) ifs σ H Q
def teB (X : Cx) (scope : Scope) (elt : Expr) : TE := fun σ H Q => ∀ s0 H0 C cl fp, EV (X.blk s0 H0 scope (compEnvC scope cl C X.env) fp) elt σ H Q
section
variable {P : Program} {w : World} {K : PySem.W.Frag} {mg : Str → Option Value} {base : Heap} {T : Sta} {k : Nat} {X : Cx} {ks k1 k2 k3 : List SK} {a b e : Expr} {es : List Expr} {d da db : PyData} {ds : List PyData} {pos p : Pos}
theorem ts_nil : TsD X ks [] ks true := fun W σ G H S Q q => fun pins s I => pts_nil.run pins s σ H Q I (q G H S (Same.refl G))
theorem ts_one {c : Bool} (h : TD X ks e k1 c) : TsD X ks [e] k1 c := fun W σ G H S Q q => fun pins s I => (pts_one pt_tv).run pins s σ H Q I (h W σ G H S Q q)
theorem Ctx.blk (c : Ctx P w K mg base T k X) {scope : Scope} {own : List (Str × Nat)} (s : Shared) (H : Hp) (C : Addr) (cl : List (Str × Addr)) (fp : List Addr) : Ctx P w K mg base (Tb T scope) k (X.blk s H scope (compEnvC scope cl C X.env) fp) where
  hP := c.hP
  hw := c.hw
  hK := c.hK
  hmg := c.hmg
  hbase := c.hbase
  hN := c.hN
  nd := c.nd
  hs := by
    show relS scope X.env.scope = relS scope T.sc
    rw [c.hs]
  calm' := c.calm'
  room' := c.room'
  un := c.un
  po := PassesOwn.never
  fn := rfl
/-- the slots of a block ahead of its first turn -/
theorem Sts.wiped {W : Wd} {σ : St} {G H : Hp} (S : Sts K W ks σ G H) (vs : List Nat) (nw : ∀ i ∈ vs, ∀ k, ks[i]? = some k → k = .no ∨ ∃ d, k = .dat d) : Sts K W (wipeK ks vs) (wipe σ vs) G H := by
  have S1 : Sts K W (wipeK ks vs) σ G H := by
    refine S.weak ?_
    clear S
    have : ∀ (ls : List SK) (ks : List SK), ls.length = ks.length → (∀ (i : Nat) (k : SK), ls[i]? = some k → k = .no ∨ ks[i]? = some k) → Wk ks ls := by
      intro ls
      induction ls with
      | nil => intro ks h _; cases ks with
        | nil => trivial
        | cons _ _ => cases h
      | cons l ls ih => intro ks h f; cases ks with
        | nil => cases h
        | cons k ks =>
          refine ⟨?_, ih ks (by simpa using h) fun i k hk => by have := f (i + 1) k (by simpa using hk); simpa using this⟩
          have := f 0 l (by simp)
          simp at this
          rcases this with z | z
          · exact .inl z
          · exact .inr z
    refine this _ _ (wipeK_length _ _) fun i k hk => ?_
    by_cases q : i ∈ vs
    · have hi : i < ks.length := by have := (List.getElem?_eq_some_iff.mp hk).1; rwa [wipeK_length] at this
      rw [wipeK_in hi q] at hk
      exact .inl (Option.some.inj hk).symm
    · rw [wipeK_out q] at hk; exact .inr hk
  obtain ⟨le, len, ow, o, f⟩ := S1
  refine ⟨le, by rw [wipe_length]; exact len, ow, o, fun i k hk => ?_⟩
  have := f i k hk
  by_cases q : i ∈ vs
  · have hi : i < ks.length := by have := (List.getElem?_eq_some_iff.mp hk).1; rwa [wipeK_length] at this
    rw [wipeK_in hi q] at hk
    cases hk
    exact this
  · rw [wipe_out q]
    exact this
/-- the slots' values at places of which nothing is known may differ -/
theorem Sts.swap {W : Wd} {σ σ2 : St} {G H : Hp} {vs : List Nat} (S : Sts K W ks σ G H) (hl : σ2.length = σ.length) (h : ∀ i, i ∉ vs → σ2[i]? = σ[i]?) (hn : ∀ i ∈ vs, ∀ k, ks[i]? = some k → k = .no) : Sts K W ks σ2 G H := by
  obtain ⟨le, len, ow, o, f⟩ := S
  refine ⟨le, by omega, ow, o, fun i k hk => ?_⟩
  by_cases q : i ∈ vs
  · have := f i k hk
    have e := hn i q k hk
    subst e
    exact this
  · rw [h i q]; exact f i k hk
/-- what a turn of a comprehension does: the block's slots kb, from which it goes on to those of the next turn -/
def TurnD (B : Cx → Prop) (ifs : List Expr) (elt : Expr) (kb kn : List SK) (o : Option PyData) : Prop :=
  ∃ k2 b, (∀ X', B X' → TsD X' kb ifs k2 b) ∧ (b = false → o = none ∧ Wk k2 kn) ∧ (b = true → ∃ d k3, o = some d ∧ (∀ X', B X' → ED X' k2 elt k3 d) ∧ Wk k3 kn)
theorem wipe_swap {σ σ2 : St} {vs : List Nat} (hl : σ2.length = σ.length) (h : ∀ i, i ∉ vs → σ2[i]? = σ[i]?) : wipe σ2 vs = wipe σ vs := by
  apply List.ext_getElem?
  intro i
  by_cases q : i ∈ vs
  · by_cases hi : i < σ.length
    · rw [wipe_in (by omega) q, wipe_in hi q]
    · rw [List.getElem?_eq_none (by rw [wipe_length]; omega), List.getElem?_eq_none (by rw [wipe_length]; omega)]
  · rw [wipe_out q, wipe_out q, h i q]
/-- a list comprehension, before its list goes anywhere -/
structure LC (X : Cx) (ks : List SK) (e : Expr) (ks' : List SK) (es : List PyData) : Prop where
  out : ∃ (elt tg iter : Expr) (ifs : List Expr) (scope : Scope) (pos : Pos) (own : List (Str × Nat)) (wi : TI) (g : TG) (tt : TT) (te : TE), e = .ListComp elt [⟨tg, iter, ifs, 0⟩] scope pos ∧ PI X tg iter wi ∧ BlkOk X.N X.env.scope scope own ∧
    (∀ (s : Shared) (H : Hp) (C : Addr) (cl : List (Str × Addr)) (fp : List Addr), PG (X.blk s H scope (compEnvC scope cl C X.env) fp) tg g) ∧ (∀ (s : Shared) (H : Hp) (C : Addr) (cl : List (Str × Addr)) (fp : List Addr), PTs (X.blk s H scope (compEnvC scope cl C X.env) fp) ifs tt) ∧
    (∀ (s : Shared) (H : Hp) (C : Addr) (cl : List (Str × Addr)) (fp : List Addr), PE (X.blk s H scope (compEnvC scope cl C X.env) fp) elt te) ∧ (∀ x, foldedSetIterable iter X.env x = pure x) ∧
    ∀ W σ G H, Sts X.K W ks σ G H → ∀ Q : VK, (∀ a G2 H2, Sts X.K W (ks' ++ [.own es]) (σ ++ [some (.ref a)]) G2 H2 → Same G G2 → Q (.ref a) H2) → tLc wi g tt te (own.map (·.2)) σ H Q
theorem LC.el (c : Ctx P w K mg base T k X) (h : LC X ks e k1 ds) : EL X ks e k1 ds := fun W σ G H S Q q => by
  obtain ⟨elt, tg, iter, ifs, scope, pos, own, wi, g, tt, te, rfl, hi, bk, hg, ht, he, hs, run⟩ := h.out
  exact ev_of (pe_lc c.calm (nd_of c) hi bk hg ht he hs) (run W σ G H S Q q)
/-- [elt for tg in iter if ..]: F the slots by the turn, ac what is made so far -/
theorem lc_lc (c : Ctx P w K mg base T k X) {elt tg iter : Expr} {ifs : List Expr} {scope : Scope} (own : List (Str × Nat)) {f : PyData → List SK → Option (List SK)} {js : List Nat} (F : Nat → List SK) (ac : Nat → List PyData)
    (ok : blkC T.N T.sc scope own = true) (hjs : js.all (fun j => (own.map (·.2)).contains j) = true) (hi : ID X ks tg iter k1 ds)
    (nw : ∀ i ∈ own.map (·.2), ∃ k, k1[i]? = some k ∧ (F ds.length)[i]? = some k ∧ (k = .no ∨ ∃ d, k = .dat d))
    (hg : ∀ X', Ctx P w K mg base (Tb T scope) k X' → GD X' tg f js)
    (h0 : F 0 = k1) (hl : ∀ i, (F i).length = k1.length) (a0 : ac 0 = []) (hz : ds.length < sizeLine)
    (turn : ∀ i d, ds[i]? = some d → ∃ kb o, f d (wipeK (F i) (own.map (·.2))) = some kb ∧ TurnD (Ctx P w K mg base (Tb T scope) k) ifs elt kb (wipeK (F (i + 1)) (own.map (·.2))) o ∧ ac (i + 1) = ac i ++ o.toList)
    (hs : ∀ x, foldedSetIterable iter X.env x = pure x) :
    LC X ks (.ListComp elt [⟨tg, iter, ifs, 0⟩] scope pos) (F ds.length) (ac ds.length) := by
  have acl : ∀ i, i ≤ ds.length → (ac i).length ≤ i := by
    intro i
    induction i with
    | zero => intro _; rw [a0]; exact Nat.le_refl _
    | succ i ih =>
      intro hi
      obtain ⟨kb, o, _, _, e⟩ := turn i ds[i] (by simp)
      rw [e, List.length_append]
      have := ih (by omega)
      cases o <;> simp <;> omega
  have bk : BlkOk X.N X.env.scope scope own := by rw [c.hN, c.hs]; exact blkOk_by ok
  have hjs' : ∀ j ∈ js, j ∈ own.map (·.2) := fun j hj => by simpa using List.all_eq_true.mp hjs j hj
  refine ⟨elt, tg, iter, ifs, scope, pos, own, _, gB X scope tg, ttB X scope ifs, teB X scope elt, rfl, pi_iv, bk,
    fun s0 H0 C cl fp => ⟨fun pins s σ H v u Q I r h => h s0 H0 C cl fp pins s u I r⟩, fun s0 H0 C cl fp => ⟨fun pins s σ H Q I h => h s0 H0 C cl fp pins s I⟩, fun s0 H0 C cl fp => ⟨fun pins s σ H Q I h => (h s0 H0 C cl fp).run pins s I⟩, hs, fun W σ G H S Q q => ?_⟩
  refine hi W σ G H S _ fun J G1 H1 S1 g1 src => ?_
  intro D hD
  have wD : W.H D = none := by
    cases e : W.H D with
    | none => rfl
    | some u =>
      obtain ⟨u', e'⟩ := S1.le.there D u e
      rw [hD] at e'; cases e'
  have gD : G1 D = none := by
    cases e : G1 D with
    | none => rfl
    | some u => rw [S1.gh D u e] at hD; cases hD
  -- a world in which the new list is another's
  have lend : ∀ {ks' : List SK} {σ' : St} {G' H' : Hp} {us us' : List V}, Sts X.K ⟨G1, upd W.H D (.lst us), W.M⟩ ks' σ' G' H' → Sts X.K ⟨G1, upd W.H D (.lst us'), W.M⟩ ks' σ' G' (upd H' D (.lst us')) := by
    intro ks' σ' G' H' us us' S'
    obtain ⟨le, len, ow, o, f⟩ := S'
    have no : ∀ i, D ∉ ow i := fun i h => by
      obtain ⟨_, z⟩ := o.mine i D h
      rcases z with z | ⟨z, _⟩
      · have z := upd_same.symm.trans z
        cases z
      · obtain ⟨u, hu⟩ := S1.le.m D z
        rw [wD] at hu; cases hu
    have gz : G' D = none := le.fz D _ gD upd_same
    have hDm0 : ¬ W.M D := fun z => by
      obtain ⟨u, hu⟩ := S1.le.m D z
      rw [wD] at hu; cases hu
    have hD0 : H' D = some (.lst us) := le.keep D _ hDm0 (fun _ z => by cases z) upd_same
    refine ⟨⟨le.g, fun b u e => ?_, fun b u hm nt e => ?_, fun b u e => ?_, fun b u e e2 => ?_, fun b hm => ?_, le.tb.upd fun u e => by rw [hD0] at e; cases e; exact pl_lst⟩, len, ow, ⟨o.dis, fun i b hb => ?_, o.out⟩, fun i k hk => (f i k hk).move (Same.refl _) fun b hb u hu => ?_⟩
    · have : b ≠ D := fun z => by rw [z, gz] at e; cases e
      exact (upd_ne this).trans (le.gh b u e)
    · by_cases z : b = D
      · subst z; exact upd_same.trans (upd_same.symm.trans e)
      · exact (upd_ne z).trans (le.keep b u hm nt ((upd_ne z).trans ((upd_ne z).symm.trans e)))
    · by_cases z : b = D
      · subst z; exact ⟨_, upd_same⟩
      · obtain ⟨o', h'⟩ := le.there b u ((upd_ne z).trans ((upd_ne z).symm.trans e))
        exact ⟨o', (upd_ne z).trans h'⟩
    · by_cases z : b = D
      · subst z; exact gz
      · exact le.fz b u e ((upd_ne z).trans ((upd_ne z).symm.trans e2))
    · obtain ⟨u, hu⟩ := S1.le.m b hm
      have z : b ≠ D := fun z => by rw [z, wD] at hu; cases hu
      exact ⟨u, (upd_ne z).trans hu⟩
    · obtain ⟨b1, b2⟩ := o.mine i b hb
      have z : b ≠ D := fun z => no i (z ▸ hb)
      exact ⟨b1, b2.imp (fun e => (upd_ne z).trans ((upd_ne z).symm.trans e)) id⟩
    · have z : b ≠ D := fun z => no i (z ▸ hb)
      exact (upd_ne z).trans hu
  have first : Sts X.K ⟨G1, upd W.H D (.lst []), W.M⟩ (wipeK k1 (own.map (·.2))) (wipe σ (own.map (·.2))) G1 (upd H1 D (.lst [])) := by
    have S2 := S1.wiped (own.map (·.2)) (fun i hi k hk => by
      obtain ⟨k', h1, _, h2⟩ := nw i hi
      rw [hk] at h1; cases h1; exact h2)
    obtain ⟨le, len, ow, o, f⟩ := S2
    have live := o.live f
    have no : ∀ i, D ∉ ow i := fun i h => by
      obtain ⟨u, hu⟩ := live i D h
      rw [hD] at hu; cases hu
    refine ⟨⟨Same.refl _, fun b u e => ?_, fun b u hm nt e => ?_, fun b u e => ?_, fun b u e _ => e, fun b hm => ?_, le.tb.upd fun u e => by rw [hD] at e; cases e⟩, len, ow, ⟨o.dis, fun i b hb => ?_, o.out⟩, fun i k hk => (f i k hk).move (Same.refl _) fun b hb u hu => ?_⟩
    · have : b ≠ D := fun z => by rw [z, gD] at e; cases e
      exact (upd_ne this).trans (le.gh b u e)
    · by_cases z : b = D
      · subst z; exact upd_same.trans (upd_same.symm.trans e)
      · exact (upd_ne z).trans (le.keep b u hm nt ((upd_ne z).symm.trans e))
    · by_cases z : b = D
      · subst z; exact ⟨_, upd_same⟩
      · obtain ⟨o', h'⟩ := le.there b u ((upd_ne z).symm.trans e)
        exact ⟨o', (upd_ne z).trans h'⟩
    · obtain ⟨u, hu⟩ := S1.le.m b hm
      have z : b ≠ D := fun z => by rw [z, wD] at hu; cases hu
      exact ⟨u, (upd_ne z).trans hu⟩
    · obtain ⟨b1, b2⟩ := o.mine i b hb
      have z : b ≠ D := fun z => no i (z ▸ hb)
      exact ⟨b1, b2.imp (fun e => (upd_ne z).trans e) id⟩
    · have z : b ≠ D := fun z => no i (z ▸ hb)
      exact (upd_ne z).trans hu
  refine lc_it (g := gB X scope tg) (tt := ttB X scope ifs) (te := teB X scope elt) (vs := own.map (·.2)) (σ := σ) (Qd := fun H => Q (.ref D) H) src.wk (fun i H' => ∃ G' us, Sts X.K ⟨G1, upd W.H D (.lst us), W.M⟩ (wipeK (F i) (own.map (·.2))) (wipe σ (own.map (·.2))) G' H' ∧ DpAll X.K G' us (ac i))
    ⟨G1, [], by rw [h0]; exact first, by rw [a0]; exact .nil⟩ (fun i H' _ ⟨G', us, S', _⟩ => S'.le.g.trans S'.le.gh) ?_ ?_
  · rintro i x H' H'' hlt ⟨G', us, S', ra⟩ y
    obtain ⟨d, G3, hd, l, r⟩ := y G' S'.le.g S'.gh
    have hst := S'.pure l
    obtain ⟨kb, o, e1, ⟨k2, b, t1, t2, t3⟩, e2⟩ := turn i d hd
    intro s0 H0 C cl fp pins s u I rx
    have c' := c.blk (scope := scope) (own := own) s0 H0 C cl fp
    obtain ⟨g', pg, hg'⟩ := hg _ c'
    refine pg.run pins s _ H'' x u _ I rx ?_
    refine hg' _ _ G3 H'' _ x d kb hst r e1 _ fun σ2 S3 hσ hσl => ⟨wipe_swap (by rw [hσl, wipe_length]) (fun j hj => ?_), ?_⟩
    · rw [hσ j (fun z => hj (hjs' j z)), wipe_out hj]
    · -- the next turn's state, from the block's
      have nxt : ∀ {k3 : List SK} {G4 H4 : Hp} {us' : List V}, Sts X.K ⟨G1, upd W.H D (.lst us'), W.M⟩ k3 σ2 G4 H4 → Wk k3 (wipeK (F (i + 1)) (own.map (·.2))) → Sts X.K ⟨G1, upd W.H D (.lst us'), W.M⟩ (wipeK (F (i + 1)) (own.map (·.2))) (wipe σ (own.map (·.2))) G4 H4 := fun {k3 G4 H4 us'} S4 hw => by
        refine (S4.weak hw).swap (vs := own.map (·.2)) hσl.symm (fun j hj => ?_) fun j hj k' hk' => ?_
        · rw [hσ j (fun z => hj (hjs' j z))]
        · have hlt : j < (F (i + 1)).length := by have := (List.getElem?_eq_some_iff.mp hk').1; rwa [wipeK_length] at this
          rw [wipeK_in hlt hj] at hk'
          exact (Option.some.inj hk').symm
      intro s0' H0' C' cl' fp' pins' s' I'
      refine t1 _ (c.blk (scope := scope) (own := own) s0' H0' C' cl' fp') _ σ2 G3 H'' S3 _ (fun G4 H4 S4 g4 => ?_) pins' s' I'
      cases b with
      | false =>
        obtain ⟨z, hw⟩ := t2 rfl
        subst z
        rw [if_neg Bool.false_ne_true]
        refine ⟨G4, us, nxt S4 hw, ?_⟩
        rw [e2]
        simp only [Option.toList, List.append_nil]
        exact DpAll.mono (l.g.trans g4) ra
      | true =>
        rw [if_pos rfl]
        obtain ⟨d', k3, z, hE, hw⟩ := t3 rfl
        subst z
        intro s0'' H0'' C'' cl'' fp''
        refine hE _ (c.blk (scope := scope) (own := own) s0'' H0'' C'' cl'' fp'') _ σ2 G4 H4 S4 _ (fun v G5 H5 S5 g5 r5 => ?_)
        have ra5 := DpAll.mono ((l.g.trans g4).trans g5) ra
        refine ⟨us, S5.le.keep D _ (fun z => ?_) (fun _ z => by cases z) upd_same, ?_, G5, us ++ [v], nxt (lend S5) hw, ?_⟩
        · obtain ⟨u, hu⟩ := S1.le.m D z
          rw [wD] at hu; cases hu
        · rw [ra.len]
          exact Nat.lt_of_le_of_lt (Nat.le_trans (acl i (Nat.le_of_lt hlt)) (Nat.le_of_lt hlt)) hz
        · rw [e2]
          exact DpAll.append ra5 (.cons r5 .nil)
  · rintro H' ⟨G', us, S', ra⟩
    have hDm : ¬ W.M D := fun z => by
      obtain ⟨u, hu⟩ := S1.le.m D z
      rw [wD] at hu; cases hu
    have hD' : H' D = some (.lst us) := S'.le.keep D _ hDm (fun _ z => by cases z) upd_same
    have gD' : G' D = none := S'.le.fz D _ gD upd_same
    obtain ⟨le, len, ow, o, f⟩ := S'
    have hvl : (F ds.length).length = k1.length := hl _
    have len' : σ.length = (F ds.length).length := by rw [wipe_length, wipeK_length] at len; exact len
    obtain ⟨le1, len1, ow1, o1, f1⟩ := S1
    refine q D G' H' ⟨⟨le1.g.trans le.g, le.gh, fun b u hm nt e => ?_, fun b u e => ?_, fun b u e e2 => ?_, le1.m, le.tb⟩, by simp [len'], fun j => if j = (F ds.length).length then [D] else if j ∈ own.map (·.2) then [] else ow j, ⟨fun i j a' ha hb => ?_, fun i a' ha => ?_, fun i hi => ?_⟩, fun i k' hk => ?_⟩ (g1.trans le.g)
    · have z : b ≠ D := fun z => by rw [z, wD] at e; cases e
      exact le.keep b u hm nt ((upd_ne z).trans e)
    · have z : b ≠ D := fun z => by rw [z, wD] at e; cases e
      exact le.there b u ((upd_ne z).trans e)
    · have z : b ≠ D := fun z => by rw [z, wD] at e2; cases e2
      exact le.fz b u (le1.fz b u e e2) ((upd_ne z).trans e2)
    · have no : ∀ i, D ∉ ow i := fun i h => by
        obtain ⟨_, z⟩ := o.mine i D h
        rcases z with z | ⟨z, _⟩
        · have z := upd_same.symm.trans z
          cases z
        · exact hDm z
      by_cases q1 : i = (F ds.length).length <;> by_cases q2 : j = (F ds.length).length
      · rw [q1, q2]
      · simp only [q1, if_true, q2, if_false] at ha hb
        simp at ha; subst ha
        split at hb
        · cases hb
        · exact (no j hb).elim
      · simp only [q1, if_false, q2, if_true] at ha hb
        simp at hb; subst hb
        split at ha
        · cases ha
        · exact (no i ha).elim
      · simp only [q1, q2, if_false] at ha hb
        split at ha
        · cases ha
        · split at hb
          · cases hb
          · exact o.dis i j a' ha hb
    · by_cases q1 : i = (F ds.length).length
      · simp only [q1, if_true] at ha
        simp at ha; subst ha
        exact ⟨gD', .inl wD⟩
      · simp only [q1, if_false] at ha
        split at ha
        · cases ha
        · rename_i qv
          obtain ⟨b1, b2⟩ := o.mine i a' ha
          refine ⟨b1, ?_⟩
          have z : a' ≠ D := fun z => by
            subst z
            rcases b2 with z | ⟨z, _⟩
            · have z := upd_same.symm.trans z
              cases z
            · exact hDm z
          rcases b2 with e | ⟨e, r, e2⟩
          · exact .inl ((upd_ne z).symm.trans e)
          · refine .inr ⟨e, r, ?_, e2.2⟩
            have e2 := e2.1
            rw [wipeK_out qv] at e2
            rw [List.getElem?_append_left (List.getElem?_eq_some_iff.mp e2).1]; exact e2
    · have h1 : i ≠ (F ds.length).length := by simp at hi; omega
      simp only [h1, if_false]
      split
      · rfl
      · exact o.out i (by rw [wipeK_length]; simp at hi; omega)
    · by_cases q1 : i = (F ds.length).length
      · subst q1
        rw [List.getElem?_append_right (Nat.le_refl _)] at hk
        simp at hk
        subst hk
        simp only [if_true]
        rw [List.getElem?_append_right (by omega), len']
        simp only [Nat.sub_self]
        exact ⟨D, us, rfl, rfl, hD', ra⟩
      · have hi' : i < (F ds.length).length := by have := (List.getElem?_eq_some_iff.mp hk).1; simp at this; omega
        rw [List.getElem?_append_left hi'] at hk
        simp only [q1, if_false]
        rw [List.getElem?_append_left (by omega)]
        by_cases qv : i ∈ own.map (·.2)
        · simp only [qv, if_true]
          obtain ⟨k'', n1, n2, n3⟩ := nw i qv
          rw [hk] at n2
          cases n2
          rcases n3 with z | ⟨d, z⟩
          · subst z
            exact (show ([] : List Addr) = [] from rfl)
          · subst z
            obtain ⟨_, v, e, r1⟩ := f1 i _ n1
            exact ⟨rfl, v, e, Dp.mono le.g r1⟩
        · simp only [qv, if_false]
          have := f i k' (by rw [wipeK_out qv]; exact hk)
          rw [wipe_out qv] at this
          exact this
end
end Z
namespace Z
open PySem PySem.Spec L2
variable [Tabl]
/-! ### a def's promise by its body -/
structure DefAt (K : PySem.W.Frag) (mg : Str → Option Value) (x : Str) (st : Stmt) (ps : List Str) : Prop where
  ex : ∃ f fd, Fun K x x st f fd ∧ mg x = some (.ref f) ∧ Binds K fd ps []
section
variable {P : Program} {w : World} {K : PySem.W.Frag} {mg : Str → Option Value} {base : Heap}
theorem cxOf_ctx {N ps : List Str} {st : Stmt} {qual : Str} {f : Addr} {k : Nat} (S : FnScope N ps (defScope st)) (cdv : Value) (A : Around) (outer : List Env) (s : Shared) (H : Hp) (E : XK) (hr : Room k (A.deeper (PyProof.Rows.envOfC qual (defScope st) s.heap.objs.size f cdv))) :
    Ctx P w K mg base ⟨N, defScope st, fun _ => true⟩ k (cxOf CX0 P w K mg base N qual (defScope st) f cdv A outer s H E).nox where
  hP := rfl
  hw := rfl
  hK := rfl
  hmg := rfl
  hbase := rfl
  hN := rfl
  nd := S.nd
  hs := rfl
  calm' := fun _ => rfl
  room' := fun _ => hr
  un := Nat.lt_of_le_of_lt (Nat.add_le_add_right (Nat.le_add_right _ _) _) hr.un
  po := PassesOwn.never
  fn := rfl
theorem start_sts {W : Wd} {G H : Hp} {N : List Str} {vs : List V} {ds : List PyData} (le : Le W G H) (r : DpAll K G vs ds) (hl : ds.length ≤ N.length) : Sts K W (ds.map SK.dat ++ List.replicate (N.length - ds.length) .no) (L2.start N vs) G H := by
  have hv := r.len
  refine ⟨le, by simp [L2.start]; omega, fun _ => [], ⟨fun _ _ _ h _ => (by cases h), fun _ _ h => (by cases h), fun _ _ => rfl⟩, fun i k hk => ?_⟩
  by_cases q : i < ds.length
  · rw [List.getElem?_append_left (by simpa using q), List.getElem?_map] at hk
    cases e : ds[i]? with
    | none => rw [e] at hk; cases hk
    | some d =>
      rw [e] at hk
      cases hk
      obtain ⟨v, e1, e2⟩ := r.get e
      refine ⟨rfl, v, ?_, e2⟩
      unfold L2.start
      rw [List.getElem?_append_left (by simp; omega), List.getElem?_map, e1]
      rfl
  · rw [List.getElem?_append_right (by simp; omega)] at hk
    have := List.mem_of_getElem? hk
    rw [List.mem_replicate] at this
    rw [this.2]
    exact (show ([] : List Addr) = [] from rfl)
theorem fn_sd {R : List PyData → PyData → Prop} {x : Str} {st : Stmt} {N ps : List Str} {k : Nat} (D : DefAt K mg x st ps) (S : FnScope N ps (defScope st)) (hl : ∀ ds d, R ds d → ds.length = ps.length) (hN : ps.length ≤ N.length)
    (h : ∀ X, Ctx P w K mg base ⟨N, defScope st, fun _ => true⟩ k X → ∀ ds d, R ds d → SD X (ds.map SK.dat ++ List.replicate (N.length - ds.length) .no) (defBody st) { nx := fun _ => d = .none, rt := fun _ d' => d' = d, rl := fun _ ds' => d = .list ds' }) :
    FnG P w K mg base x ps (k + 1) (spP K R) := by
  obtain ⟨f, fd, F, hm, hb⟩ := D.ex
  refine ⟨f, fd, ?_, hm, F.kp, hb⟩
  refine F.ok S (fun vs H Q E ⟨G, ds, d, _, _, r, hR, _⟩ => by rw [r.len]; exact hl ds d hR) (fun cdv A outer s H vs Q E hr ⟨G, ds, d, g, tb, r, hR, q⟩ => ⟨_, pss_sv, ?_⟩)
  have S0 := start_sts (N := N) (Le.refl g tb) r (by rw [hl ds d hR]; exact hN)
  refine h _ (cxOf_ctx S cdv A outer s H E hr) ds d hR _ _ G H _ S0 ⟨fun ks σ G' H' e S' => ?_, fun _ _ _ _ z => z.elim, fun _ _ _ _ z => z.elim, fun ks σ G' H' v d' e S' r' => ?_, fun ks σ G' H' a ds' e S' => ?_, fun _ _ _ _ _ _ _ _ z => z.elim, ex0⟩
  · exact q .non G' H' S'.le (by rw [e]; exact .non)
  · exact q v G' H' S'.le (by rw [← e]; exact r')
  · obtain ⟨G2, S2, g2, r2⟩ := S'.popFreeze
    exact q _ G2 H' S2.le (by rw [e]; exact r2)
/-- a def whose first argument is the drawing state -/
theorem start_rng {W : Wd} {G H : Hp} {N : List Str} {a b : Addr} {r : Rg} {vs : List V} {ds : List PyData} (le : Le W G H) (hr : RngAt H a b r) (ga : G a = none) (gb : G b = none) (ma : W.M a) (mb : W.M b) (rr : DpAll K G vs ds) (hl : ds.length + 1 ≤ N.length) :
    Sts K W (.rng a b r :: (ds.map SK.dat ++ List.replicate (N.length - (ds.length + 1)) .no)) (L2.start N (.ref a :: vs)) G H := by
  have hv := rr.len
  have e : L2.start N (.ref a :: vs) = some (.ref a) :: (vs.map some ++ List.replicate (N.length - (ds.length + 1)) none) := by
    unfold L2.start
    rw [List.map_cons, List.length_cons, hv]
    rfl
  rw [e]
  refine ⟨le, by simp; omega, fun i => if i = 0 then [a, b] else [], ⟨fun i j x h h' => ?_, fun i x h => ?_, fun i hi => ?_⟩, fun i k hk => ?_⟩
  · by_cases q : i = 0 <;> by_cases q' : j = 0 <;> simp only [q, q', if_true, if_false] at h h' <;> first | (rw [q, q']; done) | exact absurd h List.not_mem_nil | exact absurd h' List.not_mem_nil
  · by_cases q : i = 0
    · simp only [q, if_true] at h
      have : x = a ∨ x = b := by simpa using h
      rcases this with z | z <;> subst z
      · exact ⟨ga, .inr ⟨ma, _, by rw [q]; rfl, rfl⟩⟩
      · exact ⟨gb, .inr ⟨mb, _, by rw [q]; rfl, rfl⟩⟩
    · simp only [q, if_false] at h; cases h
  · have : i ≠ 0 := by simp at hi; omega
    simp only [this, if_false]
  · cases i with
    | zero =>
      cases hk
      exact ⟨rfl, rfl, hr.1, hr.2.1, hr.2.2⟩
    | succ i =>
      simp only [Nat.succ_ne_zero, if_false]
      have hk' : (ds.map SK.dat ++ List.replicate (N.length - (ds.length + 1)) .no)[i]? = some k := hk
      show Sl K G H k (((vs.map some ++ List.replicate (N.length - (ds.length + 1)) none)[i]?).getD none) []
      by_cases q : i < ds.length
      · rw [List.getElem?_append_left (by simpa using q), List.getElem?_map] at hk'
        cases e : ds[i]? with
        | none => rw [e] at hk'; cases hk'
        | some d =>
          rw [e] at hk'
          cases hk'
          obtain ⟨v, e1, e2⟩ := rr.get e
          refine ⟨rfl, v, ?_, e2⟩
          rw [List.getElem?_append_left (by simp; omega), List.getElem?_map, e1]
          rfl
      · rw [List.getElem?_append_right (by simp; omega)] at hk'
        have := List.mem_of_getElem? hk'
        rw [List.mem_replicate] at this
        rw [this.2]
        exact (show ([] : List Addr) = [] from rfl)
theorem fn_sdR {R : Rg → List PyData → Rg → PyData → Prop} {x : Str} {st : Stmt} {N ps : List Str} {k : Nat} (D : DefAt K mg x st ps) (S : FnScope N ps (defScope st)) (hl : ∀ r ds r2 d, R r ds r2 d → ds.length + 1 = ps.length) (hN : ps.length ≤ N.length)
    (h : ∀ X, Ctx P w K mg base ⟨N, defScope st, fun _ => true⟩ k X → ∀ a b r ds r2 d, R r ds r2 d → SD X (.rng a b r :: (ds.map SK.dat ++ List.replicate (N.length - (ds.length + 1)) .no)) (defBody st)
      { nx := fun ks => d = .none ∧ ks[0]? = some (.rng a b r2), rt := fun ks d' => d' = d ∧ ks[0]? = some (.rng a b r2), rl := fun ks ds' => d = .list ds' ∧ ks[0]? = some (.rng a b r2) }) :
    FnG P w K mg base x ps (k + 1) (spR K R) := by
  obtain ⟨f, fd, F, hm, hb⟩ := D.ex
  refine ⟨f, fd, ?_, hm, F.kp, hb⟩
  refine F.ok S (fun vs H Q E ⟨G, a, b, us, r, ds, r2, d, e, _, _, _, _, _, rr, hR, _⟩ => by rw [e, List.length_cons, rr.len]; exact hl r ds r2 d hR) (fun cdv A outer s H vs Q E hr ⟨G, a, b, us, r, ds, r2, d, e, g, tb, hrg, ga, gb, rr, hR, q⟩ => ⟨_, pss_sv, ?_⟩)
  subst e
  have le : Le ⟨G, H, fun x => x = a ∨ x = b⟩ G H := ⟨Same.refl G, g, fun _ _ _ _ e => e, fun _ o e => ⟨o, e⟩, fun _ _ e _ => e, fun x hx => by
    rcases hx with z | z <;> subst z
    · exact ⟨_, hrg.1⟩
    · exact ⟨_, hrg.2.1⟩, tb⟩
  have S0 := start_rng (N := N) le hrg ga gb (.inl rfl) (.inr rfl) rr (by rw [hl r ds r2 d hR]; exact hN)
  refine h _ (cxOf_ctx S cdv A outer s H E hr) a b r ds r2 d hR _ _ G H _ S0 ⟨fun ks σ G' H' e S' => ?_, fun _ _ _ _ z => z.elim, fun _ _ _ _ z => z.elim, fun ks σ G' H' v d' e S' r' => ?_, fun ks σ G' H' p ds' e S' => ?_, fun _ _ _ _ _ _ _ _ z => z.elim, ex0⟩
  · exact q .non G' H' S'.le (S'.rngAt e.2).2.1 (by rw [e.1]; exact .non)
  · exact q v G' H' S'.le (S'.rngAt e.2).2.1 (by rw [← e.1]; exact r')
  · obtain ⟨G2, S2, g2, r2⟩ := S'.popFreeze
    exact q _ G2 H' S2.le (S2.rngAt e.2).2.1 (by rw [e.1]; exact r2)
end
end Z
/-! ### enumerate of a tuple -/
namespace Z
open PySem PySem.Spec L2
variable [Tabl]
section
open Sem (wp)
open AutoSeq1 (wpAny_loadPart')
theorem zmeets_enumT (t : Addr) (items : Array Value) : Meets (Builtin.«enumerate.__new__» ⟨[.type "enumerate", .ref t], []⟩) (fun _ R s => s.heap.IsTuple t items ∧
      R (.ok (.ret (.ref (s.heap.push { cls := .type "tuple_iterator", data := .fields #[.ref t, .int 0 0] }).objs.size))) { s with heap := (s.heap.push { cls := .type "tuple_iterator", data := .fields #[.ref t, .int 0 0] }).push { cls := .type "enumerate", data := .fields #[.none, .bool false, .ref s.heap.objs.size, rawInt 0, .none, .none] } }) :=
  .of_wp fun prog w A R s hh => by
    obtain ⟨zp, zg, zd, zt, zo⟩ := s
    obtain ⟨ht, hr⟩ := hh
    have zsub := sub_enumerate
    have zit : ∀ {A' : Around} {E : Value → Shared → Prop} {Q : Value → Shared → Prop}, Q (.ref zp.objs.size) ⟨zp.push { cls := .type "tuple_iterator", data := .fields #[.ref t, .int 0 0] }, zg, zd, zt, zo⟩ → wpAny (model prog w) A' (pyIter (.ref t)) Q E ⟨zp, zg, zd, zt, zo⟩ :=
      fun q => (begins_tuple t items).iter prog w _ _ ⟨zp, zg, zd, zt, zo⟩ _ ht q
    wp_walk using zit
    refine wpAny_stack_any fun zst => wpAny_pure ?_
    split
    · rename_i cz _ _ _ _ _
      cases (cz == Value.type "enumerate")
      · wp_walk using zit
        exact ⟨_, rfl, hr⟩
      · wp_walk using zit
        exact ⟨_, rfl, hr⟩
    · wp_walk using zit
      exact ⟨_, rfl, hr⟩
theorem zcall_enumT {prog : Program} {w : World} {A : Around} {E : Value → Shared → Prop} {s : Shared} {t : Addr} {items : Array Value} {Q : Value → Shared → Prop} (ht : s.heap.IsTuple t items)
    (h : ∀ h', IsEnum h' (s.heap.objs.size + 1) s.heap.objs.size 0 .none → h'.IsTupleIter s.heap.objs.size t 0 → h'.objs.size = s.heap.objs.size + 2 → (∀ b o, s.heap.get? b = some o → h'.get? b = some o) → Q (.ref (s.heap.objs.size + 1)) { s with heap := h' }) :
    wpAny (model prog w) A (call (.type "enumerate") [.ref t]) Q E s := by
  refine callType_new F.called_enumerate (by decide) (F.typeCall_enumerate_1 _) (F.newCall_enumerate_1 _) (fun ob => F.args_object_init_2 ob _) F.entry_enumerate_new (zmeets_enumT t items) ⟨ht, ?_⟩
  have zz : (s.heap.push { cls := .type "tuple_iterator", data := .fields #[.ref t, .int 0 0] }).objs.size = s.heap.objs.size + 1 := Heap.size_push ..
  show _ ∧ _
  rw [zz]
  have ze : IsEnum ((s.heap.push { cls := .type "tuple_iterator", data := .fields #[.ref t, .int 0 0] }).push { cls := .type "enumerate", data := .fields #[.none, .bool false, .ref s.heap.objs.size, rawInt 0, .none, .none] }) (s.heap.objs.size + 1) s.heap.objs.size 0 .none := by
    have zq := Heap.get?_push_size (s.heap.push { cls := .type "tuple_iterator", data := .fields #[.ref t, .int 0 0] }) (o := { cls := .type "enumerate", data := .fields #[.none, .bool false, .ref s.heap.objs.size, rawInt 0, .none, .none] }) rfl
    rw [zz] at zq
    exact zq
  exact ⟨⟨_, ze, rfl⟩, h _ ze ⟨_, Heap.get?_push_of_some _ (Heap.get?_push_size _ rfl), rfl, rfl⟩ (by rw [Heap.size_push, zz]) fun b o q => Heap.get?_push_of_some _ (Heap.get?_push_of_some _ q)⟩
end
def IteT (K : PySem.W.Frag) (a : Addr) : It :=
  ⟨fun i H => ∃ (xs : List V) (x : V), SqT K H a xs ∧ xs[i]? = some x, fun i H v H' => ∃ T x, v = .ref T ∧ H T = none ∧ H' = upd H T (.tup [.int (i : Nat), x]) ∧ ∀ xs, SqT K H a xs → xs[i]? = some x, fun i H => ∃ xs : List V, SqT K H a xs ∧ xs.length = i⟩
theorem tupIt_ne {h : Heap} {a it : Addr} {i : Nat} {its : Array Value} (ht : h.IsTuple a its) (hi : h.IsTupleIter it a i) : a ≠ it := fun z => by
  subst z
  obtain ⟨o, ho, hc, _⟩ := ht
  obtain ⟨o', ho', hc', _⟩ := hi
  rw [ho] at ho'
  cases ho'
  rw [hc] at hc'
  exact absurd hc' (by decide)
theorem zturn_enumT {P : Program} {w : World} {K : PySem.W.Frag} {elts : List Expr} {kk : Nat} {tpos : Pos} (a e it : Addr) :
    Turn P w K (.Tuple elts kk tpos) (IteT K a) [e, it] e (fun i h => (∃ old, IsEnum h e it ((i : Nat) : Int) old) ∧ h.IsTupleIter it a i ∧ e ≠ it) where
  mem := by simp
  obj := fun i h st b hb => by
    obtain ⟨⟨old, ze⟩, ⟨o, zo, _, zd⟩, _⟩ := st
    rcases (show b = e ∨ b = it by simpa using hb) with q | q <;> subst q
    · exact ⟨_, ze, fun v q => nomatch q⟩
    · exact ⟨o, zo, fun v q => by rw [zd] at q; cases q⟩
  keep := fun i h h' st k => by
    obtain ⟨⟨old, ze⟩, zi, zn⟩ := st
    exact ⟨⟨old, k e (by simp) _ ze⟩, zi.at fun o q => k it (by simp) o q, zn⟩
  item := by
    intro X hP hw hK hc i pins s σ H E I hf st hg
    subst hP hw hK
    obtain ⟨⟨old, ze⟩, zi, zn⟩ := st
    obtain ⟨xs, x, hq, hx⟩ := hg
    obtain ⟨its, rv, p, hz⟩ := I.tuple hq
    have pt : s.heap.IsTuple a its.toArray := p
    obtain ⟨u0, hu0, ru0⟩ := rv.get hx
    have hlt : i < its.toArray.size := by
      have := (List.getElem?_eq_some_iff.mp hu0).1
      simpa using this
    have zne := tupIt_ne pt zi
    have zel : e < s.heap.objs.size := Heap.lt_size ze
    have zil : it < s.heap.objs.size := by obtain ⟨_, q, _⟩ := zi; exact Heap.lt_size q
    have zea : e ∉ [it, a] := by
      intro z
      rcases (show e = it ∨ e = a by simpa using z) with z | z
      · exact zn z
      · subst z
        obtain ⟨o, ho, hcl, _⟩ := pt
        have ze' : s.heap.get? e = some _ := ze
        rw [ze'] at ho
        cases ho
        exact absurd (show Value.type "enumerate" = Value.type "tuple" from hcl) (by decide)
    have zh : X.A.in1.handled = none := I.ok.hd hc
    refine wpAny_pyNext_enum_itemD (Draws.tuple zh it a zne its.toArray) ze ⟨zi, pt⟩ hlt zn zea fun u h' tk hu ho st' hT hsz hk => ?_
    have hu' : its[i]? = some u := by simpa using hu
    have ru : RelV x u := by
      rw [hu0] at hu'
      cases hu'
      exact ru0
    refine ⟨_, rfl, wpAny_letOwnedTupleGo_enum (s := { s with heap := h', toks := tk + 1 }) ho fun h'' he' sb => ?_⟩
    have hT2 : h''.get? s.heap.objs.size = some { cls := .type "tuple", data := .seq #[.int i tk, u] } := (sb.2 _ (Nat.ne_of_gt zel)).trans hT
    have new : ObjOk X.prog X.w (upd H s.heap.objs.size (.tup [.int (i : Nat), x])) h'' s.heap.objs.size (.tup [.int (i : Nat), x]) :=
      ⟨by show 2 ≤ sizeLine; decide, [.int i tk, u], .cons ⟨_, rfl⟩ (.cons ru .nil), ⟨_, hT2, rfl, _, rfl⟩⟩
    have I1 : Inv X pins σ (upd H s.heap.objs.size (.tup [.int (i : Nat), x])) { s with heap := h'', toks := tk + 1 } :=
      I.turnedNew (ch := [e, it]) (fun b ob hb q => (sb.2 b (fun z => hb (by simp [z]))).trans (hk b ob (fun z => hb (by simp [z])) (fun z => hb (by simp [z])) q)) hf (Nat.le_refl _) new
    refine ⟨.ref s.heap.objs.size, _, I1, rfl, ⟨_, x, rfl, I.hok.fresh (Nat.le_refl _), rfl, fun ys hy => by rw [I.tuple_inj hy hq]; exact hx⟩, ⟨⟨u, ?_⟩, st'.1.at fun o q => (sb.2 it (Ne.symm zn)).trans q, zn⟩, fun b hb => ?_⟩
    · have e1 : ((i + 1 : Nat) : Int) = (i : Int) + 1 := by omega
      rw [e1]; exact he'
    · have hb' : b < s.heap.objs.size := by
        rcases (show b = e ∨ b = it by simpa using hb) with z | z
        · rw [z]; exact zel
        · rw [z]; exact zil
      rw [upd_ne (Nat.ne_of_lt hb')]
      exact (hf b hb).1
  done := by
    intro X hP hw hK hc i pins s σ H E I hf st hg
    subst hP hw hK
    obtain ⟨⟨old, ze⟩, zi, zn⟩ := st
    obtain ⟨xs, hq, hx⟩ := hg
    obtain ⟨its, rv, p, hz⟩ := I.tuple hq
    have pt : s.heap.IsTuple a its.toArray := p
    obtain ⟨f0, f1, f2, f3, f4, f5⟩ := hf it (by simp)
    have hl := rv.length
    have zne := tupIt_ne pt zi
    have zh : X.A.in1.handled = none := I.ok.hd hc
    obtain ⟨o, ho, hcl, hd⟩ := id zi
    have zis : s.heap.IsTupleIter it a i ∧ s.heap.IsTuple a its.toArray := ⟨zi, pt⟩
    have q : i = its.toArray.size := by simp; omega
    subst q
    exact wpAny_pyNext_enum_endD (Draws.tuple zh it a zne its.toArray) ze zis fun h' eb => ⟨rfl, I.turned (t' := s.toks) (fun b o hb q => eb b o hb q) f0 f1 f3 f4 f5⟩
  self := fun A i s Q E st q => by
    obtain ⟨⟨_, ze⟩, _⟩ := st
    exact wpAny_pyIter_enum ze q
def iEnumT (K : PySem.W.Frag) (ta : TA) : TI := fun σ H R => ta σ H fun vs H1 => ∃ a xs, vs = [.ref a] ∧ SqT K H1 a xs ∧ R (IteT K a) H1
theorem zpi_enumT {X : Cx} {e : Expr} {ta : TA} {p pos tpos : Pos} {elts : List Expr} {kk : Nat} (hg : Gl X "enumerate") (hm : X.mg "enumerate" = none) (ha : PA X [e] ta) (hs : starEach [e] X.env = [(false, eval e X.env)]) :
    PI X (.Tuple elts kk tpos) (.Call (.Name "enumerate" p) [e] [] pos) (iEnumT X.K ta) := by
  refine ⟨fun pins s σ H R I h => ?_⟩
  refine PyProof.Rows.Call_ (ld_blt I hg hm PyProof.Rows.boot_enumerate (PyProof.Rows.callWith_type1 (thn (ha.run pos pins s σ H _ I h) fun us s1 ⟨vs, H1, I1, r1, q1⟩ => ?_) hs rfl))
  obtain ⟨a, xs, ex, hq, q⟩ := q1
  subst ex
  cases r1 with
  | cons r rr =>
    cases rr
    cases r
    obtain ⟨its, rv, p', hz⟩ := I1.tuple hq
    refine zcall_enumT (show s1.heap.IsTuple a its.toArray from p') fun h' he hit hsz hk => wpAny_pyIter_enum he ?_
    have I2 : Inv X pins σ H1 { s1 with heap := h' } := I1.kept (t' := s1.toks) hk
    refine ⟨s1.heap.objs.size + 1, [s1.heap.objs.size + 1, s1.heap.objs.size], _, _, H1, rfl, I2, zturn_enumT a (s1.heap.objs.size + 1) s1.heap.objs.size, ⟨⟨.none, he⟩, hit, Nat.succ_ne_self _⟩, fun b hb => ?_, q⟩
    have hle : s1.heap.objs.size ≤ b := by
      rcases (show b = s1.heap.objs.size + 1 ∨ b = s1.heap.objs.size by simpa using hb) with z | z
      · rw [z]; exact Nat.le_add_right _ _
      · rw [z]; exact Nat.le_refl _
    exact I1.fpOk hle (I1.hok.fresh hle)
theorem walk_enumT {K : PySem.W.Frag} {a : Addr} {xs : List V} : Walk (IteT K a) xs.length (fun H => SqT K H a xs) (YPair (fun i => some (.int (i : Nat))) (fun i => xs[i]?)) := by
  refine ⟨fun i _ hi q => ⟨xs, xs[i], q, by simp [hi]⟩, fun _ q => ⟨xs, q, rfl⟩, fun i H v H' _ q y => ?_⟩
  obtain ⟨T, x, h1, h2, h3, h4⟩ := y
  exact ⟨T, .int (i : Nat), x, h1, h2, h3, rfl, h4 xs q⟩
section
variable {P : Program} {w : World} {K : PySem.W.Frag} {mg : Str → Option Value} {base : Heap} {T : Sta} {k : Nat} {X : Cx} {ks k1 k2 k3 : List SK} {a b e : Expr} {es : List Expr} {d da db : PyData} {ds : List PyData} {pos p tpos : Pos} {rest body orelse : List Stmt} {Φ : Po}
/-- i, x of enumerate -/
def enumD (ds : List PyData) : List PyData := (List.range ds.length).map fun i => .tuple [.int (i : Nat), ds.getD i .none]
theorem enumD_len (ds : List PyData) : (enumD ds).length = ds.length := by simp [enumD]
theorem enumD_get {ds : List PyData} {i : Nat} {d : PyData} (h : ds[i]? = some d) : (enumD ds)[i]? = some (.tuple [.int (i : Nat), d]) := by
  have hi := (List.getElem?_eq_some_iff.mp h).1
  unfold enumD
  rw [List.getElem?_map, List.getElem?_range hi]
  simp [List.getD_eq_getElem?_getD, h]
theorem enumD_inv {ds : List PyData} {i : Nat} {z : PyData} (h : (enumD ds)[i]? = some z) : ∃ d, ds[i]? = some d ∧ z = .tuple [.int (i : Nat), d] := by
  have hi := (List.getElem?_eq_some_iff.mp h).1
  rw [enumD_len] at hi
  have e : ds[i]? = some ds[i] := by simp [hi]
  rw [enumD_get e] at h
  exact ⟨_, e, (Option.some.inj h).symm⟩
theorem src_pair {J : It} {Gs : Hp} {vs : List V} {n : Nat} {x y : Nat → Option V} {es : List PyData} {Gc : Hp → Prop} (wk : Walk J n Gc (YPair x y)) (hn : n = es.length) (hG : ∀ H, Same Gs H → Gc H)
    (hd : ∀ i u v, i < n → x i = some u → y i = some v → ∃ d d', es[i]? = some (.tuple [d, d']) ∧ Dp K Gs u d ∧ Dp K Gs v d') : SrcOk K J Gs es := by
  subst hn
  refine ⟨wk.mono (fun H s => hG H s) fun i H v H' hi s yy => ?_⟩
  obtain ⟨t, u, v', rfl, nT, rfl, hx, hy⟩ := yy
  intro G s1 s2
  obtain ⟨d, d', h1, h2, h3⟩ := hd i u v' hi hx hy
  have l := Lp.new (o := .tup [u, v']) s2 nT
  exact ⟨_, _, h1, l, .tup (SqT.of upd_same) (.cons (Dp.mono (s1.trans l.g) h2) (.cons (Dp.mono (s1.trans l.g) h3) .nil))⟩
theorem id_enumT {elts : List Expr} {kk : Nat} (c : CtxB cq P w K mg base T k X) (hg : T.sc.names.lookup ("enumerate" : Str) = some .globalImplicit) (hm : mg "enumerate" = none) (h : ED X ks a k1 (.tuple ds)) (hs : starEach [a] X.env = [(false, eval a X.env)]) :
    ID X ks (.Tuple elts kk tpos) (.Call (.Name "enumerate" p) [a] [] pos) k1 (enumD ds) := fun W σ G H S R q => by
  refine iv_of (zpi_enumT (gl_of c hg) (by rw [c.hmg]; exact hm) (pa_cons pe_ev pa_nil hs) hs) (h W σ G H S _ fun v G2 H2 S2 g r => ?_)
  obtain ⟨a, vs, rfl, sa, aa⟩ := r.tup_inv
  refine ⟨a, vs, rfl, Same.seqT S2.gh sa, q _ G2 H2 S2 g (src_pair (vs := vs) walk_enumT (by rw [enumD_len, aa.len]) (fun H s => Same.seqT s sa) fun i u v hi hx hy => ?_)⟩
  obtain ⟨d, hd, rd⟩ := aa.getV hy
  have hx := (Option.some.inj hx).symm
  subst hx
  exact ⟨_, d, enumD_get hd, .int _, rd⟩
/-! ### subscripts, slices, in -/
def ixD : PyData → Int → Option PyData
  | .tuple ds, i => atI ds i
  | .list ds, i => atI ds i
  | _, _ => none
theorem ed_ix {i : Int} (ha : ED X ks a k1 da) (hb : ED X k1 b k2 (.int i)) (hi : ixD da i = some d) (hs : PlainIx b) : ED X ks (.Subscript a b pos) k2 d := by
  cases da with
  | tuple ds => exact ed_ixT ha hb hi hs
  | list ds => exact ed_ixL ha hb hi hs
  | _ => cases hi
def seqD : PyData → Option (List PyData)
  | .tuple ds => some ds
  | .list ds => some ds
  | _ => none
theorem id_seq {tg : Expr} (h : ED X ks e k1 d) (hd : seqD d = some ds) : ID X ks tg e k1 ds := by
  cases d with
  | tuple ds' => cases hd; exact id_tup h
  | list ds' => cases hd; exact id_lst h
  | _ => cases hd
/-- an optional part of a slice -/
def POd (X : Cx) (ks : List SK) (e : Option Expr) (o : Option Int) : Prop := ∃ t : TO, PO X e t ∧ ∀ W σ G H, Sts X.K W ks σ G H → ∀ Q : Option Int → Hp → Prop, (∀ G2 H2, Sts X.K W ks σ G2 H2 → Same G G2 → Q o H2) → t σ H Q
theorem po_no : POd X ks none none := ⟨_, po_none, fun W σ G H S Q q => q G H S (Same.refl G)⟩
theorem po_yes {i : Int} (h : ED X ks e ks (.int i)) : POd X ks (some e) (some i) := ⟨_, po_some pe_ev, fun W σ G H S Q q => h W σ G H S _ fun v G2 H2 S2 g r => ⟨i, r.int_inv, q G2 H2 S2 g⟩⟩
def cutD (xs : List PyData) (lo hi : Option Int) : List PyData := (xs.drop (HT.sIx xs.length 0 lo)).take (HT.sIx xs.length xs.length hi - HT.sIx xs.length 0 lo)
theorem DpAll.cut {G : Hp} {vs : List V} {ds : List PyData} (r : DpAll K G vs ds) (lo hi : Option Int) : DpAll K G (cutV vs lo hi) (cutD ds lo hi) := by
  unfold cutV cutD
  rw [r.len]
  exact (r.drop _).take _
theorem el_slL {lo hi : Option Expr} {l h : Option Int} {p2 : Pos} (ha : ED X ks a k1 (.list ds)) (hl : POd X k1 lo l) (hh : POd X k1 hi h) : EL X ks (.Subscript a (.Slice lo hi none p2) pos) k1 (cutD ds l h) := by
  obtain ⟨tl, pl, ql⟩ := hl
  obtain ⟨th, ph, qh⟩ := hh
  intro W σ G H S Q q
  refine ev_of (pe_slice sl_list pe_ev pl ph) (ha W σ G H S _ fun v G1 H1 S1 g1 r1 => ql W σ G1 H1 S1 _ fun G2 H2 S2 g2 => qh W σ G2 H2 S2 _ fun G3 H3 S3 g3 => ?_)
  obtain ⟨t, vs, rfl, sa, aa⟩ := r1.lst_inv
  have sa3 := (g2.trans g3).seq sa
  have aa3 := DpAll.mono (g2.trans g3) aa
  refine ⟨t, vs, rfl, S3.gh.seq sa3, fun m nm => ?_⟩
  have gm : G3 m = none := by
    cases e : G3 m with
    | none => rfl
    | some u => rw [S3.gh m u e] at nm; cases nm
  have le := Lp.newOwn (o := .lst (cutV vs l h)) S3.gh nm
  exact q m G3 _ (S3.push le nm gm upd_same (DpAll.cut aa3 l h)) ((g1.trans g2).trans g3)
/-! ### unpacking, a list of our own handed back -/
theorem sd_unpack (c : CtxB cq P w K mg base T k X) {tg : Expr} {f : PyData → List SK → Option (List SK)} {js : List Nat} (h : ED X ks e k1 d) (hg : GD X tg f js) (hf : f d k1 = some k2) (hs : swapsWithSole [tg] e pos.line X.env = pure false) (hw : swappedStores [tg] e X.env = pure none)
    (h1 : (assignEach [tg] X.env).map (·.2) = [assign tg X.env]) (q : SD X k2 rest Φ) : SD X ks (.Assign [tg] e pos :: rest) Φ := fun W σ G H D S M => by
  obtain ⟨g, pg, hg⟩ := hg
  refine sv_of (pss_cons (ps_asg pe_ev pg hs hw h1) pss_sv) ?_
  refine h W σ G H S _ fun v G2 H2 S2 g2 r => ?_
  exact hg W σ G2 H2 k1 v d k2 S2 r hf _ fun σ2 S3 _ _ => q W σ2 G2 H2 D S3 M
end
end Z
namespace Z
open PySem PySem.Spec L2
/-! ### books as data -/
abbrev Row := Int × Int × Int × Int
structure Book where
  fl : List (List Int)
  st : List Row
  ca : List Row
  bi : List Int
def eInts (l : List Int) : PyData := .tuple (l.map .int)
def eRow (r : Row) : PyData := .tuple [.int r.1, .int r.2.1, .int r.2.2.1, .int r.2.2.2]
def eBook (B : Book) : PyData := .tuple [.tuple (B.fl.map eInts), .tuple (B.st.map eRow), .tuple (B.ca.map eRow), eInts B.bi]
abbrev Book.n (B : Book) : Nat := B.fl.length
def Book.row (B : Book) (o : Int) : List Int := B.fl.getD o.toNat []
def Book.f (B : Book) (o h : Int) : Int := (B.row o).getD h.toNat 0
def Book.off (B : Book) (o : Int) : Prop := 0 ≤ o ∧ o < (B.n : Int)
structure GoodRow (B : Book) (r : Row) : Prop where
  a : B.off r.1
  b : B.off r.2.1
  ne : r.1 ≠ r.2.1
  h0 : 0 ≤ r.2.2.1
  h1 : r.2.2.1 < r.2.2.2
  h2 : r.2.2.2 ≤ 99
structure Good (B : Book) : Prop where
  n2 : 2 ≤ B.n
  n6 : B.n ≤ 6
  rows : ∀ r ∈ B.fl, r.length = B.n
  vals : ∀ o h, B.off o → B.off h → if h = o then B.f o h = 0 else 1 ≤ B.f o h ∧ B.f o h ≤ 9
  st : ∀ r ∈ B.st, GoodRow B r
  stl : B.st.length ≤ 8
  ca : ∀ r ∈ B.ca, GoodRow B r
  cal : B.ca.length ≤ 12
  bi : ∀ h ∈ B.bi, B.off h
  bil : B.bi.length ≤ 6
/-! ### indices -/
theorem atI_of {α : Type} {xs : List α} {i : Int} (h0 : 0 ≤ i) (h1 : i < xs.length) (d : α) : atI xs i = some (xs.getD i.toNat d) := by
  obtain ⟨j, rfl⟩ : ∃ j : Nat, i = (j : Int) := ⟨i.toNat, by omega⟩
  rw [Int.toNat_natCast]
  have hj : j < xs.length := by omega
  exact atI_nat (by rw [List.getD_eq_getElem?_getD]; simp [hj])
theorem atI_map {α β : Type} (f : α → β) (xs : List α) (i : Int) : atI (xs.map f) i = (atI xs i).map f := by
  unfold atI
  rw [List.length_map]
  cases ixN xs.length i with
  | none => rfl
  | some j => simp
theorem ix_fl {B : Book} {o : Int} (h : B.off o) : ixD (.tuple (B.fl.map eInts)) o = some (eInts (B.row o)) := by
  show atI _ _ = _
  rw [atI_map, atI_of h.1 h.2 []]
  rfl
theorem row_len {B : Book} {o : Int} (g : Good B) (h : B.off o) : (B.row o).length = B.n := by
  refine g.rows _ ?_
  unfold Book.row
  have h1 := h.1
  have h2 : o < (B.fl.length : Int) := h.2
  have : o.toNat < B.fl.length := by omega
  rw [List.getD_eq_getElem?_getD, List.getElem?_eq_getElem this]
  simp
theorem ix_row {B : Book} {o h : Int} (g : Good B) (ho : B.off o) (hh : B.off h) : ixD (eInts (B.row o)) h = some (.int (B.f o h)) := by
  show atI _ _ = _
  rw [atI_map, atI_of hh.1 (by rw [row_len g ho]; exact hh.2) 0]
  rfl
theorem ed_to [Tabl] {X : Cx} {ks k1 : List SK} {e : Expr} {d d' : PyData} (h : ED X ks e k1 d) (e' : d = d') : ED X ks e k1 d' := e' ▸ h
theorem td_to [Tabl] {X : Cx} {ks k1 : List SK} {e : Expr} {b b' : Bool} (h : TD X ks e k1 b) (e' : b = b') : TD X ks e k1 b' := e' ▸ h
theorem decT {p : Prop} [Decidable p] (h : p) : decide p = true := decide_eq_true h
end Z
namespace Z
open PySem PySem.Spec L2
variable [Tabl]
section
variable {P : Program} {w : World} {K : PySem.W.Frag} {mg : Str → Option Value} {base : Heap} {T : Sta} {k : Nat} {X : Cx} {ks k1 k2 k3 : List SK} {a b e : Expr} {es : List Expr} {d da db : PyData} {ds : List PyData} {pos p tpos : Pos} {rest body orelse : List Stmt} {Φ : Po}
/-! ### loops with a word of their own -/
theorem sd_forP (c : Ctx P w K mg base T k X) {tg iter : Expr} {f : PyData → List SK → Option (List SK)} {js : List Nat} (F : Nat → List SK → Prop) (hi : ID X ks tg iter k1 ds) (hg : GD X tg f js) (h0 : F 0 k1)
    (turn : ∀ i d ls, ds[i]? = some d → F i ls → ∃ kb, f d ls = some kb ∧ SD X kb body { Φ with nx := F (i + 1), ct := F (i + 1), bk := fun _ => False })
    (fin : ∀ ls, F ds.length ls → SD X ls rest Φ) (hs : ∀ x, foldedSetIterable iter X.env x = pure x) : SD X ks (.For tg iter body [] pos :: rest) Φ := fun W σ G H D S M => by
  obtain ⟨g, pg, hg⟩ := hg
  have hp := c.po
  refine sv_of (pss_cons (ps_for hp c.calm pi_iv pg pss_sv hs) pss_sv) ?_
  refine hi W σ G H S _ fun J G2 H2 S2 g2 src => ?_
  refine for_it src.wk (fun i σ' H' => ∃ G' ls, F i ls ∧ Sts X.K W ls σ' G' H' ∧ Same G2 G') ⟨G2, _, h0, S2, Same.refl G2⟩ (fun i σ' H' _ ⟨G', ls, _, S', g'⟩ => g'.trans S'.gh) ?_ ?_
  · rintro i x σ' H' H'' hlt ⟨G', ls, fl, S', g'⟩ y
    obtain ⟨d, G3, hd, l, r⟩ := y G' g' S'.gh
    obtain ⟨kb, e, b⟩ := turn i d ls hd fl
    refine hg W σ' G3 H'' ls x d kb (S'.pure l) r e _ fun σ2 S3 _ _ => ?_
    refine b ⟨G2, W.H, W.M⟩ σ2 G3 H'' _ (S3.rebase S2.le.g (g'.trans l.g)) ⟨fun ks σ G H q S => ⟨G, ks, q, S.unbase S2.le, S.le.g⟩, fun _ _ _ _ q => q.elim, fun ks σ G H q S => ⟨G, ks, q, S.unbase S2.le, S.le.g⟩, fun ks σ G H v d q S r => M.rt ks σ G H v d q (S.unbase S2.le) r, fun ks σ G H a ds q S => M.rl ks σ G H a ds q (S.unbase S2.le), fun ks σ G H a ds es fs q S => M.rT ks σ G H a ds es fs q (S.unbase S2.le), M.exU S2.le⟩
  · rintro σ' H' ⟨G', ls, fl, S', g'⟩
    exact fin ls fl W σ' G' H' D S' M
/-- slots by the turn, and a word of the turn -/
theorem sd_forJ (c : Ctx P w K mg base T k X) {tg iter : Expr} {f : PyData → List SK → Option (List SK)} {js : List Nat} (F : Nat → List SK) (J : Nat → Prop) (hi : ID X ks tg iter k1 ds) (hg : GD X tg f js) (h0 : Wk k1 (F 0)) (j0 : J 0)
    (turn : ∀ i d, ds[i]? = some d → J i → ∃ kb, f d (F i) = some kb ∧ SD X kb body { Φ with nx := fun k => Wk k (F (i + 1)) ∧ J (i + 1), ct := fun k => Wk k (F (i + 1)) ∧ J (i + 1), bk := fun _ => False })
    (fin : J ds.length → SD X (F ds.length) rest Φ) (hs : ∀ x, foldedSetIterable iter X.env x = pure x) : SD X ks (.For tg iter body [] pos :: rest) Φ := by
  by_cases hz : ds.length = 0
  · refine sd_forP c (fun i ls => Wk ls (F i) ∧ J i ∧ (i = 0 ∨ ls = F i)) hi hg ⟨h0, j0, .inl rfl⟩ (fun i d ls hd => ?_) (fun ls hl => sd_weak hl.1 (fin hl.2.1)) hs
    have := (List.getElem?_eq_some_iff.mp hd).1
    omega
  · exact fun W σ G H D S M => by
      refine sd_forP (Φ := Φ) c (fun i ls => ls = F i ∧ J i) (k1 := F 0) (fun W σ G H S R q => hi W σ G H S R fun Jt G2 H2 S2 => q Jt G2 H2 (S2.weak h0)) hg ⟨rfl, j0⟩ (fun i d ls hd hl => ?_) (fun ls hl => ?_) hs W σ G H D S M
      · obtain ⟨rfl, hj⟩ := hl
        obtain ⟨kb, e, b⟩ := turn i d hd hj
        refine ⟨kb, e, fun W σ G H D S M => b W σ G H D S ⟨fun ks σ G H q S => M.nx (F (i + 1)) σ G H ⟨rfl, q.2⟩ (S.weak q.1), fun _ _ _ _ q => q.elim, fun ks σ G H q S => M.ct (F (i + 1)) σ G H ⟨rfl, q.2⟩ (S.weak q.1), M.rt, M.rl, M.rT, M.ex⟩⟩
      · obtain ⟨rfl, hj⟩ := hl
        exact fin hj
/-! ### a < b < c < d -/
theorem ed_chain3 {op op' op2 : CmpOp} {x y z : Bool} {e3 e4 : Expr} {dc dd : PyData} (ha : ED X ks a ks da) (hb : ED X ks b ks db) (hc : ED X ks e3 ks dc) (hd : ED X ks e4 ks dd) (h : CmpD X op da db x) (h' : CmpD X op' db dc y) (h2 : CmpD X op2 dc dd z)
    (hm : lastMarks [op, op', op2] [b, e3, e4] = false) : ED X ks (.Compare a [op, op', op2] [b, e3, e4] pos) ks (.bool (x && (y && z))) := by
  obtain ⟨r, ho, hr⟩ := h.out
  obtain ⟨r', ho', hr'⟩ := h'.out
  obtain ⟨r2, ho2, hr2⟩ := h2.out
  intro W σ G H S Q q
  refine ⟨fun pins s I => ?_⟩
  refine PyProof.Rows.Compare_chain (thn (EV.run (ha W σ G H S (fun v H1 => ∃ G1, Sts X.K W ks σ G1 H1 ∧ Same G G1 ∧ Dp X.K G1 v da) (fun v G1 H1 S1 g1 r1 => ⟨G1, S1, g1, r1⟩)) pins s I) fun u1 s1 ⟨v1, H1, I1, rv1, G1, S1, g1, d1⟩ => ?_) hm
  refine PyProof.Rows.chain_link (thn (EV.run (hb W σ G1 H1 S1 (fun v H2 => ∃ G2, Sts X.K W ks σ G2 H2 ∧ Same G1 G2 ∧ Dp X.K G2 v db) (fun v G2 H2 S2 g2 r2 => ⟨G2, S2, g2, r2⟩)) pins s1 I1) fun u2 s2 ⟨v2, H2, I2, rv2, G2, S2, g2, d2⟩ => ?_)
  refine thn (ho pins s2 σ H2 v1 v2 u1 u2 (fun v H3 => ∃ G3, Sts X.K W ks σ G3 H3 ∧ Same G2 G3 ∧ v = .bl x) I2 rv1 rv2 (hr G2 H2 v1 v2 S2.gh (Dp.mono g2 d1) d2 _ fun v G3 H3 l r3 => ⟨G3, S2.pure l, l.g, r3.bl_inv⟩)) fun c3 s3 ⟨v3, H3, I3, rv3, G3, S3, g3, e3'⟩ => ?_
  subst e3'
  cases rv3
  refine wpAny_truthy_bool ?_
  cases x with
  | false => exact PyProof.Rows.ite_ff ⟨.bl false, H3, I3, rfl, q _ G3 H3 S3 ((g1.trans g2).trans g3) (.bl _)⟩
  | true =>
    refine PyProof.Rows.ite_tt ?_
    refine PyProof.Rows.chain_link (thn (EV.run (hc W σ G3 H3 S3 (fun v H4 => ∃ G4, Sts X.K W ks σ G4 H4 ∧ Same G3 G4 ∧ Dp X.K G4 v dc) (fun v G4 H4 S4 g4 r4 => ⟨G4, S4, g4, r4⟩)) pins s3 I3) fun u4 s4 ⟨v4, H4, I4, rv4, G4, S4, g4, d4⟩ => ?_)
    refine thn (ho' pins s4 σ H4 v2 v4 u2 u4 (fun v H5 => ∃ G5, Sts X.K W ks σ G5 H5 ∧ Same G4 G5 ∧ v = .bl y) I4 rv2 rv4 (hr' G4 H4 v2 v4 S4.gh (Dp.mono (g3.trans g4) d2) d4 _ fun v G5 H5 l r5 => ⟨G5, S4.pure l, l.g, r5.bl_inv⟩)) fun c5 s5 ⟨v5, H5, I5, rv5, G5, S5, g5, e5'⟩ => ?_
    subst e5'
    cases rv5
    refine wpAny_truthy_bool ?_
    cases y with
    | false => exact PyProof.Rows.ite_ff ⟨.bl false, H5, I5, rfl, q _ G5 H5 S5 ((((g1.trans g2).trans g3).trans g4).trans g5) (.bl _)⟩
    | true =>
      refine PyProof.Rows.ite_tt ?_
      refine PyProof.Rows.chain_last (thn (EV.run (hd W σ G5 H5 S5 (fun v H6 => ∃ G6, Sts X.K W ks σ G6 H6 ∧ Same G5 G6 ∧ Dp X.K G6 v dd) (fun v G6 H6 S6 g6 r6 => ⟨G6, S6, g6, r6⟩)) pins s5 I5) fun u6 s6 ⟨v6, H6, I6, rv6, G6, S6, g6, d6⟩ => ?_)
      exact ho2 pins s6 σ H6 v4 v6 u4 u6 Q I6 rv4 rv6 (hr2 G6 H6 v4 v6 S6.gh (Dp.mono (g5.trans g6) d4) d6 _ fun v G7 H7 l r7 => q v G7 H7 (S6.pure l) ((((((g1.trans g2).trans g3).trans g4).trans g5).trans g6).trans l.g) r7)
/-! ### isinstance -/
def tyD : PyData → String
  | .none => "NoneType"
  | .bool _ => "bool"
  | .int _ => "int"
  | .str _ => "str"
  | .list _ => "list"
  | .tuple _ => "tuple"
  | .dict _ => "dict"
theorem tyx_of {G H : Hp} {v : V} (g : Same G H) (h : Dp K G v d) : TyX K H v (.type (tyD d)) := by
  cases h with
  | non => exact .base .non
  | bl b => exact .base (.bl b)
  | int i => exact .base (.int i)
  | str x => exact .base (.str x)
  | lst s _ =>
    rcases g.seq s with (s | ⟨o, s⟩) | ⟨o, its, n, s, hc, _⟩
    · exact .base (.lst s)
    · exact .base (.frz s)
    · exact .kList s hc
  | tup s _ =>
    rcases Same.seqT g s with (s | ⟨o, s⟩) | ⟨o, its, n, s, hc, _⟩
    · exact .base (.tup s)
    · exact .fTuple s
    · exact .kTuple s hc
theorem ed_isi (c : CtxB cq P w K mg base T k X) {y : Str} {tn : String} {b : Bool} {q q2 : Pos} (hg : T.sc.names.lookup ("isinstance" : Str) = some .globalImplicit) (hm : mg "isinstance" = none) (ha : ED X ks a k1 d) (hy : T.sc.names.lookup y = some .globalImplicit) (hmy : mg y = none)
    (hv : bootBuiltins y = some (.type tn)) (hb : kitB (tyD d) tn = some b) (hn : y ≠ "__name__") (hd : (y == ("__debug__" : Str)) = false) (h1 : starEach [a, .Name y q2] X.env = (false, eval a X.env) :: starEach [.Name y q2] X.env) (h2 : starEach [.Name y q2] X.env = (false, eval (.Name y q2) X.env) :: starEach [] X.env)
    (hpl : (backTo pos (starEach [.Name y q2] X.env)).any (·.1) = false) :
    ED X ks (.Call (.Name "isinstance" q) [a, .Name y q2] [] pos) k1 (.bool b) := fun W σ G H S Q qq => by
  refine ev_of (pe_callB call_isi (gl_of c hg) (by rw [c.hmg]; exact hm) PyProof.Rows.boot_isinstance (pa_cons pe_ev (pa_cons (pe_bltn (v := .ty tn) (gl_of c hy) (by rw [c.hmg]; exact hmy) hv rfl hn hd) pa_nil h2) h1) (he := h1) (hpl := hpl)) ?_
  refine ha W σ G H S _ fun v G1 H1 S1 g1 r1 => ?_
  exact ⟨v, .ty tn, .type (tyD d), .type tn, b, rfl, .ty tn, tyx_of S1.gh r1, kit_ty hb, qq _ G1 H1 S1 g1 (.bl b)⟩
theorem un_minus {i : Int} (h : ED X ks a k1 (.int i)) : ED X ks (.UnaryOp .USub a pos) k1 (.int (-i)) := fun W σ G H S Q q =>
  ev_of (pe_un un_neg pe_ev) (h W σ G H S _ fun v G1 H1 S1 g r => ⟨i, r.int_inv, q _ G1 H1 S1 g (.int _)⟩)
theorem shaped_ints (l : List Int) : SeqAt.shaped (.list (l.map .int)) = true := by
  have h1 : ∀ l : List Int, PyData.canLayAll0 (l.map .int) = true := by
    intro l
    induction l with
    | nil => rfl
    | cons a l ih =>
      show (PyData.canLay0 (.int a) && PyData.canLayAll0 (l.map .int)) = true
      rw [ih]
      rfl
  have h2 : ∀ l : List Int, PyData.depthAll (l.map .int) = 0 := by
    intro l
    induction l with
    | nil => rfl
    | cons a l ih =>
      show max (PyData.depth (.int a)) (PyData.depthAll (l.map .int)) = 0
      rw [ih]
      rfl
  unfold SeqAt.shaped
  have e1 : (PyData.list (l.map .int)).canLay0 = true := h1 l
  have e2 : (PyData.list (l.map .int)).depth = 1 := by
    show PyData.depthAll (l.map .int) + 1 = 1
    rw [h2]
  rw [e1, e2]
  rfl
/-! ### the drawing state, read and changed -/
section
variable {x : Str} {i : Nat} {A B : Addr} {r : Rg} {px : Pos}
/-- _law_h[0], _law_h[2] -/
theorem rng_ix (c : CtxB cq P w K mg base T k X) (hN : T.N[i]? = some x) (hv : Vis T.sc x) (hk : ks[i]? = some (.rng A B r)) (hd : (x == ("__debug__" : Str)) = false) (hcd : (x == ("__classdict__" : Str)) = false) {j : Int} {q : Int} {jj : Nat} {p2 : Pos}
    (hj : (j = 0 ∧ q = r.s) ∨ (j = 2 ∧ q = r.k)) : ED X ks (.Subscript (.Name x px) (.Constant (.int j) jj p2) pos) ks (.int q) := fun W σ G H S Q qq => by
  obtain ⟨e1, ⟨h1, h2, h3⟩, _⟩ := S.rngAt hk
  refine ev_of (pe_ix ix_list (pe_var (ix_of c hN) (vis_of c hv) hd hcd) pe_int (fun _ _ => rfl)) ⟨_, e1, A, _, j, .int q, rfl, rfl, SqL.of h1, ?_, qq _ G H S (Same.refl G) (.int _)⟩
  rcases hj with ⟨rfl, rfl⟩ | ⟨rfl, rfl⟩ <;> rfl
/-- the reading of _law_h[1] -/
theorem rng_cells (c : CtxB cq P w K mg base T k X) (hN : T.N[i]? = some x) (hv : Vis T.sc x) (hk : ks[i]? = some (.rng A B r)) (hd : (x == ("__debug__" : Str)) = false) (hcd : (x == ("__classdict__" : Str)) = false) {jj : Nat} {p2 : Pos} {W : Wd} {σ : St} {G H : Hp} (S : Sts X.K W ks σ G H) {Q : VK} (q : Q (.ref B) H) :
    EV X (.Subscript (.Name x px) (.Constant (.int 1) jj p2) pos) σ H Q := by
  obtain ⟨e1, ⟨h1, h2, h3⟩, _⟩ := S.rngAt hk
  exact ev_of (pe_ix ix_list (pe_var (ix_of c hN) (vis_of c hv) hd hcd) pe_int (fun _ _ => rfl)) ⟨_, e1, A, _, 1, .ref B, rfl, rfl, SqL.of h1, rfl, q⟩
theorem rng_len (c : CtxB cq P w K mg base T k X) (hN : T.N[i]? = some x) (hv : Vis T.sc x) (hk : ks[i]? = some (.rng A B r)) (hd : (x == ("__debug__" : Str)) = false) (hcd : (x == ("__classdict__" : Str)) = false) {jj : Nat} {p2 q1 : Pos} {pp : Pos}
    (hg : T.sc.names.lookup ("len" : Str) = some .globalImplicit) (hm : mg "len" = none) : ED X ks (.Call (.Name "len" q1) [.Subscript (.Name x px) (.Constant (.int 1) jj p2) pp] [] pos) ks (.int r.c.length) := fun W σ G H S Q qq => by
  obtain ⟨e1, ⟨h1, h2, h3⟩, _⟩ := S.rngAt hk
  refine ev_of (pe_callB call_len_seq (gl_of c hg) (by rw [c.hmg]; exact hm) PySem.boot_len (pa_cons pe_ev pa_nil)) ?_
  refine rng_cells c hN hv hk hd hcd S ?_
  exact ⟨B, _, rfl, .inl (SqL.of h2), by rw [List.length_map]; exact qq _ G H S (Same.refl G) (.int _)⟩
theorem rng_some (c : CtxB cq P w K mg base T k X) (hN : T.N[i]? = some x) (hv : Vis T.sc x) (hk : ks[i]? = some (.rng A B r)) (hd : (x == ("__debug__" : Str)) = false) (hcd : (x == ("__classdict__" : Str)) = false) {jj : Nat} {p2 pp q1 : Pos} :
    TD X ks (.Compare (.Subscript (.Name x px) (.Constant (.int 1) jj p2) pp) [.NotEq] [.List [] q1] pos) ks (!r.c.isEmpty) := fun W σ G H S Q qq => by
  obtain ⟨e1, ⟨h1, h2, h3⟩, _⟩ := S.rngAt hk
  refine tv_of (pt_cmpR (op_neD c.units) pe_ev (pe_lst pa_nil) (nomark _)) ?_
  refine rng_cells c hN hv hk hd hcd S ?_
  refine ⟨Nat.zero_le _, fun l nl => ?_⟩
  have nb : B ≠ l := ne_of_none h2 nl
  have gl : G l = none := by
    cases e : G l with
    | none => rfl
    | some u => rw [S.gh l u e] at nl; cases nl
  refine ⟨.list (r.c.map .int), .list [], .lst (SqL.of (by rw [upd_ne nb]; exact h2)) DpAll.ints, .lst (SqL.of upd_same) .nil, ?_, rfl, ?_⟩
  · exact shaped_ints r.c
  · have e : (!PyData.eqv (.list (r.c.map .int)) (.list [])) = !r.c.isEmpty := by cases r.c <;> rfl
    rw [e]
    exact ⟨_, rfl, qq G _ (S.pure (Lp.newOwn S.gh nl)) (Same.refl G)⟩
theorem rng_cell (c : CtxB cq P w K mg base T k X) (hN : T.N[i]? = some x) (hv : Vis T.sc x) (hk : ks[i]? = some (.rng A B r)) (hd : (x == ("__debug__" : Str)) = false) (hcd : (x == ("__classdict__" : Str)) = false) {jj : Nat} {p2 pp : Pos} {j q : Int}
    (hb : ED X ks b ks (.int j)) (hj : atI r.c j = some q) (hs : PlainIx b) : ED X ks (.Subscript (.Subscript (.Name x px) (.Constant (.int 1) jj p2) pp) b pos) ks (.int q) := fun W σ G H S Q qq => by
  refine ev_of (pe_ix ix_list pe_ev pe_ev hs) ?_
  refine rng_cells c hN hv hk hd hcd S ?_
  refine hb W σ G H S _ fun v G1 H1 S1 g1 r1 => ?_
  obtain ⟨e1, ⟨h1, h2, h3⟩, _⟩ := S1.rngAt hk
  rw [r1.int_inv]
  refine ⟨B, _, j, .int q, rfl, rfl, SqL.of h2, ?_, qq _ G1 H1 S1 g1 (.int _)⟩
  rw [atI_map, hj]
  rfl
/-- _law_h[0] = .., _law_h[2] = .. -/
theorem Sts.rngPut {W : Wd} {σ : St} {G H : Hp} {r2 : Rg} {o : HO} {z : Addr} (S : Sts K W ks σ G H) (hk : ks[i]? = some (.rng A B r)) (hz : z = A ∨ z = B) (h2 : RngAt (upd H z o) A B r2) : Sts K W (ks.set i (.rng A B r2)) σ G (upd H z o) := by
  obtain ⟨e1, ⟨q1, q2, q3⟩, q4, q5, _⟩ := S.rngAt hk
  have hzz : ∃ u, H z = some u := by rcases hz with e | e <;> subst e <;> exact ⟨_, ‹_›⟩
  have gz : G z = none := by rcases hz with e | e <;> subst e <;> assumption
  have plz : ∀ u, H z = some u → Pl u := fun u e => by
    rcases hz with y | y <;> subst y
    · rw [q1] at e; cases e; exact pl_lst
    · rw [q2] at e; cases e; exact pl_lst
  refine S.rngStep hk ⟨Same.refl G, fun b u e => ?_, fun b u hm _ e => ?_, fun b u e => ?_, fun _ _ e _ => e, fun b hb => ?_, S.le.tb.upd plz⟩ h2
  · have : b ≠ z := fun y => by
      have e : G b = some u := e
      rw [y, gz] at e; cases e
    rw [upd_ne this]; exact S.gh b u e
  · have : b ≠ z := fun y => hm (y ▸ hz)
    rw [upd_ne this]; exact e
  · by_cases y : b = z
    · subst y; exact ⟨_, upd_same⟩
    · exact ⟨u, by rw [upd_ne y]; exact e⟩
  · rcases (show b = A ∨ b = B from hb) with e | e <;> subst e
    · exact ⟨_, q1⟩
    · exact ⟨_, q2⟩
theorem sd_rngSet (c : CtxB cq P w K mg base T k X) (hN : T.N[i]? = some x) (hv : Vis T.sc x) (hk : k1[i]? = some (.rng A B r)) (hd : (x == ("__debug__" : Str)) = false) (hcd : (x == ("__classdict__" : Str)) = false) {j q : Int} {jj : Nat} {p2 p3 : Pos} {r2 : Rg}
    (h : ED X ks e k1 (.int q)) (hj : (j = 0 ∧ r2 = { r with s := q }) ∨ (j = 2 ∧ r2 = { r with k := q })) (qq : SD X (k1.set i (.rng A B r2)) rest Φ)
    (ha : ∀ v, assign (.Subscript (.Name x px) (.Constant (.int j) jj p2) p3) X.env v = (do
      let ov ← holding [v] (eval (.Name x px) X.env)
      let iv ← holding [v, ov] (eval (.Constant (.int j) jj p2) X.env)
      standAt p3
      holding [v, ov, iv] (setItem ov iv v)
      release [v, ov, iv] []))
    (hs : swapsWithSole [.Subscript (.Name x px) (.Constant (.int j) jj p2) p3] e pos.line X.env = pure false) (hw : swappedStores [.Subscript (.Name x px) (.Constant (.int j) jj p2) p3] e X.env = pure none)
    (h1 : (assignEach [.Subscript (.Name x px) (.Constant (.int j) jj p2) p3] X.env).map (·.2) = [assign (.Subscript (.Name x px) (.Constant (.int j) jj p2) p3) X.env]) :
    SD X ks (.Assign [.Subscript (.Name x px) (.Constant (.int j) jj p2) p3] e pos :: rest) Φ := fun W σ G H D S M => by
  refine sv_of (pss_cons (ps_asg pe_ev (pg_sub (pe_var (ix_of c hN) (vis_of c hv) hd hcd) pe_int set_list ha) hs hw h1) pss_sv) ?_
  refine h W σ G H S _ fun v G1 H1 S1 g1 r1 => ?_
  obtain ⟨e1, ⟨q1, q2, q3⟩, _⟩ := S1.rngAt hk
  rw [r1.int_inv]
  refine ⟨_, e1, ?_⟩
  rcases hj with ⟨rfl, rfl⟩ | ⟨rfl, rfl⟩
  · refine ⟨A, _, 0, 0, rfl, rfl, q1, rfl, ?_⟩
    exact qq W σ G1 _ D (S1.rngPut hk (.inl rfl) ⟨upd_same, by rw [upd_ne (Ne.symm q3)]; exact q2, q3⟩) M
  · refine ⟨A, _, 2, 2, rfl, rfl, q1, rfl, ?_⟩
    exact qq W σ G1 _ D (S1.rngPut hk (.inl rfl) ⟨upd_same, by rw [upd_ne (Ne.symm q3)]; exact q2, q3⟩) M
theorem sd_rngCell (c : CtxB cq P w K mg base T k X) (hN : T.N[i]? = some x) (hv : Vis T.sc x) (hk : ks[i]? = some (.rng A B r)) (hd : (x == ("__debug__" : Str)) = false) (hcd : (x == ("__classdict__" : Str)) = false) {j q : Int} {jj m : Nat} {p2 p3 pp : Pos}
    (h : ED X ks e ks (.int q)) (hb : ED X ks b ks (.int j)) (hj : ixN r.c.length j = some m) (qq : SD X (ks.set i (.rng A B { r with c := r.c.set m q })) rest Φ)
    (ha : ∀ v, assign (.Subscript (.Subscript (.Name x px) (.Constant (.int 1) jj p2) pp) b p3) X.env v = (do
      let ov ← holding [v] (eval (.Subscript (.Name x px) (.Constant (.int 1) jj p2) pp) X.env)
      let iv ← holding [v, ov] (eval b X.env)
      standAt p3
      holding [v, ov, iv] (setItem ov iv v)
      release [v, ov, iv] []))
    (hs : swapsWithSole [.Subscript (.Subscript (.Name x px) (.Constant (.int 1) jj p2) pp) b p3] e pos.line X.env = pure false) (hw : swappedStores [.Subscript (.Subscript (.Name x px) (.Constant (.int 1) jj p2) pp) b p3] e X.env = pure none)
    (h1 : (assignEach [.Subscript (.Subscript (.Name x px) (.Constant (.int 1) jj p2) pp) b p3] X.env).map (·.2) = [assign (.Subscript (.Subscript (.Name x px) (.Constant (.int 1) jj p2) pp) b p3) X.env]) :
    SD X ks (.Assign [.Subscript (.Subscript (.Name x px) (.Constant (.int 1) jj p2) pp) b p3] e pos :: rest) Φ := fun W σ G H D S M => by
  refine sv_of (pss_cons (ps_asg pe_ev (pg_sub pe_ev pe_ev set_list ha) hs hw h1) pss_sv) ?_
  refine h W σ G H S _ fun v G1 H1 S1 g1 r1 => ?_
  rw [r1.int_inv]
  refine rng_cells c hN hv hk hd hcd S1 ?_
  refine hb W σ G1 H1 S1 _ fun y G2 H2 S2 g2 r2 => ?_
  obtain ⟨e1, ⟨q1, q2, q3⟩, _⟩ := S2.rngAt hk
  rw [r2.int_inv]
  refine ⟨B, _, j, m, rfl, rfl, q2, by rw [List.length_map]; exact hj, ?_⟩
  refine qq W σ G2 _ D (S2.rngPut hk (.inr rfl) ⟨by rw [upd_ne q3]; exact q1, ?_, q3⟩) M
  rw [upd_same, List.map_set]
end
end
end Z
namespace Z
open PySem PySem.Spec L2
/-! ### shapes -/
structure Shp (n : Nat) (d : PyData) : Prop where
  lay : d.canLay0 = true
  dep : d.depth ≤ n
theorem Shp.int {n : Nat} (i : Int) : Shp n (.int i) := ⟨rfl, Nat.zero_le _⟩
theorem Shp.non {n : Nat} : Shp n .none := ⟨rfl, Nat.zero_le _⟩
theorem Shp.bool {n : Nat} (b : Bool) : Shp n (.bool b) := ⟨rfl, Nat.zero_le _⟩
theorem shp_all {n : Nat} : ∀ {xs : List PyData}, (∀ x ∈ xs, Shp n x) → PyData.canLayAll0 xs = true ∧ PyData.depthAll xs ≤ n
  | [], _ => ⟨rfl, by simp [PyData.depthAll]⟩
  | x :: xs, h => by
    obtain ⟨a, b⟩ := shp_all (xs := xs) fun y hy => h y (List.mem_cons_of_mem _ hy)
    obtain ⟨c, d⟩ := h x List.mem_cons_self
    refine ⟨?_, ?_⟩
    · show (x.canLay0 && PyData.canLayAll0 xs) = true
      rw [c, a]; rfl
    · show max (PyData.depth x) (PyData.depthAll xs) ≤ n
      exact Nat.max_le.mpr ⟨d, b⟩
theorem Shp.list {n : Nat} {xs : List PyData} (h : ∀ x ∈ xs, Shp n x) : Shp (n + 1) (.list xs) := ⟨(shp_all h).1, by
  show PyData.depthAll xs + 1 ≤ n + 1
  exact Nat.succ_le_succ (shp_all h).2⟩
theorem Shp.tuple {n : Nat} {xs : List PyData} (h : ∀ x ∈ xs, Shp n x) : Shp (n + 1) (.tuple xs) := ⟨(shp_all h).1, by
  show PyData.depthAll xs + 1 ≤ n + 1
  exact Nat.succ_le_succ (shp_all h).2⟩
theorem Shp.mono {n m : Nat} {d : PyData} (h : Shp n d) (l : n ≤ m) : Shp m d := ⟨h.lay, Nat.le_trans h.dep l⟩
theorem Shp.ok {n : Nat} {d : PyData} (h : Shp n d) (l : n ≤ 64) : SeqAt.shaped d = true := by
  unfold SeqAt.shaped
  rw [h.lay, decide_eq_true (Nat.le_trans h.dep l)]; rfl
theorem all1 {α : Type} {p : α → Prop} {a : α} (h : p a) : ∀ x ∈ [a], p x := fun x hx => by simp at hx; subst hx; exact h
theorem allC {α : Type} {p : α → Prop} {a : α} {l : List α} (h : p a) (h2 : ∀ x ∈ l, p x) : ∀ x ∈ a :: l, p x := fun x hx => by
  rcases List.mem_cons.mp hx with z | z
  · rw [z]; exact h
  · exact h2 x z
theorem allN {α : Type} {p : α → Prop} : ∀ x ∈ ([] : List α), p x := fun x hx => by cases hx
theorem allM {α β : Type} {p : β → Prop} {f : α → β} {l : List α} (h : ∀ a ∈ l, p (f a)) : ∀ x ∈ l.map f, p x := fun x hx => by
  obtain ⟨a, ha, e⟩ := List.mem_map.mp hx
  rw [← e]; exact h a ha
theorem shp_intsT (l : List Int) : Shp 1 (eInts l) := .tuple (allM fun a _ => .int a)
/-! ### == of data without bools is equality -/
mutual
def nb : PyData → Bool
  | .none => true
  | .bool _ => false
  | .int _ => true
  | .str _ => true
  | .list xs => nbAll xs
  | .tuple xs => nbAll xs
  | .dict _ => false
def nbAll : List PyData → Bool
  | [] => true
  | x :: xs => nb x && nbAll xs
end
mutual
theorem eqv_iff : ∀ (d e : PyData), nb d = true → nb e = true → (PyData.eqv d e = true ↔ d = e)
  | .none, e, _, he => by cases e <;> simp_all [PyData.eqv, nb]
  | .int i, e, _, he => by cases e <;> simp_all [PyData.eqv, nb]
  | .str x, e, _, he => by cases e <;> simp_all [PyData.eqv, nb]
  | .list xs, e, hd, he => by
    cases e with
    | list ys =>
      have := eqv_iffAll xs ys (by simpa [nb] using hd) (by simpa [nb] using he)
      simpa [PyData.eqv] using this
    | _ => simp_all [PyData.eqv, nb]
  | .tuple xs, e, hd, he => by
    cases e with
    | tuple ys =>
      have := eqv_iffAll xs ys (by simpa [nb] using hd) (by simpa [nb] using he)
      simpa [PyData.eqv] using this
    | _ => simp_all [PyData.eqv, nb]
  | .bool _, _, hd, _ => by simp [nb] at hd
  | .dict _, _, hd, _ => by simp [nb] at hd
theorem eqv_iffAll : ∀ (d e : List PyData), nbAll d = true → nbAll e = true → (PyData.eqvAll d e = true ↔ d = e)
  | [], e, _, _ => by cases e <;> simp [PyData.eqvAll]
  | x :: xs, e, hd, he => by
    cases e with
    | nil => simp [PyData.eqvAll]
    | cons y ys =>
      have h1 : nb x = true ∧ nbAll xs = true := by simpa [nbAll] using hd
      have h2 : nb y = true ∧ nbAll ys = true := by simpa [nbAll] using he
      have a := eqv_iff x y h1.1 h2.1
      have b := eqv_iffAll xs ys h1.2 h2.2
      simp [PyData.eqvAll, a, b]
end
theorem eqv_refl {d : PyData} (h : nb d = true) : PyData.eqv d d = true := (eqv_iff d d h h).mpr rfl
theorem eqv_ne {d e : PyData} (h : nb d = true) (h2 : nb e = true) (n : d ≠ e) : PyData.eqv d e = false := by
  cases q : PyData.eqv d e with
  | false => rfl
  | true => exact absurd ((eqv_iff d e h h2).mp q) n
theorem eqv_dec {d e : PyData} (h : nb d = true) (h2 : nb e = true) {p : Prop} [Decidable p] (i : d = e ↔ p) : PyData.eqv d e = decide p := by
  by_cases q : p
  · rw [decide_eq_true q, i.mpr q]; exact eqv_refl h2
  · rw [decide_eq_false q]; exact eqv_ne h h2 fun z => q (i.mp z)
/-! ### lists -/
theorem map_get {α : Type} {f : α → PyData} {xs : List α} {i : Nat} {d : PyData} (h : (xs.map f)[i]? = some d) : ∃ x, xs[i]? = some x ∧ d = f x := by
  rw [List.getElem?_map] at h
  cases e : xs[i]? with
  | none => rw [e] at h; cases h
  | some x => rw [e] at h; exact ⟨x, rfl, (Option.some.inj h).symm⟩
theorem rngD_inv [Tabl] {n i : Nat} {d : PyData} (h : (rngD n)[i]? = some d) : i < n ∧ d = .int (i : Int) := by
  have hi := (List.getElem?_eq_some_iff.mp h).1
  have hi : i < n := by simpa [rngD] using hi
  rw [rngD_get hi] at h
  exact ⟨hi, (Option.some.inj h).symm⟩
theorem prev_succ {α : Type} {xs : List α} {q : α → Prop} {i : Nat} {x : α} (h : ∀ (j : Nat) (y : α), j < i → xs[j]? = some y → q y) (hx : xs[i]? = some x) (hq : q x) : ∀ (j : Nat) (y : α), j < i + 1 → xs[j]? = some y → q y := fun j y hj hy => by
  rcases Nat.lt_succ_iff_lt_or_eq.mp hj with z | z
  · exact h j y z hy
  · subst z; rw [hx] at hy; cases hy; exact hq
end Z
namespace Z
open PySem PySem.Spec L2
variable [Tabl]
/-! ### drawing, as functions -/
def cellOf (r : Rg) : Int := if r.c.isEmpty = true then 0 else r.c.getD (r.k % max 1 (r.c.length : Int)).toNat 0
def nxS (r : Rg) : Int := (r.s * 48271 + cellOf r * 69621 + 11) % 2147483647
def nxR (r : Rg) (m : Int) : Rg := if 10 ^ 18 ≤ cellOf r then { r with c := r.c.set (r.k % max 1 (r.c.length : Int)).toNat (cellOf r / m) } else { s := nxS r, c := r.c, k := r.k + 1 }
def nxV (r : Rg) (m : Int) : Int := if 10 ^ 18 ≤ cellOf r then cellOf r % m else nxS r / 7 % m
theorem nxV_0 {r : Rg} {m : Int} (h : 0 < m) : 0 ≤ nxV r m := by
  unfold nxV
  split <;> exact Int.emod_nonneg _ (by omega)
theorem nxV_1 {r : Rg} {m : Int} (h : 0 < m) : nxV r m < m := by
  unfold nxV
  split <;> exact Int.emod_lt_of_pos _ h
theorem nxV_off {r : Rg} {B : Book} {m : Int} (e : m = (B.n : Int)) (h : 0 < B.n) : B.off (nxV r m) := by
  subst e
  exact ⟨nxV_0 (by omega), nxV_1 (by omega)⟩
def pick2 (a b : Int) (i : Int) : Int := if i = 0 then a else b
def pick3 (a b c : Int) (i : Int) : Int := if i = 0 then a else if i = 1 then b else c
def pick4 (a b c d : Int) (i : Int) : Int := if i = 0 then a else if i = 1 then b else if i = 2 then c else d
theorem ix_pick2 {a b i : Int} (h0 : 0 ≤ i) (h1 : i < 2) : ixD (.list [.int a, .int b]) i = some (.int (pick2 a b i)) := by
  rcases (show i = 0 ∨ i = 1 by omega) with e | e <;> subst e <;> rfl
theorem ix_pick3 {a b c i : Int} (h0 : 0 ≤ i) (h1 : i < 3) : ixD (.list [.int a, .int b, .int c]) i = some (.int (pick3 a b c i)) := by
  rcases (show i = 0 ∨ i = 1 ∨ i = 2 by omega) with e | e | e <;> subst e <;> rfl
theorem ix_pick4 {a b c d i : Int} (h0 : 0 ≤ i) (h1 : i < 4) : ixD (.list [.int a, .int b, .int c, .int d]) i = some (.int (pick4 a b c d i)) := by
  rcases (show i = 0 ∨ i = 1 ∨ i = 2 ∨ i = 3 by omega) with e | e | e | e <;> subst e <;> rfl
theorem pick2_in {a b i : Int} {p : Int → Prop} (ha : p a) (hb : p b) : p (pick2 a b i) := by unfold pick2; split <;> assumption
theorem pick3_in {a b c i : Int} {p : Int → Prop} (ha : p a) (hb : p b) (hc : p c) : p (pick3 a b c i) := by unfold pick3; split; · assumption
                                                                                                             · split <;> assumption
/-- n draws, each with its number -/
def iterI {α : Type} (f : Nat → Rg → α × Rg) : Nat → Rg → List α × Rg
  | 0, r => ([], r)
  | n + 1, r => ((iterI f n r).1 ++ [(f n (iterI f n r).2).1], (f n (iterI f n r).2).2)
theorem iterI_len {α : Type} (f : Nat → Rg → α × Rg) (n : Nat) (r : Rg) : (iterI f n r).1.length = n := by
  induction n with
  | zero => rfl
  | succ n ih => show ((iterI f n r).1 ++ [_]).length = n + 1; rw [List.length_append, ih]; rfl
theorem iterI_all {α : Type} {f : Nat → Rg → α × Rg} {p : Nat → α → Prop} (h : ∀ i r, p i (f i r).1) : ∀ (n : Nat) (r : Rg) (i : Nat) (x : α), (iterI f n r).1[i]? = some x → p i x
  | 0, r, i, x, e => by simp [iterI] at e
  | n + 1, r, i, x, e => by
    have hl := iterI_len f n r
    have e' : ((iterI f n r).1 ++ [(f n (iterI f n r).2).1])[i]? = some x := e
    by_cases q : i < n
    · rw [List.getElem?_append_left (by omega)] at e'
      exact iterI_all h n r i x e'
    · rw [List.getElem?_append_right (by omega)] at e'
      have hi : i = n := by
        have := (List.getElem?_eq_some_iff.mp e').1
        simp at this
        omega
      subst hi
      rw [hl, Nat.sub_self] at e'
      simp at e'
      rw [← e']
      exact h _ _
theorem iterI_mem {α : Type} {f : Nat → Rg → α × Rg} {p : α → Prop} (h : ∀ i r, p (f i r).1) (n : Nat) (r : Rg) : ∀ x ∈ (iterI f n r).1, p x := fun x hx => by
  obtain ⟨i, hi, e⟩ := List.mem_iff_getElem.mp hx
  exact iterI_all (p := fun _ => p) h n r i x (by rw [List.getElem?_eq_getElem hi, e])
def hourRow (n : Int) (_ : Nat) (r : Rg) : Row × Rg :=
  let one := nxV r n
  let r1 := nxR r n
  let bg := nxV (nxR r1 3) (pick3 20 60 90 (nxV r1 3))
  let r3 := nxR (nxR r1 3) (pick3 20 60 90 (nxV r1 3))
  let ee := nxV (nxR r3 3) (pick3 9 9 70 (nxV r3 3))
  let r5 := nxR (nxR r3 3) (pick3 9 9 70 (nxV r3 3))
  ((one, (one + 1 + nxV r5 (n - 1)) % n, bg, min 99 (bg + 1 + ee)), nxR r5 (n - 1))
def hours (n most : Int) (r : Rg) : List Row × Rg := iterI (hourRow n) (nxV r (most + 1)).toNat (nxR r (most + 1))
def flCell (k j : Nat) (r : Rg) : Int × Rg := ((1 + nxV r 9) * (if (!decide ((j : Int) = (k : Int))) = true then 1 else 0), nxR r 9)
def flights (m : Nat) (r : Rg) : List (List Int) × Rg := iterI (fun k => iterI (flCell k) m) m r
def drawM (m : Int) (_ : Nat) (r : Rg) : Int × Rg := (nxV r m, nxR r m)
def bkN (n : Int) (r : Rg) : Int := 2 + nxV r (n - 1)
def bkF (n : Int) (r : Rg) : List (List Int) × Rg := flights (bkN n r).toNat (nxR r (n - 1))
def bkS (n : Int) (r : Rg) : List Row × Rg := hours (bkN n r) (pick3 0 3 8 (nxV (bkF n r).2 3)) (nxR (bkF n r).2 3)
def bkC (n : Int) (r : Rg) : List Row × Rg := hours (bkN n r) (pick2 4 12 (nxV (bkS n r).2 2)) (nxR (bkS n r).2 2)
def bkB (n b : Int) (r : Rg) : List Int × Rg := iterI (drawM (bkN n r)) (nxV (bkC n r).2 (b + 1)).toNat (nxR (bkC n r).2 (b + 1))
def lawBook (n b : Int) (r : Rg) : Book := ⟨(bkF n r).1, (bkS n r).1, (bkC n r).1, (bkB n b r).1⟩
theorem bkN_in {n : Int} {r : Rg} (h : 2 ≤ n) : 2 ≤ bkN n r ∧ bkN n r ≤ n := by
  unfold bkN
  have h0 := nxV_0 (r := r) (m := n - 1) (by omega)
  have h1 := nxV_1 (r := r) (m := n - 1) (by omega)
  omega
theorem bk_n {n b : Int} {r : Rg} (h : 2 ≤ n) : ((lawBook n b r).n : Int) = bkN n r := by
  show (((flights (bkN n r).toNat (nxR r (n - 1))).1.length : Nat) : Int) = _
  unfold flights
  rw [iterI_len]
  have := bkN_in (r := r) h
  omega
theorem hours_len {n most : Int} {r : Rg} (hm : 0 ≤ most) : ((hours n most r).1.length : Int) ≤ most := by
  unfold hours
  rw [iterI_len]
  have h0 := nxV_0 (r := r) (m := most + 1) (by omega)
  have h1 := nxV_1 (r := r) (m := most + 1) (by omega)
  omega
theorem hours_good {B : Book} {most : Int} {r : Rg} (h2 : 2 ≤ B.n) : ∀ x ∈ (hours (B.n : Int) most r).1, GoodRow B x := by
  refine iterI_mem (fun i r => ?_) _ _
  have hn : (0 : Int) < (B.n : Int) := by omega
  have a0 := nxV_0 (r := r) hn
  have a1 := nxV_1 (r := r) hn
  show GoodRow B (hourRow (B.n : Int) i r).1
  unfold hourRow
  dsimp only
  generalize nxR r (B.n : Int) = r1
  have p1 : 0 < pick3 20 60 90 (nxV r1 3) ∧ pick3 20 60 90 (nxV r1 3) ≤ 90 := pick3_in (p := fun z => 0 < z ∧ z ≤ 90) (by decide) (by decide) (by decide)
  generalize pick3 20 60 90 (nxV r1 3) = m1 at p1
  have b0 := nxV_0 (r := nxR r1 3) p1.1
  have b1 := nxV_1 (r := nxR r1 3) p1.1
  generalize nxV (nxR r1 3) m1 = bg at b0 b1
  generalize nxR (nxR r1 3) m1 = r3
  have p2 : 0 < pick3 9 9 70 (nxV r3 3) := pick3_in (p := fun z => 0 < z) (by decide) (by decide) (by decide)
  generalize pick3 9 9 70 (nxV r3 3) = m2 at p2
  have c0 := nxV_0 (r := nxR r3 3) p2
  generalize nxV (nxR r3 3) m2 = ee at c0
  generalize nxR (nxR r3 3) m2 = r5
  have d0 := nxV_0 (r := r5) (m := (B.n : Int) - 1) (by omega)
  have d1 := nxV_1 (r := r5) (m := (B.n : Int) - 1) (by omega)
  generalize nxV r5 ((B.n : Int) - 1) = ot at d0 d1
  generalize nxV r (B.n : Int) = one at a0 a1
  refine ⟨⟨a0, a1⟩, ⟨Int.emod_nonneg _ (by omega), Int.emod_lt_of_pos _ hn⟩, fun e => ?_, b0, ?_, ?_⟩
  · have e : one = (one + 1 + ot) % (B.n : Int) := e
    by_cases q : one + 1 + ot < (B.n : Int)
    · rw [Int.emod_eq_of_lt (by omega) q] at e
      omega
    · have : (one + 1 + ot) % (B.n : Int) = one + 1 + ot - (B.n : Int) := by
        rw [← Int.sub_emod_right, Int.emod_eq_of_lt (by omega) (by omega)]
      omega
  · show bg < min 99 (bg + 1 + ee)
    omega
  · show min 99 (bg + 1 + ee) ≤ 99
    omega
theorem lawBook_good {n b : Int} {r : Rg} (h2 : 2 ≤ n) (h6 : n ≤ 6) (hb : 0 ≤ b) (hb6 : b ≤ 6) : Good (lawBook n b r) := by
  have hn := bk_n (b := b) (r := r) h2
  have hm := bkN_in (r := r) h2
  have hn2 : 2 ≤ (lawBook n b r).n := by omega
  refine ⟨hn2, by omega, ?_, ?_, ?_, ?_, ?_, ?_, ?_, ?_⟩
  · intro x hx
    have hx : x ∈ (iterI (fun k => iterI (flCell k) (bkN n r).toNat) (bkN n r).toNat (nxR r (n - 1))).1 := hx
    have := iterI_mem (p := fun (x : List Int) => x.length = (bkN n r).toNat) (fun i r' => iterI_len _ _ _) _ _ x hx
    rw [this]
    omega
  · intro o h ho hh
    obtain ⟨i, rfl⟩ : ∃ i : Nat, o = (i : Int) := ⟨o.toNat, by have := ho.1; omega⟩
    obtain ⟨j, rfl⟩ : ∃ j : Nat, h = (j : Int) := ⟨h.toNat, by have := hh.1; omega⟩
    have hi : i < (bkN n r).toNat := by have := ho.2; omega
    have hj : j < (bkN n r).toNat := by have := hh.2; omega
    have fl : (lawBook n b r).fl = (iterI (fun k => iterI (flCell k) (bkN n r).toNat) (bkN n r).toNat (nxR r (n - 1))).1 := rfl
    have cell := iterI_all (f := fun k => iterI (flCell k) (bkN n r).toNat) (p := fun k row => ∀ (j : Nat) (v : Int), row[j]? = some v → (if (j : Int) = (k : Int) then v = 0 else 1 ≤ v ∧ v ≤ 9)) (fun k r' j v hv => by
      refine iterI_all (f := flCell k) (p := fun j v => if (j : Int) = (k : Int) then v = 0 else 1 ≤ v ∧ v ≤ 9) (fun j r'' => ?_) _ r' j v hv
      have v0 := nxV_0 (r := r'') (m := 9) (by decide)
      have v1 := nxV_1 (r := r'') (m := 9) (by decide)
      show if (j : Int) = (k : Int) then (1 + nxV r'' 9) * (if (!decide ((j : Int) = (k : Int))) = true then 1 else 0) = 0 else _
      by_cases q : (j : Int) = (k : Int)
      · rw [if_pos q, decide_eq_true q]; simp
      · rw [if_neg q]
        show 1 ≤ (1 + nxV r'' 9) * (if (!decide ((j : Int) = (k : Int))) = true then 1 else 0) ∧ (1 + nxV r'' 9) * (if (!decide ((j : Int) = (k : Int))) = true then 1 else 0) ≤ 9
        rw [decide_eq_false q]
        simp
        omega) (bkN n r).toNat (nxR r (n - 1))
    have hil : i < (lawBook n b r).fl.length := by rw [fl, iterI_len]; exact hi
    have hr : (lawBook n b r).fl[i]? = some ((lawBook n b r).fl[i]) := List.getElem?_eq_getElem hil
    have c1 := cell i _ (by rw [← fl]; exact hr)
    have rl : ((lawBook n b r).fl[i]).length = (bkN n r).toNat := iterI_mem (p := fun (x : List Int) => x.length = (bkN n r).toNat) (fun i r' => iterI_len _ _ _) _ _ _ (by rw [← fl]; exact List.getElem_mem hil)
    have hv : ((lawBook n b r).fl[i])[j]? = some (((lawBook n b r).fl[i])[j]'(by omega)) := List.getElem?_eq_getElem _
    have c2 := c1 j _ hv
    have ef : (lawBook n b r).f (i : Int) (j : Int) = ((lawBook n b r).fl[i])[j]'(by omega) := by
      unfold Book.f Book.row
      rw [Int.toNat_natCast, Int.toNat_natCast, List.getD_eq_getElem?_getD, List.getD_eq_getElem?_getD, hr]
      show (((lawBook n b r).fl[i])[j]?).getD 0 = _
      rw [hv]; rfl
    rw [ef]
    exact c2
  · have := hours_good (B := lawBook n b r) (most := pick3 0 3 8 (nxV (bkF n r).2 3)) (r := nxR (bkF n r).2 3) hn2
    rw [hn] at this
    exact this
  · have : 0 ≤ pick3 0 3 8 (nxV (bkF n r).2 3) ∧ pick3 0 3 8 (nxV (bkF n r).2 3) ≤ 8 := pick3_in (p := fun z => 0 ≤ z ∧ z ≤ 8) (by decide) (by decide) (by decide)
    have h := hours_len (n := bkN n r) (r := nxR (bkF n r).2 3) this.1
    show (hours _ _ _).1.length ≤ 8
    omega
  · have := hours_good (B := lawBook n b r) (most := pick2 4 12 (nxV (bkS n r).2 2)) (r := nxR (bkS n r).2 2) hn2
    rw [hn] at this
    exact this
  · have : 0 ≤ pick2 4 12 (nxV (bkS n r).2 2) ∧ pick2 4 12 (nxV (bkS n r).2 2) ≤ 12 := pick2_in (p := fun z => 0 ≤ z ∧ z ≤ 12) (by decide) (by decide)
    have h := hours_len (n := bkN n r) (r := nxR (bkS n r).2 2) this.1
    show (hours _ _ _).1.length ≤ 12
    omega
  · refine iterI_mem (fun i r' => ?_) _ _
    show (lawBook n b r).off (nxV r' (bkN n r))
    exact nxV_off hn.symm (by omega)
  · show (iterI _ _ _).1.length ≤ 6
    rw [iterI_len]
    have h0 := nxV_0 (r := (bkC n r).2) (m := b + 1) (by omega)
    have h1 := nxV_1 (r := (bkC n r).2) (m := b + 1) (by omega)
    omega
section
variable {P : Program} {w : World} {K : PySem.W.Frag} {mg : Str → Option Value} {base : Heap} {T : Sta} {k : Nat} {X : Cx} {ks k1 k2 k3 : List SK} {a b e : Expr} {es : List Expr} {d da db : PyData} {ds : List PyData} {pos p tpos : Pos} {rest body orelse : List Stmt} {Φ : Po}
/-- a comprehension that changes nothing -/
theorem lc_filter {α : Type} (c : Ctx P w K mg base T k X) {elt tg iter : Expr} {ifs : List Expr} {scope : Scope} (own : List (Str × Nat)) {f : PyData → List SK → Option (List SK)} {js : List Nat} {xs : List α} {enc : α → PyData} (pr : α → Bool) (g : α → PyData)
    (ok : blkC T.N T.sc scope own = true) (hjs : js.all (fun j => (own.map (·.2)).contains j) = true) (hi : ID X ks tg iter k1 (xs.map enc))
    (nw : ∀ i ∈ own.map (·.2), ∃ k, k1[i]? = some k ∧ (k = .no ∨ ∃ d, k = .dat d))
    (hg : ∀ X', Ctx P w K mg base (Tb T scope) k X' → GD X' tg f js) (hz : xs.length < sizeLine)
    (turn : ∀ x ∈ xs, ∃ kb, f (enc x) (wipeK k1 (own.map (·.2))) = some kb ∧ (∀ X', Ctx P w K mg base (Tb T scope) k X' → TsD X' kb ifs kb (pr x)) ∧ Wk kb (wipeK k1 (own.map (·.2))) ∧ (pr x = true → ∀ X', Ctx P w K mg base (Tb T scope) k X' → ED X' kb elt kb (g x)))
    (hs : ∀ x, foldedSetIterable iter X.env x = pure x) : LC X ks (.ListComp elt [⟨tg, iter, ifs, 0⟩] scope pos) k1 ((xs.filter pr).map g) := by
  have key := lc_lc (pos := pos) c own (fun _ => k1) (fun i => ((xs.take i).filter pr).map g) ok hjs hi (fun i hi => by
    obtain ⟨k', h1, h2⟩ := nw i hi
    exact ⟨k', h1, h1, h2⟩) hg rfl (fun _ => rfl) (by simp) (by rw [List.length_map]; exact hz) (fun i d hd => by
    obtain ⟨x, hx, rfl⟩ := map_get hd
    obtain ⟨kb, e1, e2, e3, e4⟩ := turn x (List.mem_of_getElem? hx)
    refine ⟨kb, if pr x = true then some (g x) else none, e1, ⟨kb, pr x, e2, fun h => ⟨by rw [if_neg (by rw [h]; decide)], e3⟩, fun h => ⟨g x, kb, by rw [if_pos h], e4 h, e3⟩⟩, ?_⟩
    have ht : xs.take (i + 1) = xs.take i ++ [x] := by
      rw [List.take_succ, hx]; rfl
    rw [ht, List.filter_append, List.map_append]
    congr 1
    by_cases h : pr x = true
    · rw [if_pos h]; simp [h]
    · rw [if_neg h]; simp [h]) hs
  rw [List.length_map, List.take_length] at key
  exact key
theorem el_filter {α : Type} (c : Ctx P w K mg base T k X) {elt tg iter : Expr} {ifs : List Expr} {scope : Scope} (own : List (Str × Nat)) {f : PyData → List SK → Option (List SK)} {js : List Nat} {xs : List α} {enc : α → PyData} (pr : α → Bool) (g : α → PyData)
    (ok : blkC T.N T.sc scope own = true) (hjs : js.all (fun j => (own.map (·.2)).contains j) = true) (hi : ID X ks tg iter k1 (xs.map enc))
    (nw : ∀ i ∈ own.map (·.2), ∃ k, k1[i]? = some k ∧ (k = .no ∨ ∃ d, k = .dat d))
    (hg : ∀ X', Ctx P w K mg base (Tb T scope) k X' → GD X' tg f js) (hz : xs.length < sizeLine)
    (turn : ∀ x ∈ xs, ∃ kb, f (enc x) (wipeK k1 (own.map (·.2))) = some kb ∧ (∀ X', Ctx P w K mg base (Tb T scope) k X' → TsD X' kb ifs kb (pr x)) ∧ Wk kb (wipeK k1 (own.map (·.2))) ∧ (pr x = true → ∀ X', Ctx P w K mg base (Tb T scope) k X' → ED X' kb elt kb (g x)))
    (hs : ∀ x, foldedSetIterable iter X.env x = pure x) : EL X ks (.ListComp elt [⟨tg, iter, ifs, 0⟩] scope pos) k1 ((xs.filter pr).map g) := (lc_filter c own pr g ok hjs hi nw hg hz turn hs).el c
/-- a comprehension that draws at each turn -/
theorem lc_draw {α : Type} (c : Ctx P w K mg base T k X) {elt tg iter : Expr} {scope : Scope} (own : List (Str × Nat)) (h : Nat) {A B : Addr} {r : Rg} {f : PyData → List SK → Option (List SK)} {js : List Nat} {n : Nat} (fr : Nat → Rg → α × Rg) (g : α → PyData)
    (ok : blkC T.N T.sc scope own = true) (hjs : js.all (fun j => (own.map (·.2)).contains j) = true) (hi : ID X ks tg iter k1 (rngD n)) (hk : k1[h]? = some (.rng A B r)) (hh : h ∉ own.map (·.2))
    (nw : ∀ i ∈ own.map (·.2), ∃ k, k1[i]? = some k ∧ (k = .no ∨ ∃ d, k = .dat d))
    (hg : ∀ X', Ctx P w K mg base (Tb T scope) k X' → GD X' tg f js) (hz : n < sizeLine)
    (turn : ∀ i r', i < n → ∃ kb k3, f (.int (i : Nat)) (wipeK (k1.set h (.rng A B r')) (own.map (·.2))) = some kb ∧ (∀ X', Ctx P w K mg base (Tb T scope) k X' → ED X' kb elt k3 (g (fr i r').1)) ∧ Wk k3 (wipeK (k1.set h (.rng A B (fr i r').2)) (own.map (·.2))))
    (hs : ∀ x, foldedSetIterable iter X.env x = pure x) : LC X ks (.ListComp elt [⟨tg, iter, [], 0⟩] scope pos) (k1.set h (.rng A B (iterI fr n r).2)) ((iterI fr n r).1.map g) := by
  have hset : k1.set h (.rng A B r) = k1 := by
    apply List.ext_getElem?
    intro j
    by_cases q : h = j
    · subst q; rw [List.getElem?_set_self (List.getElem?_eq_some_iff.mp hk).1, hk]
    · rw [List.getElem?_set_ne q]
  have key := lc_lc (pos := pos) c own (fun i => k1.set h (.rng A B (iterI fr i r).2)) (fun i => (iterI fr i r).1.map g) ok hjs hi (fun i hi => by
    obtain ⟨k', h1, h2⟩ := nw i hi
    refine ⟨k', h1, ?_, h2⟩
    rw [List.getElem?_set_ne (show h ≠ i from fun z => hh (by rw [z]; exact hi))]; exact h1) hg hset (fun _ => by simp) rfl (by simp [rngD]; exact hz) (fun i d hd => by
    obtain ⟨hin, rfl⟩ := rngD_inv hd
    obtain ⟨kb, k3, e1, e2, e3⟩ := turn i (iterI fr i r).2 hin
    refine ⟨kb, some (g (fr i (iterI fr i r).2).1), e1, ⟨kb, true, fun X' _ => ts_nil, (fun h => by cases h), fun _ => ⟨_, k3, rfl, e2, e3⟩⟩, ?_⟩
    show List.map g ((iterI fr i r).1 ++ [_]) = _
    rw [List.map_append]; rfl) hs
  have hl : (rngD n).length = n := by simp [rngD]
  rw [hl] at key
  exact key
theorem el_draw {α : Type} (c : Ctx P w K mg base T k X) {elt tg iter : Expr} {scope : Scope} (own : List (Str × Nat)) (h : Nat) {A B : Addr} {r : Rg} {f : PyData → List SK → Option (List SK)} {js : List Nat} {n : Nat} (fr : Nat → Rg → α × Rg) (g : α → PyData)
    (ok : blkC T.N T.sc scope own = true) (hjs : js.all (fun j => (own.map (·.2)).contains j) = true) (hi : ID X ks tg iter k1 (rngD n)) (hk : k1[h]? = some (.rng A B r)) (hh : h ∉ own.map (·.2))
    (nw : ∀ i ∈ own.map (·.2), ∃ k, k1[i]? = some k ∧ (k = .no ∨ ∃ d, k = .dat d))
    (hg : ∀ X', Ctx P w K mg base (Tb T scope) k X' → GD X' tg f js) (hz : n < sizeLine)
    (turn : ∀ i r', i < n → ∃ kb k3, f (.int (i : Nat)) (wipeK (k1.set h (.rng A B r')) (own.map (·.2))) = some kb ∧ (∀ X', Ctx P w K mg base (Tb T scope) k X' → ED X' kb elt k3 (g (fr i r').1)) ∧ Wk k3 (wipeK (k1.set h (.rng A B (fr i r').2)) (own.map (·.2))))
    (hs : ∀ x, foldedSetIterable iter X.env x = pure x) : EL X ks (.ListComp elt [⟨tg, iter, [], 0⟩] scope pos) (k1.set h (.rng A B (iterI fr n r).2)) ((iterI fr n r).1.map g) := (lc_draw c own h fr g ok hjs hi hk hh nw hg hz turn hs).el c
end
end Z
namespace Z
open PySem PySem.Spec L2
variable [Tabl]
section
variable {P : Program} {w : World} {K : PySem.W.Frag} {mg : Str → Option Value} {base : Heap} {T : Sta} {k : Nat} {X : Cx} {ks k1 k2 k3 : List SK} {a b e : Expr} {es : List Expr} {d da db : PyData} {ds : List PyData} {pos p tpos : Pos} {rest body orelse : List Stmt} {Φ : Po}
theorem SD.nxW {L L' : List SK} {rt : List SK → PyData → Prop} {rl : List SK → List PyData → Prop} {bk : List SK → Prop} {rT : List SK → List PyData → List PyData → List PyData → Prop} {ex : List SK → Value → List (Str × PyData) → Prop} {rc : List SK → SK → Prop} (e : L = L') (h : SD X ks rest ⟨fun k => Wk k L', rt, rl, bk, fun k => Wk k L', rT, ex, rc⟩) : SD X ks rest ⟨fun k => Wk k L, rt, rl, bk, fun k => Wk k L, rT, ex, rc⟩ := e ▸ h
theorem rngD_len (n : Nat) : (rngD n).length = n := by simp [rngD]
theorem ok_sd {R : List PyData → PyData → Prop} {x : Str} {st : Stmt} {N ps : List Str} {k : Nat} {f : Addr} {fd : FuncData} (F : Fun K x x st f fd) (S : FnScope N ps (defScope st)) (hl : ∀ ds d, R ds d → ds.length = ps.length) (hN : ps.length ≤ N.length)
    (h : ∀ X, Ctx P w K mg base ⟨N, defScope st, fun _ => true⟩ k X → ∀ ds d, R ds d → SD X (ds.map SK.dat ++ List.replicate (N.length - ds.length) .no) (defBody st) { nx := fun _ => d = .none, rt := fun _ d' => d' = d, rl := fun _ ds' => d = .list ds' }) :
    FnOk P w K mg base CX0 (k + 1) f fd ps (spP K R) := by
  refine F.ok S (fun vs H Q E ⟨G, ds, d, _, _, r, hR, _⟩ => by rw [r.len]; exact hl ds d hR) (fun cdv A outer s H vs Q E hr ⟨G, ds, d, g, tb, r, hR, q⟩ => ⟨_, pss_sv, ?_⟩)
  have S0 := start_sts (N := N) (Le.refl g tb) r (by rw [hl ds d hR]; exact hN)
  refine h _ (cxOf_ctx S cdv A outer s H E hr) ds d hR _ _ G H _ S0 ⟨fun ks σ G' H' e S' => ?_, fun _ _ _ _ z => z.elim, fun _ _ _ _ z => z.elim, fun ks σ G' H' v d' e S' r' => ?_, fun ks σ G' H' a ds' e S' => ?_, fun _ _ _ _ _ _ _ _ z => z.elim, ex0⟩
  · exact q .non G' H' S'.le (by rw [e]; exact .non)
  · exact q v G' H' S'.le (by rw [← e]; exact r')
  · obtain ⟨G2, S2, g2, r2⟩ := S'.popFreeze
    exact q _ G2 H' S2.le (by rw [e]; exact r2)
/-- what a law's call begins with -/
theorem sp_law {R : List PyData → PyData → Prop} (hR : ∀ ns : List Int, ns.length ≤ 63 → R [.list (ns.map .int)] (.bool true)) (H : Hp) (a : Addr) (ns : List Int) (hl : ns.length ≤ 63) (hT : LamX.Tabs Tabl.T H) (hS : SqL K H a (ns.map V.int)) : spP K R [.ref a] H (fun v _ => v = .bl true) fun _ _ _ => False :=
by
  classical
  refine ⟨fun b => if ∃ ps, H b = some (.tbl ps) then none else H b, [.list (ns.map .int)], .bool true, fun b u e => ?_, ⟨fun p hp => ?_, hT⟩, .cons (.lst ?_ DpAll.ints) .nil, hR ns hl, fun v G2 H2 _ r => r.bl_inv⟩
  · have e : (if ∃ ps, H b = some (.tbl ps) then none else H b) = some u := e
    split at e
    · cases e
    · exact e
  · obtain ⟨ps, h, _⟩ := hT p hp
    exact if_pos ⟨ps, h⟩
  · rcases hS with (h | ⟨o, h⟩) | h
    · refine .inl (.inl ?_)
      show (if ∃ ps, H a = some (.tbl ps) then none else H a) = _
      rw [h, if_neg (fun ⟨ps, z⟩ => by cases z)]
    · refine .inl (.inr ⟨o, ?_⟩)
      show (if ∃ ps, H a = some (.tbl ps) then none else H a) = _
      rw [h, if_neg (fun ⟨ps, z⟩ => by cases z)]
    · exact .inr h
/-- _law_h = [c, list(..), 0] -/
theorem sd_rngNew (c : CtxB cq P w K mg base T k X) (i : Nat) {x : Str} {c0 : Int} {ns : List Int} {q0 q1 q2 q3 q4 : Pos} {j0 j2 : Nat} (hi : T.N[i]? = some x) (hx : Loc T.sc x) (hf : T.fn x = true ∨ T.sc.names.lookup x = some .local) (hl : i < ks.length)
    (hg : T.sc.names.lookup ("list" : Str) = some .globalImplicit) (hm : mg "list" = none) (h : ED X ks e ks (.list (ns.map .int)))
    (hs : swapsWith (.List [.Constant (.int c0) j0 q0, .Call (.Name "list" q1) [e] [] q2, .Constant (.int 0) j2 q3] q4) (some (.Name x p)) pos.line X.env = pure false)
    (he : starEach [e] X.env = (false, eval e X.env) :: starEach [] X.env)
    (q : ∀ A B, SD X (ks.set i (.rng A B ⟨c0, ns, 0⟩)) rest Φ) : SD X ks (.Assign [.Name x p] (.List [.Constant (.int c0) j0 q0, .Call (.Name "list" q1) [e] [] q2, .Constant (.int 0) j2 q3] q4) pos :: rest) Φ := fun W σ G H D S M => by
  refine sv_of (pss_cons (ps_set (nd_of c) (ix_of c hi) (loc_of c hx) (pe_lst (pa_cons pe_int (pa_cons (pe_callTy call_list_of (gl_of c hg) (by rw [c.hmg]; exact hm) PyProof.Rows.boot_list (pa_cons pe_ev pa_nil he) (he := he)) (pa_cons pe_int pa_nil)))) hs (fn_of' c hf)) pss_sv) ?_
  refine h W σ G H S _ fun v G1 H1 S1 g1 r1 => ?_
  obtain ⟨B0, us, rfl, sq, au⟩ := r1.lst_inv
  have eu := au.ints_inv
  subst eu
  refine ⟨B0, _, rfl, .inl (S1.gh.seq sq), fun B nB => ?_⟩
  refine ⟨by show 3 ≤ sizeLine; exact Nat.le_of_ble_eq_true rfl, fun A nA => ?_⟩
  have nab : B ≠ A := ne_of_none (H := upd H1 B _) upd_same nA
  have gA : G1 A = none := by
    cases e : G1 A with
    | none => rfl
    | some u =>
      have := S1.gh A u e
      rw [upd_ne (Ne.symm nab), this] at nA; cases nA
  have gB : G1 B = none := by
    cases e : G1 B with
    | none => rfl
    | some u => rw [S1.gh B u e] at nB; cases nB
  have l1 := Lp.newOwn (o := .lst (ns.map V.int)) S1.gh nB
  have l2 := Lp.newOwn (o := .lst [.int c0, .ref B, .int 0]) l1.gh nA
  have ll := l1.trans l2
  refine q A B W _ G1 _ D (S1.put hl (S1.le.trans ll) (Same.refl _) (fun _ _ e _ => e) fun ow o f => ⟨fun j b hj hb u hu => ll.keep b u (fun z => z) hu, [A, B], ⟨rfl, rfl, upd_same, ?_, Ne.symm nab⟩, fun b hb => ?_⟩) M
  · rw [upd_ne nab]; exact upd_same
  · have wn : ∀ z, H1 z = none → (∀ j, z ∉ ow j) ∧ W.H z = none := fun z hz => by
      refine ⟨fun j hj => ?_, ?_⟩
      · obtain ⟨u, hu⟩ := o.live f j z hj
        rw [hz] at hu; cases hu
      · cases e : W.H z with
        | none => rfl
        | some u =>
          obtain ⟨u', e'⟩ := S1.le.there z u e
          rw [hz] at e'; cases e'
    rcases (show b = A ∨ b = B by simpa using hb) with z | z <;> subst z
    · have := wn b (by rw [upd_ne (Ne.symm nab)] at nA; exact nA)
      exact ⟨fun j _ => this.1 j, gA, .inl this.2⟩
    · have := wn b nB
      exact ⟨fun j _ => this.1 j, gB, .inl this.2⟩
end
end Z
namespace Z
open PySem PySem.Spec L2
/-! ### the earliest hours: plain -/
structure Edge where
  a : Int
  b : Int
  go : Int → Option Int
structure Edge.Ok (e : Edge) : Prop where
  mono : ∀ v v' t', v ≤ v' → e.go v' = some t' → ∃ t, e.go v = some t ∧ t ≤ t'
  late : ∀ v t, e.go v = some t → v < t
abbrev Dt := Int → Option Int
/-- D is nowhere later than D' -/
def NL (D D' : Dt) : Prop := ∀ o t, D' o = some t → ∃ u, D o = some u ∧ u ≤ t
theorem NL.trans {D D' D2 : Dt} (h : NL D D') (h' : NL D' D2) : NL D D2 := fun o t e => by
  obtain ⟨u, e', l⟩ := h' o t e
  obtain ⟨u', e2, l'⟩ := h o u e'
  exact ⟨u', e2, Int.le_trans l' l⟩
structure Sound (E : Edge → Prop) (bs : Int × Int → Prop) (D : Dt) : Prop where
  pos : ∀ o t, D o = some t → 0 ≤ t
  from_ : ∀ o t, D o = some t → bs (o, t) ∨ ∃ e, E e ∧ e.b = o ∧ ∃ v u, D e.a = some v ∧ e.go v = some u ∧ u ≤ t
structure Stable (E : Edge → Prop) (bs : Int × Int → Prop) (D : Dt) : Prop where
  beg : ∀ o t, bs (o, t) → ∃ u, D o = some u ∧ u ≤ t
  ed : ∀ e, E e → ∀ v t, D e.a = some v → e.go v = some t → ∃ u, D e.b = some u ∧ u ≤ t
section
variable {E E' : Edge → Prop} {bs bs' : Int × Int → Prop} {D D' : Dt}
/-- what is soundly there stays soundly there when all else comes earlier -/
theorem Sound.earlier (hE : ∀ e, E e → e.Ok) (l : NL D' D) {o t : Int} (h : bs (o, t) ∨ ∃ e, E e ∧ e.b = o ∧ ∃ v u, D e.a = some v ∧ e.go v = some u ∧ u ≤ t) : bs (o, t) ∨ ∃ e, E e ∧ e.b = o ∧ ∃ v u, D' e.a = some v ∧ e.go v = some u ∧ u ≤ t := by
  rcases h with h | ⟨e, he, hb, v, u, h1, h2, h3⟩
  · exact .inl h
  · obtain ⟨v', h4, h5⟩ := l _ _ h1
    obtain ⟨u', h6, h7⟩ := (hE e he).mono v' v u h5 h2
    exact .inr ⟨e, he, hb, v', u', h4, h6, by omega⟩
end
def better (u : Option Int) (t : Int) : Bool := match u with
  | none => true
  | some u => decide (t < u)
def upD (D : Dt) (o : Int) (t : Option Int) : Dt := fun x => if x = o then t else D x
theorem upD_at {D : Dt} {o : Int} {t : Option Int} : upD D o t o = t := if_pos rfl
theorem upD_ne {D : Dt} {o x : Int} {t : Option Int} (h : x ≠ o) : upD D o t x = D x := if_neg h
def low (D : Dt) (o t : Int) : Dt := if better (D o) t = true then upD D o (some t) else D
theorem low_le {D : Dt} {o t : Int} : NL (low D o t) D := fun x s h => by
  unfold low
  by_cases q : better (D o) t = true
  · rw [if_pos q]
    by_cases qx : x = o
    · subst qx
      rw [h] at q
      exact ⟨t, upD_at, by have : t < s := of_decide_eq_true q; omega⟩
    · exact ⟨s, by rw [upD_ne qx]; exact h, Int.le_refl _⟩
  · rw [if_neg q]; exact ⟨s, h, Int.le_refl _⟩
theorem low_inv {D : Dt} {o t x s : Int} (h : low D o t x = some s) : (x = o ∧ s = t) ∨ D x = some s := by
  unfold low at h
  split at h
  · by_cases q : x = o
    · subst q; rw [upD_at] at h; cases h; exact .inl ⟨rfl, rfl⟩
    · rw [upD_ne q] at h; exact .inr h
  · exact .inr h
section
variable {E E' : Edge → Prop} {bs bs' : Int × Int → Prop} {D D' : Dt}
theorem Sound.low (hE : ∀ e, E e → e.Ok) (S : Sound E bs D) {o t : Int} (p : 0 ≤ t) (h : bs (o, t) ∨ ∃ e, E e ∧ e.b = o ∧ ∃ v u, D e.a = some v ∧ e.go v = some u ∧ u ≤ t) : Sound E bs (low D o t) := by
  refine ⟨fun x s hs => ?_, fun x s hs => ?_⟩
  · rcases low_inv hs with ⟨_, rfl⟩ | z
    · exact p
    · exact S.pos x s z
  · rcases low_inv hs with ⟨rfl, rfl⟩ | z
    · exact Sound.earlier hE low_le h
    · exact Sound.earlier hE low_le (S.from_ x s z)
def rel (D : Dt) (e : Edge) : Dt := match D e.a with
  | none => D
  | some v => match e.go v with
    | none => D
    | some t => low D e.b t
theorem Sound.rel (hE : ∀ e, E e → e.Ok) {e : Edge} (he : E e) (S : Sound E bs D) : Sound E bs (rel D e) := by
  unfold Z.rel
  cases h : D e.a with
  | none => exact S
  | some v =>
    dsimp only
    cases h' : e.go v with
    | none => exact S
    | some t =>
      have := (hE e he).late v t h'
      have := S.pos _ _ h
      exact S.low hE (by omega) (.inr ⟨e, he, rfl, v, t, h, h', Int.le_refl _⟩)
def rnd (es : List Edge) (D : Dt) : Dt := es.foldl Z.rel D
def its (es : List Edge) : Nat → Dt → Dt
  | 0, D => D
  | k + 1, D => rnd es (its es k D)
/-! ### there is one -/
open Classical in
/-- the earliest hours -/
noncomputable def Sp (E : Edge → Prop) (bs : Int × Int → Prop) : Dt := if h : ∃ D, Sound E bs D ∧ Stable E bs D then h.choose else fun _ => none
/-! ### how many rounds do -/
end
/-! ### hours as a list -/
def oD : Option Int → PyData
  | none => .none
  | some t => .int t
def fl (n : Nat) (D : Dt) : List PyData := (List.range n).map fun (i : Nat) => oD (D (i : Int))
end Z
namespace Z
open PySem PySem.Spec L2
variable [Tabl]
section
variable {P : Program} {w : World} {K : PySem.W.Frag} {mg : Str → Option Value} {base : Heap} {T : Sta} {k : Nat} {X : Cx} {ks k1 k2 k3 : List SK} {a b e : Expr} {es : List Expr} {d da db : PyData} {ds : List PyData} {pos p tpos : Pos} {rest body orelse : List Stmt} {Φ : Po}
theorem SD.to {ls : List SK} (e : ks = ls) (h : SD X ls rest Φ) : SD X ks rest Φ := e ▸ h
/-- [g for .. in ..] -/
theorem lc_map {α : Type} (c : Ctx P w K mg base T k X) {elt tg iter : Expr} {scope : Scope} (own : List (Str × Nat)) {f : PyData → List SK → Option (List SK)} {js : List Nat} {xs : List α} {enc : α → PyData} (g : α → PyData)
    (ok : blkC T.N T.sc scope own = true) (hjs : js.all (fun j => (own.map (·.2)).contains j) = true) (hi : ID X ks tg iter k1 (xs.map enc))
    (nw : ∀ i ∈ own.map (·.2), ∃ k, k1[i]? = some k ∧ (k = .no ∨ ∃ d, k = .dat d))
    (hg : ∀ X', Ctx P w K mg base (Tb T scope) k X' → GD X' tg f js) (hz : xs.length < sizeLine)
    (turn : ∀ x ∈ xs, ∃ kb, f (enc x) (wipeK k1 (own.map (·.2))) = some kb ∧ (∀ X', Ctx P w K mg base (Tb T scope) k X' → ED X' kb elt kb (g x)) ∧ Wk kb (wipeK k1 (own.map (·.2))))
    (hs : ∀ x, foldedSetIterable iter X.env x = pure x) : LC X ks (.ListComp elt [⟨tg, iter, [], 0⟩] scope pos) k1 (xs.map g) := by
  have key := lc_filter (pos := pos) c own (xs := xs) (enc := enc) (fun _ => true) g ok hjs hi nw hg hz (fun x hx => by
    obtain ⟨kb, h1, h2, h3⟩ := turn x hx
    exact ⟨kb, h1, fun X' _ => ts_nil, h3, fun _ => h2⟩) hs
  rw [List.filter_eq_self.mpr (fun _ _ => rfl)] at key
  exact key
theorem el_map {α : Type} (c : Ctx P w K mg base T k X) {elt tg iter : Expr} {scope : Scope} (own : List (Str × Nat)) {f : PyData → List SK → Option (List SK)} {js : List Nat} {xs : List α} {enc : α → PyData} (g : α → PyData)
    (ok : blkC T.N T.sc scope own = true) (hjs : js.all (fun j => (own.map (·.2)).contains j) = true) (hi : ID X ks tg iter k1 (xs.map enc))
    (nw : ∀ i ∈ own.map (·.2), ∃ k, k1[i]? = some k ∧ (k = .no ∨ ∃ d, k = .dat d))
    (hg : ∀ X', Ctx P w K mg base (Tb T scope) k X' → GD X' tg f js) (hz : xs.length < sizeLine)
    (turn : ∀ x ∈ xs, ∃ kb, f (enc x) (wipeK k1 (own.map (·.2))) = some kb ∧ (∀ X', Ctx P w K mg base (Tb T scope) k X' → ED X' kb elt kb (g x)) ∧ Wk kb (wipeK k1 (own.map (·.2))))
    (hs : ∀ x, foldedSetIterable iter X.env x = pure x) : EL X ks (.ListComp elt [⟨tg, iter, [], 0⟩] scope pos) k1 (xs.map g) := (lc_map c own g ok hjs hi nw hg hz turn hs).el c
end
end Z
namespace Z
open PySem PySem.Spec L2
variable [Tabl]
/-! ### list + list of any lists -/
def rCatS (K : PySem.W.Frag) : R2 := fun x y H Q => ∃ l b xs zs, x = .ref l ∧ y = .ref b ∧ SqL K H l xs ∧ SqL K H b zs ∧ xs.length + zs.length ≤ sizeLine ∧ ∀ p, H p = none → Q (.ref p) (upd H p (.lst (xs ++ zs)))
theorem op_catS {X : Cx} : OpR X (binaryOp .Add) (rCatS X.K) := by
  intro pins s σ H x y v u Q I rx ry h
  obtain ⟨l, b, xs, zs, rfl, rfl, hH, hB, hz, q⟩ := h
  cases rx
  cases ry
  obtain ⟨its, r, ⟨o1, n1, g1, c1, d1, e1⟩, _⟩ := I.list hH
  obtain ⟨its2, r2, ⟨o2, n2, g2, c2, d2, e2⟩, _⟩ := I.list hB
  obtain ⟨cls, dd, data, sl⟩ := o1
  obtain ⟨cls2, dd2, data2, sl2⟩ := o2
  simp only at c1 d1 e1 c2 d2 e2
  subst c1 d1 e1 c2 d2 e2
  have e : its.toArray ++ its2.toArray = (its ++ its2).toArray := by simp
  refine PySem.concat_meets ⟨_, g1, rfl⟩ ⟨_, g2, rfl⟩ PySem.noFill_list_add PySem.seq_list_add PySem.F.slot_list_add PySem.F.entry_list_add (PySem.F.args_list_add_2 _ _) (PyProof.Rows.list_addW l b its.toArray its2.toArray n1 n2 none none sl sl2 (by rw [List.size_toArray, List.size_toArray, ← r.length, ← r2.length]; exact hz)) ⟨g1, g2, ?_⟩
  rw [e]
  exact ⟨.ref _, _, I.lnew (t' := s.toks) (r.append r2) (by rw [List.length_append]; exact hz), rfl, q _ I.fresh⟩
section
variable {P : Program} {w : World} {K : PySem.W.Frag} {mg : Str → Option Value} {base : Heap} {T : Sta} {k : Nat} {X : Cx} {ks k1 k2 k3 : List SK} {a b e : Expr} {es : List Expr} {d da db : PyData} {ds ds' : List PyData} {pos p tpos : Pos} {rest body orelse : List Stmt} {Φ : Po}
theorem el_cat (ha : ED X ks a k1 (.list ds)) (hb : ED X k1 b k2 (.list ds')) (hz : ds.length + ds'.length ≤ sizeLine) : EL X ks (.BinOp a .Add b pos) k2 (ds ++ ds') := fun W σ G H S Q q => by
  refine ev_of (pe_op op_catS pe_ev pe_ev) (ha W σ G H S _ fun v G1 H1 S1 g1 r1 => hb W σ G1 H1 S1 _ fun u G2 H2 S2 g2 r2 => ?_)
  obtain ⟨l, xs, rfl, sx, ax⟩ := r1.lst_inv
  obtain ⟨m, ys, rfl, sy, ay⟩ := r2.lst_inv
  refine ⟨l, m, xs, ys, rfl, rfl, (g2.trans S2.gh).seq sx, S2.gh.seq sy, by rw [ax.len, ay.len]; exact hz, fun p np => ?_⟩
  have gp : G2 p = none := by
    cases e : G2 p with
    | none => rfl
    | some u => rw [S2.gh p u e] at np; cases np
  exact q p G2 _ (S2.push (Lp.newOwn S2.gh np) np gp upd_same (DpAll.append (DpAll.mono g2 ax) ay)) (g1.trans g2)
theorem ed_cat (ha : ED X ks a k1 (.list ds)) (hb : ED X k1 b k2 (.list ds')) (hz : ds.length + ds'.length ≤ sizeLine) : ED X ks (.BinOp a .Add b pos) k2 (.list (ds ++ ds')) := ed_el (el_cat ha hb hz)
theorem id_to {tg iter : Expr} (h : ID X ks tg iter k1 ds) (e : ds = ds') : ID X ks tg iter k1 ds' := e ▸ h
/-- zip of two lists -/
def zipD (ds es : List PyData) : List PyData := (ds.zip es).map fun p => .tuple [p.1, p.2]
theorem zipD_len : (zipD ds ds').length = min ds.length ds'.length := by simp [zipD]
theorem zipD_get {i : Nat} {d d' : PyData} (h : ds[i]? = some d) (h' : ds'[i]? = some d') : (zipD ds ds')[i]? = some (.tuple [d, d']) := by
  unfold zipD
  rw [List.getElem?_map]
  have : (ds.zip ds')[i]? = some (d, d') := by
    rw [List.getElem?_zip_eq_some]
    exact ⟨h, h'⟩
  rw [this]
  rfl
end
end Z
namespace Z
open PySem PySem.Spec L2
variable [Tabl]
/-! ### a list of our own looked at as data -/
section
variable {P : Program} {w : World} {K : PySem.W.Frag} {mg : Str → Option Value} {base : Heap} {T : Sta} {k : Nat} {X : Cx} {ks k1 k2 k3 : List SK} {a b e : Expr} {es : List Expr} {d da db : PyData} {ds ds' : List PyData} {pos p tpos : Pos} {rest body orelse : List Stmt} {Φ : Po}
/-! ### a walk over a list of our own, that stays -/
theorem DpAll.rep {G : Hp} {vs : List V} {ds : List PyData} (r : DpAll K G vs ds) : ∀ n : Nat, DpAll K G (List.replicate n vs).flatten (List.replicate n ds).flatten
  | 0 => .nil
  | n + 1 => by
    rw [List.replicate_succ, List.replicate_succ, List.flatten_cons, List.flatten_cons]
    exact DpAll.append r (DpAll.rep r n)
end
end Z
namespace Z
open PySem PySem.Spec L2
variable [Tabl]
/-! ### sorted -/
abbrev T3 := Int × Int × Int
def cd3 (r : T3) : Int := TS.code 1000 [r.1, r.2.1, r.2.2]
end Z
namespace Z
open PySem PySem.Spec L2 RT
end Z
namespace Z
open PySem PySem.Spec L2 PyProof.Rows
variable [Tabl]
/-! ### x in a tuple -/
def rInT (K : PySem.W.Frag) : R2 := fun x y H Q => ∃ d ds, Dp K H x d ∧ Dp K H y (.tuple ds) ∧ SeqAt.shaped d = true ∧ SeqAt.shaped (.tuple ds) = true ∧ Q (.bl (ds.any fun z => PyData.eqv z d)) H
def rNotInT (K : PySem.W.Frag) : R2 := fun x y H Q => ∃ d ds, Dp K H x d ∧ Dp K H y (.tuple ds) ∧ SeqAt.shaped d = true ∧ SeqAt.shaped (.tuple ds) = true ∧ Q (.bl (!ds.any fun z => PyData.eqv z d)) H
section
variable {X : Cx}
theorem op_inT (hu : X.A.units + 65 < cLine) : OpR X (compareOp .In) (rInT X.K) := by
  intro pins s σ H x y v u Q I rx ry h
  obtain ⟨d, ds, hd, he, pd, pa, q⟩ := h
  obtain ⟨as, r1⟩ := Dp.reads I d x v hd rx
  obtain ⟨bs, r2⟩ := Dp.reads I (.tuple ds) y u he ry
  exact SeqAt.in_tuple_reads r2 r1 (SeqAt.canLay_of_shaped pa) (SeqAt.canLay_of_shaped pd) (PyProof.Rows.room_in_shaped pd hu) ⟨.bl _, H, I, rfl, q⟩
theorem op_notInT (hu : X.A.units + 65 < cLine) : OpR X (compareOp .NotIn) (rNotInT X.K) := by
  intro pins s σ H x y v u Q I rx ry h
  obtain ⟨d, ds, hd, he, pd, pa, q⟩ := h
  obtain ⟨as, r1⟩ := Dp.reads I d x v hd rx
  obtain ⟨bs, r2⟩ := Dp.reads I (.tuple ds) y u he ry
  exact SeqAt.notIn_tuple_reads r2 r1 (SeqAt.canLay_of_shaped pa) (SeqAt.canLay_of_shaped pd) (PyProof.Rows.room_in_shaped pd hu) ⟨.bl _, H, I, rfl, q⟩
end
section
variable {P : Program} {w : World} {K : PySem.W.Frag} {mg : Str → Option Value} {base : Heap} {T : Sta} {k : Nat} {X : Cx} {da : PyData} {ds : List PyData}
theorem cd_inT (c : CtxB cq P w K mg base T k X) (pd : SeqAt.shaped da = true) (pa : SeqAt.shaped (.tuple ds) = true) : CmpD X .In da (.tuple ds) (ds.any fun z => PyData.eqv z da) :=
  ⟨_, op_inT (by have := c.un; omega), fun G H x y g ha hb Q q => ⟨da, ds, Dp.mono g ha, Dp.mono g hb, pd, pa, q _ G H (Lp.refl g) (.bl _)⟩⟩
theorem cd_niT (c : CtxB cq P w K mg base T k X) (pd : SeqAt.shaped da = true) (pa : SeqAt.shaped (.tuple ds) = true) : CmpD X .NotIn da (.tuple ds) (!ds.any fun z => PyData.eqv z da) :=
  ⟨_, op_notInT (by have := c.un; omega), fun G H x y g ha hb Q q => ⟨da, ds, Dp.mono g ha, Dp.mono g hb, pd, pa, q _ G H (Lp.refl g) (.bl _)⟩⟩
end
end Z
namespace Z
open PySem PySem.Spec L2 PyProof.Rows
end Z
namespace Z
open PySem PySem.Spec L2 PyProof.Rows
end Z
namespace Z
open PySem PySem.Spec L2
/-! ### dicts of ints -/
end Z
namespace Z
open PySem PySem.Spec L2
variable [Tabl]
section
variable {P : Program} {w : World} {K : PySem.W.Frag} {mg : Str → Option Value} {base : Heap} {T : Sta} {k : Nat} {X : Cx} {ks k1 k2 k3 : List SK} {a b e : Expr} {es : List Expr} {d da db : PyData} {ds ds' el : List PyData} {pos p tpos : Pos} {rest body orelse : List Stmt} {Φ : Po}
/-! ### slots moved -/
section
variable {W : Wd} {σ : St} {G H : Hp} {i : Nat}
/-- a slot told otherwise, of the same things -/
theorem Sts.told {k0 k' : SK} {v' : Option V} (S : Sts K W ks σ G H) (hk : ks[i]? = some k0) (nr : isRng k0 = false) (h : ∀ as, Sl K G H k0 ((σ[i]?).getD none) as → Sl K G H k' v' as) : Sts K W (ks.set i k') (σ.set i v') G H := by
  obtain ⟨le, len, ow, o, f⟩ := S
  have hi := (List.getElem?_eq_some_iff.mp hk).1
  refine ⟨le, by simp [len], ow, ⟨o.dis, fun j a ha => ?_, fun j hj => o.out j (by simpa using hj)⟩, fun j kj hj => ?_⟩
  · obtain ⟨b1, c⟩ := o.mine j a ha
    refine ⟨b1, ?_⟩
    rcases c with c | ⟨c, r, e, e'⟩
    · exact .inl c
    · by_cases q : j = i
      · subst q
        rw [hk] at e
        cases e
        rw [nr] at e'
        cases e'
      · exact .inr ⟨c, r, by rw [List.getElem?_set_ne (Ne.symm q)]; exact e, e'⟩
  · by_cases q : j = i
    · subst q
      rw [List.getElem?_set_self hi] at hj
      cases hj
      rw [List.getElem?_set_self (by omega)]
      exact h _ (f j k0 hk)
    · rw [List.getElem?_set_ne (Ne.symm q)] at hj
      rw [List.getElem?_set_ne (Ne.symm q)]
      exact f j kj hj
theorem Sts.at {k' : SK} (S : Sts K W ks σ G H) (hk : ks[i]? = some k') : ∃ as, Sl K G H k' ((σ[i]?).getD none) as := let ⟨_, _, ow, _, f⟩ := S; ⟨ow i, f i _ hk⟩
theorem Sts.there (S : Sts K W ks σ G H) (hi : i < ks.length) {v : V} (h : (σ[i]?).getD none = some v) : σ[i]? = some (some v) := by
  have hl : i < σ.length := by rw [S.len]; exact hi
  rw [List.getElem?_eq_getElem hl] at h ⊢
  simpa using h
end
/-! ### a tuple that ends with a list of our own -/
end
end Z
namespace Z
open PySem PySem.Spec L2
variable [Tabl]
section
variable {P : Program} {w : World} {K : PySem.W.Frag} {mg : Str → Option Value} {base : Heap} {T : Sta} {k : Nat} {X : Cx} {ks k1 k2 k3 : List SK} {a b e : Expr} {es : List Expr} {d da db : PyData} {ds ds' : List PyData} {pos p p2 pos2 : Pos}
/-! ### slices whose parts draw -/
def cutG {α : Type} (xs : List α) (lo hi : Option Int) : List α := (xs.drop (HT.sIx xs.length 0 lo)).take (HT.sIx xs.length xs.length hi - HT.sIx xs.length 0 lo)
theorem cutD_map {α : Type} {f : α → PyData} {xs : List α} {lo hi : Option Int} : cutD (xs.map f) lo hi = (cutG xs lo hi).map f := by
  unfold cutD cutG
  rw [List.length_map, List.map_take, List.map_drop]
/-! ### such a tuple, frozen -/
end
end Z
namespace Z
open PySem PySem.Spec PyProof.Rows L2
/-! ### defs that make lambdas: the code object is known -/
/-! ### sorted(.., key = lambda x: (x[i], x[j])) -/
end Z
namespace Z
open PySem PySem.Spec L2
end Z
namespace Z
open PySem PySem.Spec PyProof.Rows L2
end Z
namespace Z
open PySem PySem.Spec L2
end Z
namespace Z
open PySem PySem.Spec L2
variable [Tabl]
/-! ### instances that stay -/
section
variable {P : Program} {w : World} {K : PySem.W.Frag} {mg : Str → Option Value} {base : Heap} {T : Sta} {k : Nat} {X : Cx} {ks k1 k2 k3 : List SK} {a b e o : Expr} {es : List Expr} {d da db : PyData} {ds ds' el : List PyData} {pos p tpos apos : Pos} {rest : List Stmt} {Φ : Po} {C : Addr} {fs : List (Str × PyData)}
theorem FsD.get {G : Hp} {f : Str} : ∀ {vs : List (Str × V)} {fs : List (Str × PyData)}, FsD K G vs fs → fs.lookup f = some d → ∃ v, vs.lookup f = some v ∧ Dp K G v d
  | _, _, .nil, h => by cases h
  | (x, v) :: vs, (y, e) :: fs, .cons ⟨h1, h2⟩ t, h => by
    have h1 : x = y := h1
    subst h1
    rw [List.lookup_cons] at h ⊢
    by_cases q : (f == x) = true
    · rw [q] at h ⊢
      cases h
      exact ⟨v, rfl, h2⟩
    · have q : (f == x) = false := by simpa using q
      rw [q] at h ⊢
      exact FsD.get t h
theorem FsD.none {G : Hp} {f : Str} : ∀ {vs : List (Str × V)} {fs : List (Str × PyData)}, FsD K G vs fs → fs.lookup f = none → vs.lookup f = none
  | _, _, .nil, _ => rfl
  | (x, v) :: vs, (y, e) :: fs, .cons ⟨h1, h2⟩ t, h => by
    have h1 : x = y := h1
    subst h1
    rw [List.lookup_cons] at h ⊢
    by_cases q : (f == x) = true
    · rw [q] at h; cases h
    · have q : (f == x) = false := by simpa using q
      rw [q] at h ⊢
      exact FsD.none t h
/-! ### methods of such an instance -/
/-- a method as the written part holds it -/
structure MethAt (K : PySem.W.Frag) (C : Addr) (m qual : Str) (st : Stmt) (ps : List Str) : Prop where
  ex : ∃ f fd, Fun K m qual st f fd ∧ Meth K C m f ∧ Binds K fd ps []
end
end Z
namespace Z
open PySem PySem.Spec L2
variable [Tabl]
/-! ### instances of our own: __init__ -/
section
variable {P : Program} {w : World} {K : PySem.W.Frag} {mg : Str → Option Value} {base : Heap} {T : Sta} {k : Nat} {X : Cx} {ks k1 k2 k3 : List SK} {a b e o : Expr} {es : List Expr} {d da db : PyData} {ds ds' el : List PyData} {pos p tpos apos : Pos} {rest : List Stmt} {Φ : Po} {C : Addr} {fs : List (Str × PyData)}
def putD (f : Str) (d : PyData) : List (Str × PyData) → List (Str × PyData)
  | [] => [(f, d)]
  | (g, x) :: r => if g = f then (g, d) :: r else (g, x) :: putD f d r
theorem FsD.put {G : Hp} {f : Str} {v : V} (hv : Dp K G v d) : ∀ {vs : List (Str × V)} {fs : List (Str × PyData)}, FsD K G vs fs → FsD K G (putF f v vs) (putD f d fs)
  | _, _, .nil => .cons ⟨rfl, hv⟩ .nil
  | (x, u) :: vs, (y, e) :: fs, .cons ⟨h1, h2⟩ t => by
    have h1 : x = y := h1
    subst h1
    show FsD K G (if x = f then (x, v) :: vs else (x, u) :: putF f v vs) (if x = f then (x, d) :: fs else (x, e) :: putD f d fs)
    by_cases q : x = f
    · rw [if_pos q, if_pos q]; exact .cons ⟨rfl, hv⟩ t
    · rw [if_neg q, if_neg q]; exact .cons ⟨rfl, h2⟩ (FsD.put hv t)
theorem FsD.len {G : Hp} {vs : List (Str × V)} {fs : List (Str × PyData)} (h : FsD K G vs fs) : vs.length = fs.length := Paired.length h
theorem pl_ins {dx : Addr} {vs : List (Str × V)} : Pl (.ins C dx vs) := ⟨(fun _ z => by cases z), (fun _ z => by cases z)⟩
theorem Sts.oinPut {W : Wd} {σ : St} {G H : Hp} {i : Nat} {a dx : Addr} {fs' : List (Str × PyData)} {vs : List (Str × V)} (S : Sts K W ks σ G H) (hk : ks[i]? = some (.oin a dx C fs)) (r : FsD K G vs fs') : Sts K W (ks.set i (.oin a dx C fs')) σ G (upd H a (.ins C dx vs)) := by
  have hi := (List.getElem?_eq_some_iff.mp hk).1
  obtain ⟨as, h⟩ := S.at hk
  obtain ⟨e1, _, ⟨vs0, h1, _⟩, h2, n⟩ := h
  have hσ : σ.set i (some (.ref a)) = σ := by
    apply List.ext_getElem?
    intro j
    by_cases q : j = i
    · subst q; rw [List.getElem?_set_self (by rw [S.len]; exact hi), S.there hi e1]
    · rw [List.getElem?_set_ne (Ne.symm q)]
  obtain ⟨ga, wa⟩ : G a = none ∧ (W.H a = none ∨ W.M a) := by
    obtain ⟨le, len, ow, o, f⟩ := S
    obtain ⟨_, b1, _⟩ := f i _ hk
    obtain ⟨m1, m2⟩ := o.mine i a (by rw [b1]; simp)
    exact ⟨m1, m2.imp id fun z => z.1⟩
  have l := S.le.upd (o := .ins C dx vs) ⟨_, h1⟩ (fun u e => by rw [h1] at e; cases e; exact pl_ins) ga wa
  have S2 := S.put (k := .oin a dx C fs') (v := some (.ref a)) hi l (Same.refl G) (fun _ _ e _ => e) fun ow o f => by
    obtain ⟨_, b1, _⟩ := f i _ hk
    refine ⟨fun j b hj hb u hu => ?_, [a, dx], ⟨rfl, rfl, ⟨vs, upd_same, r⟩, by rw [upd_ne (Ne.symm n)]; exact h2, n⟩, fun b hb => ?_⟩
    · have : b ≠ a := fun z => hj (o.dis j i b hb (by rw [b1, z]; simp))
      rw [upd_ne this]; exact hu
    · have hb : b ∈ ow i := by rw [b1]; exact hb
      obtain ⟨m1, m2⟩ := o.mine i b hb
      exact ⟨fun j hj hb' => hj (o.dis j i b hb' hb), m1, m2.imp id fun z => ⟨z.1, rfl⟩⟩
  rw [hσ] at S2
  exact S2
/-- self.f = e -/
theorem sd_setfld (c : CtxB cq P w K mg base T k X) (i : Nat) {x f : Str} {a dx : Addr} {p1 p2 : Pos} (cl : Cls X.K C) (na : NoAttr X.K C f) (hN : T.N[i]? = some x) (hv : Vis T.sc x) (h : ED X ks e k1 d) (hk : k1[i]? = some (.oin a dx C fs)) (hz : fs.length < 1000)
    (q : SD X (k1.set i (.oin a dx C (putD f d fs))) rest Φ) (hd : (x == ("__debug__" : Str)) = false) (hcd : (x == ("__classdict__" : Str)) = false) (hs : swapsWith e (some (.Attribute (.Name x p1) f p2)) pos.line X.env = pure false) :
    SD X ks (.Assign [.Attribute (.Name x p1) f p2] e pos :: rest) Φ := fun W σ G H D S M => by
  refine sv_of (pss_cons (ps_fld (pe_var (ix_of c hN) (vis_of c hv) hd hcd) pe_ev hs) pss_sv) ?_
  refine h W σ G H S _ fun v G1 H1 S1 g1 r1 => ?_
  obtain ⟨as, z⟩ := S1.at hk
  obtain ⟨e1, _, ⟨vs, h1, r⟩, _, _⟩ := z
  refine ⟨.ref a, S1.there (List.getElem?_eq_some_iff.mp hk).1 e1, a, C, dx, vs, rfl, h1, cl, na, by rw [r.len]; exact hz, ?_⟩
  exact q W σ G1 _ D (S1.oinPut hk (r.put r1)) M
theorem start_oin {G H : Hp} {N : List Str} {p dx : Addr} {vs : List V} {ds : List PyData} (g : Same G H) (tb : TbO G H) (gp : G p = none) (gd : G dx = none) (hp : H p = some (.ins C dx [])) (hd : H dx = some (.own p)) (n : p ≠ dx) (rr : DpAll K G vs ds) (hl : ds.length + 1 ≤ N.length) :
    Sts K ⟨G, H, fun a => a = p ∨ a = dx⟩ (.oin p dx C [] :: (ds.map SK.dat ++ List.replicate (N.length - (ds.length + 1)) .no)) (L2.start N (.ref p :: vs)) G H := by
  have hv := rr.len
  have e : L2.start N (.ref p :: vs) = some (.ref p) :: (vs.map some ++ List.replicate (N.length - (ds.length + 1)) none) := by
    unfold L2.start
    rw [List.map_cons, List.length_cons, hv]
    rfl
  rw [e]
  refine ⟨⟨Same.refl G, g, fun _ _ _ _ e => e, fun _ o e => ⟨o, e⟩, fun _ _ e _ => e, fun x hx => ?_, tb⟩, by simp; omega, fun i => if i = 0 then [p, dx] else [], ⟨fun i j x h h' => ?_, fun i x h => ?_, fun i hi => ?_⟩, fun i k hk => ?_⟩
  · rcases hx with z | z <;> subst z
    · exact ⟨_, hp⟩
    · exact ⟨_, hd⟩
  · by_cases q : i = 0 <;> by_cases q' : j = 0 <;> simp only [q, q', if_true, if_false] at h h' <;> first | (rw [q, q']; done) | exact absurd h List.not_mem_nil | exact absurd h' List.not_mem_nil
  · by_cases q : i = 0
    · simp only [q, if_true] at h
      have : x = p ∨ x = dx := by simpa using h
      rcases this with z | z <;> subst z
      · exact ⟨gp, .inr ⟨.inl rfl, _, by rw [q]; rfl, rfl⟩⟩
      · exact ⟨gd, .inr ⟨.inr rfl, _, by rw [q]; rfl, rfl⟩⟩
    · simp only [q, if_false] at h; cases h
  · have : i ≠ 0 := by simp at hi; omega
    simp only [this, if_false]
  · cases i with
    | zero =>
      cases hk
      exact ⟨rfl, rfl, ⟨[], hp, .nil⟩, hd, n⟩
    | succ i =>
      simp only [Nat.succ_ne_zero, if_false]
      have hk' : (ds.map SK.dat ++ List.replicate (N.length - (ds.length + 1)) .no)[i]? = some k := hk
      show Sl K G H k (((vs.map some ++ List.replicate (N.length - (ds.length + 1)) none)[i]?).getD none) []
      by_cases q : i < ds.length
      · rw [List.getElem?_append_left (by simpa using q), List.getElem?_map] at hk'
        cases e : ds[i]? with
        | none => rw [e] at hk'; cases hk'
        | some d =>
          rw [e] at hk'
          cases hk'
          obtain ⟨v, e1, e2⟩ := rr.get e
          refine ⟨rfl, v, ?_, e2⟩
          rw [List.getElem?_append_left (by simp; omega), List.getElem?_map, e1]
          rfl
      · rw [List.getElem?_append_right (by simp; omega)] at hk'
        have := List.mem_of_getElem? hk'
        rw [List.mem_replicate] at this
        rw [this.2]
        exact (show ([] : List Addr) = [] from rfl)
/-- a class that is made by its __init__ -/
structure MkG (P : Program) (w : World) (K : PySem.W.Frag) (mg : Str → Option Value) (base : Heap) (x : Str) (C : Addr) (ps : List Str) (j : Nat) (sp : L2.Sp) : Prop where
  ex : ∃ f fd, FnOk P w K mg base CX0 j f fd ps sp ∧ Mk K C f ∧ mg x = some (.ref C) ∧ Binds K fd ps []
structure MkAt (K : PySem.W.Frag) (mg : Str → Option Value) (x : Str) (C : Addr) (qual : Str) (st : Stmt) (ps : List Str) : Prop where
  ex : ∃ f fd, Fun K "__init__" qual st f fd ∧ Mk K C f ∧ mg x = some (.ref C) ∧ Binds K fd ps []
end
end Z
namespace Z
open PySem PySem.Spec L2
variable [Tabl]
/-! ### defs that raise -/
section
variable {P : Program} {w : World} {K : PySem.W.Frag} {mg : Str → Option Value} {base : Heap} {T : Sta} {k : Nat} {X : Cx} {ks k1 k2 k3 : List SK} {a b e o : Expr} {es : List Expr} {d da db : PyData} {ds ds' el : List PyData} {pos p tpos apos : Pos} {rest body : List Stmt} {Φ : Po} {C : Addr} {fs : List (Str × PyData)} {cls : Value}
theorem EV.mono {σ : St} {H : Hp} {Q Q' : VK} (h : EV X e σ H Q) (q : ∀ v H, Q v H → Q' v H) : EV X e σ H Q' := ⟨fun pins s I => wpAny_mono (h.run pins s I) (fun u s1 ⟨v, H', I', r, z⟩ => ⟨v, H', I', r, q v H' z⟩) (fun _ _ x => x)⟩
/-- what a def promises that may raise -/
def spPX (K : PySem.W.Frag) (R : List PyData → PyData → Prop) (Rx : List PyData → Value → List (Str × PyData) → Prop) : L2.Sp := fun vs H Q E => ∃ G ds, Same G H ∧ TbO G H ∧ DpAll K G vs ds ∧
  ((∃ d, R ds d ∧ ∀ v G2 H2, Le (pur G H) G2 H2 → Dp K G2 v d → Q v H2) ∨ ∃ cls fs, Rx ds cls fs ∧ ∀ dx G2 H2, Le (pur G H) G2 H2 → ExF K G2 dx fs → E cls dx H2)
structure FnX (P : Program) (w : World) (K : PySem.W.Frag) (mg : Str → Option Value) (base : Heap) (x : Str) (ps : List Str) (j : Nat) (sp : L2.Sp) : Prop where
  ex : ∃ f fd, FnOk P w K mg base (L2.CX P w) j f fd ps sp ∧ mg x = some (.ref f) ∧ PySem.W.keepIn K (.ref f) = true ∧ Binds K fd ps []
theorem cxOf_ctxX {N ps : List Str} {st : Stmt} {qual : Str} {f : Addr} {k : Nat} (S : FnScope N ps (defScope st)) (cdv : Value) (A : Around) (outer : List Env) (s : Shared) (H : Hp) (E : XK) (hr : Room k (A.deeper (PyProof.Rows.envOfC qual (defScope st) s.heap.objs.size f cdv))) :
    Ctx P w K mg base ⟨N, defScope st, fun _ => true⟩ k (cxOf (L2.CX P w) P w K mg base N qual (defScope st) f cdv A outer s H E) where
  hP := rfl
  hw := rfl
  hK := rfl
  hmg := rfl
  hbase := rfl
  hN := rfl
  nd := S.nd
  hs := rfl
  calm' := fun _ => rfl
  room' := fun _ => hr
  un := Nat.lt_of_le_of_lt (Nat.add_le_add_right (Nat.le_add_right _ _) _) hr.un
  po := passes_of rfl
  fn := rfl
/-- such a context stands on its own stack -/
structure StkC (X : Cx) : Prop where
  hs : X.stack = X.env :: X.outer
  hf : X.env.frame = some X.env.locals
/-! ### raise -/
/-- an exception class whose __init__ sets one field -/
structure Exc1 (P : Program) (w : World) (K : PySem.W.Frag) (mg : Str → Option Value) (base : Heap) (x f : Str) (C : Addr) (j : Nat) : Prop where
  gC : mg x = some (.ref C)
  oc : OexC K C
  ini : ∃ fI fd ps, PySem.W.findIn K (.ref C) "__init__" = some (some (.ref fI)) ∧ PySem.W.typeIn K (.ref fI) = some (.type "function") ∧ Binds K fd ps [] ∧
    FnOk P w K mg base (L2.CX P w) j fI fd ps (fun vs H Q _ => ∃ a v, vs = [.ref a, v] ∧ H a = some (exo a C none) ∧ ∀ dx, H dx = none → dx ≠ a → Q .non (upd (upd H dx (exd dx [(f, v)])) a (exo a C (some dx))))
/-- the same, of the text -/
structure Exc1At (K : PySem.W.Frag) (mg : Str → Option Value) (x f : Str) (C : Addr) (qual : Str) (st : Stmt) (ps : List Str) : Prop where
  gC : mg x = some (.ref C)
  oc : OexC K C
  no : PySem.W.findIn K (.ref C) f = some none
  ini : ∃ fI fd, PySem.W.findIn K (.ref C) "__init__" = some (some (.ref fI)) ∧ PySem.W.typeIn K (.ref fI) = some (.type "function") ∧ Binds K fd ps [] ∧ Fun K "__init__" qual st fI fd
theorem exc1_of {x f y z qual : Str} {st : Stmt} {p1 p2 p3 p4 : Pos} (E : Exc1At K mg x f C qual st [y, z]) (S : FnScope [y, z] [y, z] (defScope st)) (hb : defBody st = [.Assign [.Attribute (.Name y p1) f p2] (.Name z p3) p4])
    (hy : (defScope st).names.lookup y = some .local) (hz : (defScope st).names.lookup z = some .local) (h1 : (y == ("__debug__" : Str)) = false) (h2 : (y == ("__classdict__" : Str)) = false) (h3 : (z == ("__debug__" : Str)) = false) (h4 : (z == ("__classdict__" : Str)) = false)
    (hs : ∀ env : Env, env.scope = defScope st → swapsWith (.Name z p3) (some (.Attribute (.Name y p1) f p2)) p4.line env = pure false) : Exc1 P w K mg base x f C 1 := by
  obtain ⟨gC, oc, no, fI, fd, hI, tI, hbd, F⟩ := E
  refine ⟨gC, oc, fI, fd, _, hI, tI, hbd, ?_⟩
  refine F.okX S (fun vs H Q E h => ?_) (fun cdv A outer s H vs Q E hr h => ⟨tSeq (tOst K f (tVar 0) (tVar 1)) tNext, ?_, ?_⟩)
  · obtain ⟨a, v, rfl, _⟩ := h
    rfl
  · rw [hb]
    exact pss_cons (ps_ost (pe_var rfl (.inl hy) h1 h2) (pe_var rfl (.inl hz) h3 h4) (hs _ rfl)) pss_nil
  · obtain ⟨a, v, rfl, ha, q⟩ := h
    exact ⟨v, rfl, .ref a, rfl, a, C, rfl, oc, no, .inl ⟨ha, fun dx n ne => q dx n ne⟩⟩
/-- raise X(e) -/
theorem sd_raise1 (c : Ctx P w K mg base T k X) {x f : Str} {j : Nat} {pos' : Pos} (E : Exc1 P w K mg base x f C j) (hj : j + 1 ≤ k) (hg : T.sc.names.lookup x = some .globalImplicit) (h : ED X ks e k1 d) (hdb : (x == ("__debug__" : Str)) = false)
    (he : starEach [e] X.env = (false, eval e X.env) :: starEach [] X.env) (q : Φ.ex k1 (.ref C) [(f, d)]) :
    SD X ks (.Raise (some (.Call (.Name x p) [e] [] pos)) none pos' :: rest) Φ := fun W σ G H D S M => by
  obtain ⟨⟨Wx, tk, hx⟩, _⟩ := M.ex
  obtain ⟨gC, oc, fI, fd, ps, hI, tI, hb, F⟩ := E
  have h1 := c.hP
  have h2 := c.hw
  have h3 := c.hK
  have h4 := c.hmg
  have h5 := c.hbase
  subst h1 h2 h3 h4 h5
  refine sv_of (pss_cons (ps_raise c.calm tk (pmk_oex oc hI tI F (c.room.mono hj) hb .nil passL (gl_of c hg) gC (pa_cons pe_ev pa_nil he) hdb he rfl)) pss_sv) ?_
  refine h W σ G H S _ fun v G1 H1 S1 g1 r1 => ⟨Nat.le_of_ble_eq_true rfl, fun a ha => ⟨a, v, rfl, upd_same, fun dx n ne => ⟨rfl, dx, [(f, v)], upd_same, ?_, ?_, ?_⟩⟩⟩
  · rw [upd_ne ne, upd_same]
  · rw [upd_ne ne] at n; exact n
  · have n' : H1 dx = none := by rw [upd_ne ne] at n; exact n
    have e3 : upd (del (upd (upd (upd H1 a (exo a C none)) dx (exd dx [(f, v)])) a (exo a C (some dx))) a) dx (.xd [(f, v)]) = upd H1 dx (.xd [(f, v)]) := by
      funext b
      by_cases q1 : b = dx
      · subst q1; rw [upd_same, upd_same]
      · rw [upd_ne q1, upd_ne q1]
        by_cases q2 : b = a
        · subst q2; rw [del_same, ha]
        · rw [del_ne q2, upd_ne q2, upd_ne q1, upd_ne q2]
    rw [e3]
    have l : Lp G1 H1 (upd G1 dx (.xd [(f, v)])) (upd H1 dx (.xd [(f, v)])) := Lp.new S1.gh n'
    refine hx k1 σ _ _ (.ref C) (some dx) [(f, d)] q (S1.pure l) ⟨_, upd_same, .cons ⟨rfl, Dp.mono l.g r1⟩ .nil⟩
end
end Z
namespace Z
open PySem PySem.Spec L2
variable [Tabl]
/-! ### try .. except C as e -/
section
variable {P : Program} {w : World} {K : PySem.W.Frag} {mg : Str → Option Value} {base : Heap} {T : Sta} {k : Nat} {X Y : Cx} {ks k1 k2 k3 : List SK} {b e o : Expr} {es : List Expr} {d' da db : PyData} {ds ds' el : List PyData} {pos p tpos apos : Pos} {rest body : List Stmt} {Φ : Po} {C a : Addr} {d : Option Addr} {fs : List (Str × PyData)} {cls : Value} {oe : Obj} {pn : List (Addr × Obj)} {cq : Bool}
/-- the exception that a suite holds -/
def excC (a : Addr) (d : Option Addr) (fs : List (Str × PyData)) : Cus :=
  ⟨fun K G H o as => as = [] ∧ o = some (.ref a) ∧ ExF K G d fs, false, fun K G H G2 H2 o as e ⟨x, y, z⟩ _ => ⟨x, y, z.mono e⟩, fun K G H o as ⟨x, _⟩ => by subst x; simp⟩
theorem CtxB.tr (c : Ctx P w K mg base T k X) {xe : Value → Shared → Prop} (po : PassesOwn (model X.prog X.w) X.A X.env xe) : Ctx P w K mg base T k (X.tr pn xe) := ⟨c.hP, c.hw, c.hK, c.hmg, c.hbase, c.hN, c.nd, c.hs, c.calm', c.room', c.un, po, c.fn⟩
theorem CtxB.suite (c : Ctx P w K mg base T k X) : CtxB false P w K mg base T k (X.suite a pn) := ⟨c.hP, c.hw, c.hK, c.hmg, c.hbase, c.hN, c.nd, c.hs, fun z => Bool.noConfusion z, fun z => Bool.noConfusion z, c.un, PassesOwn.never, c.fn⟩
theorem Sts.unset {W : Wd} {σ : St} {G H : Hp} (S : Sts K W ks σ G H) (i : Nat) : Sts K W (ks.set i .no) (σ.set i none) G H := by
  by_cases hi : i < ks.length
  · exact S.put hi S.le (Same.refl G) (fun _ _ e _ => e) fun ow o f => ⟨fun _ _ _ _ u e => e, [], rfl, fun _ h => by cases h⟩
  · rw [List.set_eq_of_length_le (by omega), List.set_eq_of_length_le (by rw [S.len]; omega)]
    exact S
theorem sd_tryAs (c : Ctx P w K mg base T k X) (st : StkC X) (i : Nat) {n x : Str} {cv : Value} {b₀ : Stmt} {suite : List Stmt} {np pos' : Pos} (hN : T.N[i]? = some n) (hln : T.sc.names.lookup n = some .local) (hx : T.sc.names.lookup x = some .globalImplicit) (hdb : (x == ("__debug__" : Str)) = false) (hcv : mg x = some cv)
    (hb : ∀ pn xe, Ctx P w K mg base T k (X.tr pn xe) → SD (X.tr pn xe) ks body { Φ with
      nx := fun k => SD X k rest Φ,
      ex := fun ks' cls fs => ∃ b, PySem.W.exmOne K cls cv = some b ∧
        (b = true → i < ks'.length ∧ ∀ a d oe pn, Zc cls d oe → (∃ vs, oe.data = .fields vs) → CtxB false P w K mg base T k (X.suite a ((a, oe) :: pn)) →
          SD (X.suite a ((a, oe) :: pn)) (ks'.set i (.cus (excC a d fs))) (b₀ :: suite) { Φ with nx := fun k => SD X (k.set i .no) rest Φ, bk := fun _ => False, ct := fun _ => False, ex := fun _ _ _ => False }) ∧
        (b = false → Φ.ex ks' cls fs) }) :
    SD X ks (.Try body [.ExceptHandler (some (.Name x np)) (some n) (b₀ :: suite) pos'] [] [] pos :: rest) Φ := fun W σ G H D S M => by
  obtain ⟨⟨Wx, tk, hwx⟩, hrc⟩ := M.ex
  have hK := c.hK
  subst hK
  refine sv_of (pss_cons (ps_try_as (i := i) (n := n) (c := cv) (tb := fun W' D' σ' H' => ∀ pn xe, Takes (X.tr pn xe) W' → PassesOwn (model X.prog X.w) X.A X.env xe → SV (X.tr pn xe) body D' σ' H')
    (ts := fun a cls d D' σ' H' => ∀ oe pn, Zc cls d oe → (∃ vs, oe.data = .fields vs) → SV (X.suite a ((a, oe) :: pn)) (b₀ :: suite) D' σ' H') (Wout := Wx) st.hs st.hf (nd_of c) (ix_of c hN) (by show X.env.scope.names.lookup n = some .local; rw [c.hs]; exact hln)
    ⟨gl_of c hx, hdb, .inl (by rw [c.hmg]; exact hcv)⟩ tk (fun W' pn xe tk' po => ⟨fun pins s σ H D I h => (h pn xe tk' po).run pins s I⟩) (fun a oe cls d pn hz hf => ⟨fun pins s σ H D I h => (h oe pn hz hf).run pins s I⟩)) pss_sv) ?_
  intro pn xe tk' po
  refine hb pn xe (c.tr po) W σ G H _ S ⟨fun ks σ G H q S => q W σ G H D S M, M.bk, M.ct, M.rt, M.rl, M.rT, ⟨⟨_, tk', fun ks' σ' G' H' cls d fs q S' r' => ?_⟩, hrc⟩⟩
  obtain ⟨b, e, h1, h0⟩ := q
  refine ⟨b, e, fun hb' a na oe pn hz hf => ?_, fun hb' => hwx ks' σ' G' H' cls d fs (h0 hb') S' r'⟩
  obtain ⟨hi, h1⟩ := h1 hb'
  have S2 : Sts X.K W (ks'.set i (.cus (excC a d fs))) (σ'.set i (some (.ref a))) G' H' := S'.put hi S'.le (Same.refl _) (fun _ _ e _ => e) fun ow o f => ⟨fun _ _ _ _ u e => e, [], ⟨rfl, rfl, r'⟩, fun _ h => by cases h⟩
  refine h1 a d oe pn hz hf c.suite W _ G' H' _ S2 ⟨fun ks σ G H q S => q W _ G H D (S.unset i) M, fun _ _ _ _ z => z.elim, fun _ _ _ _ z => z.elim, M.rt, M.rl, M.rT, ⟨⟨fun _ _ _ _ => False, fun u s' ⟨_, _, _, _, _, _, _, _, _, _, _, _, _, _, _, _, z⟩ => z, fun _ _ _ _ _ _ _ z => z.elim⟩, hrc⟩⟩
/-! ### in the suite -/
structure ExcI (K : PySem.W.Frag) (C : Addr) : Prop where
  hcl : (PySem.W.clsIn K C).isSome = true
  hga : PySem.W.findIn K (.ref C) "__getattribute__" = some (some (.builtin "BaseException.__getattribute__"))
  hgt : PySem.W.findIn K (.ref C) "__getattr__" = some none
  hsub : PySem.W.subIn K (.ref C) (.type "BaseException") = some true
  ha : PySem.W.findIn K (.ref C) "__class__" = some (some (.builtin "object.__class__"))
  hn : PySem.W.specialIn K (.builtin "object.__class__") "__get__" = some (some (.builtin "getset_descriptor.__get__"))
  ht : PySem.W.takesIn K (.builtin "object.__class__") = some true
  hm : PySem.W.mroIn K C (.type "object") = some true
  hd : PySem.W.hasDictIn K C = true
theorem exc_inst {σ : St} {H : Hp} {s : Shared} {pins : List (Addr × Obj)} (I : Inv (Y.suite a ((a, oe) :: pn)) pins σ H s) (hz : Zc (.ref C) d oe) (hf : ∃ vs, oe.data = .fields vs) (hd : d = none ∨ ∃ dd fs, d = some dd ∧ H dd = some (.xd fs)) : ∃ od, PySem.W.InstAt s.heap a oe C od := by
  obtain ⟨ha, _⟩ := I.pin (a, oe) (List.mem_append_left _ List.mem_cons_self)
  obtain ⟨vs, hv⟩ := hf
  rcases hd with rfl | ⟨dd, fs, rfl, ea⟩
  · exact ⟨none, ha, hz.1, by unfold PySem.W.notCls; rw [hv] <;> rfl, by rw [hz.2]; trivial⟩
  · have hx : ObjOk Y.prog Y.w H s.heap dd (.xd fs) := I.hok dd _ ea
    obtain ⟨mA, hns, hr⟩ := hx
    obtain ⟨od, ho, hl⟩ := lookIn_ns hns
    exact ⟨some od, ha, hz.1, by unfold PySem.W.notCls; rw [hv] <;> rfl, by rw [hz.2]; exact ho⟩
def rIsX (K : PySem.W.Frag) (C a : Addr) (d : Option Addr) : List V → Hp → VK → Prop := fun xs H Q => ∃ (c : V) (u : Value) (b : Bool), xs = [.ref a, c] ∧ ClsV c u ∧ PySem.W.kitOne K (.ref C) u = some b ∧ (d = none ∨ ∃ dd fs, d = some dd ∧ H dd = some (.xd fs)) ∧ Q (.bl b) H
def rIsXT (K : PySem.W.Frag) (C a : Addr) (d : Option Addr) : List V → Hp → VK → Prop := fun xs H Q => ∃ (tp : Addr) (cs : List V) (us : List Value) (b : Bool), xs = [.ref a, .ref tp] ∧ H tp = some (.tup cs) ∧ Paired ClsV cs us ∧ PySem.W.kitAny K (.ref C) us = some b ∧ (d = none ∨ ∃ dd fs, d = some dd ∧ H dd = some (.xd fs)) ∧ Q (.bl b) H
theorem call_isX (E : ExcI Y.K C) (hz : Zc (.ref C) d oe) (hf : ∃ vs, oe.data = .fields vs) : CallR (Y.suite a ((a, oe) :: pn)) (.builtin "isinstance") (rIsX Y.K C a d) := by
  intro pins s σ H xs us Q I r h
  obtain ⟨c, u, b, rfl, k, e, hd, q⟩ := h
  obtain ⟨u1, u2, rfl, r1, r2⟩ := vals2 r
  have e2 := k.eq r2
  subst e2
  cases (show u1 = Value.ref a from r1)
  obtain ⟨od, J⟩ := exc_inst I hz hf hd
  exact PySem.W.kia_one (PySem.W.kitx_exc E.hcl E.hga E.hgt E.hsub E.ha E.hn E.ht E.hm) I.kIn J e (fun z => nomatch z) fun tk => ⟨.bl b, H, I.tok tk, rfl, q⟩
theorem call_isXT (E : ExcI Y.K C) (hz : Zc (.ref C) d oe) (hf : ∃ vs, oe.data = .fields vs) : CallR (Y.suite a ((a, oe) :: pn)) (.builtin "isinstance") (rIsXT Y.K C a d) := by
  intro pins s σ H xs us Q I r h
  obtain ⟨tp, cs, ws, b, rfl, hT, k, e, hd, q⟩ := h
  obtain ⟨u1, u2, rfl, r1, r2⟩ := vals2 r
  cases (show u1 = Value.ref a from r1)
  cases (show u2 = Value.ref tp from r2)
  obtain ⟨od, J⟩ := exc_inst I hz hf hd
  obtain ⟨_, its, rv, o, h1, h2, n, h3⟩ := (show ObjOk Y.prog Y.w H s.heap tp (.tup cs) from I.hok tp _ hT)
  have e3 := ClsV.all k rv
  subst e3
  obtain ⟨oc, od', dt, sl⟩ := o
  simp only at h2 h3
  subst h2 h3
  exact PySem.W.kia_tup (PySem.W.kitx_exc E.hcl E.hga E.hgt E.hsub E.ha E.hn E.ht E.hm) I.kIn J h1 e (fun z => nomatch z) fun tk => ⟨.bl b, H, I.tok tk, rfl, q⟩
/-- names of classes -/
def CsD (X : Cx) (es : List Expr) (us : List Value) : Prop := ∃ (t : TA) (vs : List V), PA X es t ∧ Paired ClsV vs us ∧ ∀ σ H Q, Q vs H → t σ H Q
theorem cs_nil : CsD X [] [] := ⟨tNil, [], pa_nil, .nil, fun _ _ _ q => q⟩
theorem cs_own (c : CtxB cq P w K mg base T k X) {y : Str} {D : Addr} {us : List Value} (hy : T.sc.names.lookup y = some .globalImplicit) (hm : mg y = some (.ref D)) (hd : (y == ("__debug__" : Str)) = false) (h : CsD X es us) (he : starEach (.Name y p :: es) X.env = (false, eval (.Name y p) X.env) :: starEach es X.env) : CsD X (.Name y p :: es) (.ref D :: us) := by
  obtain ⟨t, vs, a, b, q⟩ := h
  exact ⟨_, V.ref D :: vs, pa_cons (pe_glob (v := .ref D) (gl_of c hy) (by rw [c.hmg]; exact hm) rfl hd) a he, .cons (.own D) b, fun σ H Q z => q σ H _ z⟩
theorem cs_ty (c : CtxB cq P w K mg base T k X) {y : Str} {tn : String} {us : List Value} (hy : T.sc.names.lookup y = some .globalImplicit) (hm : mg y = none) (hv : bootBuiltins y = some (.type tn)) (hn : y ≠ "__name__") (hd : (y == ("__debug__" : Str)) = false) (h : CsD X es us) (he : starEach (.Name y p :: es) X.env = (false, eval (.Name y p) X.env) :: starEach es X.env) : CsD X (.Name y p :: es) (.type tn :: us) := by
  obtain ⟨t, vs, a, b, q⟩ := h
  exact ⟨_, V.ty tn :: vs, pa_cons (pe_bltn (v := .ty tn) (gl_of c hy) (by rw [c.hmg]; exact hm) hv rfl hn hd) a he, .cons (.ty tn) b, fun σ H Q z => q σ H _ z⟩
theorem exc_d {G H : Hp} (g : Same G H) (h : ExF K G d fs) : d = none ∨ ∃ dd fs', d = some dd ∧ H dd = some (.xd fs') := by
  cases d with
  | none => exact .inl rfl
  | some dd => obtain ⟨vs, a, _⟩ := h; exact .inr ⟨dd, vs, rfl, g _ _ a⟩
/-- isinstance(e, C) -/
theorem ed_isX (c : CtxB cq P w K mg base T k (Y.suite a ((a, oe) :: pn))) (E : ExcI K C) (hz : Zc (.ref C) d oe) (hf : ∃ vs, oe.data = .fields vs) (i : Nat) {n : Str} {u : Value} {bb : Bool} {q q1 : Pos} (hN : T.N[i]? = some n) (hv : Vis T.sc n) (hk : ks[i]? = some (.cus (excC a d fs)))
    (hg : T.sc.names.lookup ("isinstance" : Str) = some .globalImplicit) (hm : mg "isinstance" = none) (hc : CsD (Y.suite a ((a, oe) :: pn)) [b] [u]) (hb : PySem.W.kitOne K (.ref C) u = some bb) (hd : (n == ("__debug__" : Str)) = false) (hcd : (n == ("__classdict__" : Str)) = false)
    (h1 : starEach [.Name n q1, b] Y.env = (false, eval (.Name n q1) Y.env) :: starEach [b] Y.env) (hpl : (backTo pos (starEach [b] Y.env)).any (·.1) = false) :
    ED (Y.suite a ((a, oe) :: pn)) ks (.Call (.Name "isinstance" q) [.Name n q1, b] [] pos) ks (.bool bb) := fun W σ G H S Q qq => by
  obtain ⟨t, vs, pa, pv, ht⟩ := hc
  have hK : Y.K = K := c.hK
  subst hK
  refine ev_of (pe_callB (call_isX E hz hf) (gl_of c hg) (by rw [c.hmg]; exact hm) PyProof.Rows.boot_isinstance (pa_cons (pe_var (ix_of c hN) (vis_of c hv) hd hcd) pa h1) (he := h1) (hpl := hpl)) ?_
  obtain ⟨as, z⟩ := S.at hk
  obtain ⟨_, e1, r⟩ := z
  refine ⟨.ref a, S.there (List.getElem?_eq_some_iff.mp hk).1 e1, ht σ H _ ?_⟩
  cases pv with
  | cons x y =>
    cases y
    exact ⟨_, u, bb, rfl, x, hb, exc_d S.gh r, qq _ G H S (Same.refl G) (.bl bb)⟩
/-- isinstance(e, (C, ..)) -/
theorem ed_isXT (c : CtxB cq P w K mg base T k (Y.suite a ((a, oe) :: pn))) (E : ExcI K C) (hz : Zc (.ref C) d oe) (hf : ∃ vs, oe.data = .fields vs) (i : Nat) {n : Str} {us : List Value} {bb : Bool} {x1} {q q1 q2 : Pos} (hN : T.N[i]? = some n) (hv : Vis T.sc n) (hk : ks[i]? = some (.cus (excC a d fs)))
    (hg : T.sc.names.lookup ("isinstance" : Str) = some .globalImplicit) (hm : mg "isinstance" = none) (hc : CsD (Y.suite a ((a, oe) :: pn)) es us) (hl : us.length ≤ 100) (hb : PySem.W.kitAny K (.ref C) us = some bb) (hd : (n == ("__debug__" : Str)) = false) (hcd : (n == ("__classdict__" : Str)) = false)
    (h1 : starEach [.Name n q1, .Tuple es x1 q2] Y.env = (false, eval (.Name n q1) Y.env) :: starEach [.Tuple es x1 q2] Y.env) (h2 : starEach [.Tuple es x1 q2] Y.env = (false, eval (.Tuple es x1 q2) Y.env) :: starEach [] Y.env) (hpl : (backTo pos (starEach [.Tuple es x1 q2] Y.env)).any (·.1) = false) :
    ED (Y.suite a ((a, oe) :: pn)) ks (.Call (.Name "isinstance" q) [.Name n q1, .Tuple es x1 q2] [] pos) ks (.bool bb) := fun W σ G H S Q qq => by
  obtain ⟨t, vs, pa, pv, ht⟩ := hc
  have hK : Y.K = K := c.hK
  subst hK
  refine ev_of (pe_callB (call_isXT E hz hf) (gl_of c hg) (by rw [c.hmg]; exact hm) PyProof.Rows.boot_isinstance (pa_cons (pe_var (ix_of c hN) (vis_of c hv) hd hcd) (pa_cons (pe_tup pa) pa_nil h2) h1) (he := h1) (hpl := hpl)) ?_
  obtain ⟨as, z⟩ := S.at hk
  obtain ⟨_, e1, r⟩ := z
  refine ⟨.ref a, S.there (List.getElem?_eq_some_iff.mp hk).1 e1, ht σ H _ ⟨?_, fun p np => ?_⟩⟩
  · rw [Paired.length pv]
    exact Nat.le_trans hl (Nat.le_of_ble_eq_true rfl)
  · have l : Lp G H (upd G p (.tup vs)) (upd H p (.tup vs)) := Lp.new S.gh np
    exact ⟨p, vs, us, bb, rfl, upd_same, pv, hb, exc_d (S.pure l).gh (r.mono l.g), qq _ _ _ (S.pure l) l.g (.bl bb)⟩
/-- e.f -/
theorem ed_excF (c : CtxB cq P w K mg base T k (Y.suite a ((a, oe) :: pn))) (E : ExcI K C) (hz : Zc (.ref C) d oe) (hf : ∃ vs, oe.data = .fields vs) (i : Nat) {n f : Str} {q1 : Pos} (hN : T.N[i]? = some n) (hv : Vis T.sc n) (hk : ks[i]? = some (.cus (excC a d fs))) (hno : PySem.W.findIn K (.ref C) f = some none) (hl : fs.lookup f = some d')
    (hd : (n == ("__debug__" : Str)) = false) (hcd : (n == ("__classdict__" : Str)) = false) (hb : attributeBase (.Name n q1) f Y.env (eval (.Name n q1) Y.env) = eval (.Name n q1) Y.env) :
    ED (Y.suite a ((a, oe) :: pn)) ks (.Attribute (.Name n q1) f pos) ks d' := fun W σ G H S Q qq => by
  have hK : Y.K = K := c.hK
  subst hK
  refine ev_of (pe_xf ⟨E.hga, E.hgt, E.hsub, E.hd⟩ hno hz hf (pe_var (ix_of c hN) (vis_of c hv) hd hcd) hb) ?_
  obtain ⟨as, z⟩ := S.at hk
  obtain ⟨_, e1, r⟩ := z
  cases d with
  | none =>
    have r : fs = [] := r
    subst r
    cases hl
  | some dd =>
    obtain ⟨vs, a1, a2⟩ := r
    obtain ⟨v, b1, b2⟩ := a2.get hl
    exact ⟨.ref a, S.there (List.getElem?_eq_some_iff.mp hk).1 e1, rfl, rfl, dd, vs, v, rfl, S.gh _ _ a1, b1, qq v G H S (Same.refl G) b2⟩
end
end Z
namespace Z
open PySem PySem.Spec L2
/-! ### defs that are handed an instance first -/
end Z
namespace Z
open PySem PySem.Spec L2
variable [Tabl]
/-! ### a list that is lent -/
section
variable {K : PySem.W.Frag} {W : Wd} {ks : List SK} {σ : St} {G H G2 H2 : Hp} {i : Nat} {k' : SK} {cs : List PyData}
/-- how a body begins, by what is handed in -/
theorem start_any {M : Addr → Prop} {N : List Str} {vs : List V} {ks0 : List SK} {ow : Nat → List Addr} (g : Same G H) (tb : TbO G H) (hm : ∀ a, M a → ∃ o, H a = some o) (hl : vs.length = ks0.length) (hN : ks0.length ≤ N.length)
    (dis : ∀ i j a, a ∈ ow i → a ∈ ow j → i = j) (mine : ∀ i a, a ∈ ow i → G a = none ∧ M a ∧ ∃ k, ks0[i]? = some k ∧ isRng k = true) (out : ∀ i, ks0.length ≤ i → ow i = []) (h : ∀ i k, ks0[i]? = some k → Sl K G H k (vs[i]?) (ow i)) :
    Sts K ⟨G, H, M⟩ (ks0 ++ List.replicate (N.length - ks0.length) .no) (L2.start N vs) G H := by
  refine ⟨⟨Same.refl G, g, fun _ _ _ _ e => e, fun _ o e => ⟨o, e⟩, fun _ _ e _ => e, hm, tb⟩, by simp [L2.start]; omega, ow, ⟨dis, fun i a ha => ?_, fun i hi => out i (by simp at hi; omega)⟩, fun i k hk => ?_⟩
  · obtain ⟨m1, m2, k, m3, m4⟩ := mine i a ha
    exact ⟨m1, .inr ⟨m2, k, by rw [List.getElem?_append_left (List.getElem?_eq_some_iff.mp m3).1]; exact m3, m4⟩⟩
  · by_cases q : i < ks0.length
    · rw [List.getElem?_append_left q] at hk
      have := h i k hk
      have e : ((L2.start N vs)[i]?).getD none = vs[i]? := by
        unfold L2.start
        rw [List.getElem?_append_left (by simp; omega), List.getElem?_map]
        cases vs[i]? <;> rfl
      rw [e]
      exact this
    · rw [List.getElem?_append_right (by omega)] at hk
      have := List.mem_of_getElem? hk
      rw [List.mem_replicate] at this
      rw [this.2]
      exact (show ow i = [] from out i (by omega))
end
end Z
namespace Z
open PySem PySem.Spec L2
variable [Tabl]
section
variable {P : Program} {w : World} {K : PySem.W.Frag} {mg : Str → Option Value} {base : Heap} {T : Sta} {k : Nat} {X : Cx} {ks k1 k2 k3 : List SK} {a b e o : Expr} {es : List Expr} {d da db : PyData} {ds ds' el cs : List PyData} {pos p tpos apos : Pos} {rest : List Stmt} {Φ : Po} {C D : Addr} {fs : List (Str × PyData)}
/-- a def that lets out no exception, on its own stack -/
theorem fn_sdS {R : List PyData → PyData → Prop} {x : Str} {st : Stmt} {N ps : List Str} {k : Nat} (D : DefAt K mg x st ps) (S : FnScope N ps (defScope st)) (hl : ∀ ds d, R ds d → ds.length = ps.length) (hN : ps.length ≤ N.length)
    (h : ∀ X, Ctx P w K mg base ⟨N, defScope st, fun _ => true⟩ k X → StkC X → ∀ ds d, R ds d → SD X (ds.map SK.dat ++ List.replicate (N.length - ds.length) .no) (defBody st) { nx := fun _ => d = .none, rt := fun _ d' => d' = d, rl := fun _ ds' => d = .list ds' }) :
    FnG P w K mg base x ps (k + 1) (spP K R) := by
  obtain ⟨f, fd, F, hm, hb⟩ := D.ex
  refine ⟨f, fd, ?_, hm, F.kp, hb⟩
  refine F.ok S (fun vs H Q E ⟨G, ds, d, _, _, r, hR, _⟩ => by rw [r.len]; exact hl ds d hR) (fun cdv A outer s H vs Q E hr ⟨G, ds, d, g, tb, r, hR, q⟩ => ⟨_, pss_sv, ?_⟩)
  have S0 := start_sts (N := N) (Le.refl g tb) r (by rw [hl ds d hR]; exact hN)
  refine h _ (cxOf_ctx S cdv A outer s H E hr) ⟨rfl, rfl⟩ ds d hR _ _ G H _ S0 ⟨fun ks σ G' H' e S' => ?_, fun _ _ _ _ z => z.elim, fun _ _ _ _ z => z.elim, fun ks σ G' H' v d' e S' r' => ?_, fun ks σ G' H' a ds' e S' => ?_, fun _ _ _ _ _ _ _ _ z => z.elim, ex0⟩
  · exact q .non G' H' S'.le (by rw [e]; exact .non)
  · exact q v G' H' S'.le (by rw [← e]; exact r')
  · obtain ⟨G2, S2, g2, r2⟩ := S'.popFreeze
    exact q _ G2 H' S2.le (by rw [e]; exact r2)
/-! ### is an exception of a class one of another -/
theorem kit_ref {bb : Bool} (hc : (PySem.W.clsIn K D).isSome = true) (ht : PySem.W.typeIn K (.ref D) = some (.type "type")) (hs : PySem.W.subIn K (.ref C) (.ref D) = some bb) (hr : PySem.W.subIn K (.ref C) (.ref C) = some true) : PySem.W.kitOne K (.ref C) (.ref D) = some bb := by
  unfold PySem.W.kitOne
  by_cases q : (Value.ref C == Value.ref D) = true
  · have e : C = D := Value.ref.inj (beq_iff_eq.mp q)
    subst e
    rw [hs] at hr
    cases hr
    rw [if_pos q]
  · rw [if_neg q]
    show (if ((PySem.W.clsIn K D).isSome && PySem.W.typeIn K (.ref D) == some (.type "type")) = true then PySem.W.subIn K (.ref C) (.ref D) else none) = some bb
    rw [if_pos (by rw [hc, ht]; rfl)]
    exact hs
theorem kit_ve {bb : Bool} (hs : PySem.W.subIn K (.ref C) (.type "ValueError") = some bb) : PySem.W.kitOne K (.ref C) (.type "ValueError") = some bb := by
  unfold PySem.W.kitOne
  rw [if_neg (by intro q; exact absurd (beq_iff_eq.mp q) (fun z => nomatch z))]
  show (if PySem.W.kitMeta "ValueError" = true then PySem.W.subIn K (.ref C) (.type "ValueError") else none) = some bb
  rw [if_pos (by decide +kernel)]
  exact hs
theorem kits_cons {c : Value} {us : List Value} (h : PySem.W.kitOne K (.ref C) c = some false) {bb : Bool} (hr : PySem.W.kitAny K (.ref C) us = some bb) : PySem.W.kitAny K (.ref C) (c :: us) = some bb := kitAny_cons h (fun _ => hr) (fun z => by cases z)
end
end Z
namespace Z
open PySem PySem.Spec L2
/-! ### argument lists without stars -/
/-! ### a def that draws, of which only a word is told -/
end Z
namespace Z
open PySem PySem.Spec L2
/-! ### an index into what raises -/
end Z
namespace Z
open PySem PySem.Spec L2
variable [Tabl]
/-! ### texts as data -/
section
variable {P : Program} {w : World} {K : PySem.W.Frag} {mg : Str → Option Value} {base : Heap} {T : Sta} {k : Nat} {X : Cx} {ks k1 k2 k3 : List SK} {a b e o : Expr} {es : List Expr} {d da db : PyData} {ds ds' el cs : List PyData} {pos p tpos apos : Pos} {rest : List Stmt} {Φ : Po}
abbrev sD (l : List Str) : List PyData := l.map PyData.str
theorem DpAll.strs {G : Hp} : ∀ {ys : List Str}, DpAll K G (ys.map V.str) (ys.map PyData.str)
  | [] => .nil
  | y :: r => .cons (.str y) DpAll.strs
theorem DpAll.strs_inv {G : Hp} : ∀ {vs : List V} {ys : List Str}, DpAll K G vs (ys.map PyData.str) → vs = ys.map V.str
  | vs, [], h => by cases h; rfl
  | vs, y :: r, h => by
    cases h with | cons a b => cases a; rw [DpAll.strs_inv b]; rfl
theorem cl_lenS {x : Str} (h : x.length ≤ sizeLine) : CallD X (.builtin "len") [.str x] (.int x.length) := ⟨_, call_len_str, fun G H vs g r Q q => by
  obtain ⟨v, rfl, r1⟩ := DpAll.one r
  exact ⟨x, by rw [r1.str_inv], h, q _ G H (Lp.refl g) (.int _)⟩⟩
theorem cl_strI {i : Int} (h : i.natAbs.log2 < 1920) : CallD X (.type "str") [.int i] (.str (toString i)) := ⟨_, call_str_int, fun G H vs g r Q q => by
  obtain ⟨v, rfl, r1⟩ := DpAll.one r
  exact ⟨i, by rw [r1.int_inv], h, q _ G H (Lp.refl g) (.str _)⟩⟩
theorem cl_intS {x : Str} {n : Int} (h : PySem.intText? x = some n) (hl : x.length ≤ 640) : CallD X (.type "int") [.str x] (.int n) := ⟨_, call_int_str, fun G H vs g r Q q => by
  obtain ⟨v, rfl, r1⟩ := DpAll.one r
  exact ⟨x, n, by rw [r1.str_inv], h, hl, q _ G H (Lp.refl g) (.int _)⟩⟩
theorem ed_ixS {x : Str} {i : Int} {c : Nat} (ha : ED X ks a k1 (.str x)) (hb : ED X k1 b k2 (.int i)) (hl : x.length ≤ sizeLine) (hi : atI x.cps.toList i = some c) (hs : PlainIx b) : ED X ks (.Subscript a b pos) k2 (.str ⟨#[c]⟩) := fun W σ G H S Q q =>
  ev_of (pe_ix ix_str pe_ev pe_ev hs) (bin_go ha hb (d := .str ⟨#[c]⟩) (fun G H _ _ g ra rb Q q => ⟨x, i, c, ra.str_inv, rb.int_inv, hl, hi, q _ G H (Lp.refl g) (.str _)⟩) S q)
theorem cd_niSign {c : Nat} {z : Str} : CmpD X .NotIn (.str ⟨#[c]⟩) (.str z) (!decide (c ∈ z.cps.toList)) :=
  ⟨_, op_notIn_sign, RD.flat fun G H x y _ ha hb => ⟨.bl _, fun _ => .bl _, fun Q q => ⟨c, z, ha.str_inv, hb.str_inv, q⟩⟩⟩
/-- the signs of a text, each a text -/
def sgD (x : Str) : List PyData := x.cps.toList.map fun c => .str ⟨#[c]⟩
theorem id_str {tg : Expr} {x : Str} (h : ED X ks e k1 (.str x)) : ID X ks tg e k1 (sgD x) := fun W σ G H S R q => by
  refine iv_of (pi_str pe_ev) (h W σ G H S _ fun v G2 H2 S2 g r => ?_)
  refine ⟨x, r.str_inv, q _ G2 H2 S2 g ⟨?_⟩⟩
  have hl : (sgD x).length = x.cps.size := by unfold sgD; rw [List.length_map, Array.length_toList]
  rw [hl]
  refine walk_str.mono (fun _ _ => trivial) fun i H' v' H'' hi s y => ?_
  obtain ⟨rfl, c, hc, rfl⟩ := y
  intro G' s1 s2
  refine ⟨.str ⟨#[c]⟩, G', ?_, Lp.refl s2, .str _⟩
  unfold sgD
  rw [List.getElem?_map, Array.getElem?_toList, hc]
  rfl
theorem el_split {x y : Str} (ho : ED X ks o k1 (.str x)) (he : ED X k1 e k2 (.str y)) (hy : (y.length == 0) = false) (hz : x.length + 2 ≤ sizeLine) (hs : starEach [e] X.env = [(false, eval e X.env)]) (hbase : attributeBase o "split" X.env (eval o X.env) = eval o X.env) (hline : (apos.endLine == pos.line) = true) :
    EL X ks (.Call (.Attribute o "split" apos) [e] [] pos) k2 (sD (Txt.split x y)) := fun W σ G H S Q q => by
  refine ev_of (pe_split pe_ev pe_ev hs hbase hline) (ho W σ G H S _ fun v G1 H1 S1 g1 r1 => ⟨⟨x, r1.str_inv⟩, he W σ G1 H1 S1 _ fun u G2 H2 S2 g2 r2 => ⟨x, y, r1.str_inv, by rw [r2.str_inv], hy, hz, fun p np => ?_⟩⟩)
  have gp : G2 p = none := by
    cases e : G2 p with
    | none => rfl
    | some u => rw [S2.gh p u e] at np; cases np
  exact q p G2 _ (S2.push (Lp.newOwn S2.gh np) np gp upd_same DpAll.strs) (g1.trans g2)
theorem ed_join {x : Str} {ys : List Str} (ho : ED X ks o k1 (.str x)) (he : ED X k1 e k2 (.list (sD ys))) (hz : (ys.map (·.length)).sum + ys.length * x.length ≤ 16777216) (hs : starEach [e] X.env = [(false, eval e X.env)]) (hbase : attributeBase o "join" X.env (eval o X.env) = eval o X.env) (hline : (apos.endLine == pos.line) = true) :
    ED X ks (.Call (.Attribute o "join" apos) [e] [] pos) k2 (.str (Txt.join x ys)) := fun W σ G H S Q q => by
  refine ev_of (pe_join pe_ev pe_ev hs hbase hline) (ho W σ G H S _ fun v G1 H1 S1 g1 r1 => ⟨⟨x, r1.str_inv⟩, he W σ G1 H1 S1 _ fun u G2 H2 S2 g2 r2 => ?_⟩)
  obtain ⟨p, us, rfl, sp, ap⟩ := r2.lst_inv
  rw [DpAll.strs_inv ap] at sp
  exact ⟨x, p, ys, r1.str_inv, rfl, .inl (S2.gh.seq sp), hz, q _ G2 H2 S2 (g1.trans g2) (.str _)⟩
theorem ed_gstr (c : CtxB cq P w K mg base T k X) {x y : Str} (hg : T.sc.names.lookup x = some .globalImplicit) (hm : ∃ t, mg x = some (.str y t)) (hd : (x == ("__debug__" : Str)) = false) : ED X ks (.Name x pos) ks (.str y) := by
  intro W σ G H S Q q
  obtain ⟨t, hm⟩ := hm
  exact ev_of (pe_glob (v := .str y) (gl_of c hg) (by rw [c.hmg]; exact hm) ⟨t, rfl⟩ hd) (q (.str y) G H S (Same.refl G) (.str y))
/-- a tuple of texts that the module has made -/
structure TupS (K : PySem.W.Frag) (mg : Str → Option Value) (x : Str) (ys : List Str) : Prop where
  ex : ∃ (a : Addr) (o : Obj) (its : Array Value) (n : Nat), mg x = some (.ref a) ∧ K.lookup a = some o ∧ o.cls = .type "tuple" ∧ o.dict = none ∧ o.data = .seq its n ∧ its.size ≤ sizeLine ∧ Vals (ys.map V.str) its.toList
theorem ed_gtup (c : CtxB cq P w K mg base T k X) {x : Str} {ys : List Str} (hg : T.sc.names.lookup x = some .globalImplicit) (hm : TupS K mg x ys) (hd : (x == ("__debug__" : Str)) = false) : ED X ks (.Name x pos) ks (.tuple (sD ys)) := by
  intro W σ G H S Q q
  obtain ⟨a, o, its, n, hm, h1, h2, _, h3, h4, h5⟩ := hm.ex
  exact ev_of (pe_glob (v := .ref a) (gl_of c hg) (by rw [c.hmg]; exact hm) rfl hd) (q (.ref a) G H S (Same.refl G) (.tup (.inr ⟨o, its, n, by rw [c.hK]; exact h1, h2, h3, h4, h5⟩) DpAll.strs))
theorem ed_tupIx (c : CtxB cq P w K mg base T k X) {x : Str} {ys : List Str} {z : Str} {j : Nat} {apos pos : Pos} (hg : T.sc.names.lookup x = some .globalImplicit) (hm : TupS K mg x ys) (hd : (x == ("__debug__" : Str)) = false) (he : ED X ks e k2 (.str z)) (hy : ys[j]? = some z) (hno : ∀ m, m < j → ys[m]? ≠ some z)
    (hbase : attributeBase (.Name x p) "index" X.env (eval (.Name x p) X.env) = eval (.Name x p) X.env) (hs : starEach [e] X.env = (false, eval e X.env) :: starEach [] X.env)
    (hfew : ((backTo pos (starEach [e] X.env)).all (fun x => !x.1) && (backToKw pos (keywordEach [] X.env)).all (fun x => x.1.isSome) && decide ([e].length + ([] : List Keyword).length + (if ([] : List Keyword).isEmpty then 0 else 1) < 30)) = true) (hline : (apos.endLine == pos.line) = true) :
    ED X ks (.Call (.Attribute (.Name x p) "index" apos) [e] [] pos) k2 (.int (j : Nat)) := fun W σ G H S Q q => by
  obtain ⟨a, o, its, n, hmx, h1, h2, h0, h3, h4, h5⟩ := hm.ex
  have hK := c.hK
  subst hK
  have sq : ∀ H, SqT X.K H a (ys.map V.str) := fun H => .inr ⟨o, its, n, h1, h2, h3, h4, h5⟩
  refine ev_of (pe_bm PySem.F.plainAttrs_tuple PySem.F.slot_tuple_index PySem.F.type_tuple_index mt_tup_index (pe_glob (v := .ref a) (gl_of c hg) (by rw [c.hmg]; exact hmx) rfl hd) (pa_cons pe_ev pa_nil hs) (hbase := hbase) (hs := hs) (hfew := hfew) (hline := hline)) ?_
  refine ⟨.inr (.inl ⟨rfl, o, h1, h2, h0⟩), he W σ G H S _ fun u G2 H2 S2 g2 r2 => ?_⟩
  exact ⟨a, ys, z, j, rfl, by rw [r2.str_inv], sq H2, hy, hno, q _ G2 H2 S2 g2 (.int _)⟩
theorem id_zipT {elts : List Expr} {kk : Nat} (c : Ctx P w K mg base T k X) (hg : T.sc.names.lookup ("zip" : Str) = some .globalImplicit) (hm : mg "zip" = none) (ha : AD X ks [a, b] k1 [.tuple ds, .tuple ds']) (hs : starEach [a, b] X.env = (false, eval a X.env) :: starEach [b] X.env) (hpl : (backTo pos (starEach [b] X.env)).any (·.1) = false) :
    ID X ks (.Tuple elts kk tpos) (.Call (.Name "zip" p) [a, b] [] pos) k1 (zipD ds ds') := fun W σ G H S R q => by
  refine iv_of (RZ.pi_zipA (gl_of c hg) (by rw [c.hmg]; exact hm) pa_av hs hpl) (ha W σ G H S _ fun vs G2 H2 S2 g r => ?_)
  obtain ⟨v, u, rfl, r1, r2⟩ := DpAll.two r
  obtain ⟨l, xs, rfl, sx, ax⟩ := r1.tup_inv
  obtain ⟨m, ys, rfl, sy, ay⟩ := r2.tup_inv
  have wz : Walk (RZ.ItzT X.K l m) (min xs.length ys.length) (fun H => SqT X.K H l xs ∧ SqT X.K H m ys) (YPair (fun i => xs[i]?) (fun i => ys[i]?)) := by
    refine ⟨fun i _ hi q => ?_, fun _ q => ⟨xs, ys, q.1, q.2, by omega⟩, fun i H v H' _ q y => ?_⟩
    · have h1 : i < xs.length := by omega
      have h2 : i < ys.length := by omega
      exact ⟨xs, ys, xs[i], ys[i], q.1, q.2, by simp [h1], by simp [h2]⟩
    · obtain ⟨T, x, z, h1, h2, h3, h4, h5⟩ := y
      exact ⟨T, x, z, h1, h2, h3, h4 xs q.1, h5 ys q.2⟩
  refine ⟨l, m, xs, ys, rfl, .inr ⟨Same.seqT S2.gh sx, Same.seqT S2.gh sy, q _ G2 H2 S2 g (src_pair (vs := xs) wz (by rw [zipD_len, ax.len, ay.len]) (fun H s => ⟨Same.seqT s sx, Same.seqT s sy⟩) fun i u v hi hx hy => ?_)⟩⟩
  obtain ⟨d, hd, rd⟩ := ax.getV hx
  obtain ⟨d', hd', rd'⟩ := ay.getV hy
  exact ⟨d, d', zipD_get hd hd', rd, rd'⟩
theorem sd_extend (c : CtxB cq P w K mg base T k X) (i : Nat) {x : Str} {p2 p3 : Pos} (hN : T.N[i]? = some x) (hv : Vis T.sc x) (h : EL X ks e k1 ds') (hk : k1[i]? = some (.own ds)) (hk0 : ks[i]? = some (.own el)) (hz : ds.length + ds'.length ≤ sizeLine)
    (q : SD X (k1.set i (.own (ds ++ ds'))) rest Φ) (hd : (x == ("__debug__" : Str)) = false) (hcd : (x == ("__classdict__" : Str)) = false)
    (hs : swapsWith (.Call (.Attribute (.Name x p) "extend" p2) [e] [] p3) none pos.line X.env = pure false)
    (he : starEach [e] X.env = (false, eval e X.env) :: starEach [] X.env) (hfew : (((backTo p3 (starEach [e] X.env)).all fun x => !x.fst) && ((backToKw p3 (keywordEach [] X.env)).all fun x => x.fst.isSome) && decide (([e].length + ([] : List Keyword).length + if ([] : List Keyword).isEmpty = true then 0 else 1) < 30)) = true)
    (hline : (p2.endLine == p3.line) = true) : SD X ks (.Expr (.Call (.Attribute (.Name x p) "extend" p2) [e] [] p3) pos :: rest) Φ := fun W σ G H D S M => by
  obtain ⟨a0, vs0, e0, h0, r0, g0, w0, _⟩ := S.ownAt hk0
  refine sv_of (pss_cons (ps_expr (pe_bm PySem.F.plainAttrs_list PySem.F.slot_list_extend PySem.F.type_list_extend mt_extend (pe_var (ix_of c hN) (vis_of c hv) hd hcd) (pa_cons pe_ev pa_nil he) (hs := he) (hfew := hfew) (hline := hline)) hs) pss_sv) ?_
  refine ⟨.ref a0, e0, .inl ⟨rfl, _, SqL.of h0⟩, ?_⟩
  refine h W σ G H S _ fun b G1 H1 S1 g1 => ?_
  obtain ⟨S1', gb, wb, us, hb, rb, _⟩ := S1.pop
  obtain ⟨a, vs, e1, h1, r, g2, w1, _⟩ := S1'.ownAt hk
  rw [e0] at e1
  cases e1
  refine ⟨a0, b, vs, us, rfl, rfl, h1, hb, by rw [r.len, rb.len]; exact hz, ?_⟩
  exact q W σ G1 _ D (S1'.mutOwn (vs := vs) hk e0 (DpAll.append r rb)) M
end
end Z
namespace Z
open PySem PySem.Spec L2
variable [Tabl]
/-! ### an instance of our own that changes, with a list of lists in a field -/
structure RdA where
  a : Addr
  dx : Addr
  t : Addr
  l : List Addr
def RdA.ls (A : RdA) : List Addr := A.a :: A.dx :: A.t :: A.l
structure RdS where
  row : Int
  last : Int
  told : List (List PyData)
def rdF (A : RdA) (s : RdS) : List (Str × V) := [("row", .int s.row), ("last", .int s.last), ("told", .ref A.t)]
structure RdAt (K : PySem.W.Frag) (G H : Hp) (C : Addr) (A : RdA) (s : RdS) : Prop where
  nd : A.ls.Nodup
  len : A.l.length = s.told.length
  ha : H A.a = some (.ins C A.dx (rdF A s))
  hx : H A.dx = some (.own A.a)
  ht : H A.t = some (.lst (A.l.map V.ref))
  hl : ∀ (j : Nat) (x : Addr) (ds : List PyData), A.l[j]? = some x → s.told[j]? = some ds → ∃ v, H x = some (.lst v) ∧ DpAll K G v ds
section
variable {K : PySem.W.Frag} {G H G2 H2 : Hp} {C : Addr} {A : RdA} {s : RdS}
theorem RdAt.move (r : RdAt K G H C A s) (e : Same G G2) (k : ∀ a ∈ A.ls, ∀ u, H a = some u → H2 a = some u) : RdAt K G2 H2 C A s := ⟨r.nd, r.len, k _ (by simp [RdA.ls]) _ r.ha, k _ (by simp [RdA.ls]) _ r.hx, k _ (by simp [RdA.ls]) _ r.ht, fun j x ds h1 h2 => by
  obtain ⟨v, e1, e2⟩ := r.hl j x ds h1 h2
  exact ⟨v, k x (by have := List.mem_of_getElem? h1; simp [RdA.ls, this]) _ e1, DpAll.mono e e2⟩⟩
theorem RdAt.in_l (r : RdAt K G H C A s) {x : Addr} (hx : x ∈ A.l) : ∃ v, H x = some (.lst v) := by
  obtain ⟨j, hj⟩ := List.mem_iff_getElem?.mp hx
  have : j < s.told.length := by rw [← r.len]; exact (List.getElem?_eq_some_iff.mp hj).1
  obtain ⟨v, e, _⟩ := r.hl j x _ hj (List.getElem?_eq_getElem this)
  exact ⟨v, e⟩
theorem RdAt.pl (r : RdAt K G H C A s) : ∀ x ∈ A.ls, ∃ u, H x = some u ∧ (∀ ps, u ≠ .tbl ps) ∧ (x ≠ A.dx → Pl u) := by
  intro x hx
  simp only [RdA.ls, List.mem_cons] at hx
  rcases hx with rfl | rfl | rfl | hx
  · exact ⟨_, r.ha, (fun _ z => by cases z), fun _ => pl_ins⟩
  · exact ⟨_, r.hx, (fun _ z => by cases z), fun z => absurd rfl z⟩
  · exact ⟨_, r.ht, (fun _ z => by cases z), fun _ => pl_lst⟩
  · obtain ⟨v, e⟩ := r.in_l hx
    exact ⟨_, e, (fun _ z => by cases z), fun _ => pl_lst⟩
/-- mt: it may be the caller's -/
def rdC (mt : Bool) (C : Addr) (A : RdA) (s : RdS) : Cus :=
  ⟨fun K G H o as => as = A.ls ∧ o = some (.ref A.a) ∧ RdAt K G H C A s, mt, fun K G H G2 H2 o as e ⟨x, y, z⟩ k => ⟨x, y, z.move e (by rw [← x]; exact k)⟩,
   fun K G H o as ⟨x, y, z⟩ b hb => by
    rw [x] at hb
    obtain ⟨u, h1, h2, _⟩ := z.pl b hb
    exact ⟨u, h1, h2⟩⟩
variable {W : Wd} {ks : List SK} {σ : St} {i : Nat} {k k' : SK} {as bs : List Addr}
/-- a slot that may be the caller's, behind a step that changes only what is its own -/
theorem Sts.ownStep (S : Sts K W ks σ G H) (hk : ks[i]? = some k) (hdet : ∀ as', Sl K G H k ((σ[i]?).getD none) as' → as' = as) (l : Le ⟨G, H, fun x => x ∈ as⟩ G2 H2) (hm : isRng k = true → isRng k' = true) (h' : Sl K G2 H2 k' ((σ[i]?).getD none) bs) (hb : ∀ x ∈ bs, x ∈ as ∨ (H x = none ∧ G2 x = none)) :
    Sts K W (ks.set i k') σ G2 H2 := by
  have hi := (List.getElem?_eq_some_iff.mp hk).1
  have hσ : σ.set i ((σ[i]?).getD none) = σ := by
    have hi' : i < σ.length := by rw [S.len]; exact hi
    apply List.ext_getElem?
    intro j
    by_cases q : j = i
    · subst q; rw [List.getElem?_set_self hi', List.getElem?_eq_getElem hi']; rfl
    · rw [List.getElem?_set_ne (Ne.symm q)]
  have S0 := S
  obtain ⟨le0, len, ow, o, f⟩ := S
  have own : ow i = as := hdet _ (f i _ hk)
  have nab : ∀ x u, ¬ W.M x → W.H x = some u → ¬ (x ∈ as) := fun x u hm hx z => by
    rw [← own] at z
    rcases (o.mine i x z).2 with q | q
    · rw [hx] at q; cases q
    · exact hm q.1
  have le : Le W G2 H2 := ⟨le0.g.trans l.g, l.gh, fun x u hm nt hx => l.keep x u (nab x u hm hx) nt (le0.keep x u hm nt hx), fun x u hx => by
    obtain ⟨u', hu⟩ := le0.there x u hx
    exact l.there x u' hu, fun x u h1 h2 => by
    obtain ⟨u', hu⟩ := le0.there x u h2
    exact l.fz x u' (le0.fz x u h1 h2) hu, le0.m, l.tb⟩
  rw [← hσ]
  refine S0.put hi le l.g (fun x u h1 h2 => l.fz x u h1 h2) fun ow' o' f' => ?_
  have own' : ow' i = as := hdet _ (f' i _ hk)
  refine ⟨fun j x hj hx u hu => by
    obtain ⟨u', hu', nt⟩ := o'.liveN f' j x hx
    rw [hu] at hu'
    cases hu'
    refine l.keep x u (fun z => hj (o'.dis j i x hx (by rw [own']; exact z))) nt hu, bs, h', fun x hx => ?_⟩
  rcases hb x hx with z | ⟨z1, z2⟩
  · have z' : x ∈ ow' i := by rw [own']; exact z
    obtain ⟨m1, m2⟩ := o'.mine i x z'
    obtain ⟨u, hu, _⟩ := o'.liveN f' i x z'
    exact ⟨fun j hj hx' => hj (o'.dis j i x hx' z'), l.fz x u m1 hu, m2.imp id fun q => ⟨q.1, by obtain ⟨k0, q1, q2⟩ := q.2; rw [hk] at q1; cases q1; exact hm q2⟩⟩
  · refine ⟨fun j hj hx' => ?_, z2, .inl ?_⟩
    · obtain ⟨u, hu⟩ := o'.live f' j x hx'
      rw [z1] at hu; cases hu
    · cases q : W.H x with
      | none => rfl
      | some u =>
        obtain ⟨u', hu⟩ := le0.there x u q
        rw [z1] at hu; cases hu
theorem Sts.rdAt {mt : Bool} (S : Sts K W ks σ G H) (hk : ks[i]? = some (.cus (rdC mt C A s))) : σ[i]? = some (some (.ref A.a)) ∧ RdAt K G H C A s ∧ (∀ x ∈ A.ls, G x = none) ∧ (mt = false → ∀ x ∈ A.ls, W.H x = none) := by
  have hi := (List.getElem?_eq_some_iff.mp hk).1
  obtain ⟨le, len, ow, o, f⟩ := id S
  obtain ⟨e1, e2, e3⟩ := f i _ hk
  refine ⟨S.there hi e2, e3, fun x hx => (o.mine i x (by rw [e1]; exact hx)).1, fun hm x hx => ?_⟩
  rcases (o.mine i x (by rw [e1]; exact hx)).2 with q | ⟨_, k0, q1, q2⟩
  · exact q
  · rw [hk] at q1
    cases q1
    have : mt = true := q2
    rw [hm] at this
    cases this
theorem Sts.rdStep {mt : Bool} {s' : RdS} (S : Sts K W ks σ G H) (hk : ks[i]? = some (.cus (rdC mt C A s))) (l : Le ⟨G, H, fun x => x ∈ A.ls⟩ G2 H2) (r : RdAt K G2 H2 C A s') : Sts K W (ks.set i (.cus (rdC mt C A s'))) σ G2 H2 := by
  obtain ⟨e, _⟩ := S.rdAt hk
  exact S.ownStep (as := A.ls) (bs := A.ls) hk (fun as' h => h.1) l id ⟨rfl, by rw [e]; rfl, r⟩ fun x hx => .inl hx
/-- one of its own things is changed -/
theorem rd_le (r : RdAt K G H C A s) (gh : Same G H) (tb : TbO G H) (gn : ∀ x ∈ A.ls, G x = none) {z : Addr} {o : HO} (hz : z ∈ A.ls) (hn : z ≠ A.dx) (pl : Pl o) : Le ⟨G, H, fun x => x ∈ A.ls⟩ G (upd H z o) where
  g := Same.refl G
  gh := fun b u e => by
    have : b ≠ z := fun q => by rw [q, gn z hz] at e; cases e
    rw [upd_ne this]; exact gh b u e
  keep := fun x u hx _ e => by
    have : x ≠ z := fun q => hx (by rw [q]; exact hz)
    rw [upd_ne this]; exact e
  there := fun x u e => by
    by_cases q : x = z
    · subst q; exact ⟨_, upd_same⟩
    · exact ⟨u, by rw [upd_ne q]; exact e⟩
  fz := fun _ _ e _ => e
  m := fun x hx => (r.pl x hx).imp fun _ q => q.1
  tb := tb.upd fun u e => by
    obtain ⟨u', e', _, p⟩ := r.pl z hz
    rw [e] at e'
    cases e'
    exact p hn
theorem RdAt.nm (r : RdAt K G H C A s) : A.a ≠ A.dx ∧ A.a ≠ A.t ∧ A.dx ≠ A.t ∧ (∀ x ∈ A.l, x ≠ A.a ∧ x ≠ A.dx ∧ x ≠ A.t) ∧ A.l.Nodup := by
  have n := r.nd
  unfold RdA.ls at n
  simp only [List.nodup_cons, List.mem_cons, not_or] at n
  obtain ⟨⟨a1, a2, a3⟩, ⟨b1, b2⟩, c1, d⟩ := n
  exact ⟨a1, a2, b1, fun x hx => ⟨fun z => a3 (z ▸ hx), fun z => b2 (z ▸ hx), fun z => c1 (z ▸ hx)⟩, d⟩
/-- its fields, set anew -/
theorem RdAt.setF (r : RdAt K G H C A s) {s' : RdS} (h : s'.told = s.told) : RdAt K G (upd H A.a (.ins C A.dx (rdF A s'))) C A s' := by
  obtain ⟨n1, n2, n3, n4, n5⟩ := r.nm
  refine ⟨r.nd, by rw [h]; exact r.len, upd_same, by rw [upd_ne (Ne.symm n1)]; exact r.hx, by rw [upd_ne (Ne.symm n2)]; exact r.ht, fun j x ds h1 h2 => ?_⟩
  rw [h] at h2
  rw [upd_ne (n4 x (List.mem_of_getElem? h1)).1]
  exact r.hl j x ds h1 h2
theorem nd_at {l : List Addr} (n : l.Nodup) {i j : Nat} {x : Addr} (h1 : l[i]? = some x) (h2 : l[j]? = some x) : i = j := by
  obtain ⟨a1, a2⟩ := List.getElem?_eq_some_iff.mp h1
  obtain ⟨b1, b2⟩ := List.getElem?_eq_some_iff.mp h2
  have p := List.pairwise_iff_getElem.mp n
  rcases Nat.lt_trichotomy i j with q | q | q
  · exact absurd (a2.trans b2.symm) (p i j a1 b1 q)
  · exact q
  · exact absurd (b2.trans a2.symm) (p j i b1 a1 q)
/-- one of its lists, set anew -/
theorem RdAt.setL (r : RdAt K G H C A s) {j : Nat} {x : Addr} {v : List V} {ds : List PyData} (hx : A.l[j]? = some x) (hv : DpAll K G v ds) : RdAt K G (upd H x (.lst v)) C A { s with told := s.told.set j ds } := by
  obtain ⟨n1, n2, n3, n4, n5⟩ := r.nm
  have hm := n4 x (List.mem_of_getElem? hx)
  refine ⟨r.nd, by show A.l.length = (s.told.set j ds).length; rw [List.length_set]; exact r.len, ?_, ?_, ?_, fun j' x' ds' h1 h2 => ?_⟩
  · rw [upd_ne (Ne.symm hm.1)]; exact r.ha
  · rw [upd_ne (Ne.symm hm.2.1)]; exact r.hx
  · rw [upd_ne (Ne.symm hm.2.2)]; exact r.ht
  · by_cases q : j' = j
    · subst q
      rw [hx] at h1
      cases h1
      have hj : j' < s.told.length := by rw [← r.len]; exact (List.getElem?_eq_some_iff.mp hx).1
      have h2 : (s.told.set j' ds)[j']? = some ds' := h2
      rw [List.getElem?_set_self hj] at h2
      cases h2
      exact ⟨v, upd_same, hv⟩
    · have hne : x' ≠ x := fun z => by
        subst z
        exact q (nd_at n5 h1 hx)
      have h2 : (s.told.set j ds)[j']? = some ds' := h2
      rw [List.getElem?_set_ne (Ne.symm q)] at h2
      rw [upd_ne hne]
      exact r.hl j' x' ds' h1 h2
end
end Z
namespace Z
open PySem PySem.Spec L2
variable [Tabl]
/-! ### things of our own, frozen together -/
section
variable {K : PySem.W.Frag} {G H G2 H2 : Hp} {C : Addr} {A : RdA} {s : RdS} {W : Wd} {ks : List SK} {σ : St} {i : Nat} {k k' : SK} {as bs : List Addr}
def frzL (G H : Hp) (L : List Addr) : Hp := fun b => if b ∈ L then H b else G b
theorem frzL_in {L : List Addr} {b : Addr} (h : b ∈ L) : frzL G H L b = H b := if_pos h
theorem frzL_out {L : List Addr} {b : Addr} (h : b ∉ L) : frzL G H L b = G b := if_neg h
theorem Sts.freezeL {L : List Addr} {ow : Nat → List Addr} (le : Le W G H) (len : σ.length = ks.length) (ow1 : Ow W ks G ow) (f : ∀ i k, ks[i]? = some k → Sl K G H k ((σ[i]?).getD none) (ow i))
    (h : ∀ a ∈ L, (∀ j, a ∉ ow j) ∧ G a = none ∧ W.H a = none ∧ ∃ o, H a = some o ∧ Pl o) : Sts K W ks σ (frzL G H L) H ∧ Same G (frzL G H L) := by
  have gg : Same G (frzL G H L) := fun b u e => by
    have : b ∉ L := fun z => by rw [(h b z).2.1] at e; cases e
    rw [frzL_out this]; exact e
  refine ⟨⟨⟨le.g.trans gg, fun b u e => ?_, le.keep, le.there, fun b u e1 e2 => ?_, le.m, ⟨fun p hp => ?_, le.tb.t⟩⟩, len, ow, ⟨ow1.dis, fun i b hb => ?_, ow1.out⟩, fun i k hk => (f i k hk).move gg fun _ _ _ e => e⟩, gg⟩
  · by_cases q : b ∈ L
    · rw [frzL_in q] at e; exact e
    · rw [frzL_out q] at e; exact le.gh b u e
  · have : b ∉ L := fun z => by rw [(h b z).2.2.1] at e2; cases e2
    rw [frzL_out this]; exact le.fz b u e1 e2
  · have : p.1 ∉ L := fun z => by
      obtain ⟨_, _, _, o, e1, e2⟩ := h _ z
      obtain ⟨ps, e3⟩ := le.tb.at hp
      rw [e1] at e3
      cases e3
      exact e2.1 ps rfl
    rw [frzL_out this]; exact le.tb.g p hp
  · have : b ∉ L := fun z => (h b z).1 i hb
    rw [frzL_out this]; exact ow1.mine i b hb
theorem dpall_refs {G : Hp} {Hh : Hp} : ∀ {l : List Addr} {t : List (List PyData)}, l.length = t.length → (∀ (j : Nat) (x : Addr) (ds : List PyData), l[j]? = some x → t[j]? = some ds → ∃ v, G x = some (.lst v) ∧ DpAll K G v ds) → DpAll K G (l.map V.ref) (t.map PyData.list)
  | [], [], _, _ => .nil
  | x :: l, d :: t, hl, h => by
    obtain ⟨v, e1, e2⟩ := h 0 x d rfl rfl
    exact .cons (.lst (SqL.of e1) e2) (dpall_refs (Hh := Hh) (by simpa using hl) fun j x ds h1 h2 => h (j + 1) x ds (by simpa using h1) (by simpa using h2))
theorem Sts.rdFreeze (S : Sts K W ks σ G H) (hk : ks[i]? = some (.cus (rdC false C A s))) : ∃ G2, Sts K W (ks.set i .no) σ G2 H ∧ Same G G2 ∧ Dp K G2 (.ref A.t) (.list (s.told.map PyData.list)) := by
  have hi := (List.getElem?_eq_some_iff.mp hk).1
  obtain ⟨e1, r, gn, wn⟩ := S.rdAt hk
  obtain ⟨le, len, ow, o, f⟩ := id S
  obtain ⟨b1, _⟩ := f i _ hk
  have hL : ∀ a ∈ A.t :: A.l, (∀ j, a ∉ (fun j => if j = i then ([] : List Addr) else ow j) j) ∧ G a = none ∧ W.H a = none ∧ ∃ o, H a = some o ∧ Pl o := fun a ha => by
    have hm : a ∈ A.ls := by unfold RdA.ls; exact List.mem_cons_of_mem _ (List.mem_cons_of_mem _ ha)
    refine ⟨fun j hj => ?_, gn a hm, wn rfl a hm, ?_⟩
    · by_cases q : j = i
      · simp [q] at hj
      · simp only [q, if_false] at hj
        exact q (o.dis j i a hj (by rw [b1]; exact hm))
    · rcases List.mem_cons.mp ha with z | z
      · rw [z]; exact ⟨_, r.ht, pl_lst⟩
      · obtain ⟨v, e⟩ := r.in_l z
        exact ⟨_, e, pl_lst⟩
  have S2 := Sts.freezeL (K := K) (ks := ks.set i .no) (σ := σ) (ow := fun j => if j = i then [] else ow j) le (by rw [List.length_set]; exact len) ⟨fun j j' b h h' => by
      by_cases q : j = i
      · simp [q] at h
      · by_cases q' : j' = i
        · simp [q'] at h'
        · simp only [q, q', if_false] at h h'
          exact o.dis j j' b h h', fun j b h => by
      by_cases q : j = i
      · simp [q] at h
      · simp only [q, if_false] at h
        obtain ⟨m1, m2⟩ := o.mine j b h
        refine ⟨m1, m2.imp id fun z => ⟨z.1, ?_⟩⟩
        rw [List.getElem?_set_ne (Ne.symm q)]
        exact z.2, fun j hj => by
      rw [List.length_set] at hj
      have : j ≠ i := by omega
      simp only [this, if_false]
      exact o.out j hj⟩ (fun j kj hj => by
      by_cases q : j = i
      · subst q
        rw [List.getElem?_set_self hi] at hj
        cases hj
        simp only [if_true]
        exact rfl
      · rw [List.getElem?_set_ne (Ne.symm q)] at hj
        simp only [q, if_false]
        exact f j kj hj) hL
  refine ⟨_, S2.1, S2.2, .lst (SqL.of (by rw [frzL_in List.mem_cons_self]; exact r.ht)) (dpall_refs (Hh := H) r.len fun j x ds h1 h2 => ?_)⟩
  obtain ⟨v, v1, v2⟩ := r.hl j x ds h1 h2
  exact ⟨v, by rw [frzL_in (List.mem_cons_of_mem _ (List.mem_of_getElem? h1))]; exact v1, DpAll.mono S2.2 v2⟩
end
section
variable {P : Program} {w : World} {K : PySem.W.Frag} {mg : Str → Option Value} {base : Heap} {T : Sta} {k : Nat} {X : Cx} {ks k1 k2 k3 : List SK} {a b e o : Expr} {es : List Expr} {d da db : PyData} {ds ds' el cs : List PyData} {pos p tpos apos : Pos} {rest : List Stmt} {Φ : Po} {C : Addr} {A : RdA} {s s' : RdS} {mt : Bool} {x f : Str} {v : Int}
/-! ### what such an instance says of itself -/
theorem ed_rdI (c : CtxB cq P w K mg base T k X) (i : Nat) (cl : Cls X.K C) (na : NoAttr X.K C f) (hN : T.N[i]? = some x) (hv : Vis T.sc x) (hk : ks[i]? = some (.cus (rdC mt C A s))) (hf : (f = "row" ∧ v = s.row) ∨ (f = "last" ∧ v = s.last)) (hd : (x == ("__debug__" : Str)) = false) (hcd : (x == ("__classdict__" : Str)) = false)
    (hb : attributeBase (.Name x p) f X.env (eval (.Name x p) X.env) = eval (.Name x p) X.env) : ED X ks (.Attribute (.Name x p) f pos) ks (.int v) := fun W σ G H S Q q => by
  obtain ⟨e1, r, _⟩ := S.rdAt hk
  refine ev_of (pe_fld (pe_var (ix_of c hN) (vis_of c hv) hd hcd) hb) ⟨.ref A.a, e1, A.a, C, A.dx, rdF A s, .int v, rfl, r.ha, cl, na, ?_, q _ G H S (Same.refl G) (.int _)⟩
  rcases hf with ⟨rfl, rfl⟩ | ⟨rfl, rfl⟩ <;> rfl
theorem rd_told (c : CtxB cq P w K mg base T k X) (i : Nat) (cl : Cls X.K C) (na : NoAttr X.K C "told") (hN : T.N[i]? = some x) (hv : Vis T.sc x) (hk : ks[i]? = some (.cus (rdC mt C A s))) (hd : (x == ("__debug__" : Str)) = false) (hcd : (x == ("__classdict__" : Str)) = false) {p2 p3 : Pos} {jj : Nat}
    (hb : attributeBase (.Name x p) "told" X.env (eval (.Name x p) X.env) = eval (.Name x p) X.env) {j : Nat} {n : Int} {xj : Addr} (hn : n = (j : Int)) (hx : A.l[j]? = some xj) {W : Wd} {σ : St} {G H : Hp} (S : Sts X.K W ks σ G H) {Q : VK} (q : Q (.ref xj) H) :
    EV X (.Subscript (.Attribute (.Name x p) "told" p2) (.Constant (.int n) jj p3) pos) σ H Q := by
  obtain ⟨e1, r, _⟩ := S.rdAt hk
  refine ev_of (pe_ix ix_list (pe_fld (pe_var (ix_of c hN) (vis_of c hv) hd hcd) hb) pe_int (fun _ _ => rfl)) ⟨.ref A.a, e1, A.a, C, A.dx, rdF A s, .ref A.t, rfl, r.ha, cl, na, rfl, A.t, A.l.map V.ref, n, .ref xj, rfl, rfl, SqL.of r.ht, ?_, q⟩
  rw [hn]
  exact atI_nat (by rw [List.getElem?_map, hx]; rfl)
theorem eqv_nilD (ds : List PyData) : PyData.eqv (.list ds) (.list []) = ds.isEmpty := by cases ds <;> rfl
theorem rd_cmp (c : CtxB cq P w K mg base T k X) (i : Nat) (cl : Cls X.K C) (na : NoAttr X.K C "told") (hN : T.N[i]? = some x) (hv : Vis T.sc x) (hk : ks[i]? = some (.cus (rdC mt C A s))) (hd : (x == ("__debug__" : Str)) = false) (hcd : (x == ("__classdict__" : Str)) = false) {p2 p3 q1 q2 : Pos} {jj : Nat}
    (hb : attributeBase (.Name x p) "told" X.env (eval (.Name x p) X.env) = eval (.Name x p) X.env) {j : Nat} {n : Int} (hn : n = (j : Int)) (hj : s.told[j]? = some ds) (sh : SeqAt.shaped (.list ds) = true) {op : CmpOp} {bb : Bool} (ho : (op = .Eq ∧ bb = ds.isEmpty) ∨ (op = .NotEq ∧ bb = !ds.isEmpty)) :
    ED X ks (.Compare (.Subscript (.Attribute (.Name x p) "told" p2) (.Constant (.int n) jj p3) pos) [op] [.List [] q1] q2) ks (.bool bb) := fun W σ G H S Q qq => by
  obtain ⟨e1, r, _⟩ := S.rdAt hk
  have hjl : j < A.l.length := by rw [r.len]; exact (List.getElem?_eq_some_iff.mp hj).1
  have hx := List.getElem?_eq_getElem hjl
  obtain ⟨us, v1, v2⟩ := r.hl j _ ds hx hj
  have fin : ∀ (l : Addr) (nl : H l = none), Dp X.K (upd H l (.lst [])) (.ref A.l[j]) (.list ds) ∧ Dp X.K (upd H l (.lst [])) (.ref l) (.list []) ∧ ∀ bb, Q (.bl bb) H → True := fun l nl => by
    have nb : A.l[j] ≠ l := ne_of_none v1 nl
    refine ⟨.lst (SqL.of (by rw [upd_ne nb]; exact v1)) (DpAll.mono (fun b u e => ?_) v2), .lst (SqL.of upd_same) .nil, fun _ _ => trivial⟩
    have := S.gh b u e
    rw [upd_ne (ne_of_none this nl)]; exact this
  rcases ho with ⟨rfl, rfl⟩ | ⟨rfl, rfl⟩
  · refine ev_of (pe_cmpR (op_eqD c.units) pe_ev (pe_lst pa_nil) (nomark _)) (rd_told c i cl na hN hv hk hd hcd hb hn hx S ⟨Nat.zero_le _, fun l nl => ?_⟩)
    obtain ⟨f1, f2, _⟩ := fin l nl
    refine ⟨.list ds, .list [], f1, f2, sh, rfl, ?_⟩
    rw [eqv_nilD]
    have gl : G l = none := by
      cases e : G l with
      | none => rfl
      | some u => rw [S.gh l u e] at nl; cases nl
    exact qq _ G _ (S.pure (Lp.newOwn S.gh nl)) (Same.refl G) (.bl _)
  · refine ev_of (pe_cmpR (op_neD c.units) pe_ev (pe_lst pa_nil) (nomark _)) (rd_told c i cl na hN hv hk hd hcd hb hn hx S ⟨Nat.zero_le _, fun l nl => ?_⟩)
    obtain ⟨f1, f2, _⟩ := fin l nl
    refine ⟨.list ds, .list [], f1, f2, sh, rfl, ?_⟩
    rw [eqv_nilD]
    exact qq _ G _ (S.pure (Lp.newOwn S.gh nl)) (Same.refl G) (.bl _)
/-- self.f = e, an int -/
theorem sd_rdSet (c : CtxB cq P w K mg base T k X) (i : Nat) (cl : Cls X.K C) (na : NoAttr X.K C f) {p1 p2 : Pos} (hN : T.N[i]? = some x) (hv : Vis T.sc x) (h : ED X ks e k1 (.int v)) (hk : k1[i]? = some (.cus (rdC mt C A s))) (hf : (f = "row" ∧ s' = { s with row := v }) ∨ (f = "last" ∧ s' = { s with last := v }))
    (q : SD X (k1.set i (.cus (rdC mt C A s'))) rest Φ) (hd : (x == ("__debug__" : Str)) = false) (hcd : (x == ("__classdict__" : Str)) = false) (hs : swapsWith e (some (.Attribute (.Name x p1) f p2)) pos.line X.env = pure false) :
    SD X ks (.Assign [.Attribute (.Name x p1) f p2] e pos :: rest) Φ := fun W σ G H D S M => by
  refine sv_of (pss_cons (ps_fld (pe_var (ix_of c hN) (vis_of c hv) hd hcd) pe_ev hs) pss_sv) ?_
  refine h W σ G H S _ fun u G1 H1 S1 g1 r1 => ?_
  obtain ⟨e1, r, gn, _⟩ := S1.rdAt hk
  refine ⟨.ref A.a, e1, A.a, C, A.dx, rdF A s, rfl, r.ha, cl, na, (by decide : 3 < 1000), ?_⟩
  have hp : putF f u (rdF A s) = rdF A s' := by
    rw [r1.int_inv]
    rcases hf with ⟨rfl, rfl⟩ | ⟨rfl, rfl⟩ <;> rfl
  have ht : s'.told = s.told := by rcases hf with ⟨_, rfl⟩ | ⟨_, rfl⟩ <;> rfl
  rw [hp]
  exact q W σ G1 _ D (S1.rdStep hk (rd_le r S1.gh S1.le.tb gn (by simp [RdA.ls]) r.nm.1 pl_ins) (r.setF ht)) M
/-- self.told[j].append(e) -/
theorem sd_rdApp (c : CtxB cq P w K mg base T k X) (i : Nat) (cl : Cls X.K C) (na : NoAttr X.K C "told") {p1 p2 p3 q1 q3 : Pos} {j : Nat} (hN : T.N[i]? = some x) (hv : Vis T.sc x) (hb : ED X ks b ks (.int (j : Nat))) (h : ED X ks e ks d) (hk : ks[i]? = some (.cus (rdC mt C A s))) (hj : s.told[j]? = some ds) (hz : ds.length < sizeLine)
    (q : SD X (ks.set i (.cus (rdC mt C A { s with told := s.told.set j (ds ++ [d]) }))) rest Φ) (hd : (x == ("__debug__" : Str)) = false) (hcd : (x == ("__classdict__" : Str)) = false) (hpl : PlainIx b)
    (hat : attributeBase (.Name x p1) "told" X.env (eval (.Name x p1) X.env) = eval (.Name x p1) X.env)
    (hs : swapsWith (.Call (.Attribute (.Subscript (.Attribute (.Name x p1) "told" q1) b q3) "append" p2) [e] [] p3) none pos.line X.env = pure false)
    (hbase : attributeBase (.Subscript (.Attribute (.Name x p1) "told" q1) b q3) "append" X.env (eval (.Subscript (.Attribute (.Name x p1) "told" q1) b q3) X.env) = eval (.Subscript (.Attribute (.Name x p1) "told" q1) b q3) X.env)
    (he : starEach [e] X.env = (false, eval e X.env) :: starEach [] X.env) (hfew : (((backTo p3 (starEach [e] X.env)).all fun x => !x.fst) && ((backToKw p3 (keywordEach [] X.env)).all fun x => x.fst.isSome) && decide (([e].length + ([] : List Keyword).length + if ([] : List Keyword).isEmpty = true then 0 else 1) < 30)) = true)
    (hline : (p2.endLine == p3.line) = true) : SD X ks (.Expr (.Call (.Attribute (.Subscript (.Attribute (.Name x p1) "told" q1) b q3) "append" p2) [e] [] p3) pos :: rest) Φ := fun W σ G H D S M => by
  refine sv_of (pss_cons (ps_expr (pe_bm PySem.F.plainAttrs_list PySem.F.slot_list_append PySem.F.type_list_append mt_append (pe_ix ix_list (pe_fld (pe_var (ix_of c hN) (vis_of c hv) hd hcd) hat) pe_ev hpl) (pa_cons pe_ev pa_nil he) (hbase := hbase) (hs := he) (hfew := hfew) (hline := hline)) hs) pss_sv) ?_
  obtain ⟨e1, r, _⟩ := S.rdAt hk
  have hjl : j < A.l.length := by rw [r.len]; exact (List.getElem?_eq_some_iff.mp hj).1
  have hx := List.getElem?_eq_getElem hjl
  refine ⟨.ref A.a, e1, A.a, C, A.dx, rdF A s, .ref A.t, rfl, r.ha, cl, na, rfl, hb W σ G H S _ fun u G1 H1 S1 g1 r1 => ?_⟩
  obtain ⟨_, rr, _⟩ := S1.rdAt hk
  obtain ⟨us, v1, v2⟩ := rr.hl j _ ds hx hj
  refine ⟨A.t, A.l.map V.ref, (j : Nat), .ref A.l[j], rfl, r1.int_inv, SqL.of rr.ht, atI_nat (by rw [List.getElem?_map, hx]; rfl), .inl ⟨rfl, us, SqL.of v1⟩, ?_⟩
  refine h W σ G1 H1 S1 _ fun v G2 H2 S2 g2 r2 => ?_
  obtain ⟨_, r3, gn, _⟩ := S2.rdAt hk
  obtain ⟨us2, w1, w2⟩ := r3.hl j _ ds hx hj
  refine ⟨A.l[j], us2, v, rfl, rfl, w1, by rw [w2.len]; exact hz, ?_⟩
  have hm : A.l[j] ∈ A.l := List.getElem_mem hjl
  exact q W σ G2 _ D (S2.rdStep hk (rd_le r3 S2.gh S2.le.tb gn (by simp [RdA.ls, hm]) (r3.nm.2.2.2.1 _ hm).2.1 pl_lst) (r3.setL hx (DpAll.append w2 (.cons r2 .nil)))) M
/-- reader.told, given away -/
theorem ed_rdGive (c : CtxB cq P w K mg base T k X) (i : Nat) (cl : Cls X.K C) (na : NoAttr X.K C "told") (hN : T.N[i]? = some x) (hv : Vis T.sc x) (hk : ks[i]? = some (.cus (rdC false C A s))) (hd : (x == ("__debug__" : Str)) = false) (hcd : (x == ("__classdict__" : Str)) = false)
    (hb : attributeBase (.Name x p) "told" X.env (eval (.Name x p) X.env) = eval (.Name x p) X.env) : ED X ks (.Attribute (.Name x p) "told" pos) (ks.set i .no) (.list (s.told.map PyData.list)) := fun W σ G H S Q q => by
  obtain ⟨e1, r, _⟩ := S.rdAt hk
  obtain ⟨G2, S2, g2, d2⟩ := S.rdFreeze hk
  exact ev_of (pe_fld (pe_var (ix_of c hN) (vis_of c hv) hd hcd) hb) ⟨.ref A.a, e1, A.a, C, A.dx, rdF A s, .ref A.t, rfl, r.ha, cl, na, rfl, q _ G2 H S2 g2 d2⟩
def tgL (js : List Nat) : PyData → List SK → Option (List SK)
  | .list ds, ks => setAll js ds ks
  | _, _ => none
theorem setAll_len : ∀ {js : List Nat} {ds : List PyData} {ks ks' : List SK}, setAll js ds ks = some ks' → ds.length = js.length
  | [], [], _, _, _ => rfl
  | [], _ :: _, _, _, h => by cases h
  | _ :: _, [], _, _, h => by cases h
  | j :: js, d :: ds, ks, ks', h => by
    unfold setAll at h
    split at h
    · exact congrArg (· + 1) (setAll_len h)
    · cases h
theorem gd_tupL {js : List Nat} {kk : Nat} (c : Ctx P w K mg base T k X) (h : GsD X es js) (hn : (assignEach es X.env).length = js.length) (hst : (assignEach es X.env).findIdx? (·.1) = none) : GD X (.Tuple es kk p) (tgL js) js := by
  obtain ⟨g, pg, hg⟩ := h
  refine ⟨_, pg_unl c.calm pg hn hst, fun W σ G H ks v d ks' S r e Q q => ?_⟩
  cases d with
  | list ds =>
    obtain ⟨a, vs, rfl, sa, aa⟩ := r.lst_inv
    have e' : setAll js ds ks = some ks' := e
    exact ⟨a, vs, rfl, S.gh.seq sa, by rw [aa.len, setAll_len e'], hg W σ G H ks vs ds ks' S aa e' Q q⟩
  | _ => cases e
/-! ### its methods -/
def spRd (K : PySem.W.Frag) (C : Addr) (R : RdS → List PyData → RdS → Prop) (Rx : RdS → List PyData → Value → List (Str × PyData) → Prop) : L2.Sp := fun vs H Q E => ∃ G A s ws ds, vs = V.ref A.a :: ws ∧ Same G H ∧ TbO G H ∧ RdAt K G H C A s ∧ (∀ x ∈ A.ls, G x = none) ∧ DpAll K G ws ds ∧
  ((∃ s', R s ds s' ∧ ∀ G2 H2, Le ⟨G, H, fun x => x ∈ A.ls⟩ G2 H2 → RdAt K G2 H2 C A s' → Q .non H2) ∨
   ∃ cls fs, Rx s ds cls fs ∧ ∀ dx s' G2 H2, Le ⟨G, H, fun x => x ∈ A.ls⟩ G2 H2 → RdAt K G2 H2 C A s' → ExF K G2 dx fs → E cls dx H2)
structure MethX (P : Program) (w : World) (K : PySem.W.Frag) (mg : Str → Option Value) (base : Heap) (C : Addr) (m : Str) (ps : List Str) (j : Nat) (sp : L2.Sp) : Prop where
  ex : ∃ f fd, FnOk P w K mg base (L2.CX P w) j f fd ps sp ∧ Meth K C m f ∧ Binds K fd ps []
def tMethS (C : Addr) (m : Str) (sp : L2.Sp) (E : St → XK) (ta : TE) (t : TA) : TE := fun σ H Q => ta σ H fun x H1 => ∃ a dx fs, x = .ref a ∧ H1 a = some (.ins C dx fs) ∧ fs.lookup m = none ∧ t σ H1 fun vs H2 => sp (x :: vs) H2 Q (E σ)
theorem pe_methX {CX : CXT} {f : Addr} {fd : FuncData} {ps : List Str} {sp : L2.Sp} {E : St → XK} {m : Str} {ta : TE} {t : TA} {pl : Sem Bool} (he : PE X o ta) (c : Cls X.K C) (hm : Meth X.K C m f) (F : FnOk X.prog X.w X.K X.mg X.base CX k f fd ps sp) (hr : Room k X.A) (hb : Binds X.K fd ps []) (hx : ∀ σ, PassesAt CX X σ (E σ)) (ha : PA X (e :: es) t)
    (hst : starEach (e :: es) X.env = (false, eval e X.env) :: starEach es X.env) (hpl : (backTo pos (starEach es X.env)).any (·.1) = false)
    (ht : eval (.Call (.Attribute o m apos) (e :: es) [] pos) X.env = (do
      let ov ← eval o X.env
      standAt apos.atName
      let (f, first) ← holding [ov] (getMethod ov m pl)
      callWith pos f first (backTo pos (starEach (e :: es) X.env)) (backToKw pos (keywordEach [] X.env)))) :
    PE X (.Call (.Attribute o m apos) (e :: es) [] pos) (tMethS C m sp E ta t) := by
  refine ⟨fun pins s σ H Q I h => ?_⟩
  refine PySem.W.methodCall_KW (pl := pl) (thn (he.run pins s σ H _ I h) fun u s1 ⟨x, H1, I1, rx, a, dx, fs, ex, ea, l, q⟩ => ?_) ht
  subst ex
  obtain rfl : u = Value.ref a := rx
  refine getmeth_ok I1 ea c hm l ?_
  refine PySem.W.callWith_K (first := [.ref a]) (h₀ := X.base) I.ok.mod.kin hm.kp (thn (ha.run pos pins s1 σ H1 _ I1 q) fun us s2 ⟨vs, H2, I2, r, q2⟩ => ⟨I2.kIn, ?_⟩) hst hpl
  exact run_fnS (us := .ref a :: us) (vs := .ref a :: vs) F hr hb (hx σ) I2 (.cons rfl r) q2
section
variable {m : Str} {ps : List Str} {j : Nat} {R : RdS → List PyData → RdS → Prop} {Rx : RdS → List PyData → Value → List (Str × PyData) → Prop} {pl : Sem Bool} {p1 pos' : Pos} {s0 : RdS}
/-- x.m(e, ..) as a statement -/
theorem sd_rdCall (c : Ctx P w K mg base T k X) (i : Nat) (cl : Cls X.K C) (F : MethX P w K mg base C m ps j (spRd K C R Rx)) (hj : j ≤ k) (hN : T.N[i]? = some x) (hv : Vis T.sc x) (hk0 : ks[i]? = some (.cus (rdC mt C A s0))) (hno : (rdF A s0).lookup m = none) (ha : AD X ks (e :: es) k1 ds) (hk : k1[i]? = some (.cus (rdC mt C A s)))
    (hR : R s ds s') (q : SD X (k1.set i (.cus (rdC mt C A s'))) rest Φ) (hd : (x == ("__debug__" : Str)) = false) (hcd : (x == ("__classdict__" : Str)) = false)
    (hs : swapsWith (.Call (.Attribute (.Name x p1) m apos) (e :: es) [] pos) none pos'.line X.env = pure false) (hst : starEach (e :: es) X.env = (false, eval e X.env) :: starEach es X.env) (hpl : (backTo pos (starEach es X.env)).any (·.1) = false)
    (ht : eval (.Call (.Attribute (.Name x p1) m apos) (e :: es) [] pos) X.env = (do
      let ov ← eval (.Name x p1) X.env
      standAt apos.atName
      let (f, first) ← holding [ov] (getMethod ov m pl)
      callWith pos f first (backTo pos (starEach (e :: es) X.env)) (backToKw pos (keywordEach [] X.env)))) : SD X ks (.Expr (.Call (.Attribute (.Name x p1) m apos) (e :: es) [] pos) pos' :: rest) Φ := fun W σ G H D S M => by
  obtain ⟨f, fd, F, hm, hb⟩ := F.ex
  have h1 := c.hP
  have h2 := c.hw
  have h3 := c.hK
  have h4 := c.hmg
  have h5 := c.hbase
  subst h1 h2 h3 h4 h5
  obtain ⟨⟨Wx, tk, _⟩, _⟩ := M.ex
  refine sv_of (pss_cons (ps_expr (pe_methX (pe_var (ix_of c hN) (vis_of c hv) hd hcd) cl hm F (c.room.mono hj) hb (fun σ => passAt tk σ) pa_av hst hpl ht) hs) pss_sv) ?_
  obtain ⟨e1, r, _⟩ := S.rdAt hk0
  refine ⟨.ref A.a, e1, A.a, A.dx, rdF A s0, rfl, r.ha, hno, ?_⟩
  refine ha W σ G H S _ fun ws G2 H2 S2 g2 r2 => ?_
  obtain ⟨_, rr, gn, _⟩ := S2.rdAt hk
  exact ⟨G2, A, s, ws, ds, rfl, S2.gh, S2.le.tb, rr, gn, r2, .inl ⟨s', hR, fun G3 H3 l r3 => q W σ G3 H3 D (S2.rdStep hk l r3) M⟩⟩
theorem sd_rdCallX {cls : Value} {fs : List (Str × PyData)} (c : Ctx P w K mg base T k X) (i : Nat) (cl : Cls X.K C) (F : MethX P w K mg base C m ps j (spRd K C R Rx)) (hj : j ≤ k) (hN : T.N[i]? = some x) (hv : Vis T.sc x) (hk0 : ks[i]? = some (.cus (rdC mt C A s0))) (hno : (rdF A s0).lookup m = none) (ha : AD X ks (e :: es) k1 ds) (hk : k1[i]? = some (.cus (rdC mt C A s)))
    (hR : Rx s ds cls fs) (q : ∀ s', Φ.ex (k1.set i (.cus (rdC mt C A s'))) cls fs) (hd : (x == ("__debug__" : Str)) = false) (hcd : (x == ("__classdict__" : Str)) = false)
    (hs : swapsWith (.Call (.Attribute (.Name x p1) m apos) (e :: es) [] pos) none pos'.line X.env = pure false) (hst : starEach (e :: es) X.env = (false, eval e X.env) :: starEach es X.env) (hpl : (backTo pos (starEach es X.env)).any (·.1) = false)
    (ht : eval (.Call (.Attribute (.Name x p1) m apos) (e :: es) [] pos) X.env = (do
      let ov ← eval (.Name x p1) X.env
      standAt apos.atName
      let (f, first) ← holding [ov] (getMethod ov m pl)
      callWith pos f first (backTo pos (starEach (e :: es) X.env)) (backToKw pos (keywordEach [] X.env)))) : SD X ks (.Expr (.Call (.Attribute (.Name x p1) m apos) (e :: es) [] pos) pos' :: rest) Φ := fun W σ G H D S M => by
  obtain ⟨f, fd, F, hm, hb⟩ := F.ex
  have h1 := c.hP
  have h2 := c.hw
  have h3 := c.hK
  have h4 := c.hmg
  have h5 := c.hbase
  subst h1 h2 h3 h4 h5
  obtain ⟨⟨Wx, tk, hx⟩, _⟩ := M.ex
  refine sv_of (pss_cons (ps_expr (pe_methX (pe_var (ix_of c hN) (vis_of c hv) hd hcd) cl hm F (c.room.mono hj) hb (fun σ => passAt tk σ) pa_av hst hpl ht) hs) pss_sv) ?_
  obtain ⟨e1, r, _⟩ := S.rdAt hk0
  refine ⟨.ref A.a, e1, A.a, A.dx, rdF A s0, rfl, r.ha, hno, ?_⟩
  refine ha W σ G H S _ fun ws G2 H2 S2 g2 r2 => ?_
  obtain ⟨_, rr, gn, _⟩ := S2.rdAt hk
  exact ⟨G2, A, s, ws, ds, rfl, S2.gh, S2.le.tb, rr, gn, r2, .inr ⟨cls, fs, hR, fun dx s' G3 H3 l r3 x3 => hx _ σ G3 H3 cls dx fs (q s') (S2.rdStep hk l r3) x3⟩⟩
/-- a method of such an instance -/
theorem fn_sdRd {qual : Str} {st : Stmt} {N : List Str} {k : Nat} (D : MethAt K C m qual st ps) (S : FnScope N ps (defScope st)) (hl : ∀ s ds s', R s ds s' → ds.length + 1 = ps.length) (hl2 : ∀ s ds cls fs, Rx s ds cls fs → ds.length + 1 = ps.length) (hN : ps.length ≤ N.length)
    (h : ∀ X, Ctx P w K mg base ⟨N, defScope st, fun _ => true⟩ k X → ∀ A s ds s', R s ds s' → SD X (.cus (rdC true C A s) :: (ds.map SK.dat ++ List.replicate (N.length - (ds.length + 1)) .no)) (defBody st) { nx := fun ks => ks[0]? = some (.cus (rdC true C A s')), rt := fun _ _ => False })
    (hx : ∀ X, Ctx P w K mg base ⟨N, defScope st, fun _ => true⟩ k X → ∀ A s ds cls fs, Rx s ds cls fs → SD X (.cus (rdC true C A s) :: (ds.map SK.dat ++ List.replicate (N.length - (ds.length + 1)) .no)) (defBody st) { nx := fun _ => False, rt := fun _ _ => False, ex := fun ks c' fs' => c' = cls ∧ fs' = fs ∧ ∃ s', ks[0]? = some (.cus (rdC true C A s')) }) :
    MethX P w K mg base C m ps (k + 1) (spRd K C R Rx) := by
  obtain ⟨f, fd, F, hm, hb⟩ := D.ex
  refine ⟨f, fd, ?_, hm, hb⟩
  refine F.okX S (fun vs H Q E ⟨G, A, s, ws, ds, e, _, _, _, _, r, h⟩ => ?_) (fun cdv Ar outer s0 H vs Q E hr ⟨G, A, s, ws, ds, e, g, tb, ra, gn, r, h'⟩ => ⟨_, pss_sv, ?_⟩)
  · rw [e, List.length_cons, r.len]
    rcases h with ⟨s', h, _⟩ | ⟨c, fs, h, _⟩
    · exact hl s ds s' h
    · exact hl2 s ds c fs h
  · subst e
    have hlen : ds.length + 1 = ps.length := by
      rcases h' with ⟨s', h, _⟩ | ⟨c, fs, h, _⟩
      · exact hl s ds s' h
      · exact hl2 s ds c fs h
    have S0 := start_any (K := K) (N := N) (vs := V.ref A.a :: ws) (ks0 := .cus (rdC true C A s) :: ds.map SK.dat) (ow := fun i => if i = 0 then A.ls else []) (M := fun x => x ∈ A.ls) g tb (fun x hx => (ra.pl x hx).imp fun _ q => q.1) (by simp [r.len]) (by simp; omega)
      (fun i j a h h' => by
        by_cases q : i = 0
        · by_cases q' : j = 0
          · omega
          · simp [q'] at h'
        · simp [q] at h)
      (fun i a h => by
        by_cases q : i = 0
        · subst q
          have h : a ∈ A.ls := h
          exact ⟨gn a h, h, _, rfl, rfl⟩
        · simp [q] at h)
      (fun i hi => by
        have : i ≠ 0 := by simp at hi; omega
        simp [this])
      (fun i k hk => by
        cases i with
        | zero =>
          cases hk
          exact ⟨rfl, rfl, ra⟩
        | succ i =>
          have hk : (ds.map SK.dat)[i]? = some k := by simpa using hk
          rw [List.getElem?_map] at hk
          cases e : ds[i]? with
          | none => rw [e] at hk; cases hk
          | some d =>
            rw [e] at hk
            cases hk
            obtain ⟨v, v1, v2⟩ := r.get e
            exact ⟨rfl, v, by simpa using v1, v2⟩)
    have hks : (SK.cus (rdC true C A s) :: ds.map SK.dat) ++ List.replicate (N.length - (SK.cus (rdC true C A s) :: ds.map SK.dat).length) .no = .cus (rdC true C A s) :: (ds.map SK.dat ++ List.replicate (N.length - (ds.length + 1)) .no) := by simp
    rw [hks] at S0
    rcases h' with ⟨s', hR, q⟩ | ⟨cls, fs, hR, q⟩
    · refine h _ (cxOf_ctxX S cdv Ar outer s0 H E hr) A s ds s' hR _ _ G H _ S0 ⟨fun ks σ G' H' e S' => ?_, fun _ _ _ _ z => z.elim, fun _ _ _ _ z => z.elim, fun _ _ _ _ _ _ z => z.elim, fun _ _ _ _ _ _ z => z.elim, fun _ _ _ _ _ _ _ _ z => z.elim, ⟨⟨_, takes_of rfl rfl rfl rfl, fun _ _ _ _ _ _ _ z => z.elim⟩, fun _ _ _ _ _ _ z => z.elim⟩⟩
      exact q G' H' S'.le (S'.rdAt e).2.1
    · refine hx _ (cxOf_ctxX S cdv Ar outer s0 H E hr) A s ds cls fs hR _ _ G H _ S0 ⟨fun _ _ _ _ z => z.elim, fun _ _ _ _ z => z.elim, fun _ _ _ _ z => z.elim, fun _ _ _ _ _ _ z => z.elim, fun _ _ _ _ _ _ z => z.elim, fun _ _ _ _ _ _ _ _ z => z.elim, ⟨⟨_, takes_of rfl rfl rfl rfl, fun ks σ G' H' c' dx fs' e S' r' => ?_⟩, fun _ _ _ _ _ _ z => z.elim⟩⟩
      obtain ⟨rfl, rfl, s', e'⟩ := e
      exact q dx s' G' H' S'.le (S'.rdAt e').2.1 r'
end
end
end Z
namespace Z
open PySem PySem.Spec L2
variable [Tabl]
/-! ### such an instance is made -/
def spRN (K : PySem.W.Frag) (C : Addr) (s0 : RdS) : L2.Sp := fun vs H Q _ => ∃ G p dx, vs = [V.ref p] ∧ Same G H ∧ TbO G H ∧ G p = none ∧ G dx = none ∧ H p = some (.ins C dx []) ∧ H dx = some (.own p) ∧ p ≠ dx ∧
  ∀ A G2 H2, A.a = p → A.dx = dx → (∀ x ∈ A.t :: A.l, H x = none) → Le ⟨G, H, fun a => a = p ∨ a = dx⟩ G2 H2 → RdAt K G2 H2 C A s0 → (∀ x ∈ A.ls, G2 x = none) → Q .non H2
section
variable {P : Program} {w : World} {K : PySem.W.Frag} {mg : Str → Option Value} {base : Heap} {T : Sta} {k : Nat} {X : Cx} {ks k1 k2 k3 : List SK} {a b e o : Expr} {es : List Expr} {d da db : PyData} {ds ds' el cs : List PyData} {pos p tpos apos : Pos} {rest : List Stmt} {Φ : Po} {C : Addr} {A : RdA} {s s' s0 : RdS} {x f : Str} {v : Int}
theorem fn_sdRN {y qual : Str} {st : Stmt} {N ps : List Str} {k : Nat} (D : MkAt K mg y C qual st ps) (S : FnScope N ps (defScope st)) (hps : ps.length = 1) (hN : ps.length ≤ N.length)
    (h : ∀ X, Ctx P w K mg base ⟨N, defScope st, fun _ => true⟩ k X → ∀ a dx, SD X (.oin a dx C [] :: List.replicate (N.length - 1) .no) (defBody st) { nx := fun ks => ∃ A : RdA, A.a = a ∧ A.dx = dx ∧ ks[0]? = some (.cus (rdC true C A s0)), rt := fun _ _ => False }) :
    MkG P w K mg base y C ps (k + 1) (spRN K C s0) := by
  obtain ⟨f, fd, F, hm, hx, hb⟩ := D.ex
  refine ⟨f, fd, ?_, hm, hx, hb⟩
  refine F.ok S (fun vs H Q E ⟨G, p, dx, e, _⟩ => by rw [e, hps]; rfl) (fun cdv A outer s H vs Q E hr ⟨G, p, dx, e, g, tb, gp, gd, hp, hd, n, q⟩ => ⟨_, pss_sv, ?_⟩)
  subst e
  have S0 := start_oin (K := K) (N := N) (vs := []) (ds := []) g tb gp gd hp hd n .nil (by simp; omega)
  refine h _ (cxOf_ctx S cdv A outer s H E hr) p dx _ _ G H _ S0 ⟨fun ks σ G' H' e S' => ?_, fun _ _ _ _ z => z.elim, fun _ _ _ _ z => z.elim, fun _ _ _ _ _ _ z => z.elim, fun _ _ _ _ _ _ z => z.elim, fun _ _ _ _ _ _ _ _ z => z.elim, ex0⟩
  obtain ⟨A, rfl, rfl, hk⟩ := e
  obtain ⟨_, r, gn, _⟩ := S'.rdAt hk
  obtain ⟨le, len, ow, o, fz⟩ := S'
  obtain ⟨b1, _⟩ := fz 0 _ hk
  obtain ⟨n1, n2, n3, n4, n5⟩ := r.nm
  refine q A G' H' rfl rfl (fun x hx => ?_) le r gn
  have hm : x ∈ A.ls := by unfold RdA.ls; exact List.mem_cons_of_mem _ (List.mem_cons_of_mem _ hx)
  rcases (o.mine 0 x (by rw [b1]; exact hm)).2 with z | ⟨z, _⟩
  · exact z
  · exfalso
    have z : x = A.a ∨ x = A.dx := z
    rcases List.mem_cons.mp hx with y | y
    · subst y
      rcases z with z | z
      · exact n2 z.symm
      · exact n3 z.symm
    · obtain ⟨m1, m2, _⟩ := n4 x y
      rcases z with z | z
      · exact m1 z
      · exact m2 z
/-- x = C() -/
theorem sd_rdNew (c : Ctx P w K mg base T k X) (i : Nat) {y : Str} {ps : List Str} {j : Nat} {p2 pos2 : Pos} (F : MkG P w K mg base y C ps j (spRN K C s0)) (hj : j + 1 ≤ k) (hg : T.sc.names.lookup y = some .globalImplicit) (hi : T.N[i]? = some x) (hx : Loc T.sc x) (hf : T.fn x = true ∨ T.sc.names.lookup x = some .local) (hl : i < ks.length)
    (q : ∀ A, SD X (ks.set i (.cus (rdC false C A s0))) rest Φ) (hdb : (y == ("__debug__" : Str)) = false) (hs : swapsWith (.Call (.Name y p2) [] [] pos2) (some (.Name x p)) pos.line X.env = pure false) :
    SD X ks (.Assign [.Name x p] (.Call (.Name y p2) [] [] pos2) pos :: rest) Φ := fun W σ G H D S M => by
  obtain ⟨f, fd, F, hm, hmx, hb⟩ := F.ex
  have h1 := c.hP
  have h2 := c.hw
  have h3 := c.hK
  have h4 := c.hmg
  have h5 := c.hbase
  subst h1 h2 h3 h4 h5
  refine sv_of (pss_cons (ps_set (nd_of c) (ix_of c hi) (loc_of c hx) (pe_make0 hm F (c.room.mono hj) (gl_of c hg) hmx hb .nil pass0 hdb) hs (fn_of' c hf)) pss_sv) ?_
  show ∀ x dx, _
  intro x dx nx nd ne
  have gn : ∀ {b}, H b = none → G b = none := fun {b} n => by
    cases e : G b with
    | none => rfl
    | some u => rw [S.gh b u e] at n; cases n
  have old : ∀ {b u}, H b = some u → (upd (upd H dx (.own x)) x (.ins C dx [])) b = some u := fun {b u} e => by rw [upd_ne (ne_of_none e nx), upd_ne (ne_of_none e nd)]; exact e
  refine ⟨G, x, dx, rfl, fun b u e => old (S.gh b u e), (S.le.tb.upd (fun u e => by rw [nd] at e; cases e)).upd (fun u e => by rw [upd_ne (Ne.symm ne), nx] at e; cases e), gn nx, gn nd, upd_same, by rw [upd_ne ne, upd_same], Ne.symm ne, fun A G2 H2 ea ed hn l r gz => ⟨rfl, ?_⟩⟩
  subst ea ed
  have nm : ∀ {b u}, H b = some u → ¬ (b = A.a ∨ b = A.dx) := fun {b u} e z => z.elim (ne_of_none e nx) (ne_of_none e nd)
  have l3 : Le (pur G H) G2 H2 := {
    g := l.g
    gh := l.gh
    keep := fun b u _ nt e => l.keep b u (nm e) nt (old e)
    there := fun b u e => l.there b u (old e)
    fz := fun b u e1 e2 => l.fz b u e1 (old e2)
    m := fun _ z => z.elim
    tb := l.tb }
  have hnew : ∀ b ∈ A.ls, H b = none := fun b hb => by
    simp only [RdA.ls, List.mem_cons] at hb
    rcases hb with rfl | rfl | hb
    · exact nx
    · exact nd
    · have hb' : b ∈ A.t :: A.l := List.mem_cons.mpr hb
      have := hn b hb'
      cases e : H b with
      | none => rfl
      | some u => rw [old e] at this; cases this
  have wn : ∀ {b}, H b = none → W.H b = none := fun {b} n => by
    cases e : W.H b with
    | none => rfl
    | some u =>
      obtain ⟨u', e'⟩ := S.le.there b u e
      rw [n] at e'; cases e'
  exact q A W _ G2 H2 D (S.put hl (S.le.transL l3) l3.g (fun b u e1 e2 => l3.fz b u e1 e2) fun ow o f => ⟨fun j b _ hb u hu => by
    obtain ⟨u', hu', nt⟩ := o.liveN f j b hb
    rw [hu] at hu'
    cases hu'
    exact l3.keep b u (fun z => z) nt hu, A.ls, ⟨rfl, rfl, r⟩, fun b hb => ⟨(fun j _ hb' => by
      obtain ⟨u, hu⟩ := o.live f j b hb'
      rw [hnew b hb] at hu; cases hu), gz b hb, .inl (wn (hnew b hb))⟩⟩) M
/-- self.told = [[], [], [], []] -/
theorem sd_rdTold (c : CtxB cq P w K mg base T k X) (i : Nat) (cl : Cls X.K C) (na : NoAttr X.K C "told") {a0 dx : Addr} {n0 n1 : Int} {p1 p2 q0 q1 q2 q3 q4 : Pos} (hN : T.N[i]? = some x) (hv : Vis T.sc x) (hk : ks[i]? = some (.oin a0 dx C [("row", .int n0), ("last", .int n1)]))
    (q : ∀ A : RdA, A.a = a0 → A.dx = dx → SD X (ks.set i (.cus (rdC true C A ⟨n0, n1, [[], [], [], []]⟩))) rest Φ) (hd : (x == ("__debug__" : Str)) = false) (hcd : (x == ("__classdict__" : Str)) = false)
    (hs : swapsWith (.List [.List [] q0, .List [] q1, .List [] q2, .List [] q3] q4) (some (.Attribute (.Name x p1) "told" p2)) pos.line X.env = pure false)
    (s0 : starEach [.List [] q0, .List [] q1, .List [] q2, .List [] q3] X.env = (false, eval (.List [] q0) X.env) :: starEach [.List [] q1, .List [] q2, .List [] q3] X.env)
    (s1 : starEach [.List [] q1, .List [] q2, .List [] q3] X.env = (false, eval (.List [] q1) X.env) :: starEach [.List [] q2, .List [] q3] X.env)
    (s2 : starEach [.List [] q2, .List [] q3] X.env = (false, eval (.List [] q2) X.env) :: starEach [.List [] q3] X.env)
    (s3 : starEach [.List [] q3] X.env = (false, eval (.List [] q3) X.env) :: starEach [] X.env) :
    SD X ks (.Assign [.Attribute (.Name x p1) "told" p2] (.List [.List [] q0, .List [] q1, .List [] q2, .List [] q3] q4) pos :: rest) Φ := fun W σ G H D S M => by
  refine sv_of (pss_cons (ps_fld (pe_var (ix_of c hN) (vis_of c hv) hd hcd) (pe_lst (pa_cons (pe_lst pa_nil) (pa_cons (pe_lst pa_nil) (pa_cons (pe_lst pa_nil) (pa_cons (pe_lst pa_nil) pa_nil s3) s2) s1) s0)) hs) pss_sv) ?_
  have hi := (List.getElem?_eq_some_iff.mp hk).1
  obtain ⟨as, z⟩ := S.at hk
  obtain ⟨e1, _, ⟨vs, h1, r⟩, hxx, nad⟩ := z
  have hvs : vs = ([("row", .int n0), ("last", .int n1)] : List (Str × V)) := by
    cases r with | cons x1 r => cases r with | cons x2 r => cases r with
      | nil =>
        obtain ⟨a1, a2⟩ := x1
        obtain ⟨b1, b2⟩ := x2
        rename_i y1 y2
        obtain ⟨u1, u2⟩ := y1
        obtain ⟨t1, t2⟩ := y2
        have a1 : u1 = ("row" : Str) := a1
        have b1 : t1 = ("last" : Str) := b1
        have a2 : u2 = V.int n0 := a2.int_inv
        have b2 : t2 = V.int n1 := b2.int_inv
        rw [a1, a2, b1, b2]
  subst hvs
  have gn : ∀ {b}, H b = none → G b = none := fun {b} n => by
    cases e : G b with
    | none => rfl
    | some u => rw [S.gh b u e] at n; cases n
  refine ⟨Nat.zero_le _, fun l0 m0 => ⟨Nat.zero_le _, fun l1 m1 => ⟨Nat.zero_le _, fun l2 m2 => ⟨Nat.zero_le _, fun l3 m3 => ⟨Nat.le_of_ble_eq_true rfl, fun t mt => ?_⟩⟩⟩⟩⟩
  have L0 := Lp.newOwn (o := .lst []) S.gh m0
  have L1 := L0.trans (Lp.newOwn (o := .lst []) L0.gh m1)
  have L2' := L1.trans (Lp.newOwn (o := .lst []) L1.gh m2)
  have L3 := L2'.trans (Lp.newOwn (o := .lst []) L2'.gh m3)
  have L4 := L3.trans (Lp.newOwn (o := .lst [V.ref l0, .ref l1, .ref l2, .ref l3]) L3.gh mt)
  have d10 : l1 ≠ l0 := fun z => by rw [z, upd_same] at m1; cases m1
  have m1' : H l1 = none := by rw [upd_ne d10] at m1; exact m1
  have d21 : l2 ≠ l1 := fun z => by rw [z, upd_same] at m2; cases m2
  have m2' : upd H l0 (HO.lst []) l2 = none := by rw [upd_ne d21] at m2; exact m2
  have d20 : l2 ≠ l0 := fun z => by rw [z, upd_same] at m2'; cases m2'
  have m2'' : H l2 = none := by rw [upd_ne d20] at m2'; exact m2'
  have d32 : l3 ≠ l2 := fun z => by rw [z, upd_same] at m3; cases m3
  have m3' : upd (upd H l0 (HO.lst [])) l1 (HO.lst []) l3 = none := by rw [upd_ne d32] at m3; exact m3
  have d31 : l3 ≠ l1 := fun z => by rw [z, upd_same] at m3'; cases m3'
  have m3'' : upd H l0 (HO.lst []) l3 = none := by rw [upd_ne d31] at m3'; exact m3'
  have d30 : l3 ≠ l0 := fun z => by rw [z, upd_same] at m3''; cases m3''
  have m3c : H l3 = none := by rw [upd_ne d30] at m3''; exact m3''
  have dt3 : t ≠ l3 := fun z => by rw [z, upd_same] at mt; cases mt
  have mt1 : upd (upd (upd H l0 (HO.lst [])) l1 (HO.lst [])) l2 (HO.lst []) t = none := by rw [upd_ne dt3] at mt; exact mt
  have dt2 : t ≠ l2 := fun z => by rw [z, upd_same] at mt1; cases mt1
  have mt2 : upd (upd H l0 (HO.lst [])) l1 (HO.lst []) t = none := by rw [upd_ne dt2] at mt1; exact mt1
  have dt1 : t ≠ l1 := fun z => by rw [z, upd_same] at mt2; cases mt2
  have mt3 : upd H l0 (HO.lst []) t = none := by rw [upd_ne dt1] at mt2; exact mt2
  have dt0 : t ≠ l0 := fun z => by rw [z, upd_same] at mt3; cases mt3
  have mt4 : H t = none := by rw [upd_ne dt0] at mt3; exact mt3
  have na0 : ∀ {b}, H b = none → b ≠ a0 := fun {b} n z => by rw [z, h1] at n; cases n
  have nx0 : ∀ {b}, H b = none → b ≠ dx := fun {b} n z => by rw [z, hxx] at n; cases n
  refine ⟨.ref a0, S.there hi e1, a0, C, dx, _, rfl, L4.keep _ _ (fun z => z) h1, cl, na, (by decide : 2 < 1000), ?_⟩
  refine q ⟨a0, dx, t, [l0, l1, l2, l3]⟩ rfl rfl W σ G _ D ?_ M
  refine S.ownStep (as := [a0, dx]) (bs := [a0, dx, t, l0, l1, l2, l3]) hk (fun as' h => h.2.1) ?_ (fun _ => rfl) ⟨rfl, by rw [e1], ?_⟩ fun y hy => ?_
  · have base : Le ⟨G, H, fun y => y ∈ [a0, dx]⟩ G (upd (upd (upd (upd (upd H l0 (.lst [])) l1 (.lst [])) l2 (.lst [])) l3 (.lst [])) t (.lst [V.ref l0, .ref l1, .ref l2, .ref l3])) :=
      ⟨Same.refl G, L4.gh, fun b u _ _ e => L4.keep b u (fun z => z) e, fun b u e => ⟨u, L4.keep b u (fun z => z) e⟩, fun _ _ e _ => e, fun b hb => by
        simp at hb
        rcases hb with rfl | rfl
        · exact ⟨_, h1⟩
        · exact ⟨_, hxx⟩, S.le.tb.step L4⟩
    refine base.upd ⟨_, L4.keep _ _ (fun z => z) h1⟩ (fun u e => ?_) ?_ (.inr (by simp))
    · rw [L4.keep _ _ (fun z => z) h1] at e
      cases e
      exact pl_ins
    · obtain ⟨le, len, ow, o, f⟩ := S
      obtain ⟨_, b1, _⟩ := f i _ hk
      exact (o.mine i a0 (by rw [b1]; simp)).1
  · have A0 := na0 m0
    have A1 := na0 m1'
    have A2 := na0 m2''
    have A3 := na0 m3c
    have At := na0 mt4
    refine ⟨?_, rfl, ?_, ?_, ?_, fun j y ds hj hds => ?_⟩
    · simp only [RdA.ls, List.nodup_cons, List.mem_cons, List.not_mem_nil, or_false, not_or, not_false_eq_true, List.nodup_nil, and_true]
      exact ⟨⟨nad, Ne.symm At, Ne.symm A0, Ne.symm A1, Ne.symm A2, Ne.symm A3⟩, ⟨Ne.symm (nx0 mt4), Ne.symm (nx0 m0), Ne.symm (nx0 m1'), Ne.symm (nx0 m2''), Ne.symm (nx0 m3c)⟩, ⟨dt0, dt1, dt2, dt3⟩, ⟨Ne.symm d10, Ne.symm d20, Ne.symm d30⟩, ⟨Ne.symm d21, Ne.symm d31⟩, Ne.symm d32⟩
    · exact upd_same
    · show upd _ a0 _ dx = _
      rw [upd_ne (Ne.symm nad)]; exact L4.keep _ _ (fun z => z) hxx
    · show upd _ a0 _ t = _
      rw [upd_ne At, upd_same]; rfl
    · have fin : ∀ y, y ≠ a0 → y ≠ t → upd (upd (upd (upd H l0 (HO.lst [])) l1 (HO.lst [])) l2 (HO.lst [])) l3 (HO.lst []) y = some (HO.lst []) → ∃ v, upd (upd (upd (upd (upd (upd H l0 (HO.lst [])) l1 (HO.lst [])) l2 (HO.lst [])) l3 (HO.lst [])) t (HO.lst [V.ref l0, .ref l1, .ref l2, .ref l3])) a0 (.ins C dx (putF "told" (.ref t) [("row", .int n0), ("last", .int n1)])) y = some (.lst v) ∧ DpAll X.K G v [] := fun y y1 y2 e => ⟨[], by rw [upd_ne y1, upd_ne y2]; exact e, .nil⟩
      have hds : ds = [] := by
        match j, hds with
        | 0, hds => simpa using hds.symm
        | 1, hds => simpa using hds.symm
        | 2, hds => simpa using hds.symm
        | 3, hds => simpa using hds.symm
        | j + 4, hds => simp at hds
      subst hds
      match j, hj with
      | 0, hj =>
        have hj : l0 = y := by simpa using hj
        subst hj
        exact fin l0 A0 (Ne.symm dt0) (by rw [upd_ne (Ne.symm d30), upd_ne (Ne.symm d20), upd_ne (Ne.symm d10), upd_same])
      | 1, hj =>
        have hj : l1 = y := by simpa using hj
        subst hj
        exact fin l1 A1 (Ne.symm dt1) (by rw [upd_ne (Ne.symm d31), upd_ne (Ne.symm d21), upd_same])
      | 2, hj =>
        have hj : l2 = y := by simpa using hj
        subst hj
        exact fin l2 A2 (Ne.symm dt2) (by rw [upd_ne (Ne.symm d32), upd_same])
      | 3, hj =>
        have hj : l3 = y := by simpa using hj
        subst hj
        exact fin l3 A3 (Ne.symm dt3) (by rw [upd_same])
      | j + 4, hj => simp at hj
  · simp only [List.mem_cons, List.not_mem_nil, or_false] at hy
    rcases hy with rfl | rfl | rfl | rfl | rfl | rfl | rfl
    · exact .inl (by simp)
    · exact .inl (by simp)
    · exact .inr ⟨mt4, gn mt4⟩
    · exact .inr ⟨m0, gn m0⟩
    · exact .inr ⟨m1', gn m1'⟩
    · exact .inr ⟨m2'', gn m2''⟩
    · exact .inr ⟨m3c, gn m3c⟩
end
end Z
namespace Z
open PySem PySem.Spec L2
variable [Tabl]
/-! ### defs that raise, by cases -/
def spO (K : PySem.W.Frag) {ι : Type} (A : ι → List PyData → Prop) (O : ι → PyData → Prop) (Ox : ι → Value → List (Str × PyData) → Prop) : L2.Sp := fun vs H Q E => ∃ G ds i, Same G H ∧ TbO G H ∧ DpAll K G vs ds ∧ A i ds ∧
  (∀ d v G2 H2, O i d → Le (pur G H) G2 H2 → Dp K G2 v d → Q v H2) ∧ ∀ cls fs dx G2 H2, Ox i cls fs → Le (pur G H) G2 H2 → ExF K G2 dx fs → E cls dx H2
section
variable {P : Program} {w : World} {K : PySem.W.Frag} {mg : Str → Option Value} {base : Heap} {T : Sta} {k : Nat} {X : Cx} {ks k1 k2 k3 : List SK} {a b e o : Expr} {es : List Expr} {d da db : PyData} {ds ds' el cs : List PyData} {pos p tpos apos : Pos} {rest : List Stmt} {Φ : Po} {x f : Str} {ι : Type} {A : ι → List PyData → Prop} {O : ι → PyData → Prop} {Ox : ι → Value → List (Str × PyData) → Prop} {ps : List Str} {j : Nat}
theorem fn_sdO {st : Stmt} {N ps : List Str} {k : Nat} (D : DefAt K mg x st ps) (S : FnScope N ps (defScope st)) (hl : ∀ i ds, A i ds → ds.length = ps.length) (hN : ps.length ≤ N.length)
    (h : ∀ X, Ctx P w K mg base ⟨N, defScope st, fun _ => true⟩ k X → StkC X → ∀ i ds, A i ds → SD X (ds.map SK.dat ++ List.replicate (N.length - ds.length) .no) (defBody st) { nx := fun _ => O i .none, rt := fun _ d' => O i d', rl := fun _ ds' => O i (.list ds'), ex := fun _ c' fs' => Ox i c' fs' }) :
    FnX P w K mg base x ps (k + 1) (spO K A O Ox) := by
  obtain ⟨f, fd, F, hm, hb⟩ := D.ex
  refine ⟨f, fd, ?_, hm, F.kp, hb⟩
  refine F.okX S (fun vs H Q E ⟨G, ds, i, _, _, r, h, _⟩ => by rw [r.len]; exact hl i ds h) (fun cdv Ar outer s H vs Q E hr ⟨G, ds, i, g, tb, r, hA, q, qx⟩ => ⟨_, pss_sv, ?_⟩)
  have S0 := start_sts (N := N) (Le.refl g tb) r (by rw [hl i ds hA]; exact hN)
  refine h _ (cxOf_ctxX S cdv Ar outer s H E hr) ⟨rfl, rfl⟩ i ds hA _ _ G H _ S0 ⟨fun ks σ G' H' e S' => ?_, fun _ _ _ _ z => z.elim, fun _ _ _ _ z => z.elim, fun ks σ G' H' v d' e S' r' => ?_, fun ks σ G' H' a ds' e S' => ?_, fun _ _ _ _ _ _ _ _ z => z.elim, ⟨⟨_, takes_of rfl rfl rfl rfl, fun ks σ G' H' c' dx fs' e S' r' => ?_⟩, fun _ _ _ _ _ _ z => z.elim⟩⟩
  · exact q .none .non G' H' e S'.le .non
  · exact q d' v G' H' e S'.le r'
  · obtain ⟨G2, S2, g2, r2⟩ := S'.popFreeze
    exact q _ _ G2 H' e S2.le r2
  · exact qx c' fs' dx G' H' e S'.le r'
/-- f(e, ..) as a statement -/
theorem sd_exprO (c : Ctx P w K mg base T k X) {i : ι} (F : FnX P w K mg base x ps j (spO K A O Ox)) (hj : j ≤ k) (hg : T.sc.names.lookup x = some .globalImplicit) (ha : AD X ks (e :: es) k1 ds) (hA : A i ds) (hO : (∃ d, O i d) → SD X k1 rest Φ) (hX : ∀ cls fs, Ox i cls fs → Φ.ex k1 cls fs) (hdb : (x == ("__debug__" : Str)) = false)
    (he : starEach (e :: es) X.env = (false, eval e X.env) :: starEach es X.env) (hpl : (backTo pos (starEach es X.env)).any (·.1) = false) {pos' : Pos} (hs : swapsWith (.Call (.Name x p) (e :: es) [] pos) none pos'.line X.env = pure false) :
    SD X ks (.Expr (.Call (.Name x p) (e :: es) [] pos) pos' :: rest) Φ := fun W σ G H D S M => by
  obtain ⟨f, fd, F, hm, hk, hb⟩ := F.ex
  have h1 := c.hP
  have h2 := c.hw
  have h3 := c.hK
  have h4 := c.hmg
  have h5 := c.hbase
  subst h1 h2 h3 h4 h5
  obtain ⟨⟨Wx, tk, hx⟩, _⟩ := M.ex
  refine sv_of (pss_cons (ps_expr (pe_callS F (c.room.mono hj) (gl_of c hg) hm hk hb (fun σ => passAt tk σ) pa_av hdb he hpl) hs) pss_sv) ?_
  refine ha W σ G H S _ fun vs G1 H1 S1 g1 r1 => ?_
  exact ⟨G1, ds, i, S1.gh, S1.le.tb, r1, hA, fun d v G2 H2 hO' l r2 => hO ⟨d, hO'⟩ W σ G2 H2 D (S1.step l) M, fun cls fs dx G2 H2 hx' l r2 => hx k1 σ G2 H2 cls dx fs (hX cls fs hx') (S1.step l) r2⟩
/-- such a def, of whose outcome more is known -/
theorem FnX.of (F : FnX P w K mg base x ps j (spO K A O Ox)) {R : List PyData → PyData → Prop} {Rx : List PyData → Value → List (Str × PyData) → Prop} (hR : ∀ ds d, R ds d → ∃ i, A i ds ∧ (∀ d', O i d' → d' = d) ∧ ∀ c f, ¬ Ox i c f)
    (hX : ∀ ds c f, Rx ds c f → ∃ i, A i ds ∧ (∀ d, ¬ O i d) ∧ ∀ c' f', Ox i c' f' → c' = c ∧ f' = f) : FnX P w K mg base x ps j (spPX K R Rx) := by
  obtain ⟨f, fd, F, hm, hk, hb⟩ := F.ex
  refine ⟨f, fd, F.imp fun vs H Q E ⟨G, ds, g, tb, r, h⟩ => ?_, hm, hk, hb⟩
  rcases h with ⟨d, h, q⟩ | ⟨c, fs, h, q⟩
  · obtain ⟨i, h1, h2, h3⟩ := hR ds d h
    exact ⟨G, ds, i, g, tb, r, h1, fun d' v G2 H2 o l r2 => q v G2 H2 l (by rw [← h2 d' o]; exact r2), fun c f _ _ _ z => absurd z (h3 c f)⟩
  · obtain ⟨i, h1, h2, h3⟩ := hX ds c fs h
    refine ⟨G, ds, i, g, tb, r, h1, fun d' v G2 H2 o => absurd o (h2 d'), fun c' f' dx G2 H2 z l r2 => ?_⟩
    obtain ⟨rfl, rfl⟩ := h3 c' f' z
    exact q dx G2 H2 l r2
end
end Z
namespace Z
open PySem PySem.Spec L2
variable [Tabl]
/-! ### a new list of our own, held while more is evaluated -/
section
variable {K : PySem.W.Frag} {W : Wd} {ks : List SK} {σ : St} {G H : Hp}
def Wd.plus (W : Wd) (H : Hp) (a : Addr) : Wd := ⟨W.G, fun x => if x = a then H a else W.H x, W.M⟩
theorem Sts.hold {a : Addr} {ds : List PyData} (S : Sts K W (ks ++ [.own ds]) (σ ++ [some (.ref a)]) G H) : ∃ vs, H a = some (.lst vs) ∧ DpAll K G vs ds ∧ Sts K (W.plus H a) ks σ G H ∧
    ∀ ks2 G2 H2, Sts K (W.plus H a) ks2 σ G2 H2 → Sts K W ks2 σ G2 H2 ∧ H2 a = some (.lst vs) ∧ G2 a = none := by
  obtain ⟨S1, ga, wa, vs, ha, r, ow, o, f, no⟩ := S.pop
  have nM : ¬ W.M a := fun m => by
    obtain ⟨u, e⟩ := S1.le.m a m
    rw [wa] at e; cases e
  have hpa : (W.plus H a).H a = H a := if_pos rfl
  have hpn : ∀ {x}, x ≠ a → (W.plus H a).H x = W.H x := fun h => if_neg h
  have wg : W.G a = none := by
    cases e : W.G a with
    | none => rfl
    | some u => rw [S1.le.g a u e] at ga; cases ga
  refine ⟨vs, ha, r, ⟨⟨S1.le.g, S1.le.gh, fun x u m nt e => ?_, fun x u e => ?_, fun x u e1 e2 => ?_, fun x m => ?_, S1.le.tb⟩, S1.len, ow, ⟨o.dis, fun i x hx => ?_, o.out⟩, f⟩, fun ks2 G2 H2 S2 => ⟨⟨⟨S2.le.g, S2.le.gh, fun x u m nt e => ?_, fun x u e => ?_, fun x u e1 e2 => ?_, fun x m => ?_, S2.le.tb⟩, S2.len, ?_⟩, ?_, ?_⟩⟩
  · by_cases q : x = a
    · subst q; rw [hpa] at e; exact e
    · rw [hpn q] at e; exact S1.le.keep x u m nt e
  · by_cases q : x = a
    · subst q; exact ⟨_, ha⟩
    · rw [hpn q] at e; exact S1.le.there x u e
  · by_cases q : x = a
    · subst q; exact ga
    · rw [hpn q] at e2; exact S1.le.fz x u e1 e2
  · by_cases q : x = a
    · subst q; exact absurd m nM
    · obtain ⟨u, e⟩ := S1.le.m x m
      exact ⟨u, by rw [hpn q]; exact e⟩
  · obtain ⟨m1, m2⟩ := o.mine i x hx
    have q : x ≠ a := fun z => no i (z ▸ hx)
    exact ⟨m1, by rw [hpn q]; exact m2⟩
  · exact S2.le.keep x u m nt (by rw [hpn (fun z => by rw [z, wa] at e; cases e)]; exact e)
  · exact S2.le.there x u (by rw [hpn (fun z => by rw [z, wa] at e; cases e)]; exact e)
  · exact S2.le.fz x u e1 (by rw [hpn (fun z => by rw [z, wa] at e2; cases e2)]; exact e2)
  · exact S1.le.m x m
  · obtain ⟨ow2, o2, f2⟩ := S2.own
    refine ⟨ow2, ⟨o2.dis, fun i x hx => ?_, o2.out⟩, f2⟩
    obtain ⟨m1, m2⟩ := o2.mine i x hx
    refine ⟨m1, m2.imp (fun z => ?_) id⟩
    by_cases q : x = a
    · subst q; exact wa
    · rw [hpn q] at z; exact z
  · exact S2.le.keep a _ nM (fun _ z => by cases z) (by rw [hpa]; exact ha)
  · exact S2.le.fz a _ wg (by rw [hpa]; exact ha)
end
section
variable {P : Program} {w : World} {K : PySem.W.Frag} {mg : Str → Option Value} {base : Heap} {T : Sta} {k : Nat} {X : Cx} {ks k1 k2 k3 : List SK} {a b e o : Expr} {es : List Expr} {d da db : PyData} {ds ds' el cs : List PyData} {pos p tpos apos : Pos} {rest : List Stmt} {Φ : Po}
/-- [..] * n, where the right side may draw -/
theorem el_repR {n : Int} (ha : EL X ks a k1 ds) (hb : ED X k1 b k2 (.int n)) (h0 : 0 ≤ n) (hn : n < 1000) (hz : ds.length * n.toNat ≤ sizeLine) : EL X ks (.BinOp a .Mult b pos) k2 (List.replicate n.toNat ds).flatten := fun W σ G H S Q q => by
  refine ev_of (pe_op op_rep pe_ev pe_ev) (ha W σ G H S _ fun l G1 H1 S1 g1 => ?_)
  obtain ⟨vs, hl, rl, S1h, back⟩ := S1.hold
  refine hb _ σ G1 H1 S1h _ fun v G2 H2 S2h g2 r2 => ?_
  obtain ⟨S2, hl2, gl2⟩ := back _ _ _ S2h
  rw [r2.int_inv]
  refine ⟨l, n, vs, rfl, rfl, hl2, by omega, by omega, by rw [rl.len]; exact hz, fun p np => ?_⟩
  have gp : G2 p = none := by
    cases e : G2 p with
    | none => rfl
    | some u => rw [S2.gh p u e] at np; cases np
  exact q p G2 _ (S2.push (Lp.newOwn S2.gh np) np gp upd_same (DpAll.rep (DpAll.mono g2 rl) n.toNat)) (g1.trans g2)
end
end Z
local macro_rules | `(tactic| kspl_open vis) => `(tactic| first | exact .inl rfl | exact .inr (.inl rfl) | exact .inr (.inr rfl))
local macro_rules | `(tactic| kspl_open loc) => `(tactic| first | exact .inl rfl | exact .inr rfl)
local macro_rules | `(tactic| kspl_open bd) => `(tactic| first | exact Z.bd_add | exact Z.bd_sub | exact Z.bd_mod (by first | decide | omega) | exact Z.bd_fdiv ⟨by first | decide | omega, by first | decide | omega⟩ | exact Z.bd_mul (.inl ⟨by omega, by omega⟩) | exact Z.bd_mul (.inr ⟨by omega, by omega⟩))
local macro_rules | `(tactic| kspl_open cd) => `(tactic| first | exact Z.cd_lt | exact Z.cd_le | exact Z.cd_gt | exact Z.cd_ge | exact Z.cd_eqI | exact Z.cd_neI | exact Z.cd_isN | exact Z.cd_notN)
local macro_rules | `(tactic| kspl_open cl) => `(tactic| first | exact Z.cl_lenT | exact Z.cl_lenL | exact Z.cl_max2 (Z.CtxB.calm (by assumption)) | exact Z.cl_min2 (Z.CtxB.calm (by assumption)) | exact Z.cl_intB | exact Z.cl_tupL | exact Z.cl_lstL | exact Z.cl_lstT)
local macro_rules | `(tactic| kspl_open ix) => `(tactic| first | rfl | assumption | exact Z.ix_fl (by assumption) | exact Z.ix_row (by assumption) (by assumption) (by assumption))
namespace K
open PySem L2 Z
def top (i : Nat) : Stmt := PySem.Challenge.pw_homingpost_k13_texts_refused.main.body.getD i (.Pass ⟨0, 0, 0, 0⟩)
abbrev s_PostError : Stmt := top 1
abbrev s_BadBook : Stmt := top 2
abbrev s_NoOffice : Stmt := top 3
abbrev s_BadPosting : Stmt := top 4
abbrev s_NoPosting : Stmt := top 5
abbrev s_BadText : Stmt := top 6
abbrev s_need : Stmt := top 19
abbrev s_is_office : Stmt := top 20
abbrev s_need_flights : Stmt := top 21
abbrev s_need_rows : Stmt := top 22
abbrev s_need_book : Stmt := top 23
abbrev s_row_of : Stmt := top 28
abbrev s_written : Stmt := top 29
abbrev s_is_number : Stmt := top 30
abbrev s_Reader : Stmt := top 31
abbrev s_read : Stmt := top 32
abbrev s__law_next : Stmt := top 34
abbrev s__law_hours : Stmt := top 35
abbrev s__law_book : Stmt := top 36
abbrev s__law_refusal : Stmt := top 37
abbrev s_law : Stmt := top 38
def clsBody : Stmt → List Stmt
  | .ClassDef _ _ _ b .. => b
  | _ => []
abbrev s_BadBook___init__ : Stmt := (clsBody s_BadBook).getD 0 (.Pass ⟨0, 0, 0, 0⟩)
abbrev s_BadText___init__ : Stmt := (clsBody s_BadText).getD 0 (.Pass ⟨0, 0, 0, 0⟩)
structure Exs (K : PySem.W.Frag) (mg : Str → Option Value) (aPostError aBadBook aNoOffice aBadPosting aNoPosting aBadText : Addr) : Prop where
  g_PostError : mg "PostError" = some (.ref aPostError)
  c_PostError : (PySem.W.clsIn K aPostError).isSome = true
  t_PostError : PySem.W.typeIn K (.ref aPostError) = some (.type "type")
  s_PostError : PySem.W.subIn K (.ref aPostError) (.type "BaseException") = some true
  h_PostError : PySem.W.hasDictIn K aPostError = true
  g_BadBook : mg "BadBook" = some (.ref aBadBook)
  c_BadBook : (PySem.W.clsIn K aBadBook).isSome = true
  t_BadBook : PySem.W.typeIn K (.ref aBadBook) = some (.type "type")
  s_BadBook : PySem.W.subIn K (.ref aBadBook) (.type "BaseException") = some true
  h_BadBook : PySem.W.hasDictIn K aBadBook = true
  g_NoOffice : mg "NoOffice" = some (.ref aNoOffice)
  c_NoOffice : (PySem.W.clsIn K aNoOffice).isSome = true
  t_NoOffice : PySem.W.typeIn K (.ref aNoOffice) = some (.type "type")
  s_NoOffice : PySem.W.subIn K (.ref aNoOffice) (.type "BaseException") = some true
  h_NoOffice : PySem.W.hasDictIn K aNoOffice = true
  g_BadPosting : mg "BadPosting" = some (.ref aBadPosting)
  c_BadPosting : (PySem.W.clsIn K aBadPosting).isSome = true
  t_BadPosting : PySem.W.typeIn K (.ref aBadPosting) = some (.type "type")
  s_BadPosting : PySem.W.subIn K (.ref aBadPosting) (.type "BaseException") = some true
  h_BadPosting : PySem.W.hasDictIn K aBadPosting = true
  g_NoPosting : mg "NoPosting" = some (.ref aNoPosting)
  c_NoPosting : (PySem.W.clsIn K aNoPosting).isSome = true
  t_NoPosting : PySem.W.typeIn K (.ref aNoPosting) = some (.type "type")
  s_NoPosting : PySem.W.subIn K (.ref aNoPosting) (.type "BaseException") = some true
  h_NoPosting : PySem.W.hasDictIn K aNoPosting = true
  g_BadText : mg "BadText" = some (.ref aBadText)
  c_BadText : (PySem.W.clsIn K aBadText).isSome = true
  t_BadText : PySem.W.typeIn K (.ref aBadText) = some (.type "type")
  s_BadText : PySem.W.subIn K (.ref aBadText) (.type "BaseException") = some true
  h_BadText : PySem.W.hasDictIn K aBadText = true
  p_BadText_PostError : PySem.W.subIn K (.ref aBadText) (.ref aPostError) = some true
  p_BadText_BadBook : PySem.W.subIn K (.ref aBadText) (.ref aBadBook) = some false
  p_BadText_NoOffice : PySem.W.subIn K (.ref aBadText) (.ref aNoOffice) = some false
  p_BadText_BadPosting : PySem.W.subIn K (.ref aBadText) (.ref aBadPosting) = some false
  p_BadText_NoPosting : PySem.W.subIn K (.ref aBadText) (.ref aNoPosting) = some false
  p_BadText_BadText : PySem.W.subIn K (.ref aBadText) (.ref aBadText) = some true
  v_BadText : PySem.W.subIn K (.ref aBadText) (.type "ValueError") = some true
  i_BadText : ExcI K aBadText
  x_BadText : Exc1At K mg "BadText" "row" aBadText "BadText.__init__" s_BadText___init__ ["self", "row"]
  p_BadBook_PostError : PySem.W.subIn K (.ref aBadBook) (.ref aPostError) = some true
  p_BadBook_BadBook : PySem.W.subIn K (.ref aBadBook) (.ref aBadBook) = some true
  p_BadBook_NoOffice : PySem.W.subIn K (.ref aBadBook) (.ref aNoOffice) = some false
  p_BadBook_BadPosting : PySem.W.subIn K (.ref aBadBook) (.ref aBadPosting) = some false
  p_BadBook_NoPosting : PySem.W.subIn K (.ref aBadBook) (.ref aNoPosting) = some false
  p_BadBook_BadText : PySem.W.subIn K (.ref aBadBook) (.ref aBadText) = some false
  v_BadBook : PySem.W.subIn K (.ref aBadBook) (.type "ValueError") = some true
  i_BadBook : ExcI K aBadBook
  x_BadBook : Exc1At K mg "BadBook" "why" aBadBook "BadBook.__init__" s_BadBook___init__ ["self", "why"]
abbrev s_Reader___init__ : Stmt := (clsBody s_Reader).getD 0 (.Pass ⟨0, 0, 0, 0⟩)
abbrev s_Reader_must : Stmt := (clsBody s_Reader).getD 1 (.Pass ⟨0, 0, 0, 0⟩)
abbrev s_Reader_take : Stmt := (clsBody s_Reader).getD 2 (.Pass ⟨0, 0, 0, 0⟩)
structure Reader_at (K : PySem.W.Frag) (mg : Str → Option Value) (C : Addr) : Prop where
  cl : L2.Cls K C
  mkd : MkAt K mg "Reader" C "Reader.__init__" s_Reader___init__ ["self"]
  m_must : MethAt K C "must" "Reader.must" s_Reader_must ["self", "good"]
  m_take : MethAt K C "take" "Reader.take" s_Reader_take ["self", "text"]
  na_row : L2.NoAttr K C "row"
  na_last : L2.NoAttr K C "last"
  na_told : L2.NoAttr K C "told"
structure Md (K : PySem.W.Frag) (mg : Str → Option Value) : Prop where
  c_LEAST_OFFICES : ∃ t, mg "LEAST_OFFICES" = some (.int 2 t)
  c_MOST_OFFICES : ∃ t, mg "MOST_OFFICES" = some (.int 6 t)
  c_MOST_FLIGHT : ∃ t, mg "MOST_FLIGHT" = some (.int 9 t)
  c_MOST_STORMS : ∃ t, mg "MOST_STORMS" = some (.int 8 t)
  c_MOST_CARTS : ∃ t, mg "MOST_CARTS" = some (.int 12 t)
  c_MOST_BIRDS : ∃ t, mg "MOST_BIRDS" = some (.int 6 t)
  c_MOST_HOUR : ∃ t, mg "MOST_HOUR" = some (.int 99 t)
  c_FLIGHTS : ∃ t, mg "FLIGHTS" = some (.int 0 t)
  c_STORMS : ∃ t, mg "STORMS" = some (.int 1 t)
  c_CARTS : ∃ t, mg "CARTS" = some (.int 2 t)
  c_BIRDS : ∃ t, mg "BIRDS" = some (.int 3 t)
  d_need : DefAt K mg "need" s_need ["good", "why"]
  d_is_office : DefAt K mg "is_office" s_is_office ["book", "office"]
  d_need_flights : DefAt K mg "need_flights" s_need_flights ["book"]
  d_need_rows : DefAt K mg "need_rows" s_need_rows ["book", "place", "most", "why"]
  d_need_book : DefAt K mg "need_book" s_need_book ["book"]
  s_FIGURES : ∃ t, mg "FIGURES" = some (.str "0123456789" t)
  c_MOST_FIGURES : ∃ t, mg "MOST_FIGURES" = some (.int 9 t)
  t_SORTS : ∃ (a : Addr) (o : Obj) (its : Array Value) (n : Nat), mg "SORTS" = some (.ref a) ∧ K.lookup a = some o ∧ o.cls = .type "tuple" ∧ o.dict = none ∧ o.data = .seq its n ∧ its.size ≤ sizeLine ∧ Vals (((["flights", "storm", "cart", "birds"] : List Str)).map V.str) its.toList
  d_row_of : DefAt K mg "row_of" s_row_of ["word", "numbers"]
  d_written : DefAt K mg "written" s_written ["book"]
  d_is_number : DefAt K mg "is_number" s_is_number ["word"]
  d_read : DefAt K mg "read" s_read ["text"]
  d__law_next : DefAt K mg "_law_next" s__law_next ["_law_h", "_law_many"]
  d__law_hours : DefAt K mg "_law_hours" s__law_hours ["_law_h", "_law_offices", "_law_most"]
  d__law_book : DefAt K mg "_law_book" s__law_book ["_law_h", "_law_offices", "_law_birds"]
  d__law_refusal : DefAt K mg "_law_refusal" s__law_refusal ["_law_rows"]
  b_bool : mg "bool" = none
  b_enumerate : mg "enumerate" = none
  b_int : mg "int" = none
  b_isinstance : mg "isinstance" = none
  b_len : mg "len" = none
  b_list : mg "list" = none
  b_max : mg "max" = none
  b_min : mg "min" = none
  b_range : mg "range" = none
  b_str : mg "str" = none
  b_tuple : mg "tuple" = none
  b_zip : mg "zip" = none
  b_ValueError : mg "ValueError" = none
  exs : ∃ aPostError aBadBook aNoOffice aBadPosting aNoPosting aBadText, Exs K mg aPostError aBadBook aNoOffice aBadPosting aNoPosting aBadText
  g_Reader : ∃ C, Reader_at K mg C
end K
namespace K
open PySem L2 Z
section
variable {P : Program} {w : World} {K : PySem.W.Frag} {mg : Str → Option Value} {base : Heap} [Tabl]
def R_need (ds : List PyData) (d : PyData) : Prop := ∃ b w, ds = [.bool b, w] ∧ b = true ∧ d = .none
theorem ok_need (M : Md K mg) : FnG P w K mg base "need" ["good", "why"] 1 (spP K R_need) := by
  refine fn_sd (N := ["good", "why"]) M.d_need ⟨rfl, rfl, rfl, by decide +kernel, rfl, by decide +kernel, by decide +kernel⟩ (fun ds d ⟨_, _, e, _⟩ => by rw [e]; rfl) (by decide) (fun X c ds d hR => ?_)
  obtain ⟨b, w, rfl, rfl, rfl⟩ := hR
  show SD X [.dat (.bool true), .dat w] _ _
  refine sd_if (td_not (td_val (ed_var c 0 rfl (.inl rfl) rfl rfl rfl) (fun _ => rfl))) (fun hb => ?_) (fun hb => ?_)
  · cases hb
  · exact sd_nil (sd_nil rfl)
def R_is_office (ds : List PyData) (d : PyData) : Prop := ∃ B o, ds = [eBook B, .int o] ∧ d = .bool (decide (0 ≤ o) && decide (o < (B.n : Int)))
theorem ok_is_office (M : Md K mg) : FnG P w K mg base "is_office" ["book", "office"] 1 (spP K R_is_office) := by
  refine fn_sd (N := ["book", "office"]) M.d_is_office ⟨rfl, rfl, rfl, by decide +kernel, rfl, by decide +kernel, by decide +kernel⟩ (fun ds d ⟨_, _, e, _⟩ => by rw [e]; rfl) (by decide) (fun X c ds d hR => ?_)
  obtain ⟨B, o, rfl, rfl⟩ := hR
  show SD X [.dat (eBook B), .dat (.int o)] _ _
  refine sd_ret (ed_chain ed_int (ed_var c 1 rfl (.inl rfl) rfl rfl rfl) (fun _ => (ed_callB c rfl M.b_len PySem.boot_len (ad_cons (ed_ix (ed_var c 0 rfl (.inl rfl) rfl rfl rfl) (ed_gint c rfl M.c_FLIGHTS rfl) (by kspl_open ix) (fun _ _ => rfl)) ad_nil rfl) (by kspl_open cl) (by decide) rfl rfl rfl)) (by kspl_open cd) (by kspl_open cd) (by with_unfolding_all rfl)) ?_
  show PyData.bool _ = _
  rw [List.length_map]
end
end K
namespace K
open PySem L2 Z
section
variable {P : Program} {w : World} {K : PySem.W.Frag} {mg : Str → Option Value} {base : Heap} [Tabl]
/-! ### books -/
def R_need_flights (ds : List PyData) (d : PyData) : Prop := ∃ B, ds = [eBook B] ∧ Good B ∧ d = .none
theorem row_at {B : Book} {i : Nat} {r : List Int} (h : B.fl[i]? = some r) : B.row (i : Int) = r ∧ B.off (i : Int) := by
  have hi := (List.getElem?_eq_some_iff.mp h).1
  refine ⟨?_, by omega, ?_⟩
  · unfold Book.row
    rw [Int.toNat_natCast, List.getD_eq_getElem?_getD, h]; rfl
  · show ((i : Nat) : Int) < (B.fl.length : Int)
    omega
theorem f_at {B : Book} {i j : Nat} {r : List Int} {v : Int} (h : B.fl[i]? = some r) (hv : r[j]? = some v) : B.f (i : Int) (j : Int) = v := by
  unfold Book.f
  rw [(row_at h).1, Int.toNat_natCast, List.getD_eq_getElem?_getD, hv]; rfl
theorem ok_need_flights (M : Md K mg) : FnG P w K mg base "need_flights" ["book"] 2 (spP K R_need_flights) := by
  have Fneed := ok_need (P := P) (w := w) (base := base) M
  refine fn_sd (N := ["book", "rows", "office", "row", "home", "hours"]) M.d_need_flights ⟨rfl, rfl, rfl, by decide +kernel, rfl, by decide +kernel, by decide +kernel⟩ (fun ds d ⟨_, e, _⟩ => by rw [e]; rfl) (by decide) (fun X c ds d hR => ?_)
  obtain ⟨B, rfl, g, rfl⟩ := hR
  show SD X [.dat (eBook B), .no, .no, .no, .no, .no] _ _
  -- rows = book[FLIGHTS]
  refine sd_asg c 1 rfl (.inl rfl) (.inl rfl) (Nat.le_of_ble_eq_true rfl) (ed_ix (ed_var c 0 rfl (.inl rfl) rfl rfl rfl) (ed_gint c rfl M.c_FLIGHTS rfl) (by kspl_open ix) (fun _ _ => rfl)) rfl ?_
  -- need(LEAST_OFFICES <= len(rows) <= MOST_OFFICES, 'flights')
  refine sd_expr (ed_call c Fneed (by decide) rfl (ad_cons (ed_chain (ed_gint c rfl M.c_LEAST_OFFICES rfl) (ed_callB c rfl M.b_len PySem.boot_len (ad_cons (ed_var c 1 rfl (.inl rfl) rfl rfl rfl) ad_nil rfl) (by kspl_open cl) (by decide) rfl rfl rfl) (fun _ => (ed_gint c rfl M.c_MOST_OFFICES rfl)) (by kspl_open cd) (by kspl_open cd) (by with_unfolding_all rfl)) (ad_cons ed_str ad_nil rfl) rfl) ⟨_, _, rfl, ?_, rfl⟩ rfl rfl rfl) rfl ?_
  · have h1 := g.n2
    have h2 := g.n6
    rw [List.length_map, decT (show (2 : Int) ≤ (B.fl.length : Int) by show _; have : 2 ≤ B.fl.length := h1; omega), decT (show (B.fl.length : Int) ≤ 6 by have : B.fl.length ≤ 6 := h2; omega)]
    rfl
  -- for office, row in enumerate(rows):
  refine sd_for c (fun i => [.dat (eBook B), .dat (.tuple (B.fl.map eInts)), .no, .no, .no, .no]) (id_enumT c rfl M.b_enumerate (ed_var c 1 rfl (.inl rfl) rfl rfl rfl) rfl) (gd_tup c (gs_cons c 2 rfl (by kspl_open loc) (by kspl_open loc) (gs_cons c 3 rfl (by kspl_open loc) (by kspl_open loc) gs_nil rfl) rfl) rfl rfl) Wk.rfl' (fun i d hd => ?_) (sd_nil rfl) (fun _ => rfl)
  obtain ⟨d', hd', rfl⟩ := enumD_inv hd
  obtain ⟨r, hr, rfl⟩ := map_get hd'
  have rl : r.length = B.n := g.rows r (List.mem_of_getElem? hr)
  refine ⟨_, rfl, ?_⟩
  -- need(len(row) == len(rows), 'flights')
  refine sd_expr (ed_call c Fneed (by decide) rfl (ad_cons (ed_cmp (ed_callB c rfl M.b_len PySem.boot_len (ad_cons (ed_var c 3 rfl (.inl rfl) rfl rfl rfl) ad_nil rfl) (by kspl_open cl) (by decide) rfl rfl rfl) (ed_callB c rfl M.b_len PySem.boot_len (ad_cons (ed_var c 1 rfl (.inl rfl) rfl rfl rfl) ad_nil rfl) (by kspl_open cl) (by decide) rfl rfl rfl) (by kspl_open cd) (nomark _)) (ad_cons ed_str ad_nil rfl) rfl) ⟨_, _, rfl, ?_, rfl⟩ rfl rfl rfl) rfl ?_
  · rw [List.length_map, List.length_map, rl]
    exact decT rfl
  -- for home, hours in enumerate(row):
  refine sd_for c (fun j => [.dat (eBook B), .dat (.tuple (B.fl.map eInts)), .dat (.int (i : Int)), .dat (eInts r), .no, .no]) (id_enumT c rfl M.b_enumerate (ed_var c 3 rfl (.inl rfl) rfl rfl rfl) rfl) (gd_tup c (gs_cons c 4 rfl (by kspl_open loc) (by kspl_open loc) (gs_cons c 5 rfl (by kspl_open loc) (by kspl_open loc) gs_nil rfl) rfl) rfl rfl) Wk.rfl' (fun j d hd => ?_) (sd_nil ⟨.inr rfl, .inr rfl, .inl rfl, .inl rfl, .inl rfl, .inl rfl, trivial⟩) (fun _ => rfl)
  obtain ⟨d', hd'', rfl⟩ := enumD_inv hd
  obtain ⟨v, hv, rfl⟩ := map_get hd''
  refine ⟨_, rfl, ?_⟩
  have jn : j < B.n := by rw [← rl]; exact (List.getElem?_eq_some_iff.mp hv).1
  have jj : B.off (j : Int) := ⟨by omega, Int.ofNat_lt.mpr jn⟩
  have val := g.vals (i : Int) (j : Int) (row_at hr).2 jj
  rw [f_at hr hv] at val
  -- need(hours == 0 if home == office else 1 <= hours <= MOST_FLIGHT, 'flights')
  refine sd_expr (ed_call c Fneed (by decide) rfl (ad_cons (ed_if (d := .bool true) (td_cmp (ed_var c 4 rfl (.inl rfl) rfl rfl rfl) (ed_var c 2 rfl (.inl rfl) rfl rfl rfl) (by kspl_open cd) (nomark _)) (fun hb => ed_to (ed_cmp (ed_var c 5 rfl (.inl rfl) rfl rfl rfl) ed_int (by kspl_open cd) (nomark _)) ?_) (fun hb => ed_to (ed_chain ed_int (ed_var c 5 rfl (.inl rfl) rfl rfl rfl) (fun _ => (ed_gint c rfl M.c_MOST_FLIGHT rfl)) (by kspl_open cd) (by kspl_open cd) (by with_unfolding_all rfl)) ?_)) (ad_cons ed_str ad_nil rfl) rfl) ⟨_, _, rfl, rfl, rfl⟩ rfl rfl rfl) rfl ?_
  · rw [if_pos (of_decide_eq_true hb)] at val
    rw [decT val]
  · rw [if_neg (of_decide_eq_false hb)] at val
    rw [decT val.1, decT val.2]; rfl
  exact sd_nil ⟨.inr rfl, .inr rfl, .inr rfl, .inr rfl, .inl rfl, .inl rfl, trivial⟩
def R_need_rows (ds : List PyData) (d : PyData) : Prop := ∃ (B : Book) (p m : Int) (w : PyData) (l : List Row), ds = [eBook B, .int p, .int m, w] ∧ ixD (eBook B) p = some (.tuple (l.map eRow)) ∧ (l.length : Int) ≤ m ∧ (∀ r ∈ l, GoodRow B r) ∧ d = .none
theorem ok_need_rows (M : Md K mg) : FnG P w K mg base "need_rows" ["book", "place", "most", "why"] 2 (spP K R_need_rows) := by
  have Fneed := ok_need (P := P) (w := w) (base := base) M
  have Fis_office := ok_is_office (P := P) (w := w) (base := base) M
  refine fn_sd (N := ["book", "place", "most", "why", "one", "other", "begin", "end"]) M.d_need_rows ⟨rfl, rfl, rfl, by decide +kernel, rfl, by decide +kernel, by decide +kernel⟩ (fun ds d ⟨_, _, _, _, _, e, _⟩ => by rw [e]; rfl) (by decide) (fun X c ds d hR => ?_)
  obtain ⟨B, p, m, w, l, rfl, hp, hm, hl, rfl⟩ := hR
  show SD X [.dat (eBook B), .dat (.int p), .dat (.int m), .dat w, .no, .no, .no, .no] _ _
  -- need(len(book[place]) <= most, why)
  refine sd_expr (ed_call c Fneed (by decide) rfl (ad_cons (ed_cmp (ed_callB c rfl M.b_len PySem.boot_len (ad_cons (ed_ix (ed_var c 0 rfl (.inl rfl) rfl rfl rfl) (ed_var c 1 rfl (.inl rfl) rfl rfl rfl) hp (fun _ _ => rfl)) ad_nil rfl) (by kspl_open cl) (by decide) rfl rfl rfl) (ed_var c 2 rfl (.inl rfl) rfl rfl rfl) (by kspl_open cd) (nomark _)) (ad_cons (ed_var c 3 rfl (.inl rfl) rfl rfl rfl) ad_nil rfl) rfl) ⟨_, _, rfl, by rw [List.length_map]; exact decT hm, rfl⟩ rfl rfl rfl) rfl ?_
  -- for one, other, begin, end in book[place]:
  refine sd_for c (fun _ => [.dat (eBook B), .dat (.int p), .dat (.int m), .dat w, .no, .no, .no, .no]) (id_seq (ed_ix (ed_var c 0 rfl (.inl rfl) rfl rfl rfl) (ed_var c 1 rfl (.inl rfl) rfl rfl rfl) hp (fun _ _ => rfl)) rfl) (gd_tup c (gs_cons c 4 rfl (by kspl_open loc) (by kspl_open loc) (gs_cons c 5 rfl (by kspl_open loc) (by kspl_open loc) (gs_cons c 6 rfl (by kspl_open loc) (by kspl_open loc) (gs_cons c 7 rfl (by kspl_open loc) (by kspl_open loc) gs_nil rfl) rfl) rfl) rfl) rfl rfl) Wk.rfl' (fun i d hd => ?_) (sd_nil rfl) (fun _ => rfl)
  obtain ⟨r, hr, rfl⟩ := map_get hd
  have gr := hl r (List.mem_of_getElem? hr)
  refine ⟨_, rfl, ?_⟩
  -- need(is_office(book, one) and is_office(book, other) and (one != other), why)
  refine sd_expr (ed_call c Fneed (by decide) rfl (ad_cons (ed_and (ed_call c Fis_office (by decide) rfl (ad_cons (ed_var c 0 rfl (.inl rfl) rfl rfl rfl) (ad_cons (ed_var c 4 rfl (.inl rfl) rfl rfl rfl) ad_nil rfl) rfl) ⟨B, _, rfl, rfl⟩ rfl rfl rfl) (fun _ => (ed_and (ed_call c Fis_office (by decide) rfl (ad_cons (ed_var c 0 rfl (.inl rfl) rfl rfl rfl) (ad_cons (ed_var c 5 rfl (.inl rfl) rfl rfl rfl) ad_nil rfl) rfl) ⟨B, _, rfl, rfl⟩ rfl rfl rfl) (fun _ => (ed_and1 (ed_cmp (ed_var c 4 rfl (.inl rfl) rfl rfl rfl) (ed_var c 5 rfl (.inl rfl) rfl rfl rfl) (by kspl_open cd) (nomark _))))))) (ad_cons (ed_var c 3 rfl (.inl rfl) rfl rfl rfl) ad_nil rfl) rfl) ⟨_, _, rfl, ?_, rfl⟩ rfl rfl rfl) rfl ?_
  · rw [decT gr.a.1, decT gr.a.2, decT gr.b.1, decT gr.b.2, decide_eq_false gr.ne]; rfl
  -- need(0 <= begin < end <= MOST_HOUR, why)
  refine sd_expr (ed_call c Fneed (by decide) rfl (ad_cons (ed_chain3 ed_int (ed_var c 6 rfl (.inl rfl) rfl rfl rfl) (ed_var c 7 rfl (.inl rfl) rfl rfl rfl) (ed_gint c rfl M.c_MOST_HOUR rfl) (by kspl_open cd) (by kspl_open cd) (by kspl_open cd) (by with_unfolding_all rfl)) (ad_cons (ed_var c 3 rfl (.inl rfl) rfl rfl rfl) ad_nil rfl) rfl) ⟨_, _, rfl, ?_, rfl⟩ rfl rfl rfl) rfl ?_
  · rw [decT gr.h0, decT gr.h1, decT gr.h2]; rfl
  exact sd_nil ⟨.inr rfl, .inr rfl, .inr rfl, .inr rfl, .inl rfl, .inl rfl, .inl rfl, .inl rfl, trivial⟩
def R_need_book (ds : List PyData) (d : PyData) : Prop := ∃ B, ds = [eBook B] ∧ Good B ∧ d = .none
theorem ok_need_book (M : Md K mg) : FnG P w K mg base "need_book" ["book"] 3 (spP K R_need_book) := by
  have Fneed := ok_need (P := P) (w := w) (base := base) M
  have Fis_office := ok_is_office (P := P) (w := w) (base := base) M
  have Fneed_flights := ok_need_flights (P := P) (w := w) (base := base) M
  have Fneed_rows := ok_need_rows (P := P) (w := w) (base := base) M
  refine fn_sd (N := ["book", "home"]) M.d_need_book ⟨rfl, rfl, rfl, by decide +kernel, rfl, by decide +kernel, by decide +kernel⟩ (fun ds d ⟨_, e, _⟩ => by rw [e]; rfl) (by decide) (fun X c ds d hR => ?_)
  obtain ⟨B, rfl, g, rfl⟩ := hR
  show SD X [.dat (eBook B), .no] _ _
  -- need_flights(book)
  refine sd_expr (ed_call c Fneed_flights (by decide) rfl (ad_cons (ed_var c 0 rfl (.inl rfl) rfl rfl rfl) ad_nil rfl) ⟨B, rfl, g, rfl⟩ rfl rfl rfl) rfl ?_
  -- need_rows(book, STORMS, MOST_STORMS, 'storms')
  refine sd_expr (ed_call c Fneed_rows (by decide) rfl (ad_cons (ed_var c 0 rfl (.inl rfl) rfl rfl rfl) (ad_cons (ed_gint c rfl M.c_STORMS rfl) (ad_cons (ed_gint c rfl M.c_MOST_STORMS rfl) (ad_cons ed_str ad_nil rfl) rfl) rfl) rfl) ⟨B, 1, 8, _, B.st, rfl, rfl, by have := g.stl; omega, g.st, rfl⟩ rfl rfl rfl) rfl ?_
  -- need_rows(book, CARTS, MOST_CARTS, 'carts')
  refine sd_expr (ed_call c Fneed_rows (by decide) rfl (ad_cons (ed_var c 0 rfl (.inl rfl) rfl rfl rfl) (ad_cons (ed_gint c rfl M.c_CARTS rfl) (ad_cons (ed_gint c rfl M.c_MOST_CARTS rfl) (ad_cons ed_str ad_nil rfl) rfl) rfl) rfl) ⟨B, 2, 12, _, B.ca, rfl, rfl, by have := g.cal; omega, g.ca, rfl⟩ rfl rfl rfl) rfl ?_
  -- need(len(book[BIRDS]) <= MOST_BIRDS, 'birds')
  refine sd_expr (ed_call c Fneed (by decide) rfl (ad_cons (ed_cmp (ed_callB c rfl M.b_len PySem.boot_len (ad_cons (ed_ix (ed_var c 0 rfl (.inl rfl) rfl rfl rfl) (ed_gint c rfl M.c_BIRDS rfl) (by kspl_open ix) (fun _ _ => rfl)) ad_nil rfl) (by kspl_open cl) (by decide) rfl rfl rfl) (ed_gint c rfl M.c_MOST_BIRDS rfl) (by kspl_open cd) (nomark _)) (ad_cons ed_str ad_nil rfl) rfl) ⟨_, _, rfl, by rw [List.length_map]; exact decT (by have := g.bil; omega), rfl⟩ rfl rfl rfl) rfl ?_
  -- for home in book[BIRDS]:
  refine sd_for c (fun _ => [.dat (eBook B), .no]) (id_seq (ed_ix (ed_var c 0 rfl (.inl rfl) rfl rfl rfl) (ed_gint c rfl M.c_BIRDS rfl) (by kspl_open ix) (fun _ _ => rfl)) rfl) (gd_name c 1 rfl (by kspl_open loc) (by kspl_open loc)) Wk.rfl' (fun i d hd => ?_) (sd_nil rfl) (fun _ => rfl)
  obtain ⟨h, hh, rfl⟩ := map_get hd
  have gh := g.bi h (List.mem_of_getElem? hh)
  refine ⟨_, rfl, ?_⟩
  -- need(is_office(book, home), 'birds')
  refine sd_expr (ed_call c Fneed (by decide) rfl (ad_cons (ed_call c Fis_office (by decide) rfl (ad_cons (ed_var c 0 rfl (.inl rfl) rfl rfl rfl) (ad_cons (ed_var c 1 rfl (.inl rfl) rfl rfl rfl) ad_nil rfl) rfl) ⟨B, _, rfl, rfl⟩ rfl rfl rfl) (ad_cons ed_str ad_nil rfl) rfl) ⟨_, _, rfl, by rw [decT gh.1, decT gh.2]; rfl, rfl⟩ rfl rfl rfl) rfl ?_
  exact sd_nil ⟨.inr rfl, .inl rfl, trivial⟩
end
end K
namespace K
open PySem L2 Z
section
variable {P : Program} {w : World} {K : PySem.W.Frag} {mg : Str → Option Value} {base : Heap} [Tabl]
/-! ### drawing -/
def R_next (r : Rg) (ds : List PyData) (r2 : Rg) (d : PyData) : Prop := ∃ m : Int, ds = [.int m] ∧ 0 < m ∧ m < 1073741824 ∧ r2 = nxR r m ∧ d = .int (nxV r m)
theorem ok_next (M : Md K mg) : FnG P w K mg base "_law_next" ["_law_h", "_law_many"] 1 (spR K R_next) := by
  refine fn_sdR (N := ["_law_h", "_law_many", "_law_at", "_law_cell"]) M.d__law_next ⟨rfl, rfl, rfl, by decide +kernel, rfl, by decide +kernel, by decide +kernel⟩ (fun r ds r2 d ⟨_, e, _⟩ => by rw [e]; rfl) (by decide) (fun X c A B r ds r2 d hR => ?_)
  obtain ⟨m, rfl, m0, m1, rfl, rfl⟩ := hR
  show SD X [.rng A B r, .dat (.int m), .no, .no] _ _
  have hm : 0 < max 1 (r.c.length : Int) := by omega
  refine sd_asg c 2 rfl (.inl rfl) (.inl rfl) (Nat.le_of_ble_eq_true rfl) (ed_bin (rng_ix (i := 0) c rfl (.inl rfl) rfl rfl rfl (.inr ⟨rfl, rfl⟩)) (ed_callB c rfl M.b_max PyProof.Rows.boot_max (ad_cons ed_int (ad_cons (rng_len (i := 0) c rfl (.inl rfl) rfl rfl rfl rfl M.b_len) ad_nil rfl) rfl) (cl_max2 c.calm) (by decide) rfl rfl rfl) (bd_mod hm)) rfl ?_
  refine sd_asg c 3 rfl (.inl rfl) (.inl rfl) (Nat.le_of_ble_eq_true rfl) (ed_if (d := .int (Z.cellOf r)) (rng_some (i := 0) c rfl (.inl rfl) rfl rfl rfl) (fun hb => rng_cell (i := 0) c rfl (.inl rfl) rfl rfl rfl (ed_var c 2 rfl (.inl rfl) rfl rfl rfl) ?_ (fun _ _ => rfl)) (fun hb => ed_to ed_int ?_)) rfl ?_
  · have hc : r.c.isEmpty = false := by cases e : r.c.isEmpty <;> simp_all
    have hl : 0 < r.c.length := by
      cases e : r.c with
      | nil => rw [e] at hc; cases hc
      | cons _ _ => simp
    unfold Z.cellOf
    rw [if_neg (by rw [hc]; decide)]
    refine atI_of (Int.emod_nonneg _ (by omega)) ?_ 0
    have := Int.emod_lt_of_pos r.k hm
    omega
  · have hc : r.c.isEmpty = true := by cases e : r.c.isEmpty <;> simp_all
    unfold Z.cellOf
    rw [if_pos hc]
  refine sd_if (td_cmp (ed_var c 3 rfl (.inl rfl) rfl rfl rfl) (ed_bin ed_int ed_int (bd_pow ⟨by decide, by decide, by decide⟩)) cd_ge (nomark _)) (fun hb => ?_) (fun hb => ?_)
  · have hb : (10 : Int) ^ 18 ≤ Z.cellOf r := of_decide_eq_true hb
    have hl : 0 < r.c.length := by
      cases e : r.c with
      | nil =>
        unfold Z.cellOf at hb
        rw [e] at hb
        have hb : (10 : Int) ^ 18 ≤ 0 := hb
        exact absurd hb (by decide)
      | cons _ _ => simp
    refine sd_rngCell (i := 0) c rfl (.inl rfl) rfl rfl rfl (ed_bin (ed_var c 3 rfl (.inl rfl) rfl rfl rfl) (ed_var c 1 rfl (.inl rfl) rfl rfl rfl) (bd_fdiv ⟨m0, m1⟩)) (ed_var c 2 rfl (.inl rfl) rfl rfl rfl) (m := (r.k % max 1 (r.c.length : Int)).toNat) ?_ ?_ (fun _ => rfl) rfl rfl rfl
    · have h0 := Int.emod_nonneg r.k (b := max 1 (r.c.length : Int)) (by omega)
      have h1 := Int.emod_lt_of_pos r.k hm
      generalize r.k % max 1 (r.c.length : Int) = z at h0 h1
      obtain ⟨j, rfl⟩ : ∃ j : Nat, z = (j : Int) := ⟨z.toNat, by omega⟩
      unfold L2.ixN; rw [if_pos (by omega), if_pos (by omega)]
    · refine sd_ret (ed_bin (ed_var c 3 rfl (.inl rfl) rfl rfl rfl) (ed_var c 1 rfl (.inl rfl) rfl rfl rfl) (bd_mod m0)) ⟨?_, ?_⟩
      · unfold nxV; rw [if_pos hb]
      · unfold nxR; rw [if_pos hb]; rfl
  · have hb : ¬ (10 : Int) ^ 18 ≤ Z.cellOf r := of_decide_eq_false hb
    refine sd_nil ?_
    refine sd_rngSet (i := 0) c rfl (.inl rfl) rfl rfl rfl (ed_bin (ed_bin (ed_bin (ed_bin (rng_ix (i := 0) c rfl (.inl rfl) rfl rfl rfl (.inl ⟨rfl, rfl⟩)) ed_int (bd_mul (.inr (by decide)))) (ed_bin (ed_var c 3 rfl (.inl rfl) rfl rfl rfl) ed_int (bd_mul (.inr (by decide)))) bd_add) ed_int bd_add) ed_int (bd_mod (by decide))) (.inl ⟨rfl, rfl⟩) ?_ (fun _ => rfl) rfl rfl rfl
    refine sd_rngSet (i := 0) c rfl (.inl rfl) rfl rfl rfl (ed_bin (rng_ix (i := 0) c rfl (.inl rfl) rfl rfl rfl (.inr ⟨rfl, rfl⟩)) ed_int bd_add) (.inr ⟨rfl, rfl⟩) ?_ (fun _ => rfl) rfl rfl rfl
    refine sd_ret (ed_bin (ed_bin (rng_ix (i := 0) c rfl (.inl rfl) rfl rfl rfl (.inl ⟨rfl, rfl⟩)) ed_int (bd_fdiv (by decide))) (ed_var c 1 rfl (.inl rfl) rfl rfl rfl) (bd_mod m0)) ⟨?_, ?_⟩
    · unfold nxV; rw [if_neg hb]; rfl
    · unfold nxR; rw [if_neg hb]; rfl
theorem p3_pos {a b c i : Int} (ha : 0 < a ∧ a < 1000) (hb : 0 < b ∧ b < 1000) (hc : 0 < c ∧ c < 1000) : 0 < pick3 a b c i ∧ pick3 a b c i < 1000 := pick3_in (p := fun z => 0 < z ∧ z < 1000) ha hb hc
def R_hours (r : Rg) (ds : List PyData) (r2 : Rg) (d : PyData) : Prop := ∃ n most : Int, ds = [.int n, .int most] ∧ 2 ≤ n ∧ n ≤ 100 ∧ 0 ≤ most ∧ most ≤ 100 ∧ r2 = (hours n most r).2 ∧ d = .tuple ((hours n most r).1.map eRow)
theorem ok_hours (M : Md K mg) : FnG P w K mg base "_law_hours" ["_law_h", "_law_offices", "_law_most"] 2 (spR K R_hours) := by
  have Fn := ok_next (P := P) (w := w) (base := base) M
  refine fn_sdR (N := ["_law_h", "_law_offices", "_law_most", "_law_found", "_law_k", "_law_one", "_law_begin", "_law_end"]) M.d__law_hours ⟨rfl, rfl, rfl, by decide +kernel, rfl, by decide +kernel, by decide +kernel⟩ (fun r ds r2 d ⟨_, _, e, _⟩ => by rw [e]; rfl) (by decide) (fun X c A B r ds r2 d hR => ?_)
  obtain ⟨n, most, rfl, n0, n1, m0, m1, rfl, rfl⟩ := hR
  show SD X [.rng A B r, .dat (.int n), .dat (.int most), .no, .no, .no, .no, .no] _ _
  have q0 := nxV_0 (r := r) (m := most + 1) (by omega)
  have q1 := nxV_1 (r := r) (m := most + 1) (by omega)
  refine sd_asgL c 3 rfl (.inl rfl) (.inl rfl) (Nat.le_of_ble_eq_true rfl) (el_lst ad_nil (Nat.le_of_ble_eq_true rfl)) rfl ?_
  refine sd_for c (fun i => [.rng A B (iterI (hourRow n) i (nxR r (most + 1))).2, .dat (.int n), .dat (.int most), .own ((iterI (hourRow n) i (nxR r (most + 1))).1.map eRow), .no, .no, .no, .no]) (id_range c rfl M.b_range (ed_callR c Fn (by decide) rfl 0 rfl (.inl rfl) rfl (ad_cons (ed_bin (ed_var c 2 rfl (.inl rfl) rfl rfl rfl) ed_int bd_add) ad_nil rfl) rfl ⟨_, rfl, by omega, by omega, rfl, rfl⟩ rfl rfl rfl rfl rfl) ⟨by omega, by omega⟩ rfl) (gd_name c 4 rfl (by kspl_open loc) (by kspl_open loc)) Wk.rfl' (fun i d hd => ?_) ?_ (fun _ => rfl)
  · obtain ⟨hi, rfl⟩ := rngD_inv hd
    refine ⟨_, rfl, ?_⟩
    have hl := iterI_len (hourRow n) i (nxR r (most + 1))
    show SD X [.rng A B (iterI (hourRow n) i (nxR r (most + 1))).2, .dat (.int n), .dat (.int most), .own ((iterI (hourRow n) i (nxR r (most + 1))).1.map eRow), .dat (.int i), .no, .no, .no] _ _
    refine SD.nxW (L' := [.rng A B (hourRow n i (iterI (hourRow n) i (nxR r (most + 1))).2).2, .dat (.int n), .dat (.int most), .own ((iterI (hourRow n) i (nxR r (most + 1))).1.map eRow ++ [eRow (hourRow n i (iterI (hourRow n) i (nxR r (most + 1))).2).1]), .no, .no, .no, .no]) ?_ ?_
    · show [_, _, _, SK.own (((iterI (hourRow n) i (nxR r (most + 1))).1 ++ [(hourRow n i (iterI (hourRow n) i (nxR r (most + 1))).2).1]).map eRow), _, _, _, _] = _
      rw [List.map_append]
      rfl
    generalize (iterI (hourRow n) i (nxR r (most + 1))).2 = s at *
    generalize (iterI (hourRow n) i (nxR r (most + 1))).1 = xs at *
    refine sd_asg c 5 rfl (.inl rfl) (.inl rfl) (Nat.le_of_ble_eq_true rfl) (ed_callR c Fn (by decide) rfl 0 rfl (.inl rfl) rfl (ad_cons (ed_var c 1 rfl (.inl rfl) rfl rfl rfl) ad_nil rfl) rfl ⟨_, rfl, by omega, by omega, rfl, rfl⟩ rfl rfl rfl rfl rfl) rfl ?_
    have p1 := p3_pos (a := 20) (b := 60) (c := 90) (i := nxV (nxR s n) 3) (by decide) (by decide) (by decide)
    refine sd_asg c 6 rfl (.inl rfl) (.inl rfl) (Nat.le_of_ble_eq_true rfl) (ed_callR c Fn (by decide) rfl 0 rfl (.inl rfl) rfl (ad_cons (ed_ix (ed_el (el_lst (ad_cons ed_int (ad_cons ed_int (ad_cons ed_int ad_nil rfl) rfl) rfl) (Nat.le_of_ble_eq_true rfl))) (ed_callR c Fn (by decide) rfl 0 rfl (.inl rfl) rfl (ad_cons ed_int ad_nil rfl) rfl ⟨_, rfl, by decide, by decide, rfl, rfl⟩ rfl rfl rfl rfl rfl) (ix_pick3 (nxV_0 (by decide)) (nxV_1 (by decide))) (fun _ _ => rfl)) ad_nil rfl) rfl ⟨_, rfl, p1.1, by have := p1.2; omega, rfl, rfl⟩ rfl rfl rfl rfl rfl) rfl ?_
    generalize eb : nxV (nxR (nxR s n) 3) (pick3 20 60 90 (nxV (nxR s n) 3)) = bg
    generalize e3 : nxR (nxR (nxR s n) 3) (pick3 20 60 90 (nxV (nxR s n) 3)) = s3
    have p2 := p3_pos (a := 9) (b := 9) (c := 70) (i := nxV s3 3) (by decide) (by decide) (by decide)
    refine sd_asg c 7 rfl (.inl rfl) (.inl rfl) (Nat.le_of_ble_eq_true rfl) (ed_callB c rfl M.b_min PyProof.Rows.boot_min (ad_cons ed_int (ad_cons (ed_bin (ed_bin (ed_var c 6 rfl (.inl rfl) rfl rfl rfl) ed_int bd_add) (ed_callR c Fn (by decide) rfl 0 rfl (.inl rfl) rfl (ad_cons (ed_ix (ed_el (el_lst (ad_cons ed_int (ad_cons ed_int (ad_cons ed_int ad_nil rfl) rfl) rfl) (Nat.le_of_ble_eq_true rfl))) (ed_callR c Fn (by decide) rfl 0 rfl (.inl rfl) rfl (ad_cons ed_int ad_nil rfl) rfl ⟨_, rfl, by decide, by decide, rfl, rfl⟩ rfl rfl rfl rfl rfl) (ix_pick3 (nxV_0 (by decide)) (nxV_1 (by decide))) (fun _ _ => rfl)) ad_nil rfl) rfl ⟨_, rfl, p2.1, by have := p2.2; omega, rfl, rfl⟩ rfl rfl rfl rfl rfl) bd_add) ad_nil rfl) rfl) (cl_min2 c.calm) (by decide) rfl rfl rfl) rfl ?_
    refine sd_append c 3 rfl (.inl rfl) (ed_tup (ad_cons (ed_var c 5 rfl (.inl rfl) rfl rfl rfl) (ad_cons (ed_bin (ed_bin (ed_bin (ed_var c 5 rfl (.inl rfl) rfl rfl rfl) ed_int bd_add) (ed_callR c Fn (by decide) rfl 0 rfl (.inl rfl) rfl (ad_cons (ed_bin (ed_var c 1 rfl (.inl rfl) rfl rfl rfl) ed_int bd_sub) ad_nil rfl) rfl ⟨_, rfl, by omega, by omega, rfl, rfl⟩ rfl rfl rfl rfl rfl) bd_add) (ed_var c 1 rfl (.inl rfl) rfl rfl rfl) (bd_mod (by omega))) (ad_cons (ed_var c 6 rfl (.inl rfl) rfl rfl rfl) (ad_cons (ed_var c 7 rfl (.inl rfl) rfl rfl rfl) ad_nil rfl) rfl) rfl) rfl) (Nat.le_of_ble_eq_true rfl)) rfl rfl ?hz ?_ rfl rfl rfl rfl rfl rfl
    · rw [List.length_map, hl]
      exact Nat.lt_of_lt_of_le (show i < 1000 by omega) (Nat.le_of_ble_eq_true rfl)
    · refine sd_nil ?_
      have hrow : hourRow n i s = ((nxV s n, (nxV s n + 1 + nxV (nxR (nxR s3 3) (pick3 9 9 70 (nxV s3 3))) (n - 1)) % n, bg, min 99 (bg + 1 + nxV (nxR s3 3) (pick3 9 9 70 (nxV s3 3)))), nxR (nxR (nxR s3 3) (pick3 9 9 70 (nxV s3 3))) (n - 1)) := by
        unfold hourRow
        dsimp only
        rw [eb, e3]
      rw [hrow]
      exact ⟨.inr rfl, .inr rfl, .inr rfl, .inr rfl, .inl rfl, .inl rfl, .inl rfl, .inl rfl, trivial⟩
  · rw [rngD_len]
    refine sd_freeze 3 rfl ?_
    exact sd_ret (ed_callT c rfl M.b_tuple PyProof.Rows.boot_tuple (ad_cons (ed_var c 3 rfl (.inl rfl) rfl rfl rfl) ad_nil rfl) cl_tupL (by decide) rfl rfl rfl) ⟨rfl, rfl⟩
def R_book (r : Rg) (ds : List PyData) (r2 : Rg) (d : PyData) : Prop := ∃ n b : Int, ds = [.int n, .int b] ∧ 2 ≤ n ∧ n ≤ 6 ∧ 0 ≤ b ∧ b ≤ 6 ∧ r2 = (bkB n b r).2 ∧ d = eBook (lawBook n b r)
theorem ok_book (M : Md K mg) : FnG P w K mg base "_law_book" ["_law_h", "_law_offices", "_law_birds"] 3 (spR K R_book) := by
  have Fn := ok_next (P := P) (w := w) (base := base) M
  have Fh := ok_hours (P := P) (w := w) (base := base) M
  refine fn_sdR (N := ["_law_h", "_law_offices", "_law_birds", "_law_many", "_law_flights", "_law_k", "_law_storms", "_law_carts", "_law_j"]) M.d__law_book ⟨rfl, rfl, rfl, by decide +kernel, rfl, by decide +kernel, by decide +kernel⟩ (fun r ds r2 d ⟨_, _, e, _⟩ => by rw [e]; rfl) (by decide) (fun X c A B r ds r2 d hR => ?_)
  obtain ⟨n, b, rfl, n0, n1, b0, b1, rfl, rfl⟩ := hR
  show SD X [.rng A B r, .dat (.int n), .dat (.int b), .no, .no, .no, .no, .no, .no] _ _
  have hm := bkN_in (r := r) n0
  refine sd_asg c 3 rfl (.inr rfl) (.inl rfl) (Nat.le_of_ble_eq_true rfl) (ed_bin ed_int (ed_callR c Fn (by decide) rfl 0 rfl (.inr (.inl rfl)) rfl (ad_cons (ed_bin (ed_var c 1 rfl (.inl rfl) rfl rfl rfl) ed_int bd_sub) ad_nil rfl) rfl ⟨_, rfl, by omega, by omega, rfl, rfl⟩ rfl rfl rfl rfl rfl) bd_add) rfl ?_
  refine sd_asgL c 4 rfl (.inl rfl) (.inl rfl) (Nat.le_of_ble_eq_true rfl) (el_lst ad_nil (Nat.le_of_ble_eq_true rfl)) rfl ?_
  refine sd_for c (fun i => [.rng A B (iterI (fun k => iterI (flCell k) (bkN n r).toNat) i (nxR r (n - 1))).2, .dat (.int n), .dat (.int b), .dat (.int (bkN n r)), .own ((iterI (fun k => iterI (flCell k) (bkN n r).toNat) i (nxR r (n - 1))).1.map eInts), .no, .no, .no, .no]) (id_range c rfl M.b_range (ed_var c 3 rfl (.inr (.inl rfl)) rfl rfl rfl) (n := bkN n r) ⟨by omega, by omega⟩ rfl) (gd_name c 5 rfl (by kspl_open loc) (by kspl_open loc)) Wk.rfl' (fun i d hd => ?_) ?_ (fun _ => rfl)
  · obtain ⟨hi, rfl⟩ := rngD_inv hd
    refine ⟨_, rfl, ?_⟩
    have hl := iterI_len (fun k => iterI (flCell k) (bkN n r).toNat) i (nxR r (n - 1))
    show SD X [.rng A B (iterI (fun k => iterI (flCell k) (bkN n r).toNat) i (nxR r (n - 1))).2, .dat (.int n), .dat (.int b), .dat (.int (bkN n r)), .own ((iterI (fun k => iterI (flCell k) (bkN n r).toNat) i (nxR r (n - 1))).1.map eInts), .dat (.int i), .no, .no, .no] _ _
    refine SD.nxW (L' := [.rng A B (iterI (flCell i) (bkN n r).toNat (iterI (fun k => iterI (flCell k) (bkN n r).toNat) i (nxR r (n - 1))).2).2, .dat (.int n), .dat (.int b), .dat (.int (bkN n r)), .own ((iterI (fun k => iterI (flCell k) (bkN n r).toNat) i (nxR r (n - 1))).1.map eInts ++ [eInts (iterI (flCell i) (bkN n r).toNat (iterI (fun k => iterI (flCell k) (bkN n r).toNat) i (nxR r (n - 1))).2).1]), .no, .no, .no, .no]) ?_ ?_
    · show [_, _, _, _, SK.own (((iterI (fun k => iterI (flCell k) (bkN n r).toNat) i (nxR r (n - 1))).1 ++ [(iterI (flCell i) (bkN n r).toNat (iterI (fun k => iterI (flCell k) (bkN n r).toNat) i (nxR r (n - 1))).2).1]).map eInts), _, _, _, _] = _
      rw [List.map_append]
      rfl
    generalize (iterI (fun k => iterI (flCell k) (bkN n r).toNat) i (nxR r (n - 1))).2 = s at *
    generalize (iterI (fun k => iterI (flCell k) (bkN n r).toNat) i (nxR r (n - 1))).1 = xs at *
    refine sd_append c 4 rfl (.inl rfl) (ed_callT c rfl M.b_tuple PyProof.Rows.boot_tuple (ad_cons (ed_el (el_draw (A := A) (B := B) (r := s) c [("_law_j", 8)] 0 (flCell i) PyData.int (by decide +kernel) rfl (id_range c rfl M.b_range (ed_var c 3 rfl (.inr (.inl rfl)) rfl rfl rfl) (n := bkN n r) ⟨by omega, by omega⟩ rfl) rfl (by decide) (all1 ⟨_, rfl, .inl rfl⟩) (fun X' c2 => gd_name c2 8 rfl (by kspl_open loc) (by kspl_open loc)) (Nat.lt_of_lt_of_le (show (bkN n r).toNat < 1000 by omega) (Nat.le_of_ble_eq_true rfl)) (fun j r' hj => ⟨_, _, rfl, fun X' c2 => (ed_bin (ed_bin ed_int (ed_callR c2 Fn (by decide) rfl 0 rfl (by kspl_open vis) rfl (ad_cons ed_int ad_nil rfl) rfl ⟨9, rfl, by decide, by decide, rfl, rfl⟩ rfl rfl rfl rfl rfl) bd_add) (ed_callT c2 rfl M.b_int PyProof.Rows.boot_int (ad_cons (ed_cmp (ed_var c2 8 rfl (by kspl_open vis) rfl rfl rfl) (ed_var c2 5 rfl (by kspl_open vis) rfl rfl rfl) cd_neI (nomark _)) ad_nil rfl) cl_intB (by decide) rfl rfl rfl) (bd_mul (.inr (by split <;> decide)))), ?wk⟩) (fun _ => rfl))) ad_nil rfl) cl_tupL (by decide) rfl rfl rfl) rfl rfl ?hz ?_ rfl rfl rfl rfl rfl rfl
    · exact ⟨.inr rfl, .inr rfl, .inr rfl, .inr rfl, .inr rfl, .inr rfl, .inr rfl, .inr rfl, .inl rfl, trivial⟩
    · rw [List.length_map, hl]
      exact Nat.lt_of_lt_of_le (show i < 1000 by omega) (Nat.le_of_ble_eq_true rfl)
    · exact sd_nil ⟨.inr rfl, .inr rfl, .inr rfl, .inr rfl, .inr rfl, .inl rfl, .inl rfl, .inl rfl, .inl rfl, trivial⟩
  · rw [rngD_len]
    show SD X [.rng A B (bkF n r).2, .dat (.int n), .dat (.int b), .dat (.int (bkN n r)), .own ((bkF n r).1.map eInts), .no, .no, .no, .no] _ _
    have p1 : 0 ≤ pick3 0 3 8 (nxV (bkF n r).2 3) ∧ pick3 0 3 8 (nxV (bkF n r).2 3) ≤ 100 := pick3_in (p := fun z => 0 ≤ z ∧ z ≤ 100) (by decide) (by decide) (by decide)
    refine sd_asg c 6 rfl (.inl rfl) (.inl rfl) (Nat.le_of_ble_eq_true rfl) (ed_callR c Fh (by decide) rfl 0 rfl (.inr (.inl rfl)) rfl (ad_cons (ed_var c 3 rfl (.inr (.inl rfl)) rfl rfl rfl) (ad_cons (ed_ix (ed_el (el_lst (ad_cons ed_int (ad_cons ed_int (ad_cons ed_int ad_nil rfl) rfl) rfl) (Nat.le_of_ble_eq_true rfl))) (ed_callR c Fn (by decide) rfl 0 rfl (.inr (.inl rfl)) rfl (ad_cons ed_int ad_nil rfl) rfl ⟨3, rfl, by decide, by decide, rfl, rfl⟩ rfl rfl rfl rfl rfl) (ix_pick3 (nxV_0 (by decide)) (nxV_1 (by decide))) (fun _ _ => rfl)) ad_nil rfl) rfl) rfl ⟨_, _, rfl, hm.1, by omega, p1.1, p1.2, rfl, rfl⟩ rfl rfl rfl rfl rfl) rfl ?_
    show SD X [.rng A B (bkS n r).2, .dat (.int n), .dat (.int b), .dat (.int (bkN n r)), .own ((bkF n r).1.map eInts), .no, .dat (.tuple ((bkS n r).1.map eRow)), .no, .no] _ _
    have p2 : 0 ≤ pick2 4 12 (nxV (bkS n r).2 2) ∧ pick2 4 12 (nxV (bkS n r).2 2) ≤ 100 := pick2_in (p := fun z => 0 ≤ z ∧ z ≤ 100) (by decide) (by decide)
    refine sd_asg c 7 rfl (.inl rfl) (.inl rfl) (Nat.le_of_ble_eq_true rfl) (ed_callR c Fh (by decide) rfl 0 rfl (.inr (.inl rfl)) rfl (ad_cons (ed_var c 3 rfl (.inr (.inl rfl)) rfl rfl rfl) (ad_cons (ed_ix (ed_el (el_lst (ad_cons ed_int (ad_cons ed_int ad_nil rfl) rfl) (Nat.le_of_ble_eq_true rfl))) (ed_callR c Fn (by decide) rfl 0 rfl (.inr (.inl rfl)) rfl (ad_cons ed_int ad_nil rfl) rfl ⟨2, rfl, by decide, by decide, rfl, rfl⟩ rfl rfl rfl rfl rfl) (ix_pick2 (nxV_0 (by decide)) (nxV_1 (by decide))) (fun _ _ => rfl)) ad_nil rfl) rfl) rfl ⟨_, _, rfl, hm.1, by omega, p2.1, p2.2, rfl, rfl⟩ rfl rfl rfl rfl rfl) rfl ?_
    refine sd_freeze 4 rfl ?_
    show SD X [.rng A B (bkC n r).2, .dat (.int n), .dat (.int b), .dat (.int (bkN n r)), .dat (.list ((bkF n r).1.map eInts)), .no, .dat (.tuple ((bkS n r).1.map eRow)), .dat (.tuple ((bkC n r).1.map eRow)), .no] _ _
    have q0 := nxV_0 (r := (bkC n r).2) (m := b + 1) (by omega)
    have q1 := nxV_1 (r := (bkC n r).2) (m := b + 1) (by omega)
    refine sd_ret (ed_tup (ad_cons (ed_callT c rfl M.b_tuple PyProof.Rows.boot_tuple (ad_cons (ed_var c 4 rfl (.inl rfl) rfl rfl rfl) ad_nil rfl) cl_tupL (by decide) rfl rfl rfl) (ad_cons (ed_var c 6 rfl (.inl rfl) rfl rfl rfl) (ad_cons (ed_var c 7 rfl (.inl rfl) rfl rfl rfl) (ad_cons (ed_callT c rfl M.b_tuple PyProof.Rows.boot_tuple (ad_cons (ed_el (el_draw (A := A) (B := B) (r := nxR (bkC n r).2 (b + 1)) c [("_law_k", 5)] 0 (drawM (bkN n r)) PyData.int (by decide +kernel) rfl (id_range c rfl M.b_range (ed_callR c Fn (by decide) rfl 0 rfl (.inr (.inl rfl)) rfl (ad_cons (ed_bin (ed_var c 2 rfl (.inl rfl) rfl rfl rfl) ed_int bd_add) ad_nil rfl) rfl ⟨_, rfl, by omega, by omega, rfl, rfl⟩ rfl rfl rfl rfl rfl) ⟨by omega, by omega⟩ rfl) rfl (by decide) (all1 ⟨_, rfl, .inl rfl⟩) (fun X' c2 => gd_name c2 5 rfl (by kspl_open loc) (by kspl_open loc)) (Nat.lt_of_lt_of_le (show (nxV (bkC n r).2 (b + 1)).toNat < 1000 by omega) (Nat.le_of_ble_eq_true rfl)) (fun j r' hj => ⟨_, _, rfl, fun X' c2 => (ed_callR c2 Fn (by decide) rfl 0 rfl (by kspl_open vis) rfl (ad_cons (ed_var c2 3 rfl (by kspl_open vis) rfl rfl rfl) ad_nil rfl) rfl ⟨_, rfl, by omega, by omega, rfl, rfl⟩ rfl rfl rfl rfl rfl), ⟨.inr rfl, .inr rfl, .inr rfl, .inr rfl, .inr rfl, .inl rfl, .inr rfl, .inr rfl, .inr rfl, trivial⟩⟩) (fun _ => rfl))) ad_nil rfl) cl_tupL (by decide) rfl rfl rfl) ad_nil rfl) rfl) rfl) rfl) (Nat.le_of_ble_eq_true rfl)) ⟨rfl, rfl⟩
end
end K
namespace K
open PySem L2 Z
section
variable {P : Program} {w : World} {K : PySem.W.Frag} {mg : Str → Option Value} {base : Heap} [Tabl]
-- use Ta Tb Tc Td Te
/-! ### books refused -/
section
variable {aPostError aBadBook aNoOffice aBadPosting aNoPosting aBadText : Addr}
theorem exc_BadBook (E : Exs K mg aPostError aBadBook aNoOffice aBadPosting aNoPosting aBadText) : Exc1 P w K mg base "BadBook" "why" aBadBook 1 :=
  exc1_of E.x_BadBook ⟨rfl, rfl, rfl, by decide +kernel, rfl, by decide +kernel, by decide +kernel⟩ rfl rfl rfl rfl rfl rfl rfl (fun env _ => rfl)
abbrev whyF (w : PyData) : List (Str × PyData) := [(("why" : Str), w)]
theorem ok_needX (M : Md K mg) (E : Exs K mg aPostError aBadBook aNoOffice aBadPosting aNoPosting aBadText) : FnX P w K mg base "need" ["good", "why"] 3 (spO K (fun (i : Bool × PyData) ds => ds = [.bool i.1, i.2]) (fun i d => i.1 = true ∧ d = .none) (fun i c f => i.1 = false ∧ c = .ref aBadBook ∧ f = whyF i.2)) := by
  have Ex := exc_BadBook (P := P) (w := w) (base := base) E
  refine fn_sdO (N := ["good", "why"]) M.d_need ⟨rfl, rfl, rfl, by decide +kernel, rfl, by decide +kernel, by decide +kernel⟩ (fun i ds e => by rw [e]; rfl) (by decide) (fun X c _ i ds e => ?_)
  obtain ⟨b, wy⟩ := i
  subst e
  show SD X [.dat (.bool b), .dat wy] _ _
  refine sd_if (td_not (td_val (ed_var c 0 rfl (by kspl_open vis) rfl rfl rfl) (fun _ => rfl))) (fun hb => ?_) (fun hb => sd_nil (sd_nil ⟨by simpa using hb, rfl⟩))
  exact sd_raise1 c Ex (by decide) rfl (ed_var c 1 rfl (by kspl_open vis) rfl rfl rfl) rfl rfl ⟨by simpa using hb, rfl, rfl⟩
/-- need(e, why) as a statement -/
theorem sd_need {T : Sta} {k : Nat} {X : Cx} {ks k1 : List SK} {e we : Expr} {p pos pos' : Pos} {b : Bool} {wy : PyData} {rest : List Stmt} {Φ : Po} (M : Md K mg) (E : Exs K mg aPostError aBadBook aNoOffice aBadPosting aNoPosting aBadText) (c : Ctx P w K mg base T k X) (hk : 3 ≤ k) (hg : T.sc.names.lookup ("need" : Str) = some .globalImplicit) (ha : AD X ks [e, we] k1 [.bool b, wy])
    (h1 : b = true → SD X k1 rest Φ) (h0 : b = false → Φ.ex k1 (.ref aBadBook) (whyF wy)) (he : starEach [e, we] X.env = (false, eval e X.env) :: starEach [we] X.env) (hpl : (backTo pos (starEach [we] X.env)).any (·.1) = false)
    (hs : swapsWith (.Call (.Name "need" p) [e, we] [] pos) none pos'.line X.env = pure false) : SD X ks (.Expr (.Call (.Name "need" p) [e, we] [] pos) pos' :: rest) Φ :=
  sd_exprO c (i := (b, wy)) (ok_needX (P := P) (w := w) (base := base) M E) hk hg ha rfl (fun ⟨d, h, _⟩ => h1 h) (fun cls fs ⟨h, h2, h3⟩ => by rw [h2, h3]; exact h0 h) rfl he hpl hs
structure FlOk (B : Book) : Prop where
  n2 : 2 ≤ B.n
  n6 : B.n ≤ 6
  rows : ∀ r ∈ B.fl, r.length = B.n
  vals : ∀ (i j : Nat) (r : List Int) (v : Int), B.fl[i]? = some r → r[j]? = some v → if j = i then v = 0 else 1 ≤ v ∧ v ≤ 9
structure RwOk (B : Book) (l : List Row) (m : Int) : Prop where
  len : (l.length : Int) ≤ m
  at_ : ∀ r ∈ l, GoodRow B r
structure BiOk (B : Book) : Prop where
  len : B.bi.length ≤ 6
  at_ : ∀ h ∈ B.bi, B.off h
theorem good_of {B : Book} (f : FlOk B) (s : RwOk B B.st 8) (c : RwOk B B.ca 12) (b : BiOk B) : Good B := ⟨f.n2, f.n6, f.rows, fun o h ho hh => by
  obtain ⟨i, rfl⟩ : ∃ i : Nat, o = (i : Int) := ⟨o.toNat, by have := ho.1; omega⟩
  obtain ⟨j, rfl⟩ : ∃ j : Nat, h = (j : Int) := ⟨h.toNat, by have := hh.1; omega⟩
  have hi : i < B.fl.length := Int.ofNat_lt.mp ho.2
  have hr := List.getElem?_eq_getElem hi
  have rl := f.rows _ (List.getElem_mem hi)
  have hj : j < (B.fl[i]).length := by rw [rl]; exact Int.ofNat_lt.mp hh.2
  have hv := List.getElem?_eq_getElem hj
  have := f.vals i j _ _ hr hv
  rw [f_at hr hv]
  by_cases q : j = i
  · rw [if_pos q] at this
    rw [if_pos (by omega)]; exact this
  · rw [if_neg q] at this
    rw [if_neg (by omega)]; exact this, s.at_, by have := s.len; omega, c.at_, by have := c.len; omega, b.at_, b.len⟩
theorem good_fl {B : Book} (g : Good B) : FlOk B := ⟨g.n2, g.n6, g.rows, fun i j r v hr hv => by
  have rl := g.rows r (List.mem_of_getElem? hr)
  have hj : B.off (j : Int) := ⟨by omega, by have := (List.getElem?_eq_some_iff.mp hv).1; rw [rl] at this; exact Int.ofNat_lt.mpr this⟩
  have := g.vals (i : Int) (j : Int) (row_at hr).2 hj
  rw [f_at hr hv] at this
  by_cases q : j = i
  · rw [if_pos (by omega)] at this
    rw [if_pos q]; exact this
  · rw [if_neg (by omega)] at this
    rw [if_neg q]; exact this⟩
theorem good_bits {B : Book} (g : Good B) : FlOk B ∧ RwOk B B.st 8 ∧ RwOk B B.ca 12 ∧ BiOk B := ⟨good_fl g, ⟨by have := g.stl; omega, g.st⟩, ⟨by have := g.cal; omega, g.ca⟩, ⟨g.bil, g.bi⟩⟩
theorem ok_need_flightsX (M : Md K mg) (E : Exs K mg aPostError aBadBook aNoOffice aBadPosting aNoPosting aBadText) : FnX P w K mg base "need_flights" ["book"] 4 (spO K (fun (B : Book) ds => ds = [eBook B]) (fun B d => FlOk B ∧ d = .none) (fun B c f => ¬ FlOk B ∧ c = .ref aBadBook ∧ f = whyF (.str "flights"))) := by
  refine fn_sdO (N := ["book", "rows", "office", "row", "home", "hours"]) M.d_need_flights ⟨rfl, rfl, rfl, by decide +kernel, rfl, by decide +kernel, by decide +kernel⟩ (fun i ds e => by rw [e]; rfl) (by decide) (fun X c _ B ds e => ?_)
  subst e
  show SD X [.dat (eBook B), .no, .no, .no, .no, .no] _ _
  refine sd_asg c 1 rfl (by kspl_open loc) (.inl rfl) (Nat.le_of_ble_eq_true rfl) (ed_ix (ed_var c 0 rfl (by kspl_open vis) rfl rfl rfl) (ed_gint c rfl M.c_FLIGHTS rfl) (by kspl_open ix) (fun _ _ => rfl)) rfl ?_
  refine sd_need M E c (by decide) rfl (ad_cons (ed_chain (ed_gint c rfl M.c_LEAST_OFFICES rfl) (ed_callB c rfl M.b_len PySem.boot_len (ad_cons (ed_var c 1 rfl (by kspl_open vis) rfl rfl rfl) ad_nil rfl) (by kspl_open cl) (by decide) rfl rfl rfl) (fun _ => (ed_gint c rfl M.c_MOST_OFFICES rfl)) (by kspl_open cd) (by kspl_open cd) (by with_unfolding_all rfl)) (ad_cons ed_str ad_nil rfl) rfl) (fun hb => ?_) (fun hb => ⟨fun F => ?_, rfl, rfl⟩) rfl rfl rfl
  · rw [List.length_map] at hb
    have hb : 2 ≤ B.n ∧ B.n ≤ 6 := by
      rw [Bool.and_eq_true] at hb
      have h1 := of_decide_eq_true hb.1
      have h2 := of_decide_eq_true hb.2
      exact ⟨by show 2 ≤ B.fl.length; omega, by show B.fl.length ≤ 6; omega⟩
    show SD X [.dat (eBook B), .dat (.tuple (B.fl.map eInts)), .no, .no, .no, .no] _ _
    refine sd_forJ c (fun _ => [.dat (eBook B), .dat (.tuple (B.fl.map eInts)), .no, .no, .no, .no]) (fun n => ∀ (i : Nat) (r : List Int), i < n → B.fl[i]? = some r → r.length = B.n ∧ ∀ (j : Nat) (v : Int), r[j]? = some v → if j = i then v = 0 else 1 ≤ v ∧ v ≤ 9) (id_enumT c rfl M.b_enumerate (ed_var c 1 rfl (by kspl_open vis) rfl rfl rfl) rfl) (gd_tup c (gs_cons c 2 rfl (by kspl_open loc) (by kspl_open loc) (gs_cons c 3 rfl (by kspl_open loc) (by kspl_open loc) gs_nil rfl) rfl) rfl rfl) Wk.rfl' (fun _ _ z => absurd z (Nat.not_lt_zero _)) (fun i d hd hj => ?_) (fun hj => sd_nil ⟨⟨hb.1, hb.2, fun r hr => ?_, fun i j r v hr hv => ?_⟩, rfl⟩) (fun _ => rfl)
    · obtain ⟨d', hd', rfl⟩ := enumD_inv hd
      obtain ⟨r, hr, rfl⟩ := map_get hd'
      refine ⟨_, rfl, ?_⟩
      show SD X [.dat (eBook B), .dat (.tuple (B.fl.map eInts)), .dat (.int (i : Nat)), .dat (eInts r), .no, .no] _ _
      refine sd_need M E c (by decide) rfl (ad_cons (ed_cmp (ed_callB c rfl M.b_len PySem.boot_len (ad_cons (ed_var c 3 rfl (by kspl_open vis) rfl rfl rfl) ad_nil rfl) (by kspl_open cl) (by decide) rfl rfl rfl) (ed_callB c rfl M.b_len PySem.boot_len (ad_cons (ed_var c 1 rfl (by kspl_open vis) rfl rfl rfl) ad_nil rfl) (by kspl_open cl) (by decide) rfl rfl rfl) (by kspl_open cd) (nomark _)) (ad_cons ed_str ad_nil rfl) rfl) (fun hl => ?_) (fun hl => ⟨fun F => ?_, rfl, rfl⟩) rfl rfl rfl
      · rw [List.length_map, List.length_map] at hl
        have hl : r.length = B.n := by have := of_decide_eq_true hl; show r.length = B.fl.length; omega
        refine sd_forJ c (fun _ => [.dat (eBook B), .dat (.tuple (B.fl.map eInts)), .dat (.int (i : Nat)), .dat (eInts r), .no, .no]) (fun n => ∀ (j : Nat) (v : Int), j < n → r[j]? = some v → if j = i then v = 0 else 1 ≤ v ∧ v ≤ 9) (id_enumT c rfl M.b_enumerate (ed_var c 3 rfl (by kspl_open vis) rfl rfl rfl) rfl) (gd_tup c (gs_cons c 4 rfl (by kspl_open loc) (by kspl_open loc) (gs_cons c 5 rfl (by kspl_open loc) (by kspl_open loc) gs_nil rfl) rfl) rfl rfl) Wk.rfl' (fun _ _ z => absurd z (Nat.not_lt_zero _)) (fun j d hd hjj => ?_) (fun hjj => sd_nil ⟨⟨.inr rfl, .inr rfl, .inl rfl, .inl rfl, .inl rfl, .inl rfl, trivial⟩, fun i' r' hi' hr' => ?_⟩) (fun _ => rfl)
        · obtain ⟨d'', hd'', rfl⟩ := enumD_inv hd
          obtain ⟨v, hv, rfl⟩ := map_get hd''
          refine ⟨_, rfl, ?_⟩
          show SD X [.dat (eBook B), .dat (.tuple (B.fl.map eInts)), .dat (.int (i : Nat)), .dat (eInts r), .dat (.int (j : Nat)), .dat (.int v)] _ _
          have key : ∀ b : Bool, (b = true ↔ if j = i then v = 0 else 1 ≤ v ∧ v ≤ 9) → b = (if j = i then decide (v = 0) else decide (1 ≤ v) && decide (v ≤ 9)) := fun b h => by
            by_cases q : j = i
            · simp only [q, if_true] at h ⊢
              cases b <;> simp_all
            · simp only [q, if_false] at h ⊢
              cases b <;> simp_all
          refine sd_need M E c (by decide) rfl (b := if j = i then decide (v = 0) else decide (1 ≤ v) && decide (v ≤ 9)) (ad_cons (ed_if (d := .bool (if j = i then decide (v = 0) else decide (1 ≤ v) && decide (v ≤ 9))) (td_cmp (ed_var c 4 rfl (by kspl_open vis) rfl rfl rfl) (ed_var c 2 rfl (by kspl_open vis) rfl rfl rfl) (by kspl_open cd) (nomark _)) (fun hb => ed_to (ed_cmp (ed_var c 5 rfl (by kspl_open vis) rfl rfl rfl) ed_int (by kspl_open cd) (nomark _)) (by rw [if_pos (by have := of_decide_eq_true hb; omega)])) (fun hb => ed_to (ed_chain ed_int (ed_var c 5 rfl (by kspl_open vis) rfl rfl rfl) (fun _ => (ed_gint c rfl M.c_MOST_FLIGHT rfl)) (by kspl_open cd) (by kspl_open cd) (by with_unfolding_all rfl)) (by rw [if_neg (by have := of_decide_eq_false hb; omega)]))) (ad_cons ed_str ad_nil rfl) rfl) (fun hv' => ?_) (fun hv' => ⟨fun F => ?_, rfl, rfl⟩) rfl rfl rfl
          · refine sd_nil ⟨⟨.inr rfl, .inr rfl, .inr rfl, .inr rfl, .inl rfl, .inl rfl, trivial⟩, fun j' v' hj' hr' => ?_⟩
            rcases Nat.lt_succ_iff_lt_or_eq.mp hj' with z | z
            · exact hjj j' v' z hr'
            · subst z
              rw [hv] at hr'
              cases hr'
              by_cases q : j' = i
              · rw [if_pos q] at hv' ⊢; exact of_decide_eq_true hv'
              · rw [if_neg q, Bool.and_eq_true] at hv'
                rw [if_neg q]
                exact ⟨of_decide_eq_true hv'.1, of_decide_eq_true hv'.2⟩
          · have := F.vals i j r v hr hv
            by_cases q : j = i
            · rw [if_pos q] at hv' this
              exact absurd this (of_decide_eq_false hv')
            · rw [if_neg q] at hv' this
              rw [decT this.1, decT this.2] at hv'
              cases hv'
        · rcases Nat.lt_succ_iff_lt_or_eq.mp hi' with z | z
          · exact hj i' r' z hr'
          · subst z
            rw [hr] at hr'
            cases hr'
            refine ⟨hl, fun j v hv => hjj j v ?_ hv⟩
            rw [enumD_len, List.length_map]
            exact (List.getElem?_eq_some_iff.mp hv).1
      · rw [List.length_map, List.length_map] at hl
        have := F.rows r (List.mem_of_getElem? hr)
        exact of_decide_eq_false hl (by rw [this])
    · obtain ⟨i, hi⟩ := List.mem_iff_getElem?.mp hr
      exact (hj i r (by rw [enumD_len, List.length_map]; exact (List.getElem?_eq_some_iff.mp hi).1) hi).1
    · exact (hj i r (by rw [enumD_len, List.length_map]; exact (List.getElem?_eq_some_iff.mp hr).1) hr).2 j v hv
  · rw [List.length_map] at hb
    have h1 := F.n2
    have h2 := F.n6
    rw [decT (show (2 : Int) ≤ (B.fl.length : Int) by have : 2 ≤ B.fl.length := h1; omega), decT (show (B.fl.length : Int) ≤ 6 by have : B.fl.length ≤ 6 := h2; omega)] at hb
    cases hb
theorem ok_need_rowsX (M : Md K mg) (E : Exs K mg aPostError aBadBook aNoOffice aBadPosting aNoPosting aBadText) : FnX P w K mg base "need_rows" ["book", "place", "most", "why"] 4 (spO K (fun (i : Book × Int × Int × PyData × List Row) ds => ds = [eBook i.1, .int i.2.1, .int i.2.2.1, i.2.2.2.1] ∧ ixD (eBook i.1) i.2.1 = some (.tuple (i.2.2.2.2.map eRow))) (fun i d => RwOk i.1 i.2.2.2.2 i.2.2.1 ∧ d = .none) (fun i c f => ¬ RwOk i.1 i.2.2.2.2 i.2.2.1 ∧ c = .ref aBadBook ∧ f = whyF i.2.2.2.1)) := by
  have Fo := ok_is_office (P := P) (w := w) (base := base) M
  refine fn_sdO (N := ["book", "place", "most", "why", "one", "other", "begin", "end"]) M.d_need_rows ⟨rfl, rfl, rfl, by decide +kernel, rfl, by decide +kernel, by decide +kernel⟩ (fun i ds e => by rw [e.1]; rfl) (by decide) (fun X c _ i ds e => ?_)
  obtain ⟨B, p, m, wy, l⟩ := i
  obtain ⟨rfl, hp⟩ := e
  have hp : ixD (eBook B) p = some (.tuple (l.map eRow)) := hp
  show SD X [.dat (eBook B), .dat (.int p), .dat (.int m), .dat wy, .no, .no, .no, .no] _ _
  refine sd_need M E c (by decide) rfl (ad_cons (ed_cmp (ed_callB c rfl M.b_len PySem.boot_len (ad_cons (ed_ix (ed_var c 0 rfl (by kspl_open vis) rfl rfl rfl) (ed_var c 1 rfl (by kspl_open vis) rfl rfl rfl) hp (fun _ _ => rfl)) ad_nil rfl) (by kspl_open cl) (by decide) rfl rfl rfl) (ed_var c 2 rfl (by kspl_open vis) rfl rfl rfl) (by kspl_open cd) (nomark _)) (ad_cons (ed_var c 3 rfl (by kspl_open vis) rfl rfl rfl) ad_nil rfl) rfl) (fun hb => ?_) (fun hb => ⟨fun F => ?_, rfl, rfl⟩) rfl rfl rfl
  · rw [List.length_map] at hb
    have hb := of_decide_eq_true hb
    refine sd_forJ c (fun _ => [.dat (eBook B), .dat (.int p), .dat (.int m), .dat wy, .no, .no, .no, .no]) (fun n => ∀ (i : Nat) (r : Row), i < n → l[i]? = some r → GoodRow B r) (id_seq (ed_ix (ed_var c 0 rfl (by kspl_open vis) rfl rfl rfl) (ed_var c 1 rfl (by kspl_open vis) rfl rfl rfl) hp (fun _ _ => rfl)) rfl) (gd_tup c (gs_cons c 4 rfl (by kspl_open loc) (by kspl_open loc) (gs_cons c 5 rfl (by kspl_open loc) (by kspl_open loc) (gs_cons c 6 rfl (by kspl_open loc) (by kspl_open loc) (gs_cons c 7 rfl (by kspl_open loc) (by kspl_open loc) gs_nil rfl) rfl) rfl) rfl) rfl rfl) Wk.rfl' (fun _ _ z => absurd z (Nat.not_lt_zero _)) (fun i d hd hj => ?_) (fun hj => sd_nil ⟨⟨hb, fun r hr => ?_⟩, rfl⟩) (fun _ => rfl)
    · obtain ⟨r, hr, rfl⟩ := map_get hd
      have hm := List.mem_of_getElem? hr
      refine ⟨_, rfl, ?_⟩
      show SD X [.dat (eBook B), .dat (.int p), .dat (.int m), .dat wy, .dat (.int r.1), .dat (.int r.2.1), .dat (.int r.2.2.1), .dat (.int r.2.2.2)] _ _
      refine sd_need M E c (by decide) rfl (ad_cons (ed_and (ed_call c Fo (by decide) rfl (ad_cons (ed_var c 0 rfl (by kspl_open vis) rfl rfl rfl) (ad_cons (ed_var c 4 rfl (by kspl_open vis) rfl rfl rfl) ad_nil rfl) rfl) ⟨B, _, rfl, rfl⟩ rfl rfl rfl) (fun _ => ed_and (ed_call c Fo (by decide) rfl (ad_cons (ed_var c 0 rfl (by kspl_open vis) rfl rfl rfl) (ad_cons (ed_var c 5 rfl (by kspl_open vis) rfl rfl rfl) ad_nil rfl) rfl) ⟨B, _, rfl, rfl⟩ rfl rfl rfl) (fun _ => ed_and1 (ed_cmp (ed_var c 4 rfl (by kspl_open vis) rfl rfl rfl) (ed_var c 5 rfl (by kspl_open vis) rfl rfl rfl) (by kspl_open cd) (nomark _))))) (ad_cons (ed_var c 3 rfl (by kspl_open vis) rfl rfl rfl) ad_nil rfl) rfl) (fun h1 => ?_) (fun h1 => ⟨fun F => ?_, rfl, rfl⟩) rfl rfl rfl
      · simp only [Bool.and_eq_true, decide_eq_true_eq, Bool.not_eq_true', decide_eq_false_iff_not] at h1
        obtain ⟨⟨a1, a2⟩, ⟨b1, b2⟩, c1⟩ := h1
        refine sd_need M E c (by decide) rfl (ad_cons (ed_chain3 ed_int (ed_var c 6 rfl (by kspl_open vis) rfl rfl rfl) (ed_var c 7 rfl (by kspl_open vis) rfl rfl rfl) (ed_gint c rfl M.c_MOST_HOUR rfl) (by kspl_open cd) (by kspl_open cd) (by kspl_open cd) (by with_unfolding_all rfl)) (ad_cons (ed_var c 3 rfl (by kspl_open vis) rfl rfl rfl) ad_nil rfl) rfl) (fun h2 => ?_) (fun h2 => ⟨fun F => ?_, rfl, rfl⟩) rfl rfl rfl
        · simp only [Bool.and_eq_true, decide_eq_true_eq] at h2
          refine sd_nil ⟨⟨.inr rfl, .inr rfl, .inr rfl, .inr rfl, .inl rfl, .inl rfl, .inl rfl, .inl rfl, trivial⟩, fun i' r' hi' hr' => ?_⟩
          rcases Nat.lt_succ_iff_lt_or_eq.mp hi' with z | z
          · exact hj i' r' z hr'
          · subst z
            rw [hr] at hr'
            cases hr'
            exact ⟨⟨a1, a2⟩, ⟨b1, b2⟩, c1, h2.1, h2.2.1, h2.2.2⟩
        · have g := F.at_ r hm
          rw [decT g.h0, decT g.h1, decT g.h2] at h2
          cases h2
      · have g := F.at_ r hm
        rw [decT g.a.1, decT g.a.2, decT g.b.1, decT g.b.2, decide_eq_false g.ne] at h1
        cases h1
    · obtain ⟨i, hi⟩ := List.mem_iff_getElem?.mp hr
      exact hj i r (by rw [List.length_map]; exact (List.getElem?_eq_some_iff.mp hi).1) hi
  · rw [List.length_map] at hb
    exact of_decide_eq_false hb F.len
/-- the word of a book's first wrong -/
def whyB (B : Book) (wy : Str) : Prop := (¬ FlOk B ∧ wy = "flights") ∨ (FlOk B ∧ ¬ RwOk B B.st 8 ∧ wy = "storms") ∨ (FlOk B ∧ RwOk B B.st 8 ∧ ¬ RwOk B B.ca 12 ∧ wy = "carts") ∨ (FlOk B ∧ RwOk B B.st 8 ∧ RwOk B B.ca 12 ∧ ¬ BiOk B ∧ wy = "birds")
theorem whyB_no {B : Book} {wy : Str} (h : whyB B wy) : ¬ Good B := fun g => by
  obtain ⟨a, b, c, d⟩ := good_bits g
  rcases h with ⟨h, _⟩ | ⟨_, h, _⟩ | ⟨_, _, h, _⟩ | ⟨_, _, _, h, _⟩
  · exact h a
  · exact h b
  · exact h c
  · exact h d
theorem whyB_one {B : Book} {w1 w2 : Str} (h : whyB B w1) (h' : whyB B w2) : w1 = w2 := by
  rcases h with ⟨a, rfl⟩ | ⟨a, b, rfl⟩ | ⟨a, b, c, rfl⟩ | ⟨a, b, c, d, rfl⟩ <;> rcases h' with ⟨a', rfl⟩ | ⟨a', b', rfl⟩ | ⟨a', b', c', rfl⟩ | ⟨a', b', c', d', rfl⟩ <;> first | rfl | contradiction
theorem ok_need_bookX (M : Md K mg) (E : Exs K mg aPostError aBadBook aNoOffice aBadPosting aNoPosting aBadText) : FnX P w K mg base "need_book" ["book"] 5 (spO K (fun (B : Book) ds => ds = [eBook B]) (fun B d => Good B ∧ d = .none) (fun B c f => ∃ wy, whyB B wy ∧ c = .ref aBadBook ∧ f = whyF (.str wy))) := by
  have Fo := ok_is_office (P := P) (w := w) (base := base) M
  have Ff := ok_need_flightsX (P := P) (w := w) (base := base) M E
  have Fr := ok_need_rowsX (P := P) (w := w) (base := base) M E
  refine fn_sdO (N := ["book", "home"]) M.d_need_book ⟨rfl, rfl, rfl, by decide +kernel, rfl, by decide +kernel, by decide +kernel⟩ (fun i ds e => by rw [e]; rfl) (by decide) (fun X c _ B ds e => ?_)
  subst e
  show SD X [.dat (eBook B), .no] _ _
  refine sd_exprO c (i := B) Ff (by decide) rfl (ad_cons (ed_var c 0 rfl (by kspl_open vis) rfl rfl rfl) ad_nil rfl) rfl (fun ⟨d, hf, _⟩ => ?_) (fun cls fs z => by obtain ⟨h, h1, h2⟩ := z; exact ⟨_, .inl ⟨h, rfl⟩, h1, h2⟩) rfl rfl rfl rfl
  refine sd_exprO c (i := (B, 1, 8, .str "storms", B.st)) Fr (by decide) rfl (ad_cons (ed_var c 0 rfl (by kspl_open vis) rfl rfl rfl) (ad_cons (ed_gint c rfl M.c_STORMS rfl) (ad_cons (ed_gint c rfl M.c_MOST_STORMS rfl) (ad_cons ed_str ad_nil rfl) rfl) rfl) rfl) ⟨rfl, rfl⟩ (fun ⟨d, hs, _⟩ => ?_) (fun cls fs z => by obtain ⟨h, h1, h2⟩ := z; exact ⟨_, .inr (.inl ⟨hf, h, rfl⟩), h1, h2⟩) rfl rfl rfl rfl
  have hs : RwOk B B.st 8 := hs
  refine sd_exprO c (i := (B, 2, 12, .str "carts", B.ca)) Fr (by decide) rfl (ad_cons (ed_var c 0 rfl (by kspl_open vis) rfl rfl rfl) (ad_cons (ed_gint c rfl M.c_CARTS rfl) (ad_cons (ed_gint c rfl M.c_MOST_CARTS rfl) (ad_cons ed_str ad_nil rfl) rfl) rfl) rfl) ⟨rfl, rfl⟩ (fun ⟨d, hc, _⟩ => ?_) (fun cls fs z => by obtain ⟨h, h1, h2⟩ := z; exact ⟨_, .inr (.inr (.inl ⟨hf, hs, h, rfl⟩)), h1, h2⟩) rfl rfl rfl rfl
  have hc : RwOk B B.ca 12 := hc
  refine sd_need M E c (by decide) rfl (ad_cons (ed_cmp (ed_callB c rfl M.b_len PySem.boot_len (ad_cons (ed_ix (ed_var c 0 rfl (by kspl_open vis) rfl rfl rfl) (ed_gint c rfl M.c_BIRDS rfl) (by kspl_open ix) (fun _ _ => rfl)) ad_nil rfl) (by kspl_open cl) (by decide) rfl rfl rfl) (ed_gint c rfl M.c_MOST_BIRDS rfl) (by kspl_open cd) (nomark _)) (ad_cons ed_str ad_nil rfl) rfl) (fun hb => ?_) (fun hb => ⟨_, .inr (.inr (.inr ⟨hf, hs, hc, fun F => ?_, rfl⟩)), rfl, rfl⟩) rfl rfl rfl
  · rw [List.length_map] at hb
    have hb : B.bi.length ≤ 6 := by have := of_decide_eq_true hb; omega
    refine sd_forJ c (fun _ => [.dat (eBook B), .no]) (fun n => ∀ (i : Nat) (h : Int), i < n → B.bi[i]? = some h → B.off h) (id_seq (ed_ix (ed_var c 0 rfl (by kspl_open vis) rfl rfl rfl) (ed_gint c rfl M.c_BIRDS rfl) (by kspl_open ix) (fun _ _ => rfl)) rfl) (gd_name c 1 rfl (by kspl_open loc) (by kspl_open loc)) Wk.rfl' (fun _ _ z => absurd z (Nat.not_lt_zero _)) (fun i d hd hj => ?_) (fun hj => sd_nil ⟨good_of hf hs hc ⟨hb, fun h hh => ?_⟩, rfl⟩) (fun _ => rfl)
    · obtain ⟨h, hh, rfl⟩ := map_get hd
      refine ⟨_, rfl, ?_⟩
      show SD X [.dat (eBook B), .dat (.int h)] _ _
      refine sd_need M E c (by decide) rfl (ad_cons (ed_call c Fo (by decide) rfl (ad_cons (ed_var c 0 rfl (by kspl_open vis) rfl rfl rfl) (ad_cons (ed_var c 1 rfl (by kspl_open vis) rfl rfl rfl) ad_nil rfl) rfl) ⟨B, _, rfl, rfl⟩ rfl rfl rfl) (ad_cons ed_str ad_nil rfl) rfl) (fun h1 => ?_) (fun h1 => ⟨_, .inr (.inr (.inr ⟨hf, hs, hc, fun F => ?_, rfl⟩)), rfl, rfl⟩) rfl rfl rfl
      · simp only [Bool.and_eq_true, decide_eq_true_eq] at h1
        exact sd_nil ⟨⟨.inr rfl, .inl rfl, trivial⟩, prev_succ hj hh ⟨h1.1, h1.2⟩⟩
      · have := F.at_ h (List.mem_of_getElem? hh)
        rw [decT this.1, decT this.2] at h1
        cases h1
    · obtain ⟨i, hi⟩ := List.mem_iff_getElem?.mp hh
      exact hj i h (by rw [List.length_map]; exact (List.getElem?_eq_some_iff.mp hi).1) hi
  · rw [List.length_map] at hb
    have := F.len
    exact of_decide_eq_false hb (by omega)
end
end
end K
namespace K
open PySem L2 Z
section
variable {P : Program} {w : World} {K : PySem.W.Frag} {mg : Str → Option Value} {base : Heap} [Tabl]
-- use Ta Tb Tc Td Te
/-! ### texts: plain -/
def okS (x : Str) : Prop := ∀ c ∈ x.cps.toList, c < 1114112
theorem shp_str {n : Nat} {x : Str} (h : okS x) : Shp n (.str x) := ⟨by
  show x.cps.all _ = true
  rw [← Array.all_toList, List.all_eq_true]
  intro c hc
  exact decide_eq_true (h c hc), by simp [PyData.depth]⟩
theorem shp_strs {l : List Str} (h : ∀ x ∈ l, okS x) : SeqAt.shaped (.list (sD l)) = true := Shp.ok (n := 1) (.list (allM fun a ha => shp_str (h a ha))) (by decide)
theorem shp_strsT {l : List Str} (h : ∀ x ∈ l, okS x) : SeqAt.shaped (.tuple (sD l)) = true := Shp.ok (n := 1) (.tuple (allM fun a ha => shp_str (h a ha))) (by decide)
theorem eqv_str (a b : Str) : PyData.eqv (.str a) (.str b) = decide (a = b) := eqv_dec rfl rfl ⟨fun h => by cases h; rfl, fun h => by rw [h]⟩
theorem any_str {l : List Str} {w : Str} : ((sD l).any fun z => PyData.eqv z (.str w)) = decide (w ∈ l) := by
  induction l with
  | nil => rfl
  | cons a l ih =>
    show (PyData.eqv (.str a) (.str w) || (sD l).any fun z => PyData.eqv z (.str w)) = _
    rw [ih, eqv_str]
    by_cases h : a = w
    · subst h; simp
    · rw [decide_eq_false h]
      simp only [Bool.false_or, List.mem_cons]
      by_cases h2 : w ∈ l
      · rw [decide_eq_true h2, decide_eq_true (.inr h2)]
      · rw [decide_eq_false h2, decide_eq_false (fun z => z.elim (fun y => h y.symm) h2)]
abbrev sortsL : List Str := ["flights", "storm", "cart", "birds"]
abbrev figS : Str := "0123456789"
abbrev zeroS : Str := "0"
/-- the head of is_number -/
def numHead (x : Str) : Bool := !(!(decide (1 ≤ (x.length : Int)) && decide ((x.length : Int) ≤ 9)) || (decide (x.cps.toList.head? = some 48) && !decide (x = zeroS)))
def isFig (c : Nat) : Bool := decide (c ∈ figS.cps.toList)
def isNum (x : Str) : Bool := numHead x && x.cps.toList.all isFig
def wordsOf (r : Str) : List Str := Txt.split r " "
def placeS (x : Str) : Option Nat := sortsL.findIdx? fun y => decide (y = x)
def intsOf (ws : List Str) : List Int := ws.map fun x => (PySem.intText? x).getD 0
/-- what rows have told -/
structure TS where
  row : Int
  last : Nat
  fl : List (List Int)
  st : List Row
  ca : List Row
  bi : List (List Int)
def TS.enc (t : TS) : RdS := ⟨t.row, (t.last : Int), [t.fl.map eInts, t.st.map eRow, t.ca.map eRow, t.bi.map eInts]⟩
def addT (t : TS) (j : Nat) (ns : List Int) : Option TS := match j, ns with
  | 0, ns => some { t with row := t.row + 1, last := 0, fl := t.fl ++ [ns] }
  | 1, [a, b, c, d] => some { t with row := t.row + 1, last := 1, st := t.st ++ [(a, b, c, d)] }
  | 2, [a, b, c, d] => some { t with row := t.row + 1, last := 2, ca := t.ca ++ [(a, b, c, d)] }
  | 3, ns => some { t with row := t.row + 1, last := 3, bi := t.bi ++ [ns] }
  | _, _ => none
def takeJ (t : TS) (r : List Str) : Option Nat → Option TS
  | none => none
  | some j => if (decide (t.last ≤ j) && t.bi.isEmpty) = true then if r.all isNum = true then addT t j (intsOf r) else none else none
def takeT (t : TS) : List Str → Option TS
  | [] => none
  | x :: r => takeJ t r (placeS x)
theorem filter_nonT {α : Type} (p : α → Bool) (g : α → PyData) (xs : List α) : PyData.eqv (.list ((xs.filter p).map g)) (.list []) = !xs.any p := by
  induction xs with
  | nil => rfl
  | cons x xs ih =>
    cases h : p x with
    | true => rw [List.filter_cons_of_pos h, List.any_cons, h]; rfl
    | false => rw [List.filter_cons_of_neg (by rw [h]; decide), List.any_cons, h]; exact ih
def TS.small (t : TS) : Prop := t.fl.length ≤ 1000 ∧ t.st.length ≤ 1000 ∧ t.ca.length ≤ 1000 ∧ t.bi.length ≤ 1000
theorem place_at {x : Str} {j : Nat} (h : placeS x = some j) : sortsL[j]? = some x ∧ (∀ m, m < j → sortsL[m]? ≠ some x) ∧ j < 4 := by
  unfold placeS at h
  obtain ⟨h1, h2, h3⟩ := List.findIdx?_eq_some_iff_getElem.mp h
  have h2 := of_decide_eq_true h2
  refine ⟨by rw [List.getElem?_eq_getElem h1, h2], fun m hm e => ?_, h1⟩
  have hm' : m < sortsL.length := by omega
  rw [List.getElem?_eq_getElem hm'] at e
  have := h3 m hm
  exact this (decide_eq_true (Option.some.inj e))
theorem place_in {x : Str} : decide (x ∈ sortsL) = (placeS x).isSome := by
  unfold placeS
  rw [List.findIdx?_isSome, Bool.eq_iff_iff, List.any_eq_true]
  constructor
  · intro h; exact ⟨x, of_decide_eq_true h, decide_eq_true rfl⟩
  · rintro ⟨y, h1, h2⟩
    have h2 := of_decide_eq_true h2
    subst h2
    exact decide_eq_true h1
theorem bytes_num {x : Str} (h : isNum x = true) : ∃ n : Int, PySem.intText? x = some n ∧ x.length ≤ 640 := by
  unfold isNum at h
  rw [Bool.and_eq_true] at h
  obtain ⟨h1, h2⟩ := h
  unfold numHead at h1
  rw [Bool.not_eq_true', Bool.or_eq_false_iff, Bool.not_eq_false', Bool.and_eq_true] at h1
  have a1 := of_decide_eq_true h1.1.1
  have a2 := of_decide_eq_true h1.1.2
  have dig : NumText.AllDigits x.cps.toList := fun c hc => by
    have := List.all_eq_true.mp h2 c hc
    have := of_decide_eq_true this
    have e : figS.cps.toList = [48, 49, 50, 51, 52, 53, 54, 55, 56, 57] := by decide +kernel
    rw [e] at this
    simp at this
    omega
  have hl : x.cps.toList.length = x.length := by simp [Str.length]
  exact ⟨_, intText_digits dig (fun z => by rw [z] at hl; simp at hl; omega) (by omega), by omega⟩
theorem spl_ne {S : List Nat} : ∀ (l : List Nat) (k : Nat) (acc : List Nat), TL.spl S k acc l ≠ []
  | [], k, acc => by rw [TL.spl_nil]; simp
  | c :: r, 0, acc => by
    show (if TL.pre S (c :: r) = true then acc :: TL.spl S (S.length - 1) [] r else TL.spl S 0 (acc ++ [c]) r) ≠ []
    split
    · simp
    · exact spl_ne r 0 _
  | c :: r, k + 1, acc => spl_ne r k acc
theorem spl_in {S : List Nat} : ∀ (l : List Nat) (k : Nat) (acc p : List Nat) (c : Nat), p ∈ TL.spl S k acc l → c ∈ p → c ∈ acc ∨ c ∈ l
  | [], k, acc, p, c, h, hc => by
    rw [TL.spl_nil, List.mem_singleton] at h
    subst h; exact .inl hc
  | a :: r, 0, acc, p, c, h, hc => by
    have h : p ∈ (if TL.pre S (a :: r) = true then acc :: TL.spl S (S.length - 1) [] r else TL.spl S 0 (acc ++ [a]) r) := h
    split at h
    · rcases List.mem_cons.mp h with z | z
      · subst z; exact .inl hc
      · rcases spl_in r _ _ p c z hc with y | y
        · cases y
        · exact .inr (List.mem_cons_of_mem _ y)
    · rcases spl_in r 0 _ p c h hc with y | y
      · rcases List.mem_append.mp y with q | q
        · exact .inl q
        · rw [List.mem_singleton] at q; exact .inr (by simp [q])
      · exact .inr (List.mem_cons_of_mem _ y)
  | a :: r, k + 1, acc, p, c, h, hc => (spl_in r k acc p c h hc).imp id fun y => List.mem_cons_of_mem _ y
theorem split_tl (x y : Str) (hy : TL.tl y ≠ []) (hk : y.cps.all (· < 256) = true) : (Txt.split x y).map TL.tl = TL.spl (TL.tl y) 0 [] (TL.tl x) := TL.split_spl x y hy (TL.kind_ok hk)
abbrev spS : Str := " "
abbrev nlS : Str := "\n"
theorem sp_tl : TL.tl spS = [32] := by decide +kernel
theorem nl_tl : TL.tl nlS = [10] := by decide +kernel
theorem sp_k : spS.cps.all (· < 256) = true := by decide +kernel
theorem nl_k : nlS.cps.all (· < 256) = true := by decide +kernel
theorem split_ne {x y : Str} (hy : TL.tl y ≠ []) (hk : y.cps.all (· < 256) = true) : Txt.split x y ≠ [] := fun h => by
  have := split_tl x y hy hk
  rw [h] at this
  exact spl_ne _ _ _ this.symm
theorem split_okS {x y : Str} (hy : TL.tl y ≠ []) (hk : y.cps.all (· < 256) = true) (h : okS x) : ∀ z ∈ Txt.split x y, okS z := fun z hz c hc => by
  have e := split_tl x y hy hk
  have hm : TL.tl z ∈ TL.spl (TL.tl y) 0 [] (TL.tl x) := by rw [← e]; exact List.mem_map.mpr ⟨z, hz, rfl⟩
  rcases spl_in _ _ _ _ c hm hc with q | q
  · cases q
  · exact h c q
theorem words_ne (x : Str) : wordsOf x ≠ [] := split_ne (by rw [show TL.tl (" " : Str) = [32] from sp_tl]; simp) sp_k
theorem words_ok {x : Str} (h : okS x) : ∀ z ∈ wordsOf x, okS z := split_okS (by rw [show TL.tl (" " : Str) = [32] from sp_tl]; simp) sp_k h
theorem spl_len {S : List Nat} : ∀ (l : List Nat) (k : Nat) (acc p : List Nat), p ∈ TL.spl S k acc l → p.length ≤ acc.length + l.length
  | [], k, acc, p, h => by
    rw [TL.spl_nil, List.mem_singleton] at h
    subst h; exact Nat.le_add_right _ _
  | a :: r, 0, acc, p, h => by
    have h : p ∈ (if TL.pre S (a :: r) = true then acc :: TL.spl S (S.length - 1) [] r else TL.spl S 0 (acc ++ [a]) r) := h
    split at h
    · rcases List.mem_cons.mp h with z | z
      · subst z; exact Nat.le_add_right _ _
      · have := spl_len r _ _ p z
        simp at this ⊢
        omega
    · have := spl_len r 0 _ p h
      simp at this ⊢
      omega
  | a :: r, k + 1, acc, p, h => by
    have := spl_len r k acc p h
    simp
    omega
theorem split_len {x y : Str} (hy : TL.tl y ≠ []) (hk : y.cps.all (· < 256) = true) : ∀ z ∈ Txt.split x y, z.length ≤ x.length := fun z hz => by
  have e := split_tl x y hy hk
  have hm : TL.tl z ∈ TL.spl (TL.tl y) 0 [] (TL.tl x) := by rw [← e]; exact List.mem_map.mpr ⟨z, hz, rfl⟩
  have := spl_len _ _ _ _ hm
  rw [TL.len_tl, TL.len_tl x]
  simpa using this
theorem words_len {x : Str} : ∀ z ∈ wordsOf x, z.length ≤ x.length := split_len (by rw [show TL.tl (" " : Str) = [32] from sp_tl]; simp) sp_k
theorem at0 {α : Type} {a : α} {l : List α} : atI (a :: l) 0 = some a := atI_of (Int.le_refl _) (by simp) a
theorem ix0 {d : PyData} {l : List PyData} : ixD (.list (d :: l)) 0 = some d := at0
theorem cut_tail {y : Str} {r : List Str} : cutD (sD (y :: r)) (some 1) none = sD r := by
  show cutD ((y :: r).map PyData.str) (some 1) none = _
  rw [cutD_map]
  unfold cutG
  rw [show (1 : Int) = ((1 : Nat) : Int) from rfl, HT.sIx_nat, HT.sIx_none]
  simp
theorem okS_all {x : Str} (h : (x.cps.toList.all fun c => decide (c < 1114112)) = true) : okS x := fun c hc => of_decide_eq_true (List.all_eq_true.mp h c hc)
theorem sorts_ok : ∀ x ∈ sortsL, okS x := fun x hx => by
  have h : (sortsL.all fun x => x.cps.toList.all fun c => decide (c < 1114112)) = true := by decide +kernel
  exact okS_all (List.all_eq_true.mp h x hx)
end
end K
namespace K
open PySem L2 Z
section
variable {P : Program} {w : World} {K : PySem.W.Frag} {mg : Str → Option Value} {base : Heap} [Tabl]
-- use Ta Tb Tc Td Te
/-! ### is_number -/
def R_is_number (ds : List PyData) (d : PyData) : Prop := ∃ x : Str, ds = [.str x] ∧ okS x ∧ x.length ≤ 1000000 ∧ d = .bool (isNum x)
theorem okS_c {x : Str} (h : okS x) {c : Nat} (hc : c ∈ x.cps.toList) : okS ⟨#[c]⟩ := fun a ha => by
  have : a = c := by simpa using ha
  rw [this]; exact h c hc
theorem okS_zero : okS zeroS := fun a ha => by
  have e : zeroS.cps.toList = [48] := by decide +kernel
  rw [e] at ha
  simp at ha
  omega
theorem sign_eq {c : Nat} : ((⟨#[c]⟩ : Str) = zeroS) ↔ c = 48 := by
  have e : zeroS = ⟨#[48]⟩ := by decide +kernel
  rw [e]
  constructor
  · intro h
    have := congrArg (fun z : Str => z.cps.toList) h
    simpa using this
  · intro h; rw [h]
theorem ok_is_number (M : Md K mg) : FnG P w K mg base "is_number" ["word"] 1 (spP K R_is_number) := by
  refine fn_sd (N := ["word", "sign"]) M.d_is_number ⟨rfl, rfl, rfl, by decide +kernel, rfl, by decide +kernel, by decide +kernel⟩ (fun ds d ⟨_, e, _⟩ => by rw [e]; rfl) (by decide) (fun X c ds d hR => ?_)
  obtain ⟨x, rfl, ho, hl, rfl⟩ := hR
  have hz : x.length ≤ sizeLine := Nat.le_trans hl (Nat.le_of_ble_eq_true rfl)
  show SD X [.dat (.str x), .no] _ _
  have hlen : x.cps.toList.length = x.length := by simp [Str.length]
  refine sd_if (c := !numHead x) (td_to (td_w (wd_or (x := !(decide (1 ≤ (x.length : Int)) && decide ((x.length : Int) ≤ 9))) (y := decide (x.cps.toList.head? = some 48) && !decide (x = zeroS)) (td_not (td_chain ed_int (ed_callB c rfl M.b_len PySem.boot_len (ad_cons (ed_var c 0 rfl (by kspl_open vis) rfl rfl rfl) ad_nil rfl) (cl_lenS hz) (by decide) rfl rfl rfl) (fun _ => (ed_gint c rfl M.c_MOST_FIGURES rfl)) cd_le cd_le (by with_unfolding_all rfl))) (fun h1 => ?_))) (by unfold numHead; rw [Bool.not_not])) (fun hb => sd_ret ed_bl ?_) (fun hb => sd_nil ?_)
  · have h1 : 1 ≤ x.length := by
      rw [Bool.not_eq_false', Bool.and_eq_true] at h1
      have := of_decide_eq_true h1.1
      omega
    cases hx : x.cps.toList with
    | nil => rw [hx] at hlen; simp at hlen; omega
    | cons a r =>
      have ha : a ∈ x.cps.toList := by rw [hx]; simp
      refine wd_or1 (td_w (wd_and (td_to (td_cmp (ed_ixS (c := a) (ed_var c 0 rfl (by kspl_open vis) rfl rfl rfl) ed_int hz (by rw [hx]; exact at0) (fun _ _ => rfl)) ed_str (cd_eqD c (Shp.ok (n := 1) (shp_str (okS_c ho ha)) (by decide)) (Shp.ok (n := 1) (shp_str okS_zero) (by decide))) (nomark _)) ?_) (fun _ => wd_and1 (td_to (td_cmp (ed_var c 0 rfl (by kspl_open vis) rfl rfl rfl) ed_str (cd_neD c (Shp.ok (n := 1) (shp_str ho) (by decide)) (Shp.ok (n := 1) (shp_str okS_zero) (by decide))) (nomark _)) (by rw [eqv_str])))))
      rw [eqv_str]
      exact decide_eq_decide.mpr (by rw [sign_eq]; simp)
  · show PyData.bool false = .bool (isNum x)
    unfold isNum
    rw [Bool.not_eq_true'] at hb
    rw [hb]; rfl
  · rw [Bool.not_eq_false'] at hb
    refine sd_forJ c (fun _ => [.dat (.str x), .no]) (fun n => ∀ (i : Nat) (a : Nat), i < n → x.cps.toList[i]? = some a → isFig a = true) (id_str (ed_var c 0 rfl (by kspl_open vis) rfl rfl rfl)) (gd_name c 1 rfl (by kspl_open loc) (by kspl_open loc)) Wk.rfl' (fun _ _ z => absurd z (Nat.not_lt_zero _)) (fun i d hd hj => ?_) (fun hj => sd_ret ed_bl ?_) (fun _ => rfl)
    · obtain ⟨a, ha, rfl⟩ := map_get hd
      refine ⟨_, rfl, ?_⟩
      show SD X [.dat (.str x), .dat (.str ⟨#[a]⟩)] _ _
      refine sd_if (td_cmp (ed_var c 1 rfl (by kspl_open vis) rfl rfl rfl) (ed_gstr c rfl M.s_FIGURES rfl) cd_niSign (by with_unfolding_all rfl)) (fun hf => sd_ret ed_bl ?_) (fun hf => sd_nil (sd_nil ⟨⟨.inr rfl, .inl rfl, trivial⟩, prev_succ hj ha (by rw [Bool.not_eq_false'] at hf; exact hf)⟩))
      show PyData.bool false = .bool (isNum x)
      unfold isNum
      rw [hb, Bool.true_and]
      congr 1
      symm
      rw [List.all_eq_false]
      refine ⟨a, List.mem_of_getElem? ha, ?_⟩
      rw [Bool.not_eq_true'] at hf
      unfold isFig
      rw [hf]; decide
    · show PyData.bool true = .bool (isNum x)
      unfold isNum
      rw [hb, Bool.true_and]
      congr 1
      symm
      rw [List.all_eq_true]
      intro a ha
      obtain ⟨i, hi⟩ := List.mem_iff_getElem?.mp ha
      refine hj i a ?_ hi
      unfold sgD
      rw [List.length_map]
      exact (List.getElem?_eq_some_iff.mp hi).1
/-! ### the reader -/
section
variable {aPostError aBadBook aNoOffice aBadPosting aNoPosting aBadText : Addr}
theorem exc_BadText (E : Exs K mg aPostError aBadBook aNoOffice aBadPosting aNoPosting aBadText) : Exc1 P w K mg base "BadText" "row" aBadText 1 :=
  exc1_of E.x_BadText ⟨rfl, rfl, rfl, by decide +kernel, rfl, by decide +kernel, by decide +kernel⟩ rfl rfl rfl rfl rfl rfl rfl (fun env _ => rfl)
def TS0 : TS := ⟨0, 0, [], [], [], []⟩
theorem ok_mk_reader {C : Addr} (g : Reader_at K mg C) : MkG P w K mg base "Reader" C ["self"] 1 (spRN K C TS0.enc) := by
  refine fn_sdRN (N := ["self"]) g.mkd ⟨rfl, rfl, rfl, by decide +kernel, rfl, by decide +kernel, by decide +kernel⟩ rfl (by decide) (fun X c a dx => ?_)
  have hK := c.hK
  subst hK
  show SD X [.oin a dx C []] _ _
  refine sd_setfld c 0 g.cl g.na_row rfl (by kspl_open vis) ed_int rfl (by decide : 0 < 1000) ?_ rfl rfl rfl
  refine sd_setfld c 0 g.cl g.na_last rfl (by kspl_open vis) ed_int rfl (by decide : 1 < 1000) ?_ rfl rfl rfl
  show SD X [.oin a dx C [("row", .int 0), ("last", .int 0)]] _ _
  exact sd_rdTold c 0 g.cl g.na_told rfl (by kspl_open vis) rfl (fun A e1 e2 => sd_nil ⟨A, e1, e2, rfl⟩) rfl rfl rfl rfl rfl rfl rfl
theorem ok_must {C : Addr} (E : Exs K mg aPostError aBadBook aNoOffice aBadPosting aNoPosting aBadText) (g : Reader_at K mg C) : MethX P w K mg base C "must" ["self", "good"] 3 (spRd K C (fun s ds s' => ds = [.bool true] ∧ s' = s) (fun s ds cl f => ds = [.bool false] ∧ cl = .ref aBadText ∧ f = [(("row" : Str), PyData.int s.row)])) := by
  have Ex := exc_BadText (P := P) (w := w) (base := base) E
  refine fn_sdRd (N := ["self", "good"]) g.m_must ⟨rfl, rfl, rfl, by decide +kernel, rfl, by decide +kernel, by decide +kernel⟩ (fun s ds s' h => by rw [h.1]; rfl) (fun s ds cl f h => by rw [h.1]; rfl) (by decide) (fun X c A s ds s' h => ?_) (fun X c A s ds cl f h => ?_)
  · obtain ⟨rfl, rfl⟩ := h
    show SD X [.cus (rdC true C A s'), .dat (.bool true)] _ _
    refine sd_ifF (td_to (td_not (td_val (ed_var c 1 rfl (by kspl_open vis) rfl rfl rfl) (fun _ => rfl))) rfl) ?_
    exact sd_nil (sd_nil rfl)
  · obtain ⟨rfl, rfl, rfl⟩ := h
    have hK := c.hK
    subst hK
    show SD X [.cus (rdC true C A s), .dat (.bool false)] _ _
    refine sd_ifT (td_to (td_not (td_val (ed_var c 1 rfl (by kspl_open vis) rfl rfl rfl) (fun _ => rfl))) rfl) ?_
    exact sd_raise1 c Ex (by decide) rfl (ed_rdI c 0 g.cl g.na_row rfl (by kspl_open vis) rfl (.inl ⟨rfl, rfl⟩) rfl rfl rfl) rfl rfl ⟨rfl, rfl, s, rfl⟩
/-- x.must(e) as a statement -/
theorem sd_must {C : Addr} {A : RdA} {s : RdS} {mt : Bool} {T : Sta} {k : Nat} {X : Cx} {ks k1 : List SK} {x : Str} {e : Expr} {p1 apos pos pos' : Pos} {b : Bool} {rest : List Stmt} {Φ : Po} {pl : Sem Bool} (E : Exs K mg aPostError aBadBook aNoOffice aBadPosting aNoPosting aBadText) (g : Reader_at K mg C) (c : Ctx P w K mg base T k X) (hk : 3 ≤ k) (i : Nat) (hN : T.N[i]? = some x) (hv : Vis T.sc x)
    (h0 : ks[i]? = some (.cus (rdC mt C A s))) (h1 : k1[i]? = some (.cus (rdC mt C A s))) (ha : AD X ks [e] k1 [.bool b]) (ht : b = true → SD X k1 rest Φ) (hf : b = false → ∀ s', Φ.ex (k1.set i (.cus (rdC mt C A s'))) (.ref aBadText) [(("row" : Str), PyData.int s.row)])
    (hd : (x == ("__debug__" : Str)) = false) (hcd : (x == ("__classdict__" : Str)) = false) (hs : swapsWith (.Call (.Attribute (.Name x p1) "must" apos) [e] [] pos) none pos'.line X.env = pure false) (hst : starEach [e] X.env = (false, eval e X.env) :: starEach [] X.env) (hpl : (backTo pos (starEach [] X.env)).any (·.1) = false)
    (htt : eval (.Call (.Attribute (.Name x p1) "must" apos) [e] [] pos) X.env = (do
      let ov ← eval (.Name x p1) X.env
      standAt apos.atName
      let (f, first) ← holding [ov] (getMethod ov "must" pl)
      callWith pos f first (backTo pos (starEach [e] X.env)) (backToKw pos (keywordEach [] X.env)))) : SD X ks (.Expr (.Call (.Attribute (.Name x p1) "must" apos) [e] [] pos) pos' :: rest) Φ := by
  have F := ok_must (P := P) (w := w) (base := base) E g
  have hK := c.hK
  subst hK
  cases b with
  | true =>
    refine sd_rdCall c i g.cl F hk hN hv h0 rfl ha h1 ⟨rfl, rfl⟩ (SD.to ?_ (ht rfl)) hd hcd hs hst hpl htt
    exact List.ext_getElem? fun j => by
      by_cases q : j = i
      · subst q; rw [List.getElem?_set_self (List.getElem?_eq_some_iff.mp h1).1, h1]
      · rw [List.getElem?_set_ne (Ne.symm q)]
  | false => exact sd_rdCallX c i g.cl F hk hN hv h0 rfl ha h1 ⟨rfl, rfl, rfl⟩ (hf rfl) hd hcd hs hst hpl htt
theorem addT_enc {t : TS} {j : Nat} {ns : List Int} (hj : j < 4) (h4 : ns.length = 4 ∨ ¬ (j = 1 ∨ j = 2)) : ∃ t', addT t j ns = some t' ∧ t'.enc = { row := t.row + 1, last := (j : Int), told := t.enc.told.set j ((t.enc.told.getD j []) ++ [eInts ns]) } := by
  have four : ∀ l : List Int, l.length = 4 → ∃ a b c d, l = [a, b, c, d] := fun l h => by
    match l, h with
    | [a, b, c, d], _ => exact ⟨a, b, c, d, rfl⟩
  match j, hj with
  | 0, _ => exact ⟨_, rfl, by unfold TS.enc; simp⟩
  | 1, _ =>
    obtain ⟨a, b, c, d, rfl⟩ := four ns (h4.resolve_right (fun z => z (.inl rfl)))
    exact ⟨_, rfl, by unfold TS.enc; simp [eRow, eInts]⟩
  | 2, _ =>
    obtain ⟨a, b, c, d, rfl⟩ := four ns (h4.resolve_right (fun z => z (.inr rfl)))
    exact ⟨_, rfl, by unfold TS.enc; simp [eRow, eInts]⟩
  | 3, _ => exact ⟨_, rfl, by unfold TS.enc; simp⟩
  | j + 4, h => omega
theorem addT_none {t : TS} {j : Nat} {ns : List Int} (h : ¬ ns.length = 4) (hj : j = 1 ∨ j = 2) : addT t j ns = none := by
  rcases hj with rfl | rfl <;> (unfold addT; split <;> first | rfl | (rename_i z; exact absurd rfl h) | simp_all)
structure TkIn (t : TS) (x : Str) : Prop where
  o : okS x
  l : x.length ≤ 1000000
  s : t.small
theorem told_at {t : TS} {j : Nat} (h : j < 4) (s : t.small) : ∃ ds, t.enc.told[j]? = some ds ∧ t.enc.told.getD j [] = ds ∧ ds.length ≤ 1000 := by
  obtain ⟨a, b, c, d⟩ := s
  match j, h with
  | 0, _ => exact ⟨_, rfl, rfl, by rw [List.length_map]; exact a⟩
  | 1, _ => exact ⟨_, rfl, rfl, by rw [List.length_map]; exact b⟩
  | 2, _ => exact ⟨_, rfl, rfl, by rw [List.length_map]; exact c⟩
  | 3, _ => exact ⟨_, rfl, rfl, by rw [List.length_map]; exact d⟩
  | j + 4, h => omega
theorem take_body {C : Addr} (M : Md K mg) (E : Exs K mg aPostError aBadBook aNoOffice aBadPosting aNoPosting aBadText) (g : Reader_at K mg C) {X : Cx} (c : Ctx P w K mg base ⟨["self", "text", "words", "place", "word"], defScope s_Reader_take, fun _ => true⟩ 3 X) (A : RdA) {t : TS} {x : Str} (I : TkIn t x) :
    SD X [.cus (rdC true C A t.enc), .dat (.str x), .no, .no, .no] (defBody s_Reader_take) { nx := fun ks => ∃ t', takeT t (wordsOf x) = some t' ∧ ks[0]? = some (.cus (rdC true C A t'.enc)), rt := fun _ _ => False, ex := fun ks c' f' => takeT t (wordsOf x) = none ∧ c' = .ref aBadText ∧ f' = [(("row" : Str), PyData.int t.row)] ∧ ∃ s', ks[0]? = some (.cus (rdC true C A s')) } := by
  have Fn := ok_is_number (P := P) (w := w) (base := base) M
  obtain ⟨ho, hl, hsm⟩ := I
  have hK := c.hK
  subst hK
  refine sd_asgL c 2 rfl (by kspl_open loc) (.inl rfl) (Nat.le_of_ble_eq_true rfl) (el_split (ed_var c 1 rfl (by kspl_open vis) rfl rfl rfl) ed_str (by decide +kernel) (Nat.le_trans (show x.length + 2 ≤ 1000002 by omega) (Nat.le_of_ble_eq_true rfl)) rfl rfl rfl) rfl ?_
  refine sd_freeze 2 rfl ?_
  show SD X [.cus (rdC true C A t.enc), .dat (.str x), .dat (.list (sD (wordsOf x))), .no, .no] _ _
  have wo := words_ok ho
  have wl := words_len (x := x)
  cases hw : wordsOf x with
  | nil => exact absurd hw (words_ne x)
  | cons y r =>
    rw [hw] at wo wl
    have hr : cutD (sD (y :: r)) (some 1) none = sD r := cut_tail
    have hrz : r.length < sizeLine := by
      have h : (wordsOf x).length ≤ x.length + 2 := PyProof.Rows.split_le x " "
      rw [hw, List.length_cons] at h
      exact Nat.lt_of_lt_of_le (show r.length < 1000002 by omega) (Nat.le_of_ble_eq_true rfl)
    refine sd_must E g c (by decide) 0 rfl (by kspl_open vis) rfl rfl (b := decide (y ∈ sortsL)) (ad_cons (ed_to (ed_cmp (ed_ix (ed_var c 2 rfl (by kspl_open vis) rfl rfl rfl) ed_int ix0 (fun _ _ => rfl)) (ed_gtup c rfl ⟨M.t_SORTS⟩ rfl) (cd_inT c (Shp.ok (n := 1) (shp_str (wo y (by simp))) (by decide)) (shp_strsT sorts_ok)) (by with_unfolding_all rfl)) (congrArg PyData.bool any_str)) ad_nil rfl) (fun h1 => ?_) (fun h1 s' => ⟨?_, rfl, rfl, s', rfl⟩) rfl rfl rfl rfl rfl rfl
    · rw [place_in] at h1
      cases hp : placeS y with
      | none => rw [hp] at h1; cases h1
      | some j =>
        obtain ⟨p1, p2, p3⟩ := place_at hp
        have htk : takeT t (y :: r) = if (decide (t.last ≤ j) && t.bi.isEmpty) = true then if r.all isNum = true then addT t j (intsOf r) else none else none := by
          show takeJ t r (placeS y) = _
          rw [hp]
          rfl
        rw [htk]
        refine sd_asg c 3 rfl (by kspl_open loc) (.inl rfl) (Nat.le_of_ble_eq_true rfl) (ed_tupIx c rfl ⟨M.t_SORTS⟩ rfl (ed_ix (ed_var c 2 rfl (by kspl_open vis) rfl rfl rfl) ed_int ix0 (fun _ _ => rfl)) p1 p2 rfl rfl rfl rfl) rfl ?_
        show SD X [.cus (rdC true C A t.enc), .dat (.str x), .dat (.list (sD (y :: r))), .dat (.int (j : Nat)), .no] _ _
        refine sd_must E g c (by decide) 0 rfl (by kspl_open vis) rfl rfl (b := decide (t.last ≤ j) && t.bi.isEmpty) (ad_cons (ed_and (x := decide (t.last ≤ j)) (y := t.bi.isEmpty) (ed_to (ed_cmp (ed_var c 3 rfl (by kspl_open vis) rfl rfl rfl) (ed_rdI c 0 g.cl g.na_last rfl (by kspl_open vis) rfl (.inr ⟨rfl, rfl⟩) rfl rfl rfl) cd_ge (nomark _)) (congrArg PyData.bool (decide_eq_decide.mpr ⟨fun h => by have h : (t.last : Int) ≤ (j : Nat) := h; omega, fun h => by show (t.last : Int) ≤ (j : Nat); omega⟩))) (fun _ => ed_and1 (ed_to (rd_cmp c 0 g.cl g.na_told rfl (by kspl_open vis) rfl rfl rfl rfl (j := 3) rfl rfl (Shp.ok (n := 2) (.list (allM fun a _ => shp_intsT a)) (by decide)) (.inl ⟨rfl, rfl⟩)) (congrArg PyData.bool (by cases t.bi <;> rfl))))) ad_nil rfl) (fun h2 => ?_) (fun h2 s' => ⟨?_, rfl, rfl, s', rfl⟩) rfl rfl rfl rfl rfl rfl
        · rw [if_pos h2]
          refine sd_must E g c (by decide) 0 rfl (by kspl_open vis) rfl rfl (b := r.all isNum) (ad_cons (ed_to (ed_cmp (ed_el (el_filter c [("word", 4)] (xs := r) (enc := PyData.str) (fun z => !isNum z) PyData.str (by decide +kernel) rfl (id_seq (ed_to (d' := .list (sD r)) (ed_el (el_slL (ed_var c 2 rfl (by kspl_open vis) rfl rfl rfl) (po_yes ed_int) po_no)) (by rw [hr])) rfl) (all1 ⟨_, rfl, .inl rfl⟩) (fun X' c2 => (gd_name c2 4 rfl (by kspl_open loc) (by kspl_open loc))) ?hz (fun z hz => ⟨_, rfl, fun X' c2 => ts_one (td_not (td_val (ed_call c2 Fn (by decide) rfl (ad_cons (ed_var c2 4 rfl (by kspl_open vis) rfl rfl rfl) ad_nil rfl) ⟨z, rfl, wo z (by simp [hz]), by have := wl z (by simp [hz]); omega, rfl⟩ rfl rfl rfl) (fun _ => rfl))), ⟨.inr rfl, .inr rfl, .inr rfl, .inr rfl, .inl rfl, trivial⟩, fun _ X' c2 => (ed_var c2 4 rfl (by kspl_open vis) rfl rfl rfl)⟩) (fun _ => rfl))) (ed_el (el_lst ad_nil (Nat.le_of_ble_eq_true rfl))) (cd_eqD c (shp_strs fun z hz => wo z (List.mem_cons_of_mem _ (List.mem_filter.mp hz).1)) (Shp.ok (n := 1) (.list allN) (by decide))) (nomark _)) (congrArg PyData.bool (by rw [filter_nonT]; exact (List.all_eq_not_any_not ..).symm))) ad_nil rfl) (fun h3 => ?_) (fun h3 s' => ⟨?_, rfl, rfl, s', rfl⟩) rfl rfl rfl rfl rfl rfl
          case hz => exact hrz
          · rw [if_pos h3]
            have hlr : (intsOf r).length = r.length := by unfold intsOf; rw [List.length_map]
            refine sd_must E g c (by decide) 0 rfl (by kspl_open vis) rfl rfl (b := decide (r.length = 4) || !(decide (j = 1) || decide (j = 2))) (ad_cons (ed_or (x := decide (r.length = 4)) (y := !(decide (j = 1) || decide (j = 2))) (ed_to (ed_cmp (ed_callB c rfl M.b_len PySem.boot_len (ad_cons (ed_var c 2 rfl (by kspl_open vis) rfl rfl rfl) ad_nil rfl) (by kspl_open cl) (by decide) rfl rfl rfl) ed_int (by kspl_open cd) (nomark _)) (congrArg PyData.bool (decide_eq_decide.mpr (by rw [List.length_map, List.length_cons]; omega)))) (fun _ => ed_and1 (ed_to (ed_cmp (ed_var c 3 rfl (by kspl_open vis) rfl rfl rfl) (ed_tup (ad_cons ed_int (ad_cons ed_int ad_nil rfl) rfl) (Nat.le_of_ble_eq_true rfl)) (cd_niT c (Shp.ok (n := 1) (.int _) (by decide)) (Shp.ok (n := 2) (.tuple (allC (.int _) (allC (.int _) allN))) (by decide))) (by with_unfolding_all rfl)) ?hni))) ad_nil rfl) (fun h4 => ?_) (fun h4 s' => ⟨?_, rfl, rfl, s', rfl⟩) rfl rfl rfl rfl rfl rfl
            case hni =>
              match j, p3 with
              | 0, _ => rfl
              | 1, _ => rfl
              | 2, _ => rfl
              | 3, _ => rfl
              | j + 4, h => omega
            · have h4' : (intsOf r).length = 4 ∨ ¬ (j = 1 ∨ j = 2) := by
                rw [hlr]
                rw [Bool.or_eq_true] at h4
                rcases h4 with z | z
                · exact .inl (of_decide_eq_true z)
                · right
                  simpa using z
              obtain ⟨t', e1, e2⟩ := addT_enc (t := t) p3 h4'
              obtain ⟨ds, d1, d2, d3⟩ := told_at p3 hsm
              refine sd_rdSet c 0 g.cl g.na_last rfl (by kspl_open vis) (ed_var c 3 rfl (by kspl_open vis) rfl rfl rfl) rfl (.inr ⟨rfl, rfl⟩) ?_ rfl rfl rfl
              refine sd_rdApp c 0 g.cl g.na_told (j := j) rfl (by kspl_open vis) (ed_var c 3 rfl (by kspl_open vis) rfl rfl rfl) (d := eInts (intsOf r)) (ed_to (ed_callT c rfl M.b_tuple PyProof.Rows.boot_tuple (ad_cons (ed_el (el_map c [("word", 4)] (xs := r) (enc := PyData.str) (fun z => PyData.int ((PySem.intText? z).getD 0)) (by decide +kernel) rfl (id_seq (ed_to (d' := .list (sD r)) (ed_el (el_slL (ed_var c 2 rfl (by kspl_open vis) rfl rfl rfl) (po_yes ed_int) po_no)) (by rw [hr])) rfl) (all1 ⟨_, rfl, .inl rfl⟩) (fun X' c2 => (gd_name c2 4 rfl (by kspl_open loc) (by kspl_open loc))) ?hz2 (fun z hz => ?turn) (fun _ => rfl))) ad_nil rfl) (by kspl_open cl) (by decide) rfl rfl rfl) (by unfold eInts intsOf; rw [List.map_map]; rfl)) rfl d1 (Nat.lt_of_le_of_lt d3 (Nat.lt_of_lt_of_le (show 1000 < 1001 by decide) (Nat.le_of_ble_eq_true rfl))) ?_ rfl rfl (fun _ _ => rfl) rfl rfl rfl rfl rfl rfl
              case hz2 => exact hrz
              case turn =>
                have hn := List.all_eq_true.mp h3 z hz
                obtain ⟨n, n1, n2⟩ := bytes_num hn
                exact ⟨_, rfl, fun X' c2 => ed_to (ed_callT c2 rfl M.b_int PyProof.Rows.boot_int (ad_cons (ed_var c2 4 rfl (by kspl_open vis) rfl rfl rfl) ad_nil rfl) (cl_intS n1 n2) (by decide) rfl rfl rfl) (by rw [n1]; rfl), ⟨.inr rfl, .inr rfl, .inr rfl, .inr rfl, .inl rfl, trivial⟩⟩
              refine sd_rdSet c 0 g.cl g.na_row rfl (by kspl_open vis) (ed_bin (ed_rdI c 0 g.cl g.na_row rfl (by kspl_open vis) rfl (.inl ⟨rfl, rfl⟩) rfl rfl rfl) ed_int bd_add) rfl (.inl ⟨rfl, rfl⟩) ?_ rfl rfl rfl
              refine sd_nil ⟨t', e1, ?_⟩
              rw [e2, d2]
              rfl
            · rw [Bool.or_eq_false_iff] at h4
              refine addT_none (by rw [hlr]; exact of_decide_eq_false h4.1) ?_
              have := h4.2
              rw [Bool.not_eq_false', Bool.or_eq_true] at this
              exact this.imp of_decide_eq_true of_decide_eq_true
          · rw [h3]; rfl
        · rw [h2]; rfl
    · rw [place_in] at h1
      show takeJ t r (placeS y) = none
      cases hp : placeS y with
      | none => rfl
      | some j => rw [hp] at h1; cases h1
theorem ok_take {C : Addr} (M : Md K mg) (E : Exs K mg aPostError aBadBook aNoOffice aBadPosting aNoPosting aBadText) (g : Reader_at K mg C) : MethX P w K mg base C "take" ["self", "text"] 4 (spRd K C (fun s ds s' => ∃ t x t', s = TS.enc t ∧ ds = [.str x] ∧ TkIn t x ∧ takeT t (wordsOf x) = some t' ∧ s' = t'.enc) (fun s ds cl f => ∃ t x, s = TS.enc t ∧ ds = [.str x] ∧ TkIn t x ∧ takeT t (wordsOf x) = none ∧ cl = .ref aBadText ∧ f = [(("row" : Str), PyData.int t.row)])) := by
  refine fn_sdRd (N := ["self", "text", "words", "place", "word"]) g.m_take ⟨rfl, rfl, rfl, by decide +kernel, rfl, by decide +kernel, by decide +kernel⟩ (fun s ds s' ⟨_, _, _, _, e, _⟩ => by rw [e]; rfl) (fun s ds cl f ⟨_, _, _, e, _⟩ => by rw [e]; rfl) (by decide) (fun X c A s ds s' h => ?_) (fun X c A s ds cl f h => ?_)
  · obtain ⟨t, x, t', rfl, rfl, I, ht, rfl⟩ := h
    exact (take_body M E g c A I).imp (fun ks ⟨t2, h1, h2⟩ => by rw [ht] at h1; cases h1; exact h2) (fun _ _ z => z) (fun _ _ z => z) (fun _ z => z) (fun _ z => z) (fun _ _ _ _ z => z) (fun ks c f ⟨h1, _⟩ => by rw [ht] at h1; cases h1) (fun _ _ z => z)
  · obtain ⟨t, x, rfl, rfl, I, ht, rfl, rfl⟩ := h
    exact (take_body M E g c A I).imp (fun ks ⟨t2, h1, h2⟩ => by rw [ht] at h1; cases h1) (fun _ _ z => z) (fun _ _ z => z) (fun _ z => z) (fun _ z => z) (fun _ _ _ _ z => z) (fun ks c f ⟨_, h1, h2, h3⟩ => ⟨h1, h2, h3⟩) (fun _ _ z => z)
end
end
end K
namespace K
open PySem L2 Z
section
variable {P : Program} {w : World} {K : PySem.W.Frag} {mg : Str → Option Value} {base : Heap} [Tabl]
-- use Ta Tb Tc Td Te
/-! ### read -/
/-- rows taken one by one: what they told, and whether all were taken -/
def runT (t : TS) : List Str → TS × Bool
  | [] => (t, true)
  | x :: r => match takeT t (wordsOf x) with
    | none => (t, false)
    | some t' => runT t' r
def TS.book (t : TS) : Book := ⟨t.fl, t.st, t.ca, t.bi.headD []⟩
theorem addT_len {t t' : TS} {j : Nat} {ns : List Int} (h : addT t j ns = some t') {m : Nat} (s : t.fl.length ≤ m ∧ t.st.length ≤ m ∧ t.ca.length ≤ m ∧ t.bi.length ≤ m) : t'.fl.length ≤ m + 1 ∧ t'.st.length ≤ m + 1 ∧ t'.ca.length ≤ m + 1 ∧ t'.bi.length ≤ m + 1 := by
  obtain ⟨a, b, c, d⟩ := s
  unfold addT at h
  split at h <;> first | (cases h; simp; omega) | cases h
theorem takeT_len {t t' : TS} {ws : List Str} (h : takeT t ws = some t') {m : Nat} (s : t.fl.length ≤ m ∧ t.st.length ≤ m ∧ t.ca.length ≤ m ∧ t.bi.length ≤ m) : t'.fl.length ≤ m + 1 ∧ t'.st.length ≤ m + 1 ∧ t'.ca.length ≤ m + 1 ∧ t'.bi.length ≤ m + 1 := by
  cases ws with
  | nil => cases h
  | cons y r =>
    have h : takeJ t r (placeS y) = some t' := h
    cases hp : placeS y with
    | none => rw [hp] at h; cases h
    | some j =>
      rw [hp] at h
      have h : (if (decide (t.last ≤ j) && t.bi.isEmpty) = true then if r.all isNum = true then addT t j (intsOf r) else none else none) = some t' := h
      split at h
      · split at h
        · exact addT_len h s
        · cases h
      · cases h
theorem runT_take {t : TS} {l : List Str} {i : Nat} : ∀ {t0 : TS}, runT t0 (l.take i) = (t, true) → ∀ {x : Str}, l[i]? = some x → runT t0 (l.take (i + 1)) = (match takeT t (wordsOf x) with | none => (t, false) | some t' => (t', true)) := by
  induction l generalizing i with
  | nil => intro t0 h x hx; simp at hx
  | cons y r ih =>
    intro t0 h x hx
    cases i with
    | zero =>
      have h : (t0, true) = (t, true) := h
      cases h
      have hx : y = x := by simpa using hx
      subst hx
      show (match takeT t (wordsOf y) with | none => (t, false) | some t' => runT t' []) = _
      cases takeT t (wordsOf y) <;> rfl
    | succ i =>
      have h : (match takeT t0 (wordsOf y) with | none => (t0, false) | some t' => runT t' (r.take i)) = (t, true) := h
      show (match takeT t0 (wordsOf y) with | none => (t0, false) | some t' => runT t' (r.take (i + 1))) = _
      cases e : takeT t0 (wordsOf y) with
      | none => rw [e] at h; cases h
      | some t1 =>
        rw [e] at h
        exact ih h (by simpa using hx)
theorem runT_stop {t : TS} {l : List Str} {i : Nat} : ∀ {t0 : TS}, runT t0 (l.take (i + 1)) = (t, false) → runT t0 l = (t, false) := by
  induction l generalizing i with
  | nil => intro t0 h; exact h
  | cons y r ih =>
    intro t0 h
    have h : (match takeT t0 (wordsOf y) with | none => (t0, false) | some t' => runT t' (r.take i)) = (t, false) := h
    show (match takeT t0 (wordsOf y) with | none => (t0, false) | some t' => runT t' r) = (t, false)
    cases e : takeT t0 (wordsOf y) with
    | none => rw [e] at h; exact h
    | some t1 =>
      rw [e] at h
      cases i with
      | zero =>
        have h : (t1, true) = (t, false) := h
        cases h
      | succ i => exact ih h
section
variable {aPostError aBadBook aNoOffice aBadPosting aNoPosting aBadText : Addr}
/-- what read answers to a text -/
def ReadO (x : Str) (d : PyData) : Prop := ∃ t, runT TS0 (Txt.split x nlS) = (t, true) ∧ t.bi ≠ [] ∧ Good t.book ∧ d = eBook t.book
def ReadX (aT aB : Addr) (x : Str) (c : Value) (f : List (Str × PyData)) : Prop := ∃ t b, runT TS0 (Txt.split x nlS) = (t, b) ∧ (((b = false ∨ t.bi = []) ∧ c = .ref aT ∧ f = [(("row" : Str), PyData.int t.row)]) ∨ (b = true ∧ t.bi ≠ [] ∧ ∃ wy, whyB t.book wy ∧ c = .ref aB ∧ f = whyF (.str wy)))
theorem ok_read (M : Md K mg) (E : Exs K mg aPostError aBadBook aNoOffice aBadPosting aNoPosting aBadText) : FnX P w K mg base "read" ["text"] 6 (spO K (fun (x : Str) ds => ds = [.str x] ∧ okS x ∧ x.length ≤ 900 * 1000 ∧ (Txt.split x nlS).length ≤ 1000) ReadO (ReadX aBadText aBadBook)) := by
  obtain ⟨C, g⟩ := M.g_Reader
  have Fm := ok_mk_reader (P := P) (w := w) (base := base) g
  have Ft := ok_take (P := P) (w := w) (base := base) M E g
  have Fb := ok_need_bookX (P := P) (w := w) (base := base) M E
  refine fn_sdO (N := ["text", "reader", "row", "flights", "storms", "carts", "birds", "book"]) M.d_read ⟨rfl, rfl, rfl, by decide +kernel, rfl, by decide +kernel, by decide +kernel⟩ (fun i ds e => by rw [e.1]; rfl) (by decide) (fun X c _ x ds e => ?_)
  obtain ⟨rfl, ho, hl, hn⟩ := e
  have hK := c.hK
  subst hK
  show SD X [.dat (.str x), .no, .no, .no, .no, .no, .no, .no] _ _
  refine sd_rdNew c 1 Fm (by decide) rfl rfl (by kspl_open loc) (.inl rfl) (Nat.le_of_ble_eq_true rfl) (fun A => ?_) rfl rfl
  show SD X [.dat (.str x), .cus (rdC false C A TS0.enc), .no, .no, .no, .no, .no, .no] _ _
  have so := split_okS (x := x) (y := nlS) (by rw [nl_tl]; simp) nl_k ho
  have sl := split_len (x := x) (y := nlS) (by rw [nl_tl]; simp) nl_k
  generalize hrows : Txt.split x nlS = rows at hn so sl
  refine sd_forP c (ds := sD rows) (fun i ls => ∃ t, runT TS0 (rows.take i) = (t, true) ∧ (t.fl.length ≤ i ∧ t.st.length ≤ i ∧ t.ca.length ≤ i ∧ t.bi.length ≤ i) ∧ Wk ls [.dat (.str x), .cus (rdC false C A t.enc), .no, .no, .no, .no, .no, .no]) (id_lst (ed_to (ed_el (el_split (ed_var c 0 rfl (by kspl_open vis) rfl rfl rfl) ed_str (by decide +kernel) (Nat.le_trans (show x.length + 2 ≤ 1000002 by omega) (Nat.le_of_ble_eq_true rfl)) rfl rfl rfl)) (by rw [← hrows]))) (gd_name c 2 rfl (by kspl_open loc) (by kspl_open loc)) ⟨TS0, rfl, ⟨Nat.le_refl _, Nat.le_refl _, Nat.le_refl _, Nat.le_refl _⟩, ⟨.inr rfl, .inr rfl, .inr rfl, .inr rfl, .inr rfl, .inr rfl, .inr rfl, .inr rfl, trivial⟩⟩ (fun i d ls hd hF => ?_) (fun ls hF => ?_) (fun _ => rfl)
  · obtain ⟨y, hy, rfl⟩ := map_get hd
    obtain ⟨t, ht, hs, hw⟩ := hF
    have hi : i < rows.length := (List.getElem?_eq_some_iff.mp hy).1
    have ym := List.mem_of_getElem? hy
    have I : TkIn t y := ⟨so y ym, by have := sl y ym; omega, ⟨by omega, by omega, by omega, by omega⟩⟩
    have hrun := runT_take ht hy
    have hlen := Wk.len hw
    refine ⟨ls.set 2 (.dat (.str y)), by show (if 2 < ls.length then some (ls.set 2 (.dat (.str y))) else none) = _; rw [if_pos (by rw [hlen]; show 2 < 8; decide)], ?_⟩
    refine sd_weak (ls := [.dat (.str x), .cus (rdC false C A t.enc), .dat (.str y), .no, .no, .no, .no, .no]) ?_ ?_
    · match ls, hw with
      | [a0, a1, a2, a3, a4, a5, a6, a7], ⟨h0, h1, h2, h3, h4, h5, h6, h7, _⟩ => exact ⟨h0, h1, .inr rfl, h3, h4, h5, h6, h7, trivial⟩
    cases hk : takeT t (wordsOf y) with
    | some t' =>
      rw [hk] at hrun
      refine sd_rdCall c 1 g.cl Ft (by decide) rfl (by kspl_open vis) rfl rfl (ad_cons (ed_var c 2 rfl (by kspl_open vis) rfl rfl rfl) ad_nil rfl) rfl ⟨t, y, t', rfl, rfl, I, hk, rfl⟩ ?_ rfl rfl rfl rfl rfl rfl
      exact sd_nil ⟨t', hrun, takeT_len hk hs, ⟨.inr rfl, .inr rfl, .inl rfl, .inr rfl, .inr rfl, .inr rfl, .inr rfl, .inr rfl, trivial⟩⟩
    | none =>
      rw [hk] at hrun
      refine sd_rdCallX c 1 g.cl Ft (by decide) rfl (by kspl_open vis) rfl rfl (ad_cons (ed_var c 2 rfl (by kspl_open vis) rfl rfl rfl) ad_nil rfl) rfl ⟨t, y, rfl, rfl, I, hk, rfl, rfl⟩ (fun s' => ?_) rfl rfl rfl rfl rfl rfl
      refine ⟨t, false, ?_, .inl ⟨.inl rfl, rfl, rfl⟩⟩
      rw [hrows]
      exact runT_stop hrun
  · obtain ⟨t, ht, hs, hw⟩ := hF
    have hlen : (sD rows).length = rows.length := List.length_map ..
    rw [hlen, List.take_length] at ht
    rw [hlen] at hs
    refine sd_weak hw ?_
    refine sd_must E g c (by decide) 1 rfl (by kspl_open vis) rfl rfl (b := !t.bi.isEmpty) (ad_cons (ed_to (rd_cmp c 1 g.cl g.na_told rfl (by kspl_open vis) rfl rfl rfl rfl (j := 3) rfl rfl (Shp.ok (n := 2) (.list (allM fun a _ => shp_intsT a)) (by decide)) (.inr ⟨rfl, rfl⟩)) (congrArg PyData.bool (by cases t.bi <;> rfl))) ad_nil rfl) (fun h1 => ?_) (fun h1 s' => ?_) rfl rfl rfl rfl rfl rfl
    · have hne : t.bi ≠ [] := by
        intro z
        rw [z] at h1
        cases h1
      refine sd_unpack c (ed_rdGive c 1 g.cl g.na_told rfl (by kspl_open vis) rfl rfl rfl rfl) (gd_tupL c (gs_cons c 3 rfl (by kspl_open loc) (by kspl_open loc) (gs_cons c 4 rfl (by kspl_open loc) (by kspl_open loc) (gs_cons c 5 rfl (by kspl_open loc) (by kspl_open loc) (gs_cons c 6 rfl (by kspl_open loc) (by kspl_open loc) gs_nil rfl) rfl) rfl) rfl) rfl rfl) rfl rfl rfl rfl ?_
      show SD X [.dat (.str x), .no, .no, .dat (.list (t.fl.map eInts)), .dat (.list (t.st.map eRow)), .dat (.list (t.ca.map eRow)), .dat (.list (t.bi.map eInts)), .no] _ _
      have hb : ixD (.list (t.bi.map eInts)) 0 = some (eInts (t.bi.headD [])) := by
        cases hbi : t.bi with
        | nil => exact absurd hbi hne
        | cons a r => exact ix0
      refine sd_asg c 7 rfl (by kspl_open loc) (.inl rfl) (Nat.le_of_ble_eq_true rfl) (ed_tup (ad_cons (ed_callT c rfl M.b_tuple PyProof.Rows.boot_tuple (ad_cons (ed_var c 3 rfl (by kspl_open vis) rfl rfl rfl) ad_nil rfl) (by kspl_open cl) (by decide) rfl rfl rfl) (ad_cons (ed_callT c rfl M.b_tuple PyProof.Rows.boot_tuple (ad_cons (ed_var c 4 rfl (by kspl_open vis) rfl rfl rfl) ad_nil rfl) (by kspl_open cl) (by decide) rfl rfl rfl) (ad_cons (ed_callT c rfl M.b_tuple PyProof.Rows.boot_tuple (ad_cons (ed_var c 5 rfl (by kspl_open vis) rfl rfl rfl) ad_nil rfl) (by kspl_open cl) (by decide) rfl rfl rfl) (ad_cons (ed_ix (ed_var c 6 rfl (by kspl_open vis) rfl rfl rfl) ed_int hb (fun _ _ => rfl)) ad_nil rfl) rfl) rfl) rfl) (Nat.le_of_ble_eq_true rfl)) rfl ?_
      show SD X [.dat (.str x), .no, .no, .dat (.list (t.fl.map eInts)), .dat (.list (t.st.map eRow)), .dat (.list (t.ca.map eRow)), .dat (.list (t.bi.map eInts)), .dat (eBook t.book)] _ _
      refine sd_exprO c (i := t.book) Fb (by decide) rfl (ad_cons (ed_var c 7 rfl (by kspl_open vis) rfl rfl rfl) ad_nil rfl) rfl (fun ⟨d, hg, _⟩ => ?_) (fun cls fs z => ?_) rfl rfl rfl rfl
      · exact sd_ret (ed_var c 7 rfl (by kspl_open vis) rfl rfl rfl) ⟨t, by rw [hrows]; exact ht, hne, hg, rfl⟩
      · obtain ⟨wy, z1, z2, z3⟩ := z
        exact ⟨t, true, by rw [hrows]; exact ht, .inr ⟨rfl, hne, wy, z1, z2, z3⟩⟩
    · refine ⟨t, true, by rw [hrows]; exact ht, .inl ⟨.inr ?_, rfl, rfl⟩⟩
      rw [Bool.not_eq_false'] at h1
      simpa using h1
end
end
end K
namespace K
open PySem L2 Z
section
variable {P : Program} {w : World} {K : PySem.W.Frag} {mg : Str → Option Value} {base : Heap} [Tabl]
-- use Ta Tb Tc Td Te
/-! ### books as texts: plain -/
abbrev numS (n : Int) : Str := toString n
def rowS (x : Str) (ns : List Int) : Str := Txt.join spS (x :: ns.map numS)
def r4 (r : Row) : List Int := [r.1, r.2.1, r.2.2.1, r.2.2.2]
def rowsB (B : Book) : List Str := B.fl.map (rowS "flights") ++ (B.st.map (fun r => rowS "storm" (r4 r)) ++ (B.ca.map (fun r => rowS "cart" (r4 r)) ++ [rowS "birds" B.bi]))
def textB (B : Book) : Str := Txt.join nlS (rowsB B)
def Figs (ns : List Int) : Prop := ∀ n ∈ ns, 0 ≤ n ∧ n < 1000000000
theorem num_tl {n : Int} (h : 0 ≤ n) : TL.tl (numS n) = TL.numL n.toNat := by
  obtain ⟨k, rfl⟩ : ∃ k : Nat, n = (k : Int) := ⟨n.toNat, by omega⟩
  exact TL.tl_num k
theorem num_len {n : Int} (h : 0 ≤ n ∧ n < 1000000000) : (numS n).length ≤ 9 := by
  rw [TL.len_tl, num_tl h.1]
  exact TL.numL_len (k := 9) (by decide) (by have := h.2; omega)
theorem numL_head {n : Nat} (h : (TL.numL n).head? = some 48) : n = 0 := by
  induction n using Nat.strongRecOn with
  | _ n ih =>
    by_cases q : n < 10
    · rw [TL.numL_lt q] at h
      simp at h
      exact h
    · rw [TL.numL_step (by omega)] at h
      have hne := TL.numL_ne (n / 10)
      have h2 : (TL.numL (n / 10)).head? = some 48 := by
        cases e : TL.numL (n / 10) with
        | nil => exact absurd e hne
        | cons a r => rw [e] at h; exact h
      have := ih (n / 10) (by omega) h2
      omega
theorem num_isNum {n : Int} (h : 0 ≤ n ∧ n < 1000000000) : isNum (numS n) = true := by
  have ht : (numS n).cps.toList = TL.numL n.toNat := num_tl h.1
  have hl := num_len h
  have hne := TL.numL_ne n.toNat
  have hl1 : 1 ≤ (numS n).length := by
    rw [TL.len_tl, num_tl h.1]
    exact List.length_pos_iff.mpr hne
  unfold isNum
  rw [Bool.and_eq_true]
  constructor
  · unfold numHead
    rw [decide_eq_true (show (1 : Int) ≤ ((numS n).length : Int) by omega), decide_eq_true (show ((numS n).length : Int) ≤ 9 by omega)]
    simp only [Bool.and_self, Bool.not_true, Bool.false_or, Bool.not_eq_true', Bool.and_eq_false_iff, decide_eq_false_iff_not, Bool.not_eq_false', decide_eq_true_eq]
    by_cases q : (numS n).cps.toList.head? = some 48
    · right
      rw [ht] at q
      have z := numL_head q
      have : n = 0 := by have := h.1; omega
      subst this
      decide +kernel
    · exact .inl q
  · rw [List.all_eq_true]
    intro c hc
    rw [ht] at hc
    have := TL.numL_digits _ c hc
    unfold isFig
    have e : figS.cps.toList = [48, 49, 50, 51, 52, 53, 54, 55, 56, 57] := by decide +kernel
    rw [e]
    apply decide_eq_true
    simp
    omega
theorem num_int {n : Int} (h : 0 ≤ n ∧ n < 1000000000) : PySem.intText? (numS n) = some n := by
  obtain ⟨k, rfl⟩ : ∃ k : Nat, n = (k : Int) := ⟨n.toNat, by have := h.1; omega⟩
  refine TL.int_num ?_
  have := TL.numL_len (n := k) (k := 9) (by decide) (by have := h.2; omega)
  omega
theorem ints_num {ns : List Int} (h : Figs ns) : intsOf (ns.map numS) = ns := by
  unfold intsOf
  rw [List.map_map]
  have : ∀ n ∈ ns, ((fun x => (PySem.intText? x).getD 0) ∘ numS) n = n := fun n hn => by
    show (PySem.intText? (numS n)).getD 0 = n
    rw [num_int (h n hn)]; rfl
  exact (List.map_congr_left this).trans (List.map_id _)
theorem join_tl (y : Str) (l : List Str) : TL.tl (Txt.join y l) = TL.joinL (TL.tl y) (l.map TL.tl) := by rw [TL.join_eq, TL.tl_join]
theorem joinL_in {S : List Nat} : ∀ {l : List (List Nat)} {c : Nat}, c ∈ TL.joinL S l → c ∈ S ∨ ∃ p ∈ l, c ∈ p
  | [], c, h => by cases h
  | [p], c, h => .inr ⟨p, by simp, h⟩
  | p :: q :: r, c, h => by
    have h : c ∈ p ++ (S ++ TL.joinL S (q :: r)) := h
    rcases List.mem_append.mp h with z | z
    · exact .inr ⟨p, by simp, z⟩
    · rcases List.mem_append.mp z with y | y
      · exact .inl y
      · rcases joinL_in y with w | ⟨p', h1, h2⟩
        · exact .inl w
        · exact .inr ⟨p', by simp [List.mem_cons.mp h1], h2⟩
theorem joinL_len {S : List Nat} : ∀ (l : List (List Nat)), (TL.joinL S l).length ≤ (l.map List.length).sum + l.length * S.length
  | [] => Nat.zero_le _
  | [p] => by
    show p.length ≤ _
    simp
  | p :: q :: r => by
    show (p ++ (S ++ TL.joinL S (q :: r))).length ≤ _
    have := joinL_len (S := S) (q :: r)
    simp only [List.length_append, List.map_cons, List.sum_cons, List.length_cons, Nat.add_mul, Nat.one_mul] at this ⊢
    omega
theorem sum_le {m : Nat} : ∀ {l : List Nat}, (∀ x ∈ l, x ≤ m) → l.sum ≤ l.length * m
  | [], _ => Nat.zero_le _
  | a :: r, h => by
    have := sum_le (fun x hx => h x (List.mem_cons_of_mem _ hx)) (l := r)
    have := h a (by simp)
    simp only [List.sum_cons, List.length_cons, Nat.add_mul, Nat.one_mul]
    omega
theorem join_len {y : Str} {l : List Str} {m : Nat} (h : ∀ x ∈ l, x.length ≤ m) : (Txt.join y l).length ≤ l.length * m + l.length * y.length := by
  have := joinL_len (S := TL.tl y) (l.map TL.tl)
  have hs : ((l.map TL.tl).map List.length).sum ≤ (l.map TL.tl).length * m := by
    have := sum_le (l := (l.map TL.tl).map List.length) (m := m) (fun x hx => by
      obtain ⟨z, hz, rfl⟩ := List.mem_map.mp hx
      obtain ⟨w, hw, rfl⟩ := List.mem_map.mp hz
      rw [← TL.len_tl]; exact h w hw)
    rwa [List.length_map] at this
  rw [TL.len_tl, join_tl, TL.len_tl y]
  simp only [List.length_map] at this hs ⊢
  omega
theorem join_sum {l : List Str} {m : Nat} (h : ∀ x ∈ l, x.length ≤ m) : (l.map (·.length)).sum ≤ l.length * m := by
  have := sum_le (l := l.map (·.length)) (m := m) (fun x hx => by
    obtain ⟨z, hz, rfl⟩ := List.mem_map.mp hx
    exact h z hz)
  rwa [List.length_map] at this
theorem lit_free {x : Str} {c : Nat} (h : (x.cps.toList.all fun a => !decide (a = c)) = true) : c ∉ TL.tl x := fun hc => by
  have := List.all_eq_true.mp h c hc
  simp at this
theorem row_words {x : Str} {ns : List Int} (hx : 32 ∉ TL.tl x) (h : Figs ns) : wordsOf (rowS x ns) = x :: ns.map numS := by
  refine TL.split_join (s := 32) (S := []) sp_tl sp_k (by simp) fun p hp => ?_
  rcases List.mem_cons.mp hp with z | z
  · rw [z]; exact hx
  · obtain ⟨n, hn, rfl⟩ := List.mem_map.mp z
    rw [num_tl (h n hn).1]
    exact TL.numL_free (by decide)
theorem row_free {x : Str} {ns : List Int} (hx : 10 ∉ TL.tl x) (h : Figs ns) : 10 ∉ TL.tl (rowS x ns) := fun hc => by
  unfold rowS at hc
  rw [join_tl, sp_tl] at hc
  rcases joinL_in hc with z | ⟨p, h1, h2⟩
  · simp at z
  · obtain ⟨q, hq, rfl⟩ := List.mem_map.mp h1
    rcases List.mem_cons.mp hq with y | y
    · rw [y] at h2; exact hx h2
    · obtain ⟨n, hn, rfl⟩ := List.mem_map.mp y
      rw [num_tl (h n hn).1] at h2
      exact TL.numL_free (by decide) h2
theorem row_ok {x : Str} {ns : List Int} (hx : okS x) (h : Figs ns) : okS (rowS x ns) := fun c hc => by
  have hc : c ∈ TL.tl (rowS x ns) := hc
  unfold rowS at hc
  rw [join_tl, sp_tl] at hc
  rcases joinL_in hc with z | ⟨p, h1, h2⟩
  · simp at z; omega
  · obtain ⟨q, hq, rfl⟩ := List.mem_map.mp h1
    rcases List.mem_cons.mp hq with y | y
    · rw [y] at h2; exact hx c h2
    · obtain ⟨n, hn, rfl⟩ := List.mem_map.mp y
      rw [num_tl (h n hn).1] at h2
      have := TL.numL_digits _ c h2
      omega
theorem row_len {x : Str} {ns : List Int} (hx : x.length ≤ 9) (h : Figs ns) : (rowS x ns).length ≤ (ns.length + 1) * 10 := by
  unfold rowS
  have := join_len (y := spS) (l := x :: ns.map numS) (m := 9) (fun z hz => by
    rcases List.mem_cons.mp hz with y | y
    · rw [y]; exact hx
    · obtain ⟨n, hn, rfl⟩ := List.mem_map.mp y
      exact num_len (h n hn))
  have e : spS.length = 1 := by decide +kernel
  rw [e] at this
  simp only [List.length_cons, List.length_map] at this
  omega
theorem fl_figs {B : Book} (g : Good B) {r : List Int} (hr : r ∈ B.fl) : Figs r := fun n hn => by
  obtain ⟨i, hi⟩ := List.mem_iff_getElem?.mp hr
  obtain ⟨j, hj⟩ := List.mem_iff_getElem?.mp hn
  have rl := g.rows r hr
  have jj : B.off (j : Int) := ⟨by omega, by have := (List.getElem?_eq_some_iff.mp hj).1; rw [rl] at this; exact Int.ofNat_lt.mpr this⟩
  have := g.vals (i : Int) (j : Int) (row_at hi).2 jj
  rw [f_at hi hj] at this
  split at this <;> omega
theorem r4_figs {B : Book} {r : Row} (g : Good B) (h : GoodRow B r) : Figs (r4 r) := fun n hn => by
  have n6 := g.n6
  obtain ⟨⟨a1, a2⟩, ⟨b1, b2⟩, c, d, e, f⟩ := h
  unfold r4 at hn
  simp only [List.mem_cons, List.not_mem_nil, or_false] at hn
  rcases hn with rfl | rfl | rfl | rfl <;> omega
theorem bi_figs {B : Book} (g : Good B) : Figs B.bi := fun n hn => by
  have n6 := g.n6
  obtain ⟨a, b⟩ := g.bi n hn
  omega
structure RwS (x : Str) (m : Nat) : Prop where
  o : okS x
  f : 10 ∉ TL.tl x
  l : x.length ≤ m
theorem w_fl : RwS "flights" 9 := ⟨okS_all (by decide +kernel), lit_free (by decide +kernel), by decide +kernel⟩
theorem w_st : RwS "storm" 9 := ⟨okS_all (by decide +kernel), lit_free (by decide +kernel), by decide +kernel⟩
theorem w_ca : RwS "cart" 9 := ⟨okS_all (by decide +kernel), lit_free (by decide +kernel), by decide +kernel⟩
theorem w_bi : RwS "birds" 9 := ⟨okS_all (by decide +kernel), lit_free (by decide +kernel), by decide +kernel⟩
theorem rwS {x : Str} {ns : List Int} (h : RwS x 9) (f : Figs ns) (l : ns.length ≤ 6) : RwS (rowS x ns) 70 := ⟨row_ok h.o f, row_free h.f f, by have := row_len h.l f; omega⟩
theorem rows_S {B : Book} (g : Good B) : ∀ x ∈ rowsB B, RwS x 70 := fun x hx => by
  have n6 := g.n6
  unfold rowsB at hx
  simp only [List.mem_append, List.mem_map, List.mem_singleton] at hx
  rcases hx with ⟨r, hr, rfl⟩ | ⟨r, hr, rfl⟩ | ⟨r, hr, rfl⟩ | rfl
  · exact rwS w_fl (fl_figs g hr) (by rw [g.rows r hr]; exact n6)
  · exact rwS w_st (r4_figs g (g.st r hr)) (by simp [r4])
  · exact rwS w_ca (r4_figs g (g.ca r hr)) (by simp [r4])
  · exact rwS w_bi (bi_figs g) g.bil
theorem rows_len {B : Book} (g : Good B) : (rowsB B).length ≤ 27 ∧ rowsB B ≠ [] := by
  have h1 : B.fl.length ≤ 6 := g.n6
  have h2 := g.stl
  have h3 := g.cal
  refine ⟨?_, by unfold rowsB; simp⟩
  unfold rowsB
  simp only [List.length_append, List.length_map, List.length_singleton]
  omega
theorem text_split {B : Book} (g : Good B) : Txt.split (textB B) nlS = rowsB B :=
  TL.split_join (s := 10) (S := []) nl_tl nl_k (rows_len g).2 fun p hp => (rows_S g p hp).f
theorem text_ok {B : Book} (g : Good B) : okS (textB B) ∧ (textB B).length ≤ 2000 := by
  refine ⟨fun c hc => ?_, ?_⟩
  · have hc : c ∈ TL.tl (textB B) := hc
    unfold textB at hc
    rw [join_tl, nl_tl] at hc
    rcases joinL_in hc with z | ⟨p, h1, h2⟩
    · simp at z; omega
    · obtain ⟨q, hq, rfl⟩ := List.mem_map.mp h1
      exact (rows_S g q hq).o c h2
  · have := join_len (y := nlS) (l := rowsB B) (m := 70) fun x hx => (rows_S g x hx).l
    have e : nlS.length = 1 := by decide +kernel
    rw [e] at this
    have := (rows_len g).1
    unfold textB
    omega
/-! ### what the rows of a book tell -/
theorem runT_app {t : TS} : ∀ {a b : List Str} {t0 : TS}, runT t0 a = (t, true) → runT t0 (a ++ b) = runT t b
  | [], b, t0, h => by
    have h : (t0, true) = (t, true) := h
    cases h
    rfl
  | x :: a, b, t0, h => by
    have h : (match takeT t0 (wordsOf x) with | none => (t0, false) | some t' => runT t' a) = (t, true) := h
    show (match takeT t0 (wordsOf x) with | none => (t0, false) | some t' => runT t' (a ++ b)) = _
    cases e : takeT t0 (wordsOf x) with
    | none => rw [e] at h; cases h
    | some t1 =>
      rw [e] at h
      exact runT_app h
theorem take_row {t : TS} {x : Str} {j : Nat} {ns : List Int} (hx : 32 ∉ TL.tl x) (hp : placeS x = some j) (h : Figs ns) (hl : t.last ≤ j) (hb : t.bi = []) : takeT t (wordsOf (rowS x ns)) = addT t j ns := by
  rw [row_words hx h]
  show takeJ t (ns.map numS) (placeS x) = _
  rw [hp]
  show (if (decide (t.last ≤ j) && t.bi.isEmpty) = true then if (ns.map numS).all isNum = true then addT t j (intsOf (ns.map numS)) else none else none) = _
  rw [decide_eq_true hl, hb, ints_num h]
  have : (ns.map numS).all isNum = true := by
    rw [List.all_eq_true]
    intro z hz
    obtain ⟨n, hn, rfl⟩ := List.mem_map.mp hz
    exact num_isNum (h n hn)
  rw [this]
  rfl
theorem run_fl : ∀ {l : List (List Int)} {t : TS}, t.last ≤ 0 → t.bi = [] → (∀ r ∈ l, Figs r) → runT t (l.map (rowS "flights")) = ({ t with row := t.row + l.length, last := 0, fl := t.fl ++ l }, true)
  | [], t, h1, h2, _ => by
    show (t, true) = _
    have : t.last = 0 := by omega
    cases t
    simp at this ⊢
    exact this
  | r :: l, t, h1, h2, h3 => by
    show (match takeT t (wordsOf (rowS "flights" r)) with | none => (t, false) | some t' => runT t' (l.map (rowS "flights"))) = _
    rw [take_row (j := 0) (lit_free (by decide +kernel)) (by decide +kernel) (h3 r (by simp)) h1 h2]
    show runT { t with row := t.row + 1, last := 0, fl := t.fl ++ [r] } (l.map (rowS "flights")) = _
    rw [run_fl (l := l) (t := { t with row := t.row + 1, last := 0, fl := t.fl ++ [r] }) (Nat.le_refl _) h2 (fun x hx => h3 x (by simp [hx]))]
    simp
    omega
theorem run_st : ∀ {l : List Row} {t : TS}, t.last ≤ 1 → t.bi = [] → (∀ r ∈ l, Figs (r4 r)) → ∃ k, k ≤ 1 ∧ runT t (l.map fun r => rowS "storm" (r4 r)) = ({ t with row := t.row + l.length, last := k, st := t.st ++ l }, true)
  | [], t, h1, h2, _ => ⟨t.last, h1, by
    show (t, true) = _
    cases t
    simp⟩
  | r :: l, t, h1, h2, h3 => by
    obtain ⟨k, hk, ih⟩ := run_st (l := l) (t := { t with row := t.row + 1, last := 1, st := t.st ++ [r] }) (Nat.le_refl _) h2 (fun x hx => h3 x (by simp [hx]))
    refine ⟨k, hk, ?_⟩
    show (match takeT t (wordsOf (rowS "storm" (r4 r))) with | none => (t, false) | some t' => runT t' (l.map fun r => rowS "storm" (r4 r))) = _
    rw [take_row (j := 1) (lit_free (by decide +kernel)) (by decide +kernel) (h3 r (by simp)) h1 h2]
    show runT { t with row := t.row + 1, last := 1, st := t.st ++ [r] } (l.map fun r => rowS "storm" (r4 r)) = _
    rw [ih]
    simp
    omega
theorem run_ca : ∀ {l : List Row} {t : TS}, t.last ≤ 2 → t.bi = [] → (∀ r ∈ l, Figs (r4 r)) → ∃ k, k ≤ 2 ∧ runT t (l.map fun r => rowS "cart" (r4 r)) = ({ t with row := t.row + l.length, last := k, ca := t.ca ++ l }, true)
  | [], t, h1, h2, _ => ⟨t.last, h1, by
    show (t, true) = _
    cases t
    simp⟩
  | r :: l, t, h1, h2, h3 => by
    obtain ⟨k, hk, ih⟩ := run_ca (l := l) (t := { t with row := t.row + 1, last := 2, ca := t.ca ++ [r] }) (Nat.le_refl _) h2 (fun x hx => h3 x (by simp [hx]))
    refine ⟨k, hk, ?_⟩
    show (match takeT t (wordsOf (rowS "cart" (r4 r))) with | none => (t, false) | some t' => runT t' (l.map fun r => rowS "cart" (r4 r))) = _
    rw [take_row (j := 2) (lit_free (by decide +kernel)) (by decide +kernel) (h3 r (by simp)) h1 h2]
    show runT { t with row := t.row + 1, last := 2, ca := t.ca ++ [r] } (l.map fun r => rowS "cart" (r4 r)) = _
    rw [ih]
    simp
    omega
/-- a book's rows, without the birds' -/
theorem run_front {B : Book} (g : Good B) : ∃ k, k ≤ 2 ∧ runT TS0 (B.fl.map (rowS "flights") ++ (B.st.map (fun r => rowS "storm" (r4 r)) ++ B.ca.map (fun r => rowS "cart" (r4 r)))) = (⟨(B.fl.length + B.st.length + B.ca.length : Nat), k, B.fl, B.st, B.ca, []⟩, true) := by
  have h1 := run_fl (l := B.fl) (t := TS0) (Nat.le_refl _) rfl (fun r hr => fl_figs g hr)
  obtain ⟨k1, hk1, h2⟩ := run_st (l := B.st) (t := { TS0 with row := TS0.row + B.fl.length, last := 0, fl := TS0.fl ++ B.fl }) (Nat.zero_le _) rfl (fun r hr => r4_figs g (g.st r hr))
  obtain ⟨k2, hk2, h3⟩ := run_ca (l := B.ca) (t := { TS0 with row := TS0.row + B.fl.length + B.st.length, last := k1, fl := TS0.fl ++ B.fl, st := TS0.st ++ B.st }) (Nat.le_succ_of_le hk1) rfl (fun r hr => r4_figs g (g.ca r hr))
  refine ⟨k2, hk2, ?_⟩
  rw [runT_app h1, runT_app h2, h3]
  simp [TS0]
theorem run_book {B : Book} (g : Good B) : ∃ t : TS, runT TS0 (rowsB B) = (t, true) ∧ t.book = B ∧ t.bi = [B.bi] := by
  obtain ⟨k, hk, h⟩ := run_front g
  refine ⟨⟨(B.fl.length + B.st.length + B.ca.length : Nat) + 1, 3, B.fl, B.st, B.ca, [B.bi]⟩, ?_, rfl, rfl⟩
  have e : rowsB B = (B.fl.map (rowS "flights") ++ (B.st.map (fun r => rowS "storm" (r4 r)) ++ B.ca.map (fun r => rowS "cart" (r4 r)))) ++ [rowS "birds" B.bi] := by
    unfold rowsB
    simp
  rw [e, runT_app h]
  show (match takeT _ (wordsOf (rowS "birds" B.bi)) with | none => _ | some t' => runT t' []) = _
  rw [take_row (j := 3) (lit_free (by decide +kernel)) (by decide +kernel) (bi_figs g) (Nat.le_succ_of_le hk) rfl]
  rfl
end
end K
namespace K
open PySem L2 Z
section
variable {P : Program} {w : World} {K : PySem.W.Frag} {mg : Str → Option Value} {base : Heap} [Tabl]
-- use Ta Tb Tc Td Te
/-! ### written -/
theorem num_log {n : Int} (h : 0 ≤ n ∧ n < 1000000000) : n.natAbs.log2 < 1920 := by
  obtain ⟨k, rfl⟩ : ∃ k : Nat, n = (k : Int) := ⟨n.toNat, by have := h.1; omega⟩
  show k.log2 < 1920
  by_cases q : k = 0
  · rw [q]; decide
  · exact Nat.lt_of_lt_of_le ((Nat.log2_lt q).mpr (show k < 2 ^ 30 by have := h.2; omega)) (by decide)
def R_row_of (ds : List PyData) (d : PyData) : Prop := ∃ x ns, ds = [.str x, .tuple (List.map .int ns)] ∧ x.length ≤ 9 ∧ ns.length ≤ 6 ∧ Figs ns ∧ d = .str (rowS x ns)
theorem ok_row_of (M : Md K mg) : FnG P w K mg base "row_of" ["word", "numbers"] 1 (spP K R_row_of) := by
  refine fn_sd (N := ["word", "numbers", "number"]) M.d_row_of ⟨rfl, rfl, rfl, by decide +kernel, rfl, by decide +kernel, by decide +kernel⟩ (fun ds d ⟨_, _, e, _⟩ => by rw [e]; rfl) (by decide) (fun X c ds d hR => ?_)
  obtain ⟨x, ns, rfl, hx, hl, hf, rfl⟩ := hR
  show SD X [.dat (.str x), .dat (.tuple (ns.map .int)), .no] _ _
  refine sd_ret (ed_join (ys := x :: ns.map numS) ed_str (ed_to (d := .list (List.map PyData.str [x] ++ List.map (fun n => PyData.str (numS n)) ns)) (ed_cat (ed_el (el_lst (ad_cons (ed_var c 0 rfl (by kspl_open vis) rfl rfl rfl) ad_nil rfl) (Nat.le_of_ble_eq_true rfl))) (ed_el (el_map c [("number", 2)] (xs := ns) (enc := PyData.int) (fun n => PyData.str (numS n)) (by decide +kernel) rfl (id_seq (ed_var c 1 rfl (by kspl_open vis) rfl rfl rfl) rfl) (all1 ⟨_, rfl, .inl rfl⟩) (fun X' c2 => (gd_name c2 2 rfl (by kspl_open loc) (by kspl_open loc))) (Nat.lt_of_lt_of_le (show ns.length < 1000 by omega) (Nat.le_of_ble_eq_true rfl)) (fun n hn => ⟨_, rfl, fun X' c2 => ed_callT c2 rfl M.b_str PyProof.Rows.boot_str (ad_cons (ed_var c2 2 rfl (by kspl_open vis) rfl rfl rfl) ad_nil rfl) (cl_strI (num_log (hf n hn))) (by decide) rfl rfl rfl, ⟨.inr rfl, .inr rfl, .inl rfl, trivial⟩⟩) (fun _ => rfl))) (by simp only [List.length_map, List.length_cons, List.length_nil]; exact Nat.le_trans (show _ ≤ 1000 by omega) (Nat.le_of_ble_eq_true rfl))) (by simp [sD])) ?_ rfl rfl rfl) rfl
  have := join_sum (l := x :: ns.map numS) (m := 9) (fun z hz => by
    rcases List.mem_cons.mp hz with y | y
    · rw [y]; exact hx
    · obtain ⟨n, hn, rfl⟩ := List.mem_map.mp y
      exact num_len (hf n hn))
  have e : (" " : Str).length = 1 := by decide +kernel
  rw [e]
  simp only [List.length_cons, List.length_map] at this ⊢
  omega
def R_written (ds : List PyData) (d : PyData) : Prop := ∃ B, ds = [eBook B] ∧ Good B ∧ d = .str (textB B)
/-- the rows by the sort that is being written -/
def rowsTo (B : Book) (i : Nat) : List Str := if i = 0 then [] else if i = 1 then B.fl.map (rowS "flights") else if i = 2 then B.fl.map (rowS "flights") ++ B.st.map (fun r => rowS "storm" (r4 r)) else if i = 3 then B.fl.map (rowS "flights") ++ B.st.map (fun r => rowS "storm" (r4 r)) ++ B.ca.map (fun r => rowS "cart" (r4 r)) else rowsB B
theorem rowsTo_len {B : Book} (g : Good B) (i : Nat) : (rowsTo B i).length ≤ 27 := by
  have h1 : B.fl.length ≤ 6 := g.n6
  have h2 := g.stl
  have h3 := g.cal
  have h4 := (rows_len g).1
  unfold rowsTo
  split
  · simp
  · split
    · simp; omega
    · split
      · simp; omega
      · split
        · simp; omega
        · exact h4
theorem ok_written (M : Md K mg) : FnG P w K mg base "written" ["book"] 4 (spP K R_written) := by
  have Fb := ok_need_book (P := P) (w := w) (base := base) M
  have Fr := ok_row_of (P := P) (w := w) (base := base) M
  refine fn_sd (N := ["book", "rows", "sort", "told", "one"]) M.d_written ⟨rfl, rfl, rfl, by decide +kernel, rfl, by decide +kernel, by decide +kernel⟩ (fun ds d ⟨_, e, _⟩ => by rw [e]; rfl) (by decide) (fun X c ds d hR => ?_)
  obtain ⟨B, rfl, g, rfl⟩ := hR
  have n6 : B.fl.length ≤ 6 := g.n6
  have h2 := g.stl
  have h3 := g.cal
  have rl := rowsTo_len g
  show SD X [.dat (eBook B), .no, .no, .no, .no] _ _
  refine sd_expr (ed_call c Fb (by decide) rfl (ad_cons (ed_var c 0 rfl (by kspl_open vis) rfl rfl rfl) ad_nil rfl) ⟨B, rfl, g, rfl⟩ rfl rfl rfl) rfl ?_
  refine sd_asgL c 1 rfl (by kspl_open loc) (.inl rfl) (Nat.le_of_ble_eq_true rfl) (el_lst ad_nil (Nat.le_of_ble_eq_true rfl)) rfl ?_
  have sz : ∀ {a b : Nat}, a ≤ 27 → b ≤ 12 → a + b ≤ sizeLine := fun ha hb => Nat.le_trans (show _ ≤ 1000 by omega) (Nat.le_of_ble_eq_true rfl)
  refine sd_for c (fun i => [.dat (eBook B), .own (sD (rowsTo B i)), .no, .no, .no]) (id_to (ds' := [.tuple [.str "flights", .tuple (B.fl.map eInts)], .tuple [.str "storm", .tuple (B.st.map eRow)], .tuple [.str "cart", .tuple (B.ca.map eRow)], .tuple [.str "birds", eInts B.bi]]) (id_zipT c rfl M.b_zip (ad_cons (ed_gtup c rfl ⟨M.t_SORTS⟩ rfl) (ad_cons (ed_var c 0 rfl (by kspl_open vis) rfl rfl rfl) ad_nil rfl) rfl) rfl rfl) rfl) (gd_tup c (gs_cons c 2 rfl (by kspl_open loc) (by kspl_open loc) (gs_cons c 3 rfl (by kspl_open loc) (by kspl_open loc) gs_nil rfl) rfl) rfl rfl) Wk.rfl' (fun i d hd => ?_) ?_ (fun _ => rfl)
  · match i, hd with
    | 0, hd =>
      cases hd
      refine ⟨_, rfl, ?_⟩
      show SD X [.dat (eBook B), .own (sD []), .dat (.str "flights"), .dat (.tuple (B.fl.map eInts)), .no] _ _
      refine sd_ifF (td_to (td_cmp (ed_var c 2 rfl (by kspl_open vis) rfl rfl rfl) ed_str (cd_eqD c (Shp.ok (n := 1) (shp_str w_fl.o) (by decide)) (Shp.ok (n := 1) (shp_str w_bi.o) (by decide))) (nomark _)) (by rw [eqv_str]; decide +kernel)) ?_
      refine sd_extend c 1 rfl (by kspl_open vis) (el_map c [("one", 4)] (xs := B.fl) (enc := eInts) (fun r => PyData.str (rowS "flights" r)) (by decide +kernel) rfl (id_seq (ed_var c 3 rfl (by kspl_open vis) rfl rfl rfl) rfl) (all1 ⟨_, rfl, .inl rfl⟩) (fun X' c2 => (gd_name c2 4 rfl (by kspl_open loc) (by kspl_open loc))) (Nat.lt_of_lt_of_le (show B.fl.length < 1000 by omega) (Nat.le_of_ble_eq_true rfl)) (fun r hr => ⟨_, rfl, fun X' c2 => (ed_call c2 Fr (by decide) rfl (ad_cons (ed_var c2 2 rfl (by kspl_open vis) rfl rfl rfl) (ad_cons (ed_var c2 4 rfl (by kspl_open vis) rfl rfl rfl) ad_nil rfl) rfl) ⟨"flights", r, rfl, w_fl.l, by rw [g.rows r hr]; exact n6, fl_figs g hr, rfl⟩ rfl rfl rfl), ⟨.inr rfl, .inr rfl, .inr rfl, .inr rfl, .inl rfl, trivial⟩⟩) (fun _ => rfl)) rfl rfl (by simp only [List.length_map, List.length_nil]; exact sz (Nat.zero_le _) (by omega)) ?_ rfl rfl rfl rfl rfl rfl
      exact sd_nil (sd_nil ⟨.inr rfl, .inr (congrArg SK.own (by show [] ++ B.fl.map _ = (B.fl.map (rowS "flights")).map PyData.str; rw [List.map_map]; rfl)), .inl rfl, .inl rfl, .inl rfl, trivial⟩)
    | 1, hd =>
      cases hd
      refine ⟨_, rfl, ?_⟩
      show SD X [.dat (eBook B), .own (sD (rowsTo B 1)), .dat (.str "storm"), .dat (.tuple (B.st.map eRow)), .no] _ _
      refine sd_ifF (td_to (td_cmp (ed_var c 2 rfl (by kspl_open vis) rfl rfl rfl) ed_str (cd_eqD c (Shp.ok (n := 1) (shp_str w_st.o) (by decide)) (Shp.ok (n := 1) (shp_str w_bi.o) (by decide))) (nomark _)) (by rw [eqv_str]; decide +kernel)) ?_
      refine sd_extend c 1 rfl (by kspl_open vis) (el_map c [("one", 4)] (xs := B.st) (enc := eRow) (fun r => PyData.str (rowS "storm" (r4 r))) (by decide +kernel) rfl (id_seq (ed_var c 3 rfl (by kspl_open vis) rfl rfl rfl) rfl) (all1 ⟨_, rfl, .inl rfl⟩) (fun X' c2 => (gd_name c2 4 rfl (by kspl_open loc) (by kspl_open loc))) (Nat.lt_of_lt_of_le (show B.st.length < 1000 by omega) (Nat.le_of_ble_eq_true rfl)) (fun r hr => ⟨_, rfl, fun X' c2 => (ed_call c2 Fr (by decide) rfl (ad_cons (ed_var c2 2 rfl (by kspl_open vis) rfl rfl rfl) (ad_cons (ed_var c2 4 rfl (by kspl_open vis) rfl rfl rfl) ad_nil rfl) rfl) ⟨"storm", r4 r, rfl, w_st.l, by simp [r4], r4_figs g (g.st r hr), rfl⟩ rfl rfl rfl), ⟨.inr rfl, .inr rfl, .inr rfl, .inr rfl, .inl rfl, trivial⟩⟩) (fun _ => rfl)) rfl rfl (by simp only [List.length_map]; exact sz (rl 1) (by omega)) ?_ rfl rfl rfl rfl rfl rfl
      exact sd_nil (sd_nil ⟨.inr rfl, .inr (congrArg SK.own (by show sD (rowsTo B 1) ++ B.st.map _ = sD (rowsTo B 2); simp [sD, rowsTo, Function.comp_def])), .inl rfl, .inl rfl, .inl rfl, trivial⟩)
    | 2, hd =>
      cases hd
      refine ⟨_, rfl, ?_⟩
      show SD X [.dat (eBook B), .own (sD (rowsTo B 2)), .dat (.str "cart"), .dat (.tuple (B.ca.map eRow)), .no] _ _
      refine sd_ifF (td_to (td_cmp (ed_var c 2 rfl (by kspl_open vis) rfl rfl rfl) ed_str (cd_eqD c (Shp.ok (n := 1) (shp_str w_ca.o) (by decide)) (Shp.ok (n := 1) (shp_str w_bi.o) (by decide))) (nomark _)) (by rw [eqv_str]; decide +kernel)) ?_
      refine sd_extend c 1 rfl (by kspl_open vis) (el_map c [("one", 4)] (xs := B.ca) (enc := eRow) (fun r => PyData.str (rowS "cart" (r4 r))) (by decide +kernel) rfl (id_seq (ed_var c 3 rfl (by kspl_open vis) rfl rfl rfl) rfl) (all1 ⟨_, rfl, .inl rfl⟩) (fun X' c2 => (gd_name c2 4 rfl (by kspl_open loc) (by kspl_open loc))) (Nat.lt_of_lt_of_le (show B.ca.length < 1000 by omega) (Nat.le_of_ble_eq_true rfl)) (fun r hr => ⟨_, rfl, fun X' c2 => (ed_call c2 Fr (by decide) rfl (ad_cons (ed_var c2 2 rfl (by kspl_open vis) rfl rfl rfl) (ad_cons (ed_var c2 4 rfl (by kspl_open vis) rfl rfl rfl) ad_nil rfl) rfl) ⟨"cart", r4 r, rfl, w_ca.l, by simp [r4], r4_figs g (g.ca r hr), rfl⟩ rfl rfl rfl), ⟨.inr rfl, .inr rfl, .inr rfl, .inr rfl, .inl rfl, trivial⟩⟩) (fun _ => rfl)) rfl rfl (by simp only [List.length_map]; exact sz (rl 2) (by omega)) ?_ rfl rfl rfl rfl rfl rfl
      exact sd_nil (sd_nil ⟨.inr rfl, .inr (congrArg SK.own (by show sD (rowsTo B 2) ++ B.ca.map _ = sD (rowsTo B 3); simp [sD, rowsTo, Function.comp_def])), .inl rfl, .inl rfl, .inl rfl, trivial⟩)
    | 3, hd =>
      cases hd
      refine ⟨_, rfl, ?_⟩
      show SD X [.dat (eBook B), .own (sD (rowsTo B 3)), .dat (.str "birds"), .dat (eInts B.bi), .no] _ _
      refine sd_ifT (td_to (td_cmp (ed_var c 2 rfl (by kspl_open vis) rfl rfl rfl) ed_str (cd_eqD c (Shp.ok (n := 1) (shp_str w_bi.o) (by decide)) (Shp.ok (n := 1) (shp_str w_bi.o) (by decide))) (nomark _)) (by rw [eqv_str]; exact decide_eq_true rfl)) ?_
      refine sd_append c 1 rfl (by kspl_open vis) (ed_call c Fr (by decide) rfl (ad_cons (ed_var c 2 rfl (by kspl_open vis) rfl rfl rfl) (ad_cons (ed_var c 3 rfl (by kspl_open vis) rfl rfl rfl) ad_nil rfl) rfl) ⟨"birds", B.bi, rfl, w_bi.l, g.bil, bi_figs g, rfl⟩ rfl rfl rfl) rfl rfl (by rw [List.length_map]; exact Nat.lt_of_lt_of_le (show _ < 1000 by have := rl 3; omega) (Nat.le_of_ble_eq_true rfl)) ?_ rfl rfl rfl rfl rfl rfl
      exact sd_nil (sd_nil ⟨.inr rfl, .inr (congrArg SK.own (by
        show sD (rowsTo B 3) ++ [PyData.str (rowS "birds" B.bi)] = sD (rowsB B)
        unfold sD
        rw [show rowsB B = rowsTo B 3 ++ [rowS "birds" B.bi] by unfold rowsB; show _ = (B.fl.map (rowS "flights") ++ B.st.map (fun r => rowS "storm" (r4 r)) ++ B.ca.map (fun r => rowS "cart" (r4 r))) ++ [rowS "birds" B.bi]; simp, List.map_append]
        rfl)), .inl rfl, .inl rfl, .inl rfl, trivial⟩)
    | i + 4, hd => cases hd
  · show SD X [.dat (eBook B), .own (sD (rowsB B)), .no, .no, .no] _ _
    refine sd_freeze 1 rfl ?_
    refine sd_ret (ed_join (ys := rowsB B) ed_str (ed_var c 1 rfl (by kspl_open vis) rfl rfl rfl) ?_ rfl rfl rfl) rfl
    have := join_sum (l := rowsB B) (m := 70) fun x hx => (rows_S g x hx).l
    have := (rows_len g).1
    have e : ("\n" : Str).length = 1 := by decide +kernel
    rw [e]
    omega
end
end K
namespace K
open PySem L2 Z
section
variable {P : Program} {w : World} {K : PySem.W.Frag} {mg : Str → Option Value} {base : Heap} [Tabl]
-- use Ta Tb Tc Td Te
/-! ### what the law says of a refusal -/
/-- the rows that read sees -/
def seen (rows : List Str) : List Str := if rows = [] then [("" : Str)] else rows
/-- read's answer, as the law tells it -/
def OutR (rs : List Str) (d : PyData) : Prop := ∃ t b, runT TS0 rs = (t, b) ∧ (((b = false ∨ t.bi = []) ∧ d = .int t.row) ∨ (b = true ∧ t.bi ≠ [] ∧ Good t.book ∧ d = .str "read") ∨ (b = true ∧ t.bi ≠ [] ∧ ∃ wy, whyB t.book wy ∧ d = .str wy))
structure RowsOk (rows : List Str) : Prop where
  s : ∀ x ∈ rows, RwS x 80
  l : rows.length ≤ 100
theorem join_seen {rows : List Str} (h : RowsOk rows) : Txt.split (Txt.join nlS rows) nlS = seen rows ∧ okS (Txt.join nlS rows) ∧ (Txt.join nlS rows).length ≤ 10000 ∧ (seen rows).length ≤ 100 := by
  refine ⟨?_, fun c hc => ?_, ?_, ?_⟩
  · unfold seen
    by_cases q : rows = []
    · rw [if_pos q, q]
      decide +kernel
    · rw [if_neg q]
      exact TL.split_join (s := 10) (S := []) nl_tl nl_k q fun p hp => (h.s p hp).f
  · have hc : c ∈ TL.tl (Txt.join nlS rows) := hc
    rw [join_tl, nl_tl] at hc
    rcases joinL_in hc with z | ⟨p, h1, h2⟩
    · simp at z; omega
    · obtain ⟨q, hq, rfl⟩ := List.mem_map.mp h1
      exact (h.s q hq).o c h2
  · have := join_len (y := nlS) (l := rows) (m := 80) fun x hx => (h.s x hx).l
    have e : nlS.length = 1 := by decide +kernel
    rw [e] at this
    have := h.l
    omega
  · unfold seen
    split
    · simp
    · exact h.l
theorem bootVET : bootBuiltins ("ValueError" : Str) = some (.type "ValueError") := PyProof.Rows.Boot.«ValueError»
section
variable {aPostError aBadBook aNoOffice aBadPosting aNoPosting aBadText : Addr}
def R_law_refusal (ds : List PyData) (d : PyData) : Prop := ∃ rows, ds = [.list (sD rows)] ∧ RowsOk rows ∧ OutR (seen rows) d
theorem ok_law_refusal (M : Md K mg) (E : Exs K mg aPostError aBadBook aNoOffice aBadPosting aNoPosting aBadText) : FnG P w K mg base "_law_refusal" ["_law_rows"] 7 (spP K R_law_refusal) := by
  have Fr := ok_read (P := P) (w := w) (base := base) M E
  refine fn_sdS (N := ["_law_rows", "e"]) M.d__law_refusal ⟨rfl, rfl, rfl, by decide +kernel, rfl, by decide +kernel, by decide +kernel⟩ (fun ds d ⟨_, e, _⟩ => by rw [e]; rfl) (by decide) (fun X c sk ds d hR => ?_)
  obtain ⟨rows, rfl, ro, t, b, hrun, hd⟩ := hR
  obtain ⟨j1, j2, j3, j4⟩ := join_seen ro
  show SD X [.dat (.list (sD rows)), .no] _ _
  have hsum : (rows.map (·.length)).sum + rows.length * nlS.length ≤ 16777216 := by
    have := join_sum (l := rows) (m := 80) fun x hx => (ro.s x hx).l
    have := ro.l
    have e : nlS.length = 1 := by decide +kernel
    rw [e]
    omega
  refine sd_tryAs c sk 1 rfl rfl rfl rfl E.g_PostError (fun pn xe c2 => ?_)
  refine sd_exprO c2 (i := Txt.join nlS rows) Fr (by decide) rfl (ad_cons (ed_join (ys := rows) ed_str (ed_var c2 0 rfl (by kspl_open vis) rfl rfl rfl) hsum rfl rfl rfl) ad_nil rfl) ⟨rfl, j2, by omega, by rw [j1]; omega⟩ (fun ⟨d', t', a1, a2, a3, _⟩ => ?_) (fun cls fs z => ?_) rfl rfl rfl rfl
  · rw [j1, hrun] at a1
    cases a1
    refine sd_nil (sd_ret ed_str ?_)
    rcases hd with ⟨z | z, _⟩ | ⟨_, _, _, z⟩ | ⟨_, _, wy, z, _⟩
    · cases z
    · exact absurd z a2
    · exact z.symm
    · exact absurd a3 (whyB_no z)
  · obtain ⟨t', b', a1, a2⟩ := z
    rw [j1, hrun] at a1
    cases a1
    rcases a2 with ⟨q, rfl, rfl⟩ | ⟨q1, q2, wy, q3, rfl, rfl⟩
    · have hd' : d = .int t.row := by
        rcases hd with ⟨_, z⟩ | ⟨z1, z2, _⟩ | ⟨z1, z2, _⟩
        · exact z
        · rcases q with q | q
          · rw [z1] at q; cases q
          · exact absurd q z2
        · rcases q with q | q
          · rw [z1] at q; cases q
          · exact absurd q z2
      subst hd'
      refine ⟨true, PySem.W.exm_ref E.s_PostError E.h_PostError E.t_PostError E.p_BadText_PostError, fun _ => ⟨(Nat.le_of_ble_eq_true rfl), fun a d oe pn hz hf c3 => ?_⟩, fun z => by cases z⟩
      have r := E.p_BadText_BadText
      show SD (X.suite a ((a, oe) :: pn)) [.dat (.list (sD rows)), .cus (excC a d [(("row" : Str), PyData.int t.row)])] _ _
      refine sd_ifF (td_w (wd_or (x := false) (y := false) (td_val (ed_isXT c3 E.i_BadText hz hf 1 rfl (.inl rfl) rfl rfl M.b_isinstance (cs_own c3 rfl E.g_BadPosting rfl (cs_own c3 rfl E.g_NoOffice rfl (cs_own c3 rfl E.g_NoPosting rfl cs_nil rfl) rfl) rfl) (Nat.le_of_ble_eq_true rfl) (kits_cons (kit_ref E.c_BadPosting E.t_BadPosting E.p_BadText_BadPosting r) (kits_cons (kit_ref E.c_NoOffice E.t_NoOffice E.p_BadText_NoOffice r) (kits_cons (kit_ref E.c_NoPosting E.t_NoPosting E.p_BadText_NoPosting r) kitAny_nil))) rfl rfl rfl rfl rfl) (fun _ => rfl))
        (fun _ => wd_or1 (td_not (td_val (ed_isX c3 E.i_BadText hz hf 1 rfl (.inl rfl) rfl rfl M.b_isinstance (cs_ty c3 rfl M.b_ValueError bootVET (by decide) rfl cs_nil rfl) (kit_ve E.v_BadText) rfl rfl rfl rfl) (fun _ => rfl)))))) (sd_nil ?_)
      refine sd_ifT (td_val (ed_isX c3 E.i_BadText hz hf 1 rfl (.inl rfl) rfl rfl M.b_isinstance (cs_own c3 rfl E.g_BadText rfl cs_nil rfl) (kit_ref E.c_BadText E.t_BadText r r) rfl rfl rfl rfl) (fun _ => rfl)) ?_
      exact sd_ret (ed_if (x := false) (td_w (wd_or (x := false) (y := false) (td_val (ed_isX c3 E.i_BadText hz hf 1 rfl (.inl rfl) rfl rfl M.b_isinstance (cs_own c3 rfl E.g_BadBook rfl cs_nil rfl) (kit_ref E.c_BadBook E.t_BadBook E.p_BadText_BadBook r) rfl rfl rfl rfl) (fun _ => rfl)) (fun _ => wd_or1 (td_val (ed_isi (b := false) c3 rfl M.b_isinstance (ed_excF c3 E.i_BadText hz hf 1 rfl (.inl rfl) rfl E.x_BadText.no rfl rfl rfl rfl) rfl M.b_bool PyProof.Rows.boot_bool rfl (by decide) rfl rfl rfl rfl) (fun _ => rfl))))) (fun z => by cases z) (fun _ => ed_excF c3 E.i_BadText hz hf 1 rfl (.inl rfl) rfl E.x_BadText.no rfl rfl rfl rfl)) rfl
    · have hd' : d = .str wy := by
        rcases hd with ⟨z | z, _⟩ | ⟨_, _, z, _⟩ | ⟨_, _, w2, z, z2⟩
        · rw [q1] at z; cases z
        · exact absurd z q2
        · exact absurd z (whyB_no q3)
        · rw [z2, whyB_one z q3]
      subst hd'
      refine ⟨true, PySem.W.exm_ref E.s_PostError E.h_PostError E.t_PostError E.p_BadBook_PostError, fun _ => ⟨(Nat.le_of_ble_eq_true rfl), fun a d oe pn hz hf c3 => ?_⟩, fun z => by cases z⟩
      have r := E.p_BadBook_BadBook
      show SD (X.suite a ((a, oe) :: pn)) [.dat (.list (sD rows)), .cus (excC a d [(("why" : Str), PyData.str wy)])] _ _
      refine sd_ifF (td_w (wd_or (x := false) (y := false) (td_val (ed_isXT c3 E.i_BadBook hz hf 1 rfl (.inl rfl) rfl rfl M.b_isinstance (cs_own c3 rfl E.g_BadPosting rfl (cs_own c3 rfl E.g_NoOffice rfl (cs_own c3 rfl E.g_NoPosting rfl cs_nil rfl) rfl) rfl) (Nat.le_of_ble_eq_true rfl) (kits_cons (kit_ref E.c_BadPosting E.t_BadPosting E.p_BadBook_BadPosting r) (kits_cons (kit_ref E.c_NoOffice E.t_NoOffice E.p_BadBook_NoOffice r) (kits_cons (kit_ref E.c_NoPosting E.t_NoPosting E.p_BadBook_NoPosting r) kitAny_nil))) rfl rfl rfl rfl rfl) (fun _ => rfl))
        (fun _ => wd_or1 (td_not (td_val (ed_isX c3 E.i_BadBook hz hf 1 rfl (.inl rfl) rfl rfl M.b_isinstance (cs_ty c3 rfl M.b_ValueError bootVET (by decide) rfl cs_nil rfl) (kit_ve E.v_BadBook) rfl rfl rfl rfl) (fun _ => rfl)))))) (sd_nil ?_)
      refine sd_ifF (td_val (ed_isX c3 E.i_BadBook hz hf 1 rfl (.inl rfl) rfl rfl M.b_isinstance (cs_own c3 rfl E.g_BadText rfl cs_nil rfl) (kit_ref E.c_BadText E.t_BadText E.p_BadBook_BadText r) rfl rfl rfl rfl) (fun _ => rfl)) (sd_nil ?_)
      exact sd_ret (ed_excF c3 E.i_BadBook hz hf 1 rfl (.inl rfl) rfl E.x_BadBook.no rfl rfl rfl rfl) rfl
end
end
end K
namespace K
open PySem L2 Z
section
variable {P : Program} {w : World} {K : PySem.W.Frag} {mg : Str → Option Value} {base : Heap} [Tabl]
-- use Ta Tb Tc Td Te Tf
/-! ### plain: rows that are none -/
def badW : List Str → Bool
  | [] => true
  | x :: r => match placeS x with
    | none => true
    | some j => !(r.all isNum) || ((decide (j = 1) || decide (j = 2)) && !decide (r.length = 4))
theorem badW_none {t : TS} {ws : List Str} (h : badW ws = true) : takeT t ws = none := by
  cases ws with
  | nil => rfl
  | cons x r =>
    show takeJ t r (placeS x) = none
    have h : (match placeS x with | none => true | some j => !(r.all isNum) || ((decide (j = 1) || decide (j = 2)) && !decide (r.length = 4))) = true := h
    cases hp : placeS x with
    | none => rfl
    | some j =>
      rw [hp] at h
      show (if (decide (t.last ≤ j) && t.bi.isEmpty) = true then if r.all isNum = true then addT t j (intsOf r) else none else none) = none
      split
      · split
        · rename_i q
          have h : (!(r.all isNum) || ((decide (j = 1) || decide (j = 2)) && !decide (r.length = 4))) = true := h
          rw [q] at h
          simp only [Bool.not_true, Bool.false_or, Bool.and_eq_true, Bool.or_eq_true, decide_eq_true_eq, Bool.not_eq_true', decide_eq_false_iff_not] at h
          exact addT_none (by unfold intsOf; rw [List.length_map]; exact h.2) h.1
        · rfl
      · rfl
theorem addT_row {t t' : TS} {j : Nat} {ns : List Int} (h : addT t j ns = some t') : t'.row = t.row + 1 := by
  unfold addT at h
  split at h <;> first | (cases h; rfl) | cases h
theorem takeT_row {t t' : TS} {ws : List Str} (h : takeT t ws = some t') : t'.row = t.row + 1 := by
  cases ws with
  | nil => cases h
  | cons y r =>
    have h : takeJ t r (placeS y) = some t' := h
    cases hp : placeS y with
    | none => rw [hp] at h; cases h
    | some j =>
      rw [hp] at h
      have h : (if (decide (t.last ≤ j) && t.bi.isEmpty) = true then if r.all isNum = true then addT t j (intsOf r) else none else none) = some t' := h
      split at h
      · split at h
        · exact addT_row h
        · cases h
      · cases h
theorem runT_row {t : TS} : ∀ {l : List Str} {t0 : TS}, runT t0 l = (t, true) → t.row = t0.row + (l.length : Nat)
  | [], t0, h => by
    have h : (t0, true) = (t, true) := h
    cases h
    simp
  | x :: l, t0, h => by
    have h : (match takeT t0 (wordsOf x) with | none => (t0, false) | some t' => runT t' l) = (t, true) := h
    cases e : takeT t0 (wordsOf x) with
    | none => rw [e] at h; cases h
    | some t1 =>
      rw [e] at h
      have := runT_row (l := l) h
      have := takeT_row e
      rw [List.length_cons]
      omega
theorem runT_pre {t : TS} {b : List Str} : ∀ {a : List Str} {t0 : TS}, runT t0 (a ++ b) = (t, true) → ∃ t1, runT t0 a = (t1, true)
  | [], t0, h => ⟨t0, rfl⟩
  | x :: a, t0, h => by
    have h : (match takeT t0 (wordsOf x) with | none => (t0, false) | some t' => runT t' (a ++ b)) = (t, true) := h
    show ∃ t1, (match takeT t0 (wordsOf x) with | none => (t0, false) | some t' => runT t' a) = (t1, true)
    cases e : takeT t0 (wordsOf x) with
    | none => rw [e] at h; cases h
    | some t1 =>
      rw [e] at h
      exact runT_pre h
theorem runT_bad {t1 t0 : TS} {a b : List Str} {x : Str} (h : runT t0 a = (t1, true)) (hx : takeT t1 (wordsOf x) = none) : runT t0 (a ++ x :: b) = (t1, false) := by
  rw [runT_app h]
  show (match takeT t1 (wordsOf x) with | none => (t1, false) | some t' => runT t' b) = _
  rw [hx]
theorem outR_bad {rs : List Str} {n : Int} (h : (runT TS0 rs).2 = false) (hr : (runT TS0 rs).1.row = n) : OutR rs (.int n) := ⟨_, _, rfl, .inl ⟨.inl h, by rw [hr]⟩⟩
theorem outR_at {rows : List Str} {x : Str} {b : List Str} {t : TS} {a c : List Str} (h : runT TS0 (a ++ c) = (t, true)) (hx : ∀ t, takeT t (wordsOf x) = none) : OutR (a ++ x :: b) (.int (a.length : Nat)) := by
  obtain ⟨t1, h1⟩ := runT_pre h
  have h2 := runT_bad (b := b) h1 (hx t1)
  have h3 := runT_row h1
  refine outR_bad (by rw [h2]) (by rw [h2, h3]; simp [TS0])
theorem seen_ne {rows : List Str} (h : rows ≠ []) : seen rows = rows := if_neg h
/-! ### the checks, by computing -/
def flC (B : Book) : Bool := decide (2 ≤ B.fl.length) && decide (B.fl.length ≤ 6) && B.fl.all (fun r => decide (r.length = B.fl.length)) && (List.range B.fl.length).all fun i => (List.range (B.fl.getD i []).length).all fun j => if j = i then decide ((B.fl.getD i []).getD j 0 = 0) else decide (1 ≤ (B.fl.getD i []).getD j 0) && decide ((B.fl.getD i []).getD j 0 ≤ 9)
theorem flC_iff {B : Book} : flC B = true ↔ FlOk B := by
  unfold flC
  simp only [Bool.and_eq_true, decide_eq_true_eq, List.all_eq_true, List.mem_range]
  constructor
  · rintro ⟨⟨⟨a, b⟩, c⟩, d⟩
    refine ⟨a, b, c, fun i j r v hr hv => ?_⟩
    have hi := (List.getElem?_eq_some_iff.mp hr).1
    have e : B.fl.getD i [] = r := by rw [List.getD_eq_getElem?_getD, hr]; rfl
    have ev : r.getD j 0 = v := by rw [List.getD_eq_getElem?_getD, hv]; rfl
    have hj := (List.getElem?_eq_some_iff.mp hv).1
    have := d i hi j (by rw [e]; exact hj)
    rw [e, ev] at this
    by_cases q : j = i
    · rw [if_pos q] at this ⊢; exact of_decide_eq_true this
    · rw [if_neg q, Bool.and_eq_true] at this
      rw [if_neg q]
      exact ⟨of_decide_eq_true this.1, of_decide_eq_true this.2⟩
  · intro f
    refine ⟨⟨⟨f.n2, f.n6⟩, f.rows⟩, fun i hi j hj => ?_⟩
    have e : B.fl[i]? = some (B.fl.getD i []) := by rw [List.getD_eq_getElem?_getD, List.getElem?_eq_getElem hi]; rfl
    have ev : (B.fl.getD i [])[j]? = some ((B.fl.getD i []).getD j 0) := by
      rw [List.getD_eq_getElem?_getD (l := B.fl.getD i []), List.getElem?_eq_getElem hj]; rfl
    have := f.vals i j _ _ e ev
    by_cases q : j = i
    · rw [if_pos q] at this ⊢; exact decide_eq_true this
    · rw [if_neg q] at this
      rw [if_neg q, Bool.and_eq_true]
      exact ⟨decide_eq_true this.1, decide_eq_true this.2⟩
def grC (B : Book) (r : Row) : Bool := decide (0 ≤ r.1) && decide (r.1 < (B.fl.length : Int)) && decide (0 ≤ r.2.1) && decide (r.2.1 < (B.fl.length : Int)) && decide (r.1 ≠ r.2.1) && decide (0 ≤ r.2.2.1) && decide (r.2.2.1 < r.2.2.2) && decide (r.2.2.2 ≤ 99)
theorem grC_iff {B : Book} {r : Row} : grC B r = true ↔ GoodRow B r := by
  unfold grC
  simp only [Bool.and_eq_true, decide_eq_true_eq]
  constructor
  · rintro ⟨⟨⟨⟨⟨⟨⟨a, b⟩, c⟩, d⟩, e⟩, f⟩, g⟩, h⟩
    exact ⟨⟨a, b⟩, ⟨c, d⟩, e, f, g, h⟩
  · rintro ⟨⟨a, b⟩, ⟨c, d⟩, e, f, g, h⟩
    exact ⟨⟨⟨⟨⟨⟨⟨a, b⟩, c⟩, d⟩, e⟩, f⟩, g⟩, h⟩
def rwC (B : Book) (l : List Row) (m : Nat) : Bool := decide (l.length ≤ m) && l.all (grC B)
theorem rwC_iff {B : Book} {l : List Row} {m : Nat} : rwC B l m = true ↔ RwOk B l (m : Int) := by
  unfold rwC
  simp only [Bool.and_eq_true, decide_eq_true_eq, List.all_eq_true]
  exact ⟨fun ⟨a, b⟩ => ⟨by omega, fun r hr => grC_iff.mp (b r hr)⟩, fun f => ⟨by have := f.len; omega, fun r hr => grC_iff.mpr (f.at_ r hr)⟩⟩
def biC (B : Book) : Bool := decide (B.bi.length ≤ 6) && B.bi.all fun h => decide (0 ≤ h) && decide (h < (B.fl.length : Int))
theorem biC_iff {B : Book} : biC B = true ↔ BiOk B := by
  unfold biC
  simp only [Bool.and_eq_true, decide_eq_true_eq, List.all_eq_true]
  exact ⟨fun ⟨a, b⟩ => ⟨a, fun h hh => ⟨(b h hh).1, (b h hh).2⟩⟩, fun f => ⟨f.len, fun h hh => ⟨(f.at_ h hh).1, (f.at_ h hh).2⟩⟩⟩
def whyC (B : Book) : Option Str := if flC B = false then some "flights" else if rwC B B.st 8 = false then some "storms" else if rwC B B.ca 12 = false then some "carts" else if biC B = false then some "birds" else none
theorem whyC_ok {B : Book} {wy : Str} (h : whyC B = some wy) : whyB B wy := by
  have nf : ∀ {b : Bool} {p : Prop}, (b = true ↔ p) → b = false → ¬ p := fun i h q => by rw [i.mpr q] at h; cases h
  have nt : ∀ {b : Bool} {p : Prop}, (b = true ↔ p) → ¬ b = false → p := fun i h => i.mp (by simpa using h)
  unfold whyC at h
  split at h
  · rename_i a
    cases h
    exact .inl ⟨nf flC_iff a, rfl⟩
  · rename_i a
    split at h
    · rename_i b
      cases h
      exact .inr (.inl ⟨nt flC_iff a, nf rwC_iff b, rfl⟩)
    · rename_i b
      split at h
      · rename_i c
        cases h
        exact .inr (.inr (.inl ⟨nt flC_iff a, nt rwC_iff b, nf rwC_iff c, rfl⟩))
      · rename_i c
        split at h
        · rename_i d
          cases h
          exact .inr (.inr (.inr ⟨nt flC_iff a, nt rwC_iff b, nt rwC_iff c, nf biC_iff d, rfl⟩))
        · cases h
theorem outR_why {rs : List Str} {wy : Str} (h : (runT TS0 rs).2 = true) (hb : (runT TS0 rs).1.bi.isEmpty = false) (hw : whyC (runT TS0 rs).1.book = some wy) : OutR rs (.str wy) := ⟨_, _, rfl, .inr (.inr ⟨h, (fun z => by rw [z] at hb; cases hb), wy, whyC_ok hw, rfl⟩)⟩
def rwSC (x : Str) : Bool := (x.cps.toList.all fun c => decide (c < 1114112)) && (x.cps.toList.all fun c => !decide (c = 10)) && decide (x.length ≤ 80)
theorem rwSC_ok {x : Str} (h : rwSC x = true) : RwS x 80 := by
  unfold rwSC at h
  simp only [Bool.and_eq_true] at h
  exact ⟨okS_all h.1.1, lit_free h.1.2, of_decide_eq_true h.2⟩
theorem rowsC_ok {l : List Str} (h : l.all rwSC = true) (hl : l.length ≤ 100) : RowsOk l := ⟨fun x hx => rwSC_ok (List.all_eq_true.mp h x hx), hl⟩
abbrev oddA : List Str := ["", " ", "flight 0 1", "flights 0 x", "flights 0  1", "flights 0 1 ", "Flights 0 1", "flights 00 1"]
abbrev oddB : List Str := ["flights -1", "storm", "storm 0 1 2", "storm 0 1 2 3 4", "storm 0 1 a 5", "storm 0 1 02 5"]
abbrev oddC : List Str := ["storms 0 1 2 5", "cart", "cart 0 1 2", "cart 0 1 2 5 6", "cart 0 1 -2 5", "cart 0  1 2 5"]
abbrev oddD : List Str := ["carts 0 1 2 5", "birds 0 x", "birds 01", "birds ", "bird 0", "cart 0 1 2 1234567890", " birds 0"]
def oddL : List Str := oddA ++ oddB ++ oddC ++ oddD
theorem odd_bad : ∀ x ∈ oddL, (∀ t, takeT t (wordsOf x) = none) ∧ RwS x 80 := fun x hx => by
  have h1 : (oddL.all fun x => badW (wordsOf x)) = true := by decide +kernel
  have h2 : oddL.all rwSC = true := by decide +kernel
  exact ⟨fun t => badW_none (List.all_eq_true.mp h1 x hx), rwSC_ok (List.all_eq_true.mp h2 x hx)⟩
/-- texts, so read -/
abbrev sL (l : List Str) : List Str := l
abbrev twoL : List Str := ["flights 0 5", "flights 5 0"]
def lateL : List (List Str) := [twoL ++ sL ["cart 0 1 2 3", "storm 0 1 2 3", "birds"], sL ["storm 0 1 2 3"] ++ twoL ++ sL ["birds"], twoL ++ sL ["birds", "storm 0 1 2 3"], twoL ++ sL ["cart 0 1 2 3"] ++ twoL ++ sL ["birds"]]
theorem late_ok {k : Int} (h0 : 0 ≤ k) (h1 : k < 4) : RowsOk (lateL.getD k.toNat []) ∧ OutR (seen (lateL.getD k.toNat [])) (.int (pick4 3 1 3 3 k)) := by
  have : k = 0 ∨ k = 1 ∨ k = 2 ∨ k = 3 := by omega
  rcases this with rfl | rfl | rfl | rfl
  · exact ⟨rowsC_ok (by decide +kernel) (by decide +kernel), outR_bad (by decide +kernel) (by decide +kernel)⟩
  · exact ⟨rowsC_ok (by decide +kernel) (by decide +kernel), outR_bad (by decide +kernel) (by decide +kernel)⟩
  · exact ⟨rowsC_ok (by decide +kernel) (by decide +kernel), outR_bad (by decide +kernel) (by decide +kernel)⟩
  · exact ⟨rowsC_ok (by decide +kernel) (by decide +kernel), outR_bad (by decide +kernel) (by decide +kernel)⟩
abbrev P2S := List Str × Str
def someL : List P2S := [(["birds"], "flights"), (["flights 0", "birds"], "flights"), (sL ["flights 0 5"] ++ sL ["flights 0 5", "birds"], "flights"), (["flights 0 10", "flights 1 0", "birds"], "flights"), (twoL ++ sL ["flights 0 1", "birds"], "flights"),
  (twoL ++ sL ["storm 0 0 1 2", "birds 9"], "storms"), (twoL ++ sL ["storm 0 1 2 2", "birds"], "storms"), (twoL ++ sL ["cart 0 2 1 2", "birds"], "carts"), (twoL ++ sL ["cart 0 1 2 100", "birds"], "carts"), (twoL ++ sL ["birds 2"], "birds"), (twoL ++ sL ["birds 0 0 0 0 0 0 0"], "birds")]
def someC (p : P2S) : Bool := p.1.all rwSC && decide (p.1.length ≤ 100) && p.2.cps.toList.all (fun c => decide (c < 1114112)) && (runT TS0 (seen p.1)).2 && !(runT TS0 (seen p.1)).1.bi.isEmpty && decide (whyC (runT TS0 (seen p.1)).1.book = some p.2) && p.1.dropLast.all rwSC && ((!(runT TS0 (seen p.1.dropLast)).2 || (runT TS0 (seen p.1.dropLast)).1.bi.isEmpty) && decide ((runT TS0 (seen p.1.dropLast)).1.row = (p.1.length : Int) - 1))
theorem some_ok {p : P2S} (h : p ∈ someL) : RowsOk p.1 ∧ okS p.2 ∧ OutR (seen p.1) (.str p.2) ∧ RowsOk p.1.dropLast ∧ OutR (seen p.1.dropLast) (.int ((p.1.length : Int) - 1)) := by
  have h1 : someL.all someC = true := by decide +kernel
  have h2 := List.all_eq_true.mp h1 p h
  unfold someC at h2
  simp only [Bool.and_eq_true] at h2
  obtain ⟨⟨⟨⟨⟨⟨⟨a1, a2⟩, a3⟩, a4⟩, a5⟩, a6⟩, a7⟩, a8, a9⟩ := h2
  have a2 := of_decide_eq_true a2
  refine ⟨rowsC_ok a1 a2, okS_all a3, outR_why a4 (by simpa using a5) (of_decide_eq_true a6), rowsC_ok a7 (by rw [List.length_dropLast]; omega), _, _, rfl, .inl ⟨?_, by rw [of_decide_eq_true a9]⟩⟩
  rw [Bool.or_eq_true] at a8
  rcases a8 with z | z
  · exact .inl (by simpa using z)
  · exact .inr (by simpa using z)
/-! ### a book's own rows -/
theorem rowsB_ok {B : Book} (g : Good B) : ∀ x ∈ rowsB B, RwS x 80 := fun x hx => by
  have := rows_S g x hx
  exact ⟨this.o, this.f, by have := this.l; omega⟩
theorem rowsB_last {B : Book} : (rowsB B).dropLast = B.fl.map (rowS "flights") ++ (B.st.map (fun r => rowS "storm" (r4 r)) ++ B.ca.map (fun r => rowS "cart" (r4 r))) := by
  unfold rowsB
  rw [← List.append_assoc, ← List.append_assoc, ← List.append_assoc, List.dropLast_concat]
theorem out_last {B : Book} (g : Good B) : OutR (seen (rowsB B).dropLast) (.int (((rowsB B).length : Int) - 1)) := by
  obtain ⟨k, hk, h⟩ := run_front g
  have n2 : 2 ≤ B.fl.length := g.n2
  have hne : (rowsB B).dropLast ≠ [] := by
    rw [rowsB_last]
    intro z
    have h0 : (B.fl.map (rowS "flights")).length = 0 := by rw [(List.append_eq_nil_iff.mp z).1]; rfl
    rw [List.length_map] at h0
    omega
  rw [seen_ne hne, rowsB_last]
  refine ⟨_, _, h, .inl ⟨.inr rfl, ?_⟩⟩
  congr 1
  have : (rowsB B).length = B.fl.length + B.st.length + B.ca.length + 1 := by
    unfold rowsB
    simp only [List.length_append, List.length_map, List.length_singleton]
    omega
  rw [this]
  simp
theorem take_birds {t : TS} {b : List Int} (h : t.bi = [b]) : takeT t (wordsOf "birds") = none := by
  have e : wordsOf "birds" = [("birds" : Str)] := by decide +kernel
  rw [e]
  show takeJ t [] (placeS "birds") = none
  have e2 : placeS "birds" = some 3 := by decide +kernel
  rw [e2]
  show (if (decide (t.last ≤ 3) && t.bi.isEmpty) = true then _ else none) = none
  rw [h]
  simp
theorem out_birds {B : Book} (g : Good B) : OutR (seen (rowsB B ++ [("birds" : Str)])) (.int ((rowsB B).length : Nat)) := by
  obtain ⟨t, h1, _, h3⟩ := run_book g
  rw [seen_ne (by simp)]
  have h2 := runT_bad (b := []) h1 (take_birds h3)
  have hr := runT_row h1
  refine outR_bad (by rw [h2]) (by rw [h2, hr]; simp [TS0])
theorem out_odd {B : Book} (g : Good B) {i : Nat} {x : Str} {m : List Str} (hi : i ≤ (rowsB B).length) (hx : ∀ t, takeT t (wordsOf x) = none) : OutR (seen ((rowsB B).take i ++ [x] ++ m)) (.int (i : Nat)) := by
  obtain ⟨t, h1, _, _⟩ := run_book g
  rw [seen_ne (by simp), List.append_assoc]
  have e : rowsB B = (rowsB B).take i ++ (rowsB B).drop i := (List.take_append_drop _ _).symm
  rw [e] at h1
  have := outR_at (rows := []) (x := x) (b := m) h1 hx
  rw [List.length_take, Nat.min_eq_left hi] at this
  exact this
theorem empty_bad : ∀ t, takeT t (wordsOf "") = none := (odd_bad "" (by unfold oddL; simp [oddA])).1
theorem out_end {B : Book} (g : Good B) : OutR (seen (rowsB B ++ [("" : Str)])) (.int ((rowsB B).length : Nat)) := by
  have := out_odd g (m := []) (Nat.le_refl _) empty_bad
  rw [List.take_length, List.append_nil] at this
  exact this
theorem out_first {B : Book} (g : Good B) : OutR (seen ([("" : Str)] ++ rowsB B)) (.int 0) := out_odd g (i := 0) (m := rowsB B) (Nat.zero_le _) empty_bad
end
end K
namespace K
open PySem L2 Z
section
variable {P : Program} {w : World} {K : PySem.W.Frag} {mg : Str → Option Value} {base : Heap} [Tabl]
-- use Ta Tb Tc Td Te Tf
/-! ### the law -/
def R_law (ds : List PyData) (d : PyData) : Prop := ∃ ns : List Int, ds = [.list (ns.map .int)] ∧ ns.length ≤ 63 ∧ d = .bool true
theorem sD_app (a b : List Str) : sD a ++ sD b = sD (a ++ b) := by unfold sD; rw [List.map_append]
theorem cut_take {l : List Str} {i : Nat} : cutD (sD l) none (some (i : Int)) = sD (l.take i) := by
  show cutD (l.map PyData.str) none (some (i : Int)) = _
  rw [cutD_map]
  unfold cutG
  rw [HT.sIx_nat, show HT.sIx l.length 0 none = 0 from rfl]
  simp [List.take_eq_take_iff]
theorem cut_drop {l : List Str} {i : Nat} : cutD (sD l) (some (i : Int)) none = sD (l.drop i) := by
  show cutD (l.map PyData.str) (some (i : Int)) none = _
  rw [cutD_map]
  unfold cutG
  rw [HT.sIx_nat, show HT.sIx l.length l.length none = l.length from rfl]
  congr 1
  rw [List.take_of_length_le (by rw [List.length_drop]; omega)]
  by_cases h : i ≤ l.length
  · rw [Nat.min_eq_left h]
  · rw [List.drop_eq_nil_of_le (by omega), List.drop_eq_nil_of_le (by omega)]
theorem cut_last {l : List Str} (h : l ≠ []) : cutD (sD l) none (some (-1)) = sD l.dropLast := by
  show cutD (l.map PyData.str) none (some (-1)) = _
  rw [cutD_map]
  unfold cutG
  have hl : 0 < l.length := List.length_pos_iff.mpr h
  have e : HT.sIx l.length l.length (some (-1)) = l.length - 1 := by
    show (if (-1 : Int) < 0 then ((-1 : Int) + (l.length : Int)).toNat else min (-1 : Int).toNat l.length) = _
    rw [if_pos (by decide)]
    omega
  have e0 : HT.sIx l.length 0 none = 0 := rfl
  rw [e, e0, List.drop_zero, Nat.sub_zero, List.dropLast_eq_take]
abbrev nothS : Str := "nothing"
theorem cat_z {a b : Nat} (h : a + b ≤ 1000) : a + b ≤ sizeLine := Nat.le_trans h (Nat.le_of_ble_eq_true rfl)
theorem ok_law (M : Md K mg) {f : Addr} {fd : FuncData} (F : L2.Fun K "law" "law" s_law f fd) : L2.FnOk P w K mg base L2.CX0 10 f fd ["_law_script"] (spP K R_law) := by
  obtain ⟨aPostError, aBadBook, aNoOffice, aBadPosting, aNoPosting, aBadText, E⟩ := M.exs
  have Fn := ok_next (P := P) (w := w) (base := base) M
  have Fb := ok_book (P := P) (w := w) (base := base) M
  have Fw := ok_written (P := P) (w := w) (base := base) M
  have Fr := ok_law_refusal (P := P) (w := w) (base := base) M E
  refine ok_sd (N := ["_law_script", "_law_h", "_law_rows", "_law_odd", "_law_at", "_law_more", "_law_two", "_law_late", "_law_k", "_law_some", "_law_text", "_law_why"]) F ⟨rfl, rfl, rfl, by decide +kernel, rfl, by decide +kernel, by decide +kernel⟩ (fun ds d ⟨_, e, _⟩ => by rw [e]; rfl) (by decide) (fun X c ds d hR => ?_)
  obtain ⟨ns, rfl, hl, rfl⟩ := hR
  show SD X [.dat (.list (ns.map .int)), .no, .no, .no, .no, .no, .no, .no, .no, .no, .no, .no] _ _
  refine sd_rngNew c 1 rfl (by kspl_open loc) (.inl rfl) (Nat.le_of_ble_eq_true rfl) rfl M.b_list (ed_var c 0 rfl (by kspl_open vis) rfl rfl rfl) rfl rfl (fun A A' => ?_)
  generalize (⟨59, ns, 0⟩ : Rg) = r
  show SD X [.dat (.list (ns.map .int)), .rng A A' r, .no, .no, .no, .no, .no, .no, .no, .no, .no, .no] _ _
  have g := lawBook_good (n := 6) (b := 6) (r := r) (by decide) (by decide) (by decide) (by decide)
  have to := text_ok g
  refine sd_asgL c 2 rfl (by kspl_open loc) (.inl rfl) (Nat.le_of_ble_eq_true rfl) (el_split (x := textB (lawBook 6 6 r)) (ed_call c Fw (by decide) rfl (ad_cons (ed_callR c Fb (by decide) rfl 1 rfl (by kspl_open vis) rfl (ad_cons ed_int (ad_cons ed_int ad_nil rfl) rfl) rfl ⟨6, 6, rfl, by decide, by decide, by decide, by decide, rfl, rfl⟩ rfl rfl rfl rfl rfl) ad_nil rfl) ⟨lawBook 6 6 r, rfl, g, rfl⟩ rfl rfl rfl) ed_str (by decide +kernel) (Nat.le_trans (show _ ≤ 10000 by omega) (Nat.le_of_ble_eq_true rfl)) rfl rfl rfl) rfl ?_
  refine sd_freeze 2 rfl ?_
  rw [show Txt.split (textB (lawBook 6 6 r)) ("\n" : Str) = rowsB (lawBook 6 6 r) from text_split g]
  show SD X [.dat (.list (ns.map .int)), .rng A A' (bkB 6 6 r).2, .dat (.list (sD (rowsB (lawBook 6 6 r)))), .no, .no, .no, .no, .no, .no, .no, .no, .no] _ _
  generalize (bkB 6 6 r).2 = r1
  generalize lawBook 6 6 r = B at g ⊢
  clear to
  obtain ⟨rl, rne⟩ := rows_len g
  have hrl : 0 < (rowsB B).length := List.length_pos_iff.mpr rne
  have hro := rowsB_ok g
  show SD X [.dat (.list (ns.map .int)), .rng A A' r1, .dat (.list (sD (rowsB B))), .no, .no, .no, .no, .no, .no, .no, .no, .no] _ _
  refine sd_asg c 3 rfl (by kspl_open loc) (.inl rfl) (Nat.le_of_ble_eq_true rfl) (ed_el (el_lst (ad_cons ed_str (ad_cons ed_str (ad_cons ed_str (ad_cons ed_str (ad_cons ed_str (ad_cons ed_str (ad_cons ed_str (ad_cons ed_str ad_nil rfl) rfl) rfl) rfl) rfl) rfl) rfl) rfl) (Nat.le_of_ble_eq_true rfl))) rfl ?_
  refine sd_asg c 3 rfl (by kspl_open loc) (.inl rfl) (Nat.le_of_ble_eq_true rfl) (ed_cat (ed_var c 3 rfl (by kspl_open vis) rfl rfl rfl) (ed_el (el_lst (ad_cons ed_str (ad_cons ed_str (ad_cons ed_str (ad_cons ed_str (ad_cons ed_str (ad_cons ed_str ad_nil rfl) rfl) rfl) rfl) rfl) rfl) (Nat.le_of_ble_eq_true rfl))) (Nat.le_of_ble_eq_true rfl)) rfl ?_
  refine sd_asg c 3 rfl (by kspl_open loc) (.inl rfl) (Nat.le_of_ble_eq_true rfl) (ed_cat (ed_var c 3 rfl (by kspl_open vis) rfl rfl rfl) (ed_el (el_lst (ad_cons ed_str (ad_cons ed_str (ad_cons ed_str (ad_cons ed_str (ad_cons ed_str (ad_cons ed_str ad_nil rfl) rfl) rfl) rfl) rfl) rfl) (Nat.le_of_ble_eq_true rfl))) (Nat.le_of_ble_eq_true rfl)) rfl ?_
  refine sd_asg c 3 rfl (by kspl_open loc) (.inl rfl) (Nat.le_of_ble_eq_true rfl) (ed_cat (ed_var c 3 rfl (by kspl_open vis) rfl rfl rfl) (ed_el (el_lst (ad_cons ed_str (ad_cons ed_str (ad_cons ed_str (ad_cons ed_str (ad_cons ed_str (ad_cons ed_str (ad_cons ed_str ad_nil rfl) rfl) rfl) rfl) rfl) rfl) rfl) (Nat.le_of_ble_eq_true rfl))) (Nat.le_of_ble_eq_true rfl)) rfl ?_
  show SD X [.dat (.list (ns.map .int)), .rng A A' r1, .dat (.list (sD (rowsB B))), .dat (.list (sD oddL)), .no, .no, .no, .no, .no, .no, .no, .no] _ _
  have hol : oddL.length = 27 := rfl
  have hob := odd_bad
  generalize oddL = odd at hol hob ⊢
  have a0 := nxV_0 (r := r1) (m := ((rowsB B).length : Int)) (by omega)
  have a1 := nxV_1 (r := r1) (m := ((rowsB B).length : Int)) (by omega)
  have hsl : ((sD (rowsB B)).length : Int) = ((rowsB B).length : Int) := by unfold sD; rw [List.length_map]
  refine sd_asg c 4 rfl (by kspl_open loc) (.inl rfl) (Nat.le_of_ble_eq_true rfl) (ed_callR c Fn (by decide) rfl 1 rfl (by kspl_open vis) rfl (ad_cons (ed_callB c rfl M.b_len PySem.boot_len (ad_cons (ed_var c 2 rfl (by kspl_open vis) rfl rfl rfl) ad_nil rfl) cl_lenL (by decide) rfl rfl rfl) ad_nil rfl) rfl ⟨((rowsB B).length : Int), by rw [hsl], by omega, by omega, rfl, rfl⟩ rfl rfl rfl rfl rfl) rfl ?_
  show SD X [.dat (.list (ns.map .int)), .rng A A' (nxR r1 ((rowsB B).length : Int)), .dat (.list (sD (rowsB B))), .dat (.list (sD odd)), .dat (.int (nxV r1 ((rowsB B).length : Int))), .no, .no, .no, .no, .no, .no, .no] _ _
  obtain ⟨i, hi⟩ : ∃ i : Nat, nxV r1 ((rowsB B).length : Int) = (i : Int) := ⟨(nxV r1 ((rowsB B).length : Int)).toNat, by omega⟩
  rw [hi] at a1 ⊢
  generalize nxR r1 ((rowsB B).length : Int) = r2
  have hil : i ≤ (rowsB B).length := by omega
  have m0 := nxV_0 (r := r2) (m := 2) (by decide)
  have m1 := nxV_1 (r := r2) (m := 2) (by decide)
  have hdl : ((rowsB B).drop i).length ≤ 27 := by rw [List.length_drop]; omega
  refine sd_asg c 5 rfl (by kspl_open loc) (.inl rfl) (Nat.le_of_ble_eq_true rfl) (d := .list (sD ((rowsB B).drop i ++ List.replicate (nxV r2 2).toNat nothS))) (k1 := [.dat (.list (ns.map .int)), .rng A A' (nxR r2 2), .dat (.list (sD (rowsB B))), .dat (.list (sD odd)), .dat (.int (i : Nat)), .no, .no, .no, .no, .no, .no, .no]) (ed_to (ed_cat (ed_el (el_slL (ed_var c 2 rfl (by kspl_open vis) rfl rfl rfl) (po_yes (ed_var c 4 rfl (by kspl_open vis) rfl rfl rfl)) po_no)) (ed_el (el_repR (n := nxV r2 2) (el_lst (ad_cons ed_str ad_nil rfl) (Nat.le_of_ble_eq_true rfl)) (ed_callR c Fn (by decide) rfl 1 rfl (by kspl_open vis) rfl (ad_cons ed_int ad_nil rfl) rfl ⟨2, rfl, by decide, by decide, rfl, rfl⟩ rfl rfl rfl rfl rfl) m0 (by omega) ?z1)) ?z2) ?z3) rfl ?_
  case z1 => exact Nat.le_trans (show _ ≤ 1000 by show 1 * (nxV r2 2).toNat ≤ 1000; omega) (Nat.le_of_ble_eq_true rfl)
  case z2 =>
    rw [cut_drop]
    refine cat_z ?_
    simp only [sD, List.length_map, List.length_flatten, List.map_replicate, List.sum_replicate_nat, List.length_cons, List.length_nil]
    omega
  case z3 =>
    rw [cut_drop]
    have : ∀ n : Nat, (List.replicate n [PyData.str "nothing"]).flatten = sD (List.replicate n nothS) := fun n => by
      induction n with
      | zero => rfl
      | succ n ih => rw [List.replicate_succ, List.flatten_cons, ih, List.replicate_succ]; rfl
    rw [this, sD_app]
  show SD X [.dat (.list (ns.map .int)), .rng A A' (nxR r2 2), .dat (.list (sD (rowsB B))), .dat (.list (sD odd)), .dat (.int (i : Nat)), .dat (.list (sD ((rowsB B).drop i ++ List.replicate (nxV r2 2).toNat nothS))), .no, .no, .no, .no, .no, .no] _ _
  have hnoth : RwS "nothing" 80 := rwSC_ok (by decide +kernel)
  have hemp : RwS "" 80 := rwSC_ok (by decide +kernel)
  have hbir : RwS "birds" 80 := rwSC_ok (by decide +kernel)
  have hmo : ∀ x ∈ (rowsB B).drop i ++ List.replicate (nxV r2 2).toNat nothS, RwS x 80 := fun x hx => by
    rcases List.mem_append.mp hx with z | z
    · exact hro x (List.mem_of_mem_drop z)
    · rw [List.eq_of_mem_replicate z]; exact hnoth
  have hml : ((rowsB B).drop i ++ List.replicate (nxV r2 2).toNat nothS).length ≤ 29 := by
    rw [List.length_append, List.length_replicate]; omega
  generalize (rowsB B).drop i ++ List.replicate (nxV r2 2).toNat nothS = more at hmo hml ⊢
  generalize nxR r2 2 = r3
  have o0 := nxV_0 (r := r3) (m := 27) (by decide)
  have o1 := nxV_1 (r := r3) (m := 27) (by decide)
  have hsol : ((sD odd).length : Int) = 27 := by unfold sD; rw [List.length_map, hol]; rfl
  have hox : ixD (.list (sD odd)) (nxV r3 27) = some (.str (odd.getD (nxV r3 27).toNat "")) := by
    show atI (odd.map PyData.str) _ = _
    rw [atI_map, atI_of o0 (by rw [hol]; exact o1) ("" : Str)]
    rfl
  have hom : odd.getD (nxV r3 27).toNat "" ∈ odd := by
    rw [List.getD_eq_getElem?_getD, List.getElem?_eq_getElem (by rw [hol]; omega)]
    exact List.getElem_mem _
  obtain ⟨ob1, ob2⟩ := hob _ hom
  have htl : ((rowsB B).take i).length ≤ 27 := by rw [List.length_take]; omega
  have hto : ∀ x ∈ (rowsB B).take i, RwS x 80 := fun x hx => hro x (List.mem_of_mem_take hx)
  generalize odd.getD (nxV r3 27).toNat "" = ox at hox ob1 ob2
  have ro1 : RowsOk ((rowsB B).take i ++ [ox] ++ more) := ⟨fun x hx => by
    rcases List.mem_append.mp hx with z | z
    · rcases List.mem_append.mp z with y | y
      · exact hto x y
      · rw [List.mem_singleton.mp y]; exact ob2
    · exact hmo x z, by simp only [List.length_append, List.length_singleton]; omega⟩
  show SD X [.dat (.list (ns.map .int)), .rng A A' r3, .dat (.list (sD (rowsB B))), .dat (.list (sD odd)), .dat (.int (i : Nat)), .dat (.list (sD more)), .no, .no, .no, .no, .no, .no] _ _
  refine sd_ifF (k1 := [.dat (.list (ns.map .int)), .rng A A' (nxR r3 27), .dat (.list (sD (rowsB B))), .dat (.list (sD odd)), .dat (.int (i : Nat)), .dat (.list (sD more)), .no, .no, .no, .no, .no, .no]) (td_to (td_cmp (da := .int (i : Nat)) (k1 := [.dat (.list (ns.map .int)), .rng A A' (nxR r3 27), .dat (.list (sD (rowsB B))), .dat (.list (sD odd)), .dat (.int (i : Nat)), .dat (.list (sD more)), .no, .no, .no, .no, .no, .no]) (ed_call c Fr (by decide) rfl (ad_cons (ed_to (d' := .list (sD ((rowsB B).take i ++ [ox] ++ more))) (ed_cat (ed_cat (ed_el (el_slL (ed_var c 2 rfl (by kspl_open vis) rfl rfl rfl) po_no (po_yes (ed_var c 4 rfl (by kspl_open vis) rfl rfl rfl)))) (ed_el (el_lst (ad_cons (ed_ix (ed_var c 3 rfl (by kspl_open vis) rfl rfl rfl) (ed_callR c Fn (by decide) rfl 1 rfl (by kspl_open vis) rfl (ad_cons (ed_callB c rfl M.b_len PySem.boot_len (ad_cons (ed_var c 3 rfl (by kspl_open vis) rfl rfl rfl) ad_nil rfl) cl_lenL (by decide) rfl rfl rfl) ad_nil rfl) rfl ⟨27, by rw [hsol], by decide, by decide, rfl, rfl⟩ rfl rfl rfl rfl rfl) hox (fun _ _ => rfl)) ad_nil rfl) (Nat.le_of_ble_eq_true rfl))) ?y1) (ed_var c 5 rfl (by kspl_open vis) rfl rfl rfl) ?y2) ?y3) ad_nil rfl) ⟨(rowsB B).take i ++ [ox] ++ more, rfl, ro1, out_odd g hil ob1⟩ rfl rfl rfl) (ed_var c 4 rfl (by kspl_open vis) rfl rfl rfl) cd_neI (nomark _)) (by simp)) (sd_nil ?_)
  case y1 =>
    rw [cut_take]
    refine cat_z ?_
    simp only [sD, List.length_map, List.length_cons, List.length_nil]
    omega
  case y2 =>
    rw [cut_take]
    refine cat_z ?_
    simp only [sD, List.length_map, List.length_append, List.length_cons, List.length_nil]
    omega
  case y3 =>
    rw [cut_take]
    simp [sD]
  generalize nxR r3 27 = r4
  have ro2 : RowsOk (rowsB B).dropLast := ⟨fun x hx => hro x (List.dropLast_subset _ hx), by rw [List.length_dropLast]; omega⟩
  have ro3 : RowsOk (rowsB B ++ [("birds" : Str)]) := ⟨fun x hx => by
    rcases List.mem_append.mp hx with z | z
    · exact hro x z
    · rw [List.mem_singleton.mp z]; exact hbir, by rw [List.length_append, List.length_singleton]; omega⟩
  have ro4 : RowsOk (rowsB B ++ [("" : Str)]) := ⟨fun x hx => by
    rcases List.mem_append.mp hx with z | z
    · exact hro x z
    · rw [List.mem_singleton.mp z]; exact hemp, by rw [List.length_append, List.length_singleton]; omega⟩
  have ro5 : RowsOk ([("" : Str)] ++ rowsB B) := ⟨fun x hx => by
    rcases List.mem_append.mp hx with z | z
    · rw [List.mem_singleton.mp z]; exact hemp
    · exact hro x z, by rw [List.length_append, List.length_singleton]; omega⟩
  have z1 : (sD (rowsB B)).length + 1 ≤ sizeLine := cat_z (by unfold sD; rw [List.length_map]; omega)
  have z2 : 1 + (sD (rowsB B)).length ≤ sizeLine := cat_z (by unfold sD; rw [List.length_map]; omega)
  show SD X [.dat (.list (ns.map .int)), .rng A A' r4, .dat (.list (sD (rowsB B))), .dat (.list (sD odd)), .dat (.int (i : Nat)), .dat (.list (sD more)), .no, .no, .no, .no, .no, .no] _ _
  refine sd_ifF (td_w (wd_or (x := false) (y := false) (td_to (td_cmp (da := .int (((rowsB B).length : Int) - 1)) (ed_call c Fr (by decide) rfl (ad_cons (ed_to (d' := .list (sD (rowsB B).dropLast)) (ed_el (el_slL (ed_var c 2 rfl (by kspl_open vis) rfl rfl rfl) po_no (po_yes (un_minus ed_int)))) (by rw [cut_last rne])) ad_nil rfl) ⟨(rowsB B).dropLast, rfl, ro2, out_last g⟩ rfl rfl rfl) (ed_bin (ed_callB c rfl M.b_len PySem.boot_len (ad_cons (ed_var c 2 rfl (by kspl_open vis) rfl rfl rfl) ad_nil rfl) cl_lenL (by decide) rfl rfl rfl) ed_int (by kspl_open bd)) cd_neI (nomark _)) (by rw [hsl]; simp)) (fun _ => wd_or1 (td_to (td_cmp (da := .int ((rowsB B).length : Nat)) (ed_call c Fr (by decide) rfl (ad_cons (ed_to (d' := .list (sD (rowsB B ++ [("birds" : Str)]))) (ed_cat (ed_var c 2 rfl (by kspl_open vis) rfl rfl rfl) (ed_el (el_lst (ad_cons ed_str ad_nil rfl) (Nat.le_of_ble_eq_true rfl))) z1) (by simp [sD])) ad_nil rfl) ⟨rowsB B ++ [("birds" : Str)], rfl, ro3, out_birds g⟩ rfl rfl rfl) (ed_callB c rfl M.b_len PySem.boot_len (ad_cons (ed_var c 2 rfl (by kspl_open vis) rfl rfl rfl) ad_nil rfl) cl_lenL (by decide) rfl rfl rfl) cd_neI (nomark _)) (by rw [hsl]; simp))))) (sd_nil ?_)
  refine sd_ifF (td_w (wd_or (x := false) (y := false) (td_to (td_cmp (da := .int ((rowsB B).length : Nat)) (ed_call c Fr (by decide) rfl (ad_cons (ed_to (d' := .list (sD (rowsB B ++ [("" : Str)]))) (ed_cat (ed_var c 2 rfl (by kspl_open vis) rfl rfl rfl) (ed_el (el_lst (ad_cons ed_str ad_nil rfl) (Nat.le_of_ble_eq_true rfl))) z1) (by simp [sD])) ad_nil rfl) ⟨rowsB B ++ [("" : Str)], rfl, ro4, out_end g⟩ rfl rfl rfl) (ed_callB c rfl M.b_len PySem.boot_len (ad_cons (ed_var c 2 rfl (by kspl_open vis) rfl rfl rfl) ad_nil rfl) cl_lenL (by decide) rfl rfl rfl) cd_neI (nomark _)) (by rw [hsl]; simp)) (fun _ => wd_or1 (td_to (td_cmp (da := .int 0) (ed_call c Fr (by decide) rfl (ad_cons (ed_to (d' := .list (sD ([("" : Str)] ++ rowsB B))) (ed_cat (ed_el (el_lst (ad_cons ed_str ad_nil rfl) (Nat.le_of_ble_eq_true rfl))) (ed_var c 2 rfl (by kspl_open vis) rfl rfl rfl) z2) rfl) ad_nil rfl) ⟨[("" : Str)] ++ rowsB B, rfl, ro5, out_first g⟩ rfl rfl rfl) ed_int cd_neI (nomark _)) rfl)))) (sd_nil ?_)
  refine sd_asg c 6 rfl (by kspl_open loc) (.inl rfl) (Nat.le_of_ble_eq_true rfl) (ed_el (el_lst (ad_cons ed_str (ad_cons ed_str ad_nil rfl) rfl) (Nat.le_of_ble_eq_true rfl))) rfl ?_
  show SD X [.dat (.list (ns.map .int)), .rng A A' r4, .dat (.list (sD (rowsB B))), .dat (.list (sD odd)), .dat (.int (i : Nat)), .dat (.list (sD more)), .dat (.list (sD twoL)), .no, .no, .no, .no, .no] _ _
  refine sd_asg c 7 rfl (by kspl_open loc) (.inl rfl) (Nat.le_of_ble_eq_true rfl) (ed_el (el_lst (ad_cons (ed_cat (ed_var c 6 rfl (by kspl_open vis) rfl rfl rfl) (ed_el (el_lst (ad_cons ed_str (ad_cons ed_str (ad_cons ed_str ad_nil rfl) rfl) rfl) (Nat.le_of_ble_eq_true rfl))) (Nat.le_of_ble_eq_true rfl)) (ad_cons (ed_cat (ed_cat (ed_el (el_lst (ad_cons ed_str ad_nil rfl) (Nat.le_of_ble_eq_true rfl))) (ed_var c 6 rfl (by kspl_open vis) rfl rfl rfl) (Nat.le_of_ble_eq_true rfl)) (ed_el (el_lst (ad_cons ed_str ad_nil rfl) (Nat.le_of_ble_eq_true rfl))) (Nat.le_of_ble_eq_true rfl)) ad_nil rfl) rfl) (Nat.le_of_ble_eq_true rfl))) rfl ?_
  refine sd_asg c 7 rfl (by kspl_open loc) (.inl rfl) (Nat.le_of_ble_eq_true rfl) (ed_cat (ed_var c 7 rfl (by kspl_open vis) rfl rfl rfl) (ed_el (el_lst (ad_cons (ed_cat (ed_var c 6 rfl (by kspl_open vis) rfl rfl rfl) (ed_el (el_lst (ad_cons ed_str (ad_cons ed_str ad_nil rfl) rfl) (Nat.le_of_ble_eq_true rfl))) (Nat.le_of_ble_eq_true rfl)) (ad_cons (ed_cat (ed_cat (ed_cat (ed_var c 6 rfl (by kspl_open vis) rfl rfl rfl) (ed_el (el_lst (ad_cons ed_str ad_nil rfl) (Nat.le_of_ble_eq_true rfl))) (Nat.le_of_ble_eq_true rfl)) (ed_var c 6 rfl (by kspl_open vis) rfl rfl rfl) (Nat.le_of_ble_eq_true rfl)) (ed_el (el_lst (ad_cons ed_str ad_nil rfl) (Nat.le_of_ble_eq_true rfl))) (Nat.le_of_ble_eq_true rfl)) ad_nil rfl) rfl) (Nat.le_of_ble_eq_true rfl))) (Nat.le_of_ble_eq_true rfl)) rfl ?_
  show SD X [.dat (.list (ns.map .int)), .rng A A' r4, .dat (.list (sD (rowsB B))), .dat (.list (sD odd)), .dat (.int (i : Nat)), .dat (.list (sD more)), .dat (.list (sD twoL)), .dat (.list (lateL.map fun l => .list (sD l))), .no, .no, .no, .no] _ _
  have k0 := nxV_0 (r := r4) (m := 4) (by decide)
  have k1' := nxV_1 (r := r4) (m := 4) (by decide)
  refine sd_asg c 8 rfl (by kspl_open loc) (.inl rfl) (Nat.le_of_ble_eq_true rfl) (ed_callR c Fn (by decide) rfl 1 rfl (by kspl_open vis) rfl (ad_cons ed_int ad_nil rfl) rfl ⟨4, rfl, by decide, by decide, rfl, rfl⟩ rfl rfl rfl rfl rfl) rfl ?_
  show SD X [.dat (.list (ns.map .int)), .rng A A' (nxR r4 4), .dat (.list (sD (rowsB B))), .dat (.list (sD odd)), .dat (.int (i : Nat)), .dat (.list (sD more)), .dat (.list (sD twoL)), .dat (.list (lateL.map fun l => .list (sD l))), .dat (.int (nxV r4 4)), .no, .no, .no] _ _
  have hlate : ixD (.list (lateL.map fun l => .list (sD l))) (nxV r4 4) = some (.list (sD (lateL.getD (nxV r4 4).toNat []))) := by
    show atI (lateL.map fun l => PyData.list (sD l)) _ = _
    rw [atI_map, atI_of k0 (show nxV r4 4 < (lateL.length : Int) from k1') ([] : List Str)]
    rfl
  obtain ⟨lo1, lo2⟩ := late_ok k0 k1'
  generalize nxV r4 4 = kk at k0 k1' hlate lo1 lo2 ⊢
  generalize nxR r4 4 = r5
  refine sd_ifF (td_to (td_cmp (da := .int (pick4 3 1 3 3 kk)) (ed_call c Fr (by decide) rfl (ad_cons (ed_ix (ed_var c 7 rfl (by kspl_open vis) rfl rfl rfl) (ed_var c 8 rfl (by kspl_open vis) rfl rfl rfl) hlate (fun _ _ => rfl)) ad_nil rfl) ⟨lateL.getD kk.toNat [], rfl, lo1, lo2⟩ rfl rfl rfl) (ed_ix (ed_el (el_lst (ad_cons ed_int (ad_cons ed_int (ad_cons ed_int (ad_cons ed_int ad_nil rfl) rfl) rfl) rfl) (Nat.le_of_ble_eq_true rfl))) (ed_var c 8 rfl (by kspl_open vis) rfl rfl rfl) (ix_pick4 k0 k1') (fun _ _ => rfl)) cd_neI (nomark _)) (by simp)) (sd_nil ?_)
  show SD X [.dat (.list (ns.map .int)), .rng A A' r5, .dat (.list (sD (rowsB B))), .dat (.list (sD odd)), .dat (.int (i : Nat)), .dat (.list (sD more)), .dat (.list (sD twoL)), .dat (.list (lateL.map fun l => .list (sD l))), .dat (.int kk), .no, .no, .no] _ _
  refine sd_asgL c 9 rfl (by kspl_open loc) (.inl rfl) (Nat.le_of_ble_eq_true rfl) (el_lst (ad_cons (ed_tup (ad_cons (ed_el (el_lst (ad_cons ed_str ad_nil rfl) (Nat.le_of_ble_eq_true rfl))) (ad_cons ed_str ad_nil rfl) rfl) (Nat.le_of_ble_eq_true rfl)) (ad_cons (ed_tup (ad_cons (ed_el (el_lst (ad_cons ed_str (ad_cons ed_str ad_nil rfl) rfl) (Nat.le_of_ble_eq_true rfl))) (ad_cons ed_str ad_nil rfl) rfl) (Nat.le_of_ble_eq_true rfl)) ad_nil rfl) rfl) (Nat.le_of_ble_eq_true rfl)) rfl ?_
  refine sd_append c 9 rfl (by kspl_open vis) (ed_tup (ad_cons (ed_cat (ed_el (el_slL (ed_var c 6 rfl (by kspl_open vis) rfl rfl rfl) po_no (po_yes ed_int))) (ed_el (el_lst (ad_cons ed_str (ad_cons ed_str ad_nil rfl) rfl) (Nat.le_of_ble_eq_true rfl))) (Nat.le_of_ble_eq_true rfl)) (ad_cons ed_str ad_nil rfl) rfl) (Nat.le_of_ble_eq_true rfl)) rfl rfl (Nat.le_of_ble_eq_true rfl) ?_ rfl rfl rfl rfl rfl rfl
  refine sd_freeze 9 rfl ?_
  refine sd_asg c 9 rfl (by kspl_open loc) (.inl rfl) (Nat.le_of_ble_eq_true rfl) (ed_cat (ed_var c 9 rfl (by kspl_open vis) rfl rfl rfl) (ed_el (el_lst (ad_cons (ed_tup (ad_cons (ed_el (el_lst (ad_cons ed_str (ad_cons ed_str (ad_cons ed_str ad_nil rfl) rfl) rfl) (Nat.le_of_ble_eq_true rfl))) (ad_cons ed_str ad_nil rfl) rfl) (Nat.le_of_ble_eq_true rfl)) (ad_cons (ed_tup (ad_cons (ed_cat (ed_var c 6 rfl (by kspl_open vis) rfl rfl rfl) (ed_el (el_lst (ad_cons ed_str (ad_cons ed_str ad_nil rfl) rfl) (Nat.le_of_ble_eq_true rfl))) (Nat.le_of_ble_eq_true rfl)) (ad_cons ed_str ad_nil rfl) rfl) (Nat.le_of_ble_eq_true rfl)) ad_nil rfl) rfl) (Nat.le_of_ble_eq_true rfl))) (Nat.le_of_ble_eq_true rfl)) rfl ?_
  refine sd_asg c 9 rfl (by kspl_open loc) (.inl rfl) (Nat.le_of_ble_eq_true rfl) (ed_cat (ed_var c 9 rfl (by kspl_open vis) rfl rfl rfl) (ed_el (el_lst (ad_cons (ed_tup (ad_cons (ed_cat (ed_var c 6 rfl (by kspl_open vis) rfl rfl rfl) (ed_el (el_lst (ad_cons ed_str (ad_cons ed_str ad_nil rfl) rfl) (Nat.le_of_ble_eq_true rfl))) (Nat.le_of_ble_eq_true rfl)) (ad_cons ed_str ad_nil rfl) rfl) (Nat.le_of_ble_eq_true rfl)) (ad_cons (ed_tup (ad_cons (ed_cat (ed_var c 6 rfl (by kspl_open vis) rfl rfl rfl) (ed_el (el_lst (ad_cons ed_str (ad_cons ed_str ad_nil rfl) rfl) (Nat.le_of_ble_eq_true rfl))) (Nat.le_of_ble_eq_true rfl)) (ad_cons ed_str ad_nil rfl) rfl) (Nat.le_of_ble_eq_true rfl)) ad_nil rfl) rfl) (Nat.le_of_ble_eq_true rfl))) (Nat.le_of_ble_eq_true rfl)) rfl ?_
  refine sd_asg c 9 rfl (by kspl_open loc) (.inl rfl) (Nat.le_of_ble_eq_true rfl) (ed_cat (ed_var c 9 rfl (by kspl_open vis) rfl rfl rfl) (ed_el (el_lst (ad_cons (ed_tup (ad_cons (ed_cat (ed_var c 6 rfl (by kspl_open vis) rfl rfl rfl) (ed_el (el_lst (ad_cons ed_str (ad_cons ed_str ad_nil rfl) rfl) (Nat.le_of_ble_eq_true rfl))) (Nat.le_of_ble_eq_true rfl)) (ad_cons ed_str ad_nil rfl) rfl) (Nat.le_of_ble_eq_true rfl)) (ad_cons (ed_tup (ad_cons (ed_cat (ed_var c 6 rfl (by kspl_open vis) rfl rfl rfl) (ed_el (el_lst (ad_cons ed_str (ad_cons ed_str ad_nil rfl) rfl) (Nat.le_of_ble_eq_true rfl))) (Nat.le_of_ble_eq_true rfl)) (ad_cons ed_str ad_nil rfl) rfl) (Nat.le_of_ble_eq_true rfl)) ad_nil rfl) rfl) (Nat.le_of_ble_eq_true rfl))) (Nat.le_of_ble_eq_true rfl)) rfl ?_
  refine sd_asg c 9 rfl (by kspl_open loc) (.inl rfl) (Nat.le_of_ble_eq_true rfl) (ed_cat (ed_var c 9 rfl (by kspl_open vis) rfl rfl rfl) (ed_el (el_lst (ad_cons (ed_tup (ad_cons (ed_cat (ed_var c 6 rfl (by kspl_open vis) rfl rfl rfl) (ed_el (el_lst (ad_cons ed_str ad_nil rfl) (Nat.le_of_ble_eq_true rfl))) (Nat.le_of_ble_eq_true rfl)) (ad_cons ed_str ad_nil rfl) rfl) (Nat.le_of_ble_eq_true rfl)) (ad_cons (ed_tup (ad_cons (ed_cat (ed_var c 6 rfl (by kspl_open vis) rfl rfl rfl) (ed_el (el_lst (ad_cons ed_str ad_nil rfl) (Nat.le_of_ble_eq_true rfl))) (Nat.le_of_ble_eq_true rfl)) (ad_cons ed_str ad_nil rfl) rfl) (Nat.le_of_ble_eq_true rfl)) ad_nil rfl) rfl) (Nat.le_of_ble_eq_true rfl))) (Nat.le_of_ble_eq_true rfl)) rfl ?_
  show SD X [.dat (.list (ns.map .int)), .rng A A' r5, .dat (.list (sD (rowsB B))), .dat (.list (sD odd)), .dat (.int (i : Nat)), .dat (.list (sD more)), .dat (.list (sD twoL)), .dat (.list (lateL.map fun l => .list (sD l))), .dat (.int kk), .dat (.list (someL.map fun p => .tuple [.list (sD p.1), .str p.2])), .no, .no] _ _
  have hsl2 : someL.length = 11 := rfl
  have hso : ∀ p ∈ someL, _ := fun p hp => some_ok hp
  have hne : ∀ p ∈ someL, p.1 ≠ [] := fun p hp => by
    have h : (someL.all fun p => !p.1.isEmpty) = true := by decide +kernel
    intro z
    have := List.all_eq_true.mp h p hp
    rw [z] at this
    cases this
  generalize someL = some' at hsl2 hso hne ⊢
  have s0 := nxV_0 (r := r5) (m := 11) (by decide)
  have s1 := nxV_1 (r := r5) (m := 11) (by decide)
  have hsm : (((some'.map fun p => PyData.tuple [.list (sD p.1), .str p.2]).length : Nat) : Int) = 11 := by rw [List.length_map, hsl2]; rfl
  have hix : ixD (.list (some'.map fun p => .tuple [.list (sD p.1), .str p.2])) (nxV r5 11) = some (.tuple [.list (sD (some'.getD (nxV r5 11).toNat ([], "")).1), .str (some'.getD (nxV r5 11).toNat ([], "")).2]) := by
    show atI (some'.map fun p => PyData.tuple [.list (sD p.1), .str p.2]) _ = _
    rw [atI_map, atI_of s0 (by rw [hsl2]; exact s1) (([], "") : P2S)]
    rfl
  have hpm : some'.getD (nxV r5 11).toNat ([], "") ∈ some' := by
    rw [List.getD_eq_getElem?_getD, List.getElem?_eq_getElem (by rw [hsl2]; omega)]
    exact List.getElem_mem _
  obtain ⟨q1, q2, q3, q4, q5⟩ := hso _ hpm
  have q6 := hne _ hpm
  generalize some'.getD (nxV r5 11).toNat ([], "") = p at hix q1 q2 q3 q4 q5 q6
  refine sd_unpack c (ed_ix (ed_var c 9 rfl (by kspl_open vis) rfl rfl rfl) (ed_callR c Fn (by decide) rfl 1 rfl (by kspl_open vis) rfl (ad_cons (ed_callB c rfl M.b_len PySem.boot_len (ad_cons (ed_var c 9 rfl (by kspl_open vis) rfl rfl rfl) ad_nil rfl) cl_lenL (by decide) rfl rfl rfl) ad_nil rfl) rfl ⟨11, by rw [hsm], by decide, by decide, rfl, rfl⟩ rfl rfl rfl rfl rfl) hix (fun _ _ => rfl)) (gd_tup c (gs_cons c 10 rfl (by kspl_open loc) (by kspl_open loc) (gs_cons c 11 rfl (by kspl_open loc) (by kspl_open loc) gs_nil rfl) rfl) rfl rfl) rfl rfl rfl rfl ?_
  generalize nxR r5 11 = r6
  show SD X [.dat (.list (ns.map .int)), .rng A A' r6, .dat (.list (sD (rowsB B))), .dat (.list (sD odd)), .dat (.int (i : Nat)), .dat (.list (sD more)), .dat (.list (sD twoL)), .dat (.list (lateL.map fun l => .list (sD l))), .dat (.int kk), .dat (.list (some'.map fun p => .tuple [.list (sD p.1), .str p.2])), .dat (.list (sD p.1)), .dat (.str p.2)] _ _
  have hpl : ((sD p.1).length : Int) = (p.1.length : Int) := by unfold sD; rw [List.length_map]
  exact sd_ret (ed_to (ed_and (x := true) (y := true) (ed_to (ed_cmp (da := .str p.2) (ed_call c Fr (by decide) rfl (ad_cons (ed_var c 10 rfl (by kspl_open vis) rfl rfl rfl) ad_nil rfl) ⟨p.1, rfl, q1, q3⟩ rfl rfl rfl) (ed_var c 11 rfl (by kspl_open vis) rfl rfl rfl) (cd_eqD c (Shp.ok (n := 1) (shp_str q2) (by decide)) (Shp.ok (n := 1) (shp_str q2) (by decide))) (nomark _)) (congrArg PyData.bool (by rw [eqv_str]; exact decide_eq_true rfl))) (fun _ => ed_and1 (ed_to (ed_cmp (da := .int ((p.1.length : Int) - 1)) (ed_call c Fr (by decide) rfl (ad_cons (ed_to (d' := .list (sD p.1.dropLast)) (ed_el (el_slL (ed_var c 10 rfl (by kspl_open vis) rfl rfl rfl) po_no (po_yes (un_minus ed_int)))) (by rw [cut_last q6])) ad_nil rfl) ⟨p.1.dropLast, rfl, q4, q5⟩ rfl rfl rfl) (ed_bin (ed_callB c rfl M.b_len PySem.boot_len (ad_cons (ed_var c 10 rfl (by kspl_open vis) rfl rfl rfl) ad_nil rfl) cl_lenL (by decide) rfl rfl rfl) ed_int (by kspl_open bd)) cd_eqI (nomark _)) (congrArg PyData.bool (by rw [hpl]; simp))))) rfl) rfl
theorem law_R (ns : List Int) (h : ns.length ≤ 63) : R_law [.list (ns.map .int)] (.bool true) := ⟨ns, rfl, h, rfl⟩
end
end K
namespace K
open PySem L2 Z
theorem walk {l : PySem.W.OpenLaw} {q : Program} {loose : List Str} {XP : (Str → Option Value) → Heap → Prop} {YP : World → Heap → Prop} {d : DefRec} {K : Params → PySem.W.Frag} (hn : l.most = some 63) (hdf : d.params.defaults = [])
    (hY : ∀ (w : World) (h : Heap), YP w h → (K w.params).In h)
    (F : ∀ (w : World) (mg : Str → Option Value) (fa : Addr) (h : Heap), (K w.params).In h → h.Ns mainGlobals mg → mg d.name = some (.ref fa) →
      Md (K w.params) mg ∧ ∃ f fd, L2.Fun (K w.params) "law" "law" s_law f fd ∧ mg "law" = some (.ref f) ∧ (∀ (s : Shared) (v : Value), BindsTo s fd ⟨[v], []⟩ [("_law_script", v)])) (hx : d.name = "law") :
    PySem.W.WalkO q loose XP YP l.row.toRowW d [] (fun f vs => PySem.call f vs) :=
  letI tz : Tabl := ⟨[]⟩
  LamX.walk_ofTs (n := 63) (k := 10) (x := "_law_script") (CX := fun _ => L2.CX0) hn (by decide) hdf ⟨rfl, by decide, by decide⟩ hY (fun w mg fa h Y X G hm => by
    obtain ⟨M, f, fd, Fu, hf, hb⟩ := F w mg fa h X G hm
    rw [hx, hf] at hm
    cases hm
    exact ⟨fd, [], spP (K w.params) R_law, fun p hp => absurd hp (by simp), fun p hp => absurd hp (by simp), fun p hp => absurd hp (by simp), hb, fun H a ns hl _ _ hS => sp_law law_R H a ns hl (fun p hp => absurd (show p ∈ ([] : List (Addr × Str)) from hp) (by simp)) hS, fun base _ _ _ => ok_law M Fu⟩) fun _ _ _ _ _ z => z
section
variable {K : PySem.W.Frag}
theorem md_mk {h : Heap} {mg : Str → Option Value} (X : K.In h) (G : h.Ns mainGlobals mg)
    {f0 f1 f2 f3 f4 f5 f6 f7 f8 f9 f10 f11 f12 f13 : Addr} {od0 an0 od1 an1 od2 an2 od3 an3 od4 an4 od5 an5 od6 an6 od7 an7 od8 an8 od9 an9 od10 an10 od11 an11 od12 an12 od13 an13 : Option Addr} {sl0 sl1 sl2 sl3 sl4 sl5 sl6 sl7 sl8 sl9 sl10 sl11 sl12 sl13 : Array (Option Value)} {oc0 kV0 dc0 pm0 ct0 cd0 oc1 kV1 dc1 pm1 ct1 cd1 oc2 kV2 dc2 pm2 ct2 cd2 oc3 kV3 dc3 pm3 ct3 cd3 oc4 kV4 dc4 pm4 ct4 cd4 oc5 kV5 dc5 pm5 ct5 cd5 oc6 kV6 dc6 pm6 ct6 cd6 oc7 kV7 dc7 pm7 ct7 cd7 oc8 kV8 dc8 pm8 ct8 cd8 oc9 kV9 dc9 pm9 ct9 cd9 oc10 kV10 dc10 pm10 ct10 cd10 oc11 kV11 dc11 pm11 ct11 cd11 oc12 kV12 dc12 pm12 ct12 cd12 oc13 kV13 dc13 pm13 ct13 cd13 : Value}
    (a0 : PySem.W.nsIn K mainGlobals "need" = some (some (.ref f0))) (l0 : K.lookup f0 = some ⟨oc0, od0, .func (PySem.W.fnOf "need" "need" (defArgs s_need) (defBody s_need) (defScope s_need) .none kV0 dc0 pm0 an0 cd0 ct0), sl0⟩) (c0 : PySem.W.codeIn K cd0 "need" = true) (k0 : PySem.W.keepIn K (.ref f0) = true)
    (a1 : PySem.W.nsIn K mainGlobals "is_office" = some (some (.ref f1))) (l1 : K.lookup f1 = some ⟨oc1, od1, .func (PySem.W.fnOf "is_office" "is_office" (defArgs s_is_office) (defBody s_is_office) (defScope s_is_office) .none kV1 dc1 pm1 an1 cd1 ct1), sl1⟩) (c1 : PySem.W.codeIn K cd1 "is_office" = true) (k1 : PySem.W.keepIn K (.ref f1) = true)
    (a2 : PySem.W.nsIn K mainGlobals "need_flights" = some (some (.ref f2))) (l2 : K.lookup f2 = some ⟨oc2, od2, .func (PySem.W.fnOf "need_flights" "need_flights" (defArgs s_need_flights) (defBody s_need_flights) (defScope s_need_flights) .none kV2 dc2 pm2 an2 cd2 ct2), sl2⟩) (c2 : PySem.W.codeIn K cd2 "need_flights" = true) (k2 : PySem.W.keepIn K (.ref f2) = true)
    (a3 : PySem.W.nsIn K mainGlobals "need_rows" = some (some (.ref f3))) (l3 : K.lookup f3 = some ⟨oc3, od3, .func (PySem.W.fnOf "need_rows" "need_rows" (defArgs s_need_rows) (defBody s_need_rows) (defScope s_need_rows) .none kV3 dc3 pm3 an3 cd3 ct3), sl3⟩) (c3 : PySem.W.codeIn K cd3 "need_rows" = true) (k3 : PySem.W.keepIn K (.ref f3) = true)
    (a4 : PySem.W.nsIn K mainGlobals "need_book" = some (some (.ref f4))) (l4 : K.lookup f4 = some ⟨oc4, od4, .func (PySem.W.fnOf "need_book" "need_book" (defArgs s_need_book) (defBody s_need_book) (defScope s_need_book) .none kV4 dc4 pm4 an4 cd4 ct4), sl4⟩) (c4 : PySem.W.codeIn K cd4 "need_book" = true) (k4 : PySem.W.keepIn K (.ref f4) = true)
    (a5 : PySem.W.nsIn K mainGlobals "row_of" = some (some (.ref f5))) (l5 : K.lookup f5 = some ⟨oc5, od5, .func (PySem.W.fnOf "row_of" "row_of" (defArgs s_row_of) (defBody s_row_of) (defScope s_row_of) .none kV5 dc5 pm5 an5 cd5 ct5), sl5⟩) (c5 : PySem.W.codeIn K cd5 "row_of" = true) (k5 : PySem.W.keepIn K (.ref f5) = true)
    (a6 : PySem.W.nsIn K mainGlobals "written" = some (some (.ref f6))) (l6 : K.lookup f6 = some ⟨oc6, od6, .func (PySem.W.fnOf "written" "written" (defArgs s_written) (defBody s_written) (defScope s_written) .none kV6 dc6 pm6 an6 cd6 ct6), sl6⟩) (c6 : PySem.W.codeIn K cd6 "written" = true) (k6 : PySem.W.keepIn K (.ref f6) = true)
    (a7 : PySem.W.nsIn K mainGlobals "is_number" = some (some (.ref f7))) (l7 : K.lookup f7 = some ⟨oc7, od7, .func (PySem.W.fnOf "is_number" "is_number" (defArgs s_is_number) (defBody s_is_number) (defScope s_is_number) .none kV7 dc7 pm7 an7 cd7 ct7), sl7⟩) (c7 : PySem.W.codeIn K cd7 "is_number" = true) (k7 : PySem.W.keepIn K (.ref f7) = true)
    (a8 : PySem.W.nsIn K mainGlobals "read" = some (some (.ref f8))) (l8 : K.lookup f8 = some ⟨oc8, od8, .func (PySem.W.fnOf "read" "read" (defArgs s_read) (defBody s_read) (defScope s_read) .none kV8 dc8 pm8 an8 cd8 ct8), sl8⟩) (c8 : PySem.W.codeIn K cd8 "read" = true) (k8 : PySem.W.keepIn K (.ref f8) = true)
    (a9 : PySem.W.nsIn K mainGlobals "_law_next" = some (some (.ref f9))) (l9 : K.lookup f9 = some ⟨oc9, od9, .func (PySem.W.fnOf "_law_next" "_law_next" (defArgs s__law_next) (defBody s__law_next) (defScope s__law_next) .none kV9 dc9 pm9 an9 cd9 ct9), sl9⟩) (c9 : PySem.W.codeIn K cd9 "_law_next" = true) (k9 : PySem.W.keepIn K (.ref f9) = true)
    (a10 : PySem.W.nsIn K mainGlobals "_law_hours" = some (some (.ref f10))) (l10 : K.lookup f10 = some ⟨oc10, od10, .func (PySem.W.fnOf "_law_hours" "_law_hours" (defArgs s__law_hours) (defBody s__law_hours) (defScope s__law_hours) .none kV10 dc10 pm10 an10 cd10 ct10), sl10⟩) (c10 : PySem.W.codeIn K cd10 "_law_hours" = true) (k10 : PySem.W.keepIn K (.ref f10) = true)
    (a11 : PySem.W.nsIn K mainGlobals "_law_book" = some (some (.ref f11))) (l11 : K.lookup f11 = some ⟨oc11, od11, .func (PySem.W.fnOf "_law_book" "_law_book" (defArgs s__law_book) (defBody s__law_book) (defScope s__law_book) .none kV11 dc11 pm11 an11 cd11 ct11), sl11⟩) (c11 : PySem.W.codeIn K cd11 "_law_book" = true) (k11 : PySem.W.keepIn K (.ref f11) = true)
    (a12 : PySem.W.nsIn K mainGlobals "_law_refusal" = some (some (.ref f12))) (l12 : K.lookup f12 = some ⟨oc12, od12, .func (PySem.W.fnOf "_law_refusal" "_law_refusal" (defArgs s__law_refusal) (defBody s__law_refusal) (defScope s__law_refusal) .none kV12 dc12 pm12 an12 cd12 ct12), sl12⟩) (c12 : PySem.W.codeIn K cd12 "_law_refusal" = true) (k12 : PySem.W.keepIn K (.ref f12) = true)
    (a13 : PySem.W.nsIn K mainGlobals "law" = some (some (.ref f13))) (l13 : K.lookup f13 = some ⟨oc13, od13, .func (PySem.W.fnOf "law" "law" (defArgs s_law) (defBody s_law) (defScope s_law) .none kV13 dc13 pm13 an13 cd13 ct13), sl13⟩) (c13 : PySem.W.codeIn K cd13 "law" = true) (k13 : PySem.W.keepIn K (.ref f13) = true)
    (n0 : ∃ t, PySem.W.nsIn K mainGlobals "LEAST_OFFICES" = some (some (.int 2 t)))
    (n1 : ∃ t, PySem.W.nsIn K mainGlobals "MOST_OFFICES" = some (some (.int 6 t)))
    (n2 : ∃ t, PySem.W.nsIn K mainGlobals "MOST_FLIGHT" = some (some (.int 9 t)))
    (n3 : ∃ t, PySem.W.nsIn K mainGlobals "MOST_STORMS" = some (some (.int 8 t)))
    (n4 : ∃ t, PySem.W.nsIn K mainGlobals "MOST_CARTS" = some (some (.int 12 t)))
    (n5 : ∃ t, PySem.W.nsIn K mainGlobals "MOST_BIRDS" = some (some (.int 6 t)))
    (n6 : ∃ t, PySem.W.nsIn K mainGlobals "MOST_HOUR" = some (some (.int 99 t)))
    (n7 : ∃ t, PySem.W.nsIn K mainGlobals "FLIGHTS" = some (some (.int 0 t)))
    (n8 : ∃ t, PySem.W.nsIn K mainGlobals "STORMS" = some (some (.int 1 t)))
    (n9 : ∃ t, PySem.W.nsIn K mainGlobals "CARTS" = some (some (.int 2 t)))
    (n10 : ∃ t, PySem.W.nsIn K mainGlobals "BIRDS" = some (some (.int 3 t)))
    (n11 : ∃ t, PySem.W.nsIn K mainGlobals "MOST_FIGURES" = some (some (.int 9 t)))
    (y0 : ∃ t, PySem.W.nsIn K mainGlobals "FIGURES" = some (some (.str "0123456789" t)))
    {tp0 : Addr} {tu0_0 tu0_1 tu0_2 tu0_3 : Tok} {tn0 : Nat} {tsl0 : Array (Option Value)} (ta0 : PySem.W.nsIn K mainGlobals "SORTS" = some (some (.ref tp0))) (tb0 : K.lookup tp0 = some ⟨.type "tuple", none, .seq #[.str "flights" tu0_0, .str "storm" tu0_1, .str "cart" tu0_2, .str "birds" tu0_3] tn0, tsl0⟩)
    (z0 : PySem.W.nsIn K mainGlobals "bool" = some none)
    (z1 : PySem.W.nsIn K mainGlobals "enumerate" = some none)
    (z2 : PySem.W.nsIn K mainGlobals "int" = some none)
    (z3 : PySem.W.nsIn K mainGlobals "isinstance" = some none)
    (z4 : PySem.W.nsIn K mainGlobals "len" = some none)
    (z5 : PySem.W.nsIn K mainGlobals "list" = some none)
    (z6 : PySem.W.nsIn K mainGlobals "max" = some none)
    (z7 : PySem.W.nsIn K mainGlobals "min" = some none)
    (z8 : PySem.W.nsIn K mainGlobals "range" = some none)
    (z9 : PySem.W.nsIn K mainGlobals "str" = some none)
    (z10 : PySem.W.nsIn K mainGlobals "tuple" = some none)
    (z11 : PySem.W.nsIn K mainGlobals "zip" = some none)
    {C0 : Addr} {gf0_0 gf0_1 gf0_2 : Addr} {god0_0 gan0_0 god0_1 gan0_1 god0_2 gan0_2 : Option Addr} {gsl0_0 gsl0_1 gsl0_2 : Array (Option Value)} {goc0_0 gkV0_0 gdc0_0 gpm0_0 gct0_0 gcd0_0 goc0_1 gkV0_1 gdc0_1 gpm0_1 gct0_1 gcd0_1 goc0_2 gkV0_2 gdc0_2 gpm0_2 gct0_2 gcd0_2 : Value}
    (ga0 : PySem.W.nsIn K mainGlobals "Reader" = some (some (.ref C0))) (gpg0 : PySem.W.plainGet K C0 Str.empty = true) (ghd0 : PySem.W.hasDictIn K C0 = true) (gpo0 : PySem.W.plainOver K C0 = true) (gsa0 : PySem.W.findIn K (.ref C0) "__setattr__" = some (some (.builtin "object.__setattr__"))) (gmk0 : PySem.W.makesIn K C0 = true) (gkp0 : PySem.W.keepIn K (.ref C0) = true)
    (gfi0_0 : PySem.W.findIn K (.ref C0) "__init__" = some (some (.ref gf0_0))) (gfn0_0 : PySem.W.isFn K (.ref gf0_0) = true) (glk0_0 : K.lookup gf0_0 = some ⟨goc0_0, god0_0, .func (PySem.W.fnOf "__init__" "Reader.__init__" (defArgs s_Reader___init__) (defBody s_Reader___init__) (defScope s_Reader___init__) .none gkV0_0 gdc0_0 gpm0_0 gan0_0 gcd0_0 gct0_0), gsl0_0⟩) (gco0_0 : PySem.W.codeIn K gcd0_0 "Reader.__init__" = true) (gkk0_0 : PySem.W.keepIn K (.ref gf0_0) = true)
    (gfi0_1 : PySem.W.findIn K (.ref C0) "must" = some (some (.ref gf0_1))) (gfn0_1 : PySem.W.isFn K (.ref gf0_1) = true) (glk0_1 : K.lookup gf0_1 = some ⟨goc0_1, god0_1, .func (PySem.W.fnOf "must" "Reader.must" (defArgs s_Reader_must) (defBody s_Reader_must) (defScope s_Reader_must) .none gkV0_1 gdc0_1 gpm0_1 gan0_1 gcd0_1 gct0_1), gsl0_1⟩) (gco0_1 : PySem.W.codeIn K gcd0_1 "Reader.must" = true) (gkk0_1 : PySem.W.keepIn K (.ref gf0_1) = true)
    (gfi0_2 : PySem.W.findIn K (.ref C0) "take" = some (some (.ref gf0_2))) (gfn0_2 : PySem.W.isFn K (.ref gf0_2) = true) (glk0_2 : K.lookup gf0_2 = some ⟨goc0_2, god0_2, .func (PySem.W.fnOf "take" "Reader.take" (defArgs s_Reader_take) (defBody s_Reader_take) (defScope s_Reader_take) .none gkV0_2 gdc0_2 gpm0_2 gan0_2 gcd0_2 gct0_2), gsl0_2⟩) (gco0_2 : PySem.W.codeIn K gcd0_2 "Reader.take" = true) (gkk0_2 : PySem.W.keepIn K (.ref gf0_2) = true)
    (gna0_row : PySem.W.findIn K (.ref C0) "row" = some none)
    (gna0_last : PySem.W.findIn K (.ref C0) "last" = some none)
    (gna0_told : PySem.W.findIn K (.ref C0) "told" = some none)
    {aPostError aBadBook aNoOffice aBadPosting aNoPosting aBadText : Addr}
    (xg_PostError : PySem.W.nsIn K mainGlobals "PostError" = some (some (.ref aPostError)))
    (xc_PostError : PySem.W.isClsIn K aPostError = true)
    (xt_PostError : PySem.W.typeIn K (.ref aPostError) = some (.type "type"))
    (xs_PostError : PySem.W.subIn K (.ref aPostError) (.type "BaseException") = some true)
    (xh_PostError : PySem.W.hasDictIn K aPostError = true)
    (xg_BadBook : PySem.W.nsIn K mainGlobals "BadBook" = some (some (.ref aBadBook)))
    (xc_BadBook : PySem.W.isClsIn K aBadBook = true)
    (xt_BadBook : PySem.W.typeIn K (.ref aBadBook) = some (.type "type"))
    (xs_BadBook : PySem.W.subIn K (.ref aBadBook) (.type "BaseException") = some true)
    (xh_BadBook : PySem.W.hasDictIn K aBadBook = true)
    (xg_NoOffice : PySem.W.nsIn K mainGlobals "NoOffice" = some (some (.ref aNoOffice)))
    (xc_NoOffice : PySem.W.isClsIn K aNoOffice = true)
    (xt_NoOffice : PySem.W.typeIn K (.ref aNoOffice) = some (.type "type"))
    (xs_NoOffice : PySem.W.subIn K (.ref aNoOffice) (.type "BaseException") = some true)
    (xh_NoOffice : PySem.W.hasDictIn K aNoOffice = true)
    (xg_BadPosting : PySem.W.nsIn K mainGlobals "BadPosting" = some (some (.ref aBadPosting)))
    (xc_BadPosting : PySem.W.isClsIn K aBadPosting = true)
    (xt_BadPosting : PySem.W.typeIn K (.ref aBadPosting) = some (.type "type"))
    (xs_BadPosting : PySem.W.subIn K (.ref aBadPosting) (.type "BaseException") = some true)
    (xh_BadPosting : PySem.W.hasDictIn K aBadPosting = true)
    (xg_NoPosting : PySem.W.nsIn K mainGlobals "NoPosting" = some (some (.ref aNoPosting)))
    (xc_NoPosting : PySem.W.isClsIn K aNoPosting = true)
    (xt_NoPosting : PySem.W.typeIn K (.ref aNoPosting) = some (.type "type"))
    (xs_NoPosting : PySem.W.subIn K (.ref aNoPosting) (.type "BaseException") = some true)
    (xh_NoPosting : PySem.W.hasDictIn K aNoPosting = true)
    (xg_BadText : PySem.W.nsIn K mainGlobals "BadText" = some (some (.ref aBadText)))
    (xc_BadText : PySem.W.isClsIn K aBadText = true)
    (xt_BadText : PySem.W.typeIn K (.ref aBadText) = some (.type "type"))
    (xs_BadText : PySem.W.subIn K (.ref aBadText) (.type "BaseException") = some true)
    (xh_BadText : PySem.W.hasDictIn K aBadText = true)
    (xp_BadText_PostError : PySem.W.subIn K (.ref aBadText) (.ref aPostError) = some true)
    (xp_BadText_BadBook : PySem.W.subIn K (.ref aBadText) (.ref aBadBook) = some false)
    (xp_BadText_NoOffice : PySem.W.subIn K (.ref aBadText) (.ref aNoOffice) = some false)
    (xp_BadText_BadPosting : PySem.W.subIn K (.ref aBadText) (.ref aBadPosting) = some false)
    (xp_BadText_NoPosting : PySem.W.subIn K (.ref aBadText) (.ref aNoPosting) = some false)
    (xp_BadText_BadText : PySem.W.subIn K (.ref aBadText) (.ref aBadText) = some true)
    (xv_BadText : PySem.W.subIn K (.ref aBadText) (.type "ValueError") = some true)
    (xiA_BadText : PySem.W.findIn K (.ref aBadText) "__getattribute__" = some (some (.builtin "BaseException.__getattribute__")))
    (xiB_BadText : PySem.W.findIn K (.ref aBadText) "__getattr__" = some none)
    (xiC_BadText : PySem.W.findIn K (.ref aBadText) "__class__" = some (some (.builtin "object.__class__")))
    (xiD_BadText : PySem.W.specialIn K (.builtin "object.__class__") "__get__" = some (some (.builtin "getset_descriptor.__get__")))
    (xiE_BadText : PySem.W.takesIn K (.builtin "object.__class__") = some true)
    (xiF_BadText : PySem.W.mroIn K aBadText (.type "object") = some true)
    (xkC_BadText : PySem.W.keepIn K (.ref aBadText) = true)
    {nm_BadText q_BadText : Str} {N_BadText : Addr} {bs_BadText : List Value} {sn_BadText : List Str} {su_BadText : List Value} {ab_BadText : Bool} {co_BadText : Option Bool} {dd_BadText : Option Addr} {k0_BadText k1_BadText k2_BadText k3_BadText k5_BadText : Option Value} {xf_BadText : Addr} {xod_BadText xan_BadText : Option Addr} {xsl_BadText : Array (Option Value)} {xoc_BadText xkV_BadText xdc_BadText xpm_BadText xcd_BadText xct_BadText : Value}
    (xl_BadText : K.lookup aBadText = some (excClassObj nm_BadText q_BadText aBadText N_BadText bs_BadText [.ref aPostError, .type "ValueError", .type "Exception", .type "BaseException", .type "object"] true sn_BadText su_BadText ab_BadText co_BadText dd_BadText k0_BadText k1_BadText k2_BadText k3_BadText k5_BadText "ValueError.__new__"))
    (xsa_BadText : PySem.W.findIn K (.ref aBadText) "__setattr__" = some (some (.builtin "object.__setattr__")))
    (xno_BadText : PySem.W.findIn K (.ref aBadText) "row" = some none)
    (xI_BadText : PySem.W.findIn K (.ref aBadText) "__init__" = some (some (.ref xf_BadText)))
    (xtI_BadText : PySem.W.typeIn K (.ref xf_BadText) = some (.type "function"))
    (xlk_BadText : K.lookup xf_BadText = some ⟨xoc_BadText, xod_BadText, .func (PySem.W.fnOf "__init__" "BadText.__init__" (defArgs s_BadText___init__) (defBody s_BadText___init__) (defScope s_BadText___init__) .none xkV_BadText xdc_BadText xpm_BadText xan_BadText xcd_BadText xct_BadText), xsl_BadText⟩)
    (xco_BadText : PySem.W.codeIn K xcd_BadText "BadText.__init__" = true)
    (xkk_BadText : PySem.W.keepIn K (.ref xf_BadText) = true)
    (xp_BadBook_PostError : PySem.W.subIn K (.ref aBadBook) (.ref aPostError) = some true)
    (xp_BadBook_BadBook : PySem.W.subIn K (.ref aBadBook) (.ref aBadBook) = some true)
    (xp_BadBook_NoOffice : PySem.W.subIn K (.ref aBadBook) (.ref aNoOffice) = some false)
    (xp_BadBook_BadPosting : PySem.W.subIn K (.ref aBadBook) (.ref aBadPosting) = some false)
    (xp_BadBook_NoPosting : PySem.W.subIn K (.ref aBadBook) (.ref aNoPosting) = some false)
    (xp_BadBook_BadText : PySem.W.subIn K (.ref aBadBook) (.ref aBadText) = some false)
    (xv_BadBook : PySem.W.subIn K (.ref aBadBook) (.type "ValueError") = some true)
    (xiA_BadBook : PySem.W.findIn K (.ref aBadBook) "__getattribute__" = some (some (.builtin "BaseException.__getattribute__")))
    (xiB_BadBook : PySem.W.findIn K (.ref aBadBook) "__getattr__" = some none)
    (xiC_BadBook : PySem.W.findIn K (.ref aBadBook) "__class__" = some (some (.builtin "object.__class__")))
    (xiD_BadBook : PySem.W.specialIn K (.builtin "object.__class__") "__get__" = some (some (.builtin "getset_descriptor.__get__")))
    (xiE_BadBook : PySem.W.takesIn K (.builtin "object.__class__") = some true)
    (xiF_BadBook : PySem.W.mroIn K aBadBook (.type "object") = some true)
    (xkC_BadBook : PySem.W.keepIn K (.ref aBadBook) = true)
    {nm_BadBook q_BadBook : Str} {N_BadBook : Addr} {bs_BadBook : List Value} {sn_BadBook : List Str} {su_BadBook : List Value} {ab_BadBook : Bool} {co_BadBook : Option Bool} {dd_BadBook : Option Addr} {k0_BadBook k1_BadBook k2_BadBook k3_BadBook k5_BadBook : Option Value} {xf_BadBook : Addr} {xod_BadBook xan_BadBook : Option Addr} {xsl_BadBook : Array (Option Value)} {xoc_BadBook xkV_BadBook xdc_BadBook xpm_BadBook xcd_BadBook xct_BadBook : Value}
    (xl_BadBook : K.lookup aBadBook = some (excClassObj nm_BadBook q_BadBook aBadBook N_BadBook bs_BadBook [.ref aPostError, .type "ValueError", .type "Exception", .type "BaseException", .type "object"] true sn_BadBook su_BadBook ab_BadBook co_BadBook dd_BadBook k0_BadBook k1_BadBook k2_BadBook k3_BadBook k5_BadBook "ValueError.__new__"))
    (xsa_BadBook : PySem.W.findIn K (.ref aBadBook) "__setattr__" = some (some (.builtin "object.__setattr__")))
    (xno_BadBook : PySem.W.findIn K (.ref aBadBook) "why" = some none)
    (xI_BadBook : PySem.W.findIn K (.ref aBadBook) "__init__" = some (some (.ref xf_BadBook)))
    (xtI_BadBook : PySem.W.typeIn K (.ref xf_BadBook) = some (.type "function"))
    (xlk_BadBook : K.lookup xf_BadBook = some ⟨xoc_BadBook, xod_BadBook, .func (PySem.W.fnOf "__init__" "BadBook.__init__" (defArgs s_BadBook___init__) (defBody s_BadBook___init__) (defScope s_BadBook___init__) .none xkV_BadBook xdc_BadBook xpm_BadBook xan_BadBook xcd_BadBook xct_BadBook), xsl_BadBook⟩)
    (xco_BadBook : PySem.W.codeIn K xcd_BadBook "BadBook.__init__" = true)
    (xkk_BadBook : PySem.W.keepIn K (.ref xf_BadBook) = true)
    (xVE : PySem.W.nsIn K mainGlobals "ValueError" = some none)
    : Md K mg ∧ ∃ f fd, L2.Fun K "law" "law" s_law f fd ∧ mg "law" = some (.ref f) ∧ (∀ (s : Shared) (v : Value), BindsTo s fd ⟨[v], []⟩ [("_law_script", v)]) := 
  And.intro {
    c_LEAST_OFFICES := let ⟨t, e⟩ := n0; ⟨t, PySem.W.mg_of X G e⟩
    c_MOST_OFFICES := let ⟨t, e⟩ := n1; ⟨t, PySem.W.mg_of X G e⟩
    c_MOST_FLIGHT := let ⟨t, e⟩ := n2; ⟨t, PySem.W.mg_of X G e⟩
    c_MOST_STORMS := let ⟨t, e⟩ := n3; ⟨t, PySem.W.mg_of X G e⟩
    c_MOST_CARTS := let ⟨t, e⟩ := n4; ⟨t, PySem.W.mg_of X G e⟩
    c_MOST_BIRDS := let ⟨t, e⟩ := n5; ⟨t, PySem.W.mg_of X G e⟩
    c_MOST_HOUR := let ⟨t, e⟩ := n6; ⟨t, PySem.W.mg_of X G e⟩
    c_FLIGHTS := let ⟨t, e⟩ := n7; ⟨t, PySem.W.mg_of X G e⟩
    c_STORMS := let ⟨t, e⟩ := n8; ⟨t, PySem.W.mg_of X G e⟩
    c_CARTS := let ⟨t, e⟩ := n9; ⟨t, PySem.W.mg_of X G e⟩
    c_BIRDS := let ⟨t, e⟩ := n10; ⟨t, PySem.W.mg_of X G e⟩
    c_MOST_FIGURES := let ⟨t, e⟩ := n11; ⟨t, PySem.W.mg_of X G e⟩
    s_FIGURES := let ⟨t, e⟩ := y0; ⟨t, PySem.W.mg_of X G e⟩
    t_SORTS := ⟨tp0, _, _, _, PySem.W.mg_of X G ta0, tb0, rfl, rfl, rfl, Nat.le_of_ble_eq_true rfl, (.cons ⟨_, rfl⟩ (.cons ⟨_, rfl⟩ (.cons ⟨_, rfl⟩ (.cons ⟨_, rfl⟩ .nil))))⟩
    d_need := have F := L2.fun_mk (st := s_need) l0 c0 k0; ⟨_, _, F, PySem.W.mg_of X G a0, F.binds fun _ _ _ _ _ _ us hl => match us, hl with | [_, _], _ => rfl⟩
    d_is_office := have F := L2.fun_mk (st := s_is_office) l1 c1 k1; ⟨_, _, F, PySem.W.mg_of X G a1, F.binds fun _ _ _ _ _ _ us hl => match us, hl with | [_, _], _ => rfl⟩
    d_need_flights := have F := L2.fun_mk (st := s_need_flights) l2 c2 k2; ⟨_, _, F, PySem.W.mg_of X G a2, F.binds fun _ _ _ _ _ _ us hl => match us, hl with | [_], _ => rfl⟩
    d_need_rows := have F := L2.fun_mk (st := s_need_rows) l3 c3 k3; ⟨_, _, F, PySem.W.mg_of X G a3, F.binds fun _ _ _ _ _ _ us hl => match us, hl with | [_, _, _, _], _ => rfl⟩
    d_need_book := have F := L2.fun_mk (st := s_need_book) l4 c4 k4; ⟨_, _, F, PySem.W.mg_of X G a4, F.binds fun _ _ _ _ _ _ us hl => match us, hl with | [_], _ => rfl⟩
    d_row_of := have F := L2.fun_mk (st := s_row_of) l5 c5 k5; ⟨_, _, F, PySem.W.mg_of X G a5, F.binds fun _ _ _ _ _ _ us hl => match us, hl with | [_, _], _ => rfl⟩
    d_written := have F := L2.fun_mk (st := s_written) l6 c6 k6; ⟨_, _, F, PySem.W.mg_of X G a6, F.binds fun _ _ _ _ _ _ us hl => match us, hl with | [_], _ => rfl⟩
    d_is_number := have F := L2.fun_mk (st := s_is_number) l7 c7 k7; ⟨_, _, F, PySem.W.mg_of X G a7, F.binds fun _ _ _ _ _ _ us hl => match us, hl with | [_], _ => rfl⟩
    d_read := have F := L2.fun_mk (st := s_read) l8 c8 k8; ⟨_, _, F, PySem.W.mg_of X G a8, F.binds fun _ _ _ _ _ _ us hl => match us, hl with | [_], _ => rfl⟩
    d__law_next := have F := L2.fun_mk (st := s__law_next) l9 c9 k9; ⟨_, _, F, PySem.W.mg_of X G a9, F.binds fun _ _ _ _ _ _ us hl => match us, hl with | [_, _], _ => rfl⟩
    d__law_hours := have F := L2.fun_mk (st := s__law_hours) l10 c10 k10; ⟨_, _, F, PySem.W.mg_of X G a10, F.binds fun _ _ _ _ _ _ us hl => match us, hl with | [_, _, _], _ => rfl⟩
    d__law_book := have F := L2.fun_mk (st := s__law_book) l11 c11 k11; ⟨_, _, F, PySem.W.mg_of X G a11, F.binds fun _ _ _ _ _ _ us hl => match us, hl with | [_, _, _], _ => rfl⟩
    d__law_refusal := have F := L2.fun_mk (st := s__law_refusal) l12 c12 k12; ⟨_, _, F, PySem.W.mg_of X G a12, F.binds fun _ _ _ _ _ _ us hl => match us, hl with | [_], _ => rfl⟩
    b_bool := PySem.W.mg_none_of X G z0
    b_enumerate := PySem.W.mg_none_of X G z1
    b_int := PySem.W.mg_none_of X G z2
    b_isinstance := PySem.W.mg_none_of X G z3
    b_len := PySem.W.mg_none_of X G z4
    b_list := PySem.W.mg_none_of X G z5
    b_max := PySem.W.mg_none_of X G z6
    b_min := PySem.W.mg_none_of X G z7
    b_range := PySem.W.mg_none_of X G z8
    b_str := PySem.W.mg_none_of X G z9
    b_tuple := PySem.W.mg_none_of X G z10
    b_zip := PySem.W.mg_none_of X G z11
    g_Reader := ⟨C0, {
      cl := ⟨gpg0, ghd0, gpo0, gsa0⟩
      mkd := have F := L2.fun_mk (st := s_Reader___init__) glk0_0 gco0_0 gkk0_0; ⟨_, _, F, ⟨gmk0, gfi0_0, gfn0_0, gkp0⟩, PySem.W.mg_of X G ga0, F.binds fun _ _ _ _ _ _ us hl => match us, hl with | [_], _ => rfl⟩
      m_must := have F := L2.fun_mk (st := s_Reader_must) glk0_1 gco0_1 gkk0_1; ⟨_, _, F, ⟨gfi0_1, gfn0_1, gkk0_1⟩, F.binds fun _ _ _ _ _ _ us hl => match us, hl with | [_, _], _ => rfl⟩
      m_take := have F := L2.fun_mk (st := s_Reader_take) glk0_2 gco0_2 gkk0_2; ⟨_, _, F, ⟨gfi0_2, gfn0_2, gkk0_2⟩, F.binds fun _ _ _ _ _ _ us hl => match us, hl with | [_, _], _ => rfl⟩
      na_row := gna0_row
      na_last := gna0_last
      na_told := gna0_told }⟩
    b_ValueError := PySem.W.mg_none_of X G xVE
    exs := ⟨aPostError, aBadBook, aNoOffice, aBadPosting, aNoPosting, aBadText, {
      g_PostError := PySem.W.mg_of X G xg_PostError
      c_PostError := xc_PostError
      t_PostError := xt_PostError
      s_PostError := xs_PostError
      h_PostError := xh_PostError
      g_BadBook := PySem.W.mg_of X G xg_BadBook
      c_BadBook := xc_BadBook
      t_BadBook := xt_BadBook
      s_BadBook := xs_BadBook
      h_BadBook := xh_BadBook
      g_NoOffice := PySem.W.mg_of X G xg_NoOffice
      c_NoOffice := xc_NoOffice
      t_NoOffice := xt_NoOffice
      s_NoOffice := xs_NoOffice
      h_NoOffice := xh_NoOffice
      g_BadPosting := PySem.W.mg_of X G xg_BadPosting
      c_BadPosting := xc_BadPosting
      t_BadPosting := xt_BadPosting
      s_BadPosting := xs_BadPosting
      h_BadPosting := xh_BadPosting
      g_NoPosting := PySem.W.mg_of X G xg_NoPosting
      c_NoPosting := xc_NoPosting
      t_NoPosting := xt_NoPosting
      s_NoPosting := xs_NoPosting
      h_NoPosting := xh_NoPosting
      g_BadText := PySem.W.mg_of X G xg_BadText
      c_BadText := xc_BadText
      t_BadText := xt_BadText
      s_BadText := xs_BadText
      h_BadText := xh_BadText
      p_BadText_PostError := xp_BadText_PostError
      p_BadText_BadBook := xp_BadText_BadBook
      p_BadText_NoOffice := xp_BadText_NoOffice
      p_BadText_BadPosting := xp_BadText_BadPosting
      p_BadText_NoPosting := xp_BadText_NoPosting
      p_BadText_BadText := xp_BadText_BadText
      v_BadText := xv_BadText
      i_BadText := ⟨xc_BadText, xiA_BadText, xiB_BadText, xs_BadText, xiC_BadText, xiD_BadText, xiE_BadText, xiF_BadText, xh_BadText⟩
      x_BadText := have F := L2.fun_mk (st := s_BadText___init__) xlk_BadText xco_BadText xkk_BadText; ⟨PySem.W.mg_of X G xg_BadText, ⟨⟨_, _, _, _, _, _, _, _, _, _, _, _, _, _, _, xl_BadText, show PySem.HandSPX.refsVE [.type "ValueError", .type "Exception", .type "BaseException", .type "object"] = true by decide +kernel⟩, xsa_BadText, xs_BadText, xt_BadText, xkC_BadText⟩, xno_BadText, _, _, xI_BadText, xtI_BadText, F.binds (fun _ _ _ _ _ _ us hl => match us, hl with | [_, _], _ => rfl), F⟩
      p_BadBook_PostError := xp_BadBook_PostError
      p_BadBook_BadBook := xp_BadBook_BadBook
      p_BadBook_NoOffice := xp_BadBook_NoOffice
      p_BadBook_BadPosting := xp_BadBook_BadPosting
      p_BadBook_NoPosting := xp_BadBook_NoPosting
      p_BadBook_BadText := xp_BadBook_BadText
      v_BadBook := xv_BadBook
      i_BadBook := ⟨xc_BadBook, xiA_BadBook, xiB_BadBook, xs_BadBook, xiC_BadBook, xiD_BadBook, xiE_BadBook, xiF_BadBook, xh_BadBook⟩
      x_BadBook := have F := L2.fun_mk (st := s_BadBook___init__) xlk_BadBook xco_BadBook xkk_BadBook; ⟨PySem.W.mg_of X G xg_BadBook, ⟨⟨_, _, _, _, _, _, _, _, _, _, _, _, _, _, _, xl_BadBook, show PySem.HandSPX.refsVE [.type "ValueError", .type "Exception", .type "BaseException", .type "object"] = true by decide +kernel⟩, xsa_BadBook, xs_BadBook, xt_BadBook, xkC_BadBook⟩, xno_BadBook, _, _, xI_BadBook, xtI_BadBook, F.binds (fun _ _ _ _ _ _ us hl => match us, hl with | [_, _], _ => rfl), F⟩ }⟩
    }
  (⟨f13, _, L2.fun_mk (st := s_law) l13 c13 k13, PySem.W.mg_of X G a13, fun s v => .of_eq rfl⟩)
end
end K
open PySem PySem.W PyProof.Rows in
set_option maxRecDepth 100000 in
set_option maxHeartbeats 0 in
theorem PySem.Challenge.cw_homingpost_k13_texts_refused_holds : PySem.Challenge.rw_homingpost_k13_texts_refused.Holds := by
  w_on; o_law; k_head; (case hw => w_witness2)
  k_fill
  refine K.walk (l := PySem.Challenge.rw_homingpost_k13_texts_refused) rfl rfl (fun w h Y => PySem.W.kIn_of Y) ?F rfl
  case F =>
    intro w mg fa h KX G hmg
    refine' K.md_mk KX G ?a0 ?l0 ?c0 ?k0 ?a1 ?l1 ?c1 ?k1 ?a2 ?l2 ?c2 ?k2 ?a3 ?l3 ?c3 ?k3 ?a4 ?l4 ?c4 ?k4 ?a5 ?l5 ?c5 ?k5 ?a6 ?l6 ?c6 ?k6 ?a7 ?l7 ?c7 ?k7 ?a8 ?l8 ?c8 ?k8 ?a9 ?l9 ?c9 ?k9 ?a10 ?l10 ?c10 ?k10 ?a11 ?l11 ?c11 ?k11 ?a12 ?l12 ?c12 ?k12 ?a13 ?l13 ?c13 ?k13 ?n0 ?n1 ?n2 ?n3 ?n4 ?n5 ?n6 ?n7 ?n8 ?n9 ?n10 ?n11 ?y0 ?ta0 ?tb0 ?z0 ?z1 ?z2 ?z3 ?z4 ?z5 ?z6 ?z7 ?z8 ?z9 ?z10 ?z11 ?ga0 ?gpg0 ?ghd0 ?gpo0 ?gsa0 ?gmk0 ?gkp0 ?gfi0_0 ?gfn0_0 ?glk0_0 ?gco0_0 ?gkk0_0 ?gfi0_1 ?gfn0_1 ?glk0_1 ?gco0_1 ?gkk0_1 ?gfi0_2 ?gfn0_2 ?glk0_2 ?gco0_2 ?gkk0_2 ?gna0_row ?gna0_last ?gna0_told ?xg_PostError ?xc_PostError ?xt_PostError ?xs_PostError ?xh_PostError ?xg_BadBook ?xc_BadBook ?xt_BadBook ?xs_BadBook ?xh_BadBook ?xg_NoOffice ?xc_NoOffice ?xt_NoOffice ?xs_NoOffice ?xh_NoOffice ?xg_BadPosting ?xc_BadPosting ?xt_BadPosting ?xs_BadPosting ?xh_BadPosting ?xg_NoPosting ?xc_NoPosting ?xt_NoPosting ?xs_NoPosting ?xh_NoPosting ?xg_BadText ?xc_BadText ?xt_BadText ?xs_BadText ?xh_BadText ?xp_BadText_PostError ?xp_BadText_BadBook ?xp_BadText_NoOffice ?xp_BadText_BadPosting ?xp_BadText_NoPosting ?xp_BadText_BadText ?xv_BadText ?xiA_BadText ?xiB_BadText ?xiC_BadText ?xiD_BadText ?xiE_BadText ?xiF_BadText ?xkC_BadText ?xl_BadText ?xsa_BadText ?xno_BadText ?xI_BadText ?xtI_BadText ?xlk_BadText ?xco_BadText ?xkk_BadText ?xp_BadBook_PostError ?xp_BadBook_BadBook ?xp_BadBook_NoOffice ?xp_BadBook_BadPosting ?xp_BadBook_NoPosting ?xp_BadBook_BadText ?xv_BadBook ?xiA_BadBook ?xiB_BadBook ?xiC_BadBook ?xiD_BadBook ?xiE_BadBook ?xiF_BadBook ?xkC_BadBook ?xl_BadBook ?xsa_BadBook ?xno_BadBook ?xI_BadBook ?xtI_BadBook ?xlk_BadBook ?xco_BadBook ?xkk_BadBook ?xVE
    (case a0 => k_is)
    (case l0 => k_is)
    (case c0 => k_is)
    (case k0 => k_is)
    (case a1 => k_is)
    (case l1 => k_is)
    (case c1 => k_is)
    (case k1 => k_is)
    (case a2 => k_is)
    (case l2 => k_is)
    (case c2 => k_is)
    (case k2 => k_is)
    (case a3 => k_is)
    (case l3 => k_is)
    (case c3 => k_is)
    (case k3 => k_is)
    (case a4 => k_is)
    (case l4 => k_is)
    (case c4 => k_is)
    (case k4 => k_is)
    (case a5 => k_is)
    (case l5 => k_is)
    (case c5 => k_is)
    (case k5 => k_is)
    (case a6 => k_is)
    (case l6 => k_is)
    (case c6 => k_is)
    (case k6 => k_is)
    (case a7 => k_is)
    (case l7 => k_is)
    (case c7 => k_is)
    (case k7 => k_is)
    (case a8 => k_is)
    (case l8 => k_is)
    (case c8 => k_is)
    (case k8 => k_is)
    (case a9 => k_is)
    (case l9 => k_is)
    (case c9 => k_is)
    (case k9 => k_is)
    (case a10 => k_is)
    (case l10 => k_is)
    (case c10 => k_is)
    (case k10 => k_is)
    (case a11 => k_is)
    (case l11 => k_is)
    (case c11 => k_is)
    (case k11 => k_is)
    (case a12 => k_is)
    (case l12 => k_is)
    (case c12 => k_is)
    (case k12 => k_is)
    (case a13 => k_is)
    (case l13 => k_is)
    (case c13 => k_is)
    (case k13 => k_is)
    (case n0 => exact ⟨_, by k_is⟩)
    (case n1 => exact ⟨_, by k_is⟩)
    (case n2 => exact ⟨_, by k_is⟩)
    (case n3 => exact ⟨_, by k_is⟩)
    (case n4 => exact ⟨_, by k_is⟩)
    (case n5 => exact ⟨_, by k_is⟩)
    (case n6 => exact ⟨_, by k_is⟩)
    (case n7 => exact ⟨_, by k_is⟩)
    (case n8 => exact ⟨_, by k_is⟩)
    (case n9 => exact ⟨_, by k_is⟩)
    (case n10 => exact ⟨_, by k_is⟩)
    (case n11 => exact ⟨_, by k_is⟩)
    (case y0 => exact ⟨_, by k_is⟩)
    (case ta0 => k_is)
    (case tb0 => k_is)
    (case z0 => k_is)
    (case z1 => k_is)
    (case z2 => k_is)
    (case z3 => k_is)
    (case z4 => k_is)
    (case z5 => k_is)
    (case z6 => k_is)
    (case z7 => k_is)
    (case z8 => k_is)
    (case z9 => k_is)
    (case z10 => k_is)
    (case z11 => k_is)
    (case ga0 => k_is)
    (case gpg0 => k_is)
    (case ghd0 => k_is)
    (case gpo0 => k_is)
    (case gsa0 => k_is)
    (case gmk0 => k_is)
    (case gkp0 => k_is)
    (case gfi0_0 => k_is)
    (case gfn0_0 => k_is)
    (case glk0_0 => k_is)
    (case gco0_0 => k_is)
    (case gkk0_0 => k_is)
    (case gfi0_1 => k_is)
    (case gfn0_1 => k_is)
    (case glk0_1 => k_is)
    (case gco0_1 => k_is)
    (case gkk0_1 => k_is)
    (case gfi0_2 => k_is)
    (case gfn0_2 => k_is)
    (case glk0_2 => k_is)
    (case gco0_2 => k_is)
    (case gkk0_2 => k_is)
    (case gna0_row => k_is)
    (case gna0_last => k_is)
    (case gna0_told => k_is)
    (case xg_PostError => k_is)
    (case xc_PostError => k_is)
    (case xt_PostError => k_is)
    (case xs_PostError => k_is)
    (case xh_PostError => k_is)
    (case xg_BadBook => k_is)
    (case xc_BadBook => k_is)
    (case xt_BadBook => k_is)
    (case xs_BadBook => k_is)
    (case xh_BadBook => k_is)
    (case xg_NoOffice => k_is)
    (case xc_NoOffice => k_is)
    (case xt_NoOffice => k_is)
    (case xs_NoOffice => k_is)
    (case xh_NoOffice => k_is)
    (case xg_BadPosting => k_is)
    (case xc_BadPosting => k_is)
    (case xt_BadPosting => k_is)
    (case xs_BadPosting => k_is)
    (case xh_BadPosting => k_is)
    (case xg_NoPosting => k_is)
    (case xc_NoPosting => k_is)
    (case xt_NoPosting => k_is)
    (case xs_NoPosting => k_is)
    (case xh_NoPosting => k_is)
    (case xg_BadText => k_is)
    (case xc_BadText => k_is)
    (case xt_BadText => k_is)
    (case xs_BadText => k_is)
    (case xh_BadText => k_is)
    (case xp_BadText_PostError => k_is)
    (case xp_BadText_BadBook => k_is)
    (case xp_BadText_NoOffice => k_is)
    (case xp_BadText_BadPosting => k_is)
    (case xp_BadText_NoPosting => k_is)
    (case xp_BadText_BadText => k_is)
    (case xv_BadText => k_is)
    (case xiA_BadText => k_is)
    (case xiB_BadText => k_is)
    (case xiC_BadText => k_is)
    (case xiD_BadText => k_is)
    (case xiE_BadText => k_is)
    (case xiF_BadText => k_is)
    (case xkC_BadText => k_is)
    (case xl_BadText => k_is)
    (case xsa_BadText => k_is)
    (case xno_BadText => k_is)
    (case xI_BadText => k_is)
    (case xtI_BadText => k_is)
    (case xlk_BadText => k_is)
    (case xco_BadText => k_is)
    (case xkk_BadText => k_is)
    (case xp_BadBook_PostError => k_is)
    (case xp_BadBook_BadBook => k_is)
    (case xp_BadBook_NoOffice => k_is)
    (case xp_BadBook_BadPosting => k_is)
    (case xp_BadBook_NoPosting => k_is)
    (case xp_BadBook_BadText => k_is)
    (case xv_BadBook => k_is)
    (case xiA_BadBook => k_is)
    (case xiB_BadBook => k_is)
    (case xiC_BadBook => k_is)
    (case xiD_BadBook => k_is)
    (case xiE_BadBook => k_is)
    (case xiF_BadBook => k_is)
    (case xkC_BadBook => k_is)
    (case xl_BadBook => k_is)
    (case xsa_BadBook => k_is)
    (case xno_BadBook => k_is)
    (case xI_BadBook => k_is)
    (case xtI_BadBook => k_is)
    (case xlk_BadBook => k_is)
    (case xco_BadBook => k_is)
    (case xkk_BadBook => k_is)
    (case xVE => k_is)
