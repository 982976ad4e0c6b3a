import PyProof.Rows.All
import Wide.All
import OpenK.AllK
import Wide.FinOn
import HandS.ForMost
import HandS.TupAny
import HandS.TupMul
import HandS.Walk
import HandS.IsInst
import HandS.TupSets
import HandS.ExcInit
import KE.KxSplit
import HandS.EndTab
import HandS.Lambda
import HandS.Deep
import KE.GoesEnum
import HandS.Zip
import HandS.SortInts
import HandS.RevTup
import HandS.Rev
import HandS.More
import PyProof.P3In
import HandS.Strs
import HandS.SetFor
import HandS.Style
import HandS.Small
import HandS.Conv
import KE.SortKeyHeap
import HandS.Words
import PySem.Challenge.RW_homingpost_k04_whole_letters_spread
set_option Elab.async false
set_option linter.all false
set_option maxRecDepth 100000
set_option maxHeartbeats 4000000
namespace Z
open PySem PySem.Spec L2
/-- the state of the law's drawing -/
structure Rg where
  s : Int
  c : List Int
  k : Int
/-- what a slot holds: nothing known, data that stays, a list of our own, the drawing state, an instance that stays, a dict of our own -/
inductive SK where
  | no
  | dat (d : PyData)
  | own (ds : List PyData)
  | rng (a b : Addr) (r : Rg)
  | ins (C : Addr) (fs : List (Str × PyData))
  | dic (kvs : List (Int × PyData))
  | ptr (a : Addr)
  | tlo (d0 ds : List PyData)
def isRng : SK → Bool
  | .rng _ _ _ => true
  | _ => false
/-- where a def began: what stays, the heap, what it may change -/
structure Wd where
  G : Hp
  H : Hp
  M : Addr → Prop
/-- the tables of code objects that the program's lambdas go into, each with its lambdas' name -/
class Tabl where
  T : List (Addr × Str)
variable [Tabl]
/-- the tables are as they shall be, and none of them is among what stays -/
structure TbO (G H : Hp) : Prop where
  g : ∀ p ∈ Tabl.T, G p.1 = none
  t : LamX.Tabs Tabl.T H
/-- a thing that is neither a table nor known by a statement alone -/
def Pl (u : HO) : Prop := (∀ ps, u ≠ .tbl ps) ∧ ∀ φ, u ≠ .ext φ
theorem pl_lst {xs : List V} : Pl (.lst xs) := ⟨(fun _ z => by cases z), (fun _ z => by cases z)⟩
theorem TbO.at {G H : Hp} (t : TbO G H) {p : Addr × Str} (hp : p ∈ Tabl.T) : ∃ ps, H p.1 = some (.tbl ps) := let ⟨ps, h, _⟩ := t.t p hp; ⟨ps, h⟩
theorem TbO.mono {G H G2 H2 : Hp} (t : TbO G H) (hg : ∀ p ∈ Tabl.T, G2 p.1 = none) (k : ∀ b o, ¬ Pl o → H b = some o → H2 b = some o) : TbO G2 H2 := ⟨hg, fun p hp => by
  obtain ⟨ps, h1, h2, h3⟩ := t.t p hp
  refine ⟨ps, k _ _ (fun z => z.1 ps rfl) h1, h2, fun q cv hc => ?_⟩
  obtain ⟨c, e1, e2⟩ := h3 q cv hc
  exact ⟨c, e1, k _ _ (fun z => z.2 _ rfl) e2⟩⟩
theorem TbO.upd {G H : Hp} {a : Addr} {o : HO} (t : TbO G H) (n : ∀ u, H a = some u → Pl u) : TbO G (upd H a o) := t.mono t.g fun b u nu e => by
  have : b ≠ a := fun z => by subst z; exact nu (n u e)
  rw [upd_ne this]; exact e
theorem TbO.updG {G H : Hp} {a : Addr} {o : HO} (t : TbO G H) (n : H a = some o) (pl : Pl o) : TbO (L2.upd G a o) H := t.mono (fun p hp => by
  obtain ⟨ps, h⟩ := t.at hp
  have : p.1 ≠ a := fun z => by rw [z, n] at h; cases h; exact pl.1 ps rfl
  rw [upd_ne this]; exact t.g p hp) fun b u _ e => e
structure Le (W : Wd) (G H : Hp) : Prop where
  g : Same W.G G
  gh : Same G H
  keep : ∀ a o, ¬ W.M a → (∀ ps, o ≠ .tbl ps) → W.H a = some o → H a = some o
  there : ∀ a o, W.H a = some o → ∃ o', H a = some o'
  fz : ∀ a o, W.G a = none → W.H a = some o → G a = none
  m : ∀ a, W.M a → ∃ o, W.H a = some o
  tb : TbO G H
/-- nothing that stood is changed -/
structure Lp (G0 H0 G H : Hp) : Prop where
  g : Same G0 G
  gh : Same G H
  keep : ∀ a o, ¬ False → H0 a = some o → H a = some o
  there : ∀ a o, H0 a = some o → ∃ o', H a = some o'
  fz : ∀ a o, G0 a = none → H0 a = some o → G a = none
abbrev pur (G H : Hp) : Wd := ⟨G, H, fun _ => False⟩
theorem Le.refl {G H : Hp} (h : Same G H) (t : TbO G H) : Le (pur G H) G H :=
  ⟨Same.refl G, h, fun _ _ _ _ e => e, fun _ o e => ⟨o, e⟩, fun _ _ e _ => e, fun _ z => z.elim, t⟩
theorem Lp.refl {G H : Hp} (h : Same G H) : Lp G H G H :=
  ⟨Same.refl G, h, fun _ _ _ e => e, fun _ o e => ⟨o, e⟩, fun _ _ e _ => e⟩
theorem TbO.step {G H G2 H2 : Hp} (t : TbO G H) (l : Lp G H G2 H2) : TbO G2 H2 := t.mono (fun p hp => by
  obtain ⟨ps, h⟩ := t.at hp
  exact l.fz _ _ (t.g p hp) h) fun b o _ e => l.keep b o (fun z => z) e
theorem Le.trans {W : Wd} {G H G2 H2 : Hp} (a : Le W G H) (b : Lp G H G2 H2) : Le W G2 H2 where
  g := a.g.trans b.g
  gh := b.gh
  keep := fun x o m nt e => b.keep x o (fun z => z) (a.keep x o m nt e)
  there := fun x o e => let ⟨o', e'⟩ := a.there x o e; b.there x o' e'
  fz := fun x o n e => let ⟨o', e'⟩ := a.there x o e; b.fz x o' (a.fz x o n e) e'
  m := a.m
  tb := a.tb.step b
theorem Le.transL {W : Wd} {G H G2 H2 : Hp} (a : Le W G H) (b : Le (pur G H) G2 H2) : Le W G2 H2 where
  g := a.g.trans b.g
  gh := b.gh
  keep := fun x o m nt e => b.keep x o (fun z => z) nt (a.keep x o m nt e)
  there := fun x o e => let ⟨o', e'⟩ := a.there x o e; b.there x o' e'
  fz := fun x o n e => let ⟨o', e'⟩ := a.there x o e; b.fz x o' (a.fz x o n e) e'
  m := a.m
  tb := b.tb
theorem Lp.le {G H G2 H2 : Hp} (l : Lp G H G2 H2) (t : TbO G H) : Le (pur G H) G2 H2 := ⟨l.g, l.gh, fun a o _ _ e => l.keep a o (fun z => z) e, l.there, l.fz, fun _ z => z.elim, t.step l⟩
theorem Lp.trans {G H G1 H1 G2 H2 : Hp} (a : Lp G H G1 H1) (b : Lp G1 H1 G2 H2) : Lp G H G2 H2 where
  g := a.g.trans b.g
  gh := b.gh
  keep := fun x o m e => b.keep x o m (a.keep x o m e)
  there := fun x o e => let ⟨o', e'⟩ := a.there x o e; b.there x o' e'
  fz := fun x o n e => let ⟨o', e'⟩ := a.there x o e; b.fz x o' (a.fz x o n e) e'
/-- a new thing that stays -/
theorem Lp.new {G H : Hp} {p : Addr} {o : HO} (h : Same G H) (n : H p = none) : Lp G H (upd G p o) (upd H p o) where
  g := fun b u e => by
    have : b ≠ p := fun z => by rw [z] at e; rw [h p u e] at n; cases n
    rw [upd_ne this]; exact e
  gh := fun b u e => by
    by_cases q : b = p
    · subst q; rw [upd_same] at e ⊢; exact e
    · rw [upd_ne q] at e ⊢; exact h b u e
  keep := fun x u _ e => by rw [upd_ne (ne_of_none e n)]; exact e
  there := fun x u e => ⟨u, by rw [upd_ne (ne_of_none e n)]; exact e⟩
  fz := fun x u e e' => by
    have e' : H x = some u := e'
    rw [upd_ne (ne_of_none e' n)]; exact e
/-- a new thing of our own -/
theorem Lp.newOwn {G H : Hp} {p : Addr} {o : HO} (h : Same G H) (n : H p = none) : Lp G H G (upd H p o) where
  g := Same.refl G
  gh := fun b u e => by
    have : b ≠ p := fun z => by rw [z] at e; rw [h p u e] at n; cases n
    rw [upd_ne this]; exact h b u e
  keep := fun x u _ e => by rw [upd_ne (ne_of_none e n)]; exact e
  there := fun x u e => ⟨u, by rw [upd_ne (ne_of_none e n)]; exact e⟩
  fz := fun x u e _ => e
end Z
namespace L2
open PySem PySem.Spec
/-! ### data stays -/
theorem Same.seqT {K : PySem.W.Frag} {H H' : Hp} {a : Addr} {xs : List V} (e : Same H H') (h : SqT K H a xs) : SqT K H' a xs := by
  rcases h with (h | ⟨o, h⟩) | h
  · exact .inl (.inl (e _ _ h))
  · exact .inl (.inr ⟨o, e _ _ h⟩)
  · exact .inr h
mutual
theorem Dp.mono {K : PySem.W.Frag} {G G' : Hp} (e : Same G G') : ∀ {v : V} {d : PyData}, Dp K G v d → Dp K G' v d
  | _, _, .non => .non
  | _, _, .bl b => .bl b
  | _, _, .int i => .int i
  | _, _, .str x => .str x
  | _, _, .lst h t => .lst (e.seq h) (DpAll.mono e t)
  | _, _, .tup h t => .tup (Same.seqT e h) (DpAll.mono e t)
theorem DpAll.mono {K : PySem.W.Frag} {G G' : Hp} (e : Same G G') : ∀ {vs : List V} {ds : List PyData}, DpAll K G vs ds → DpAll K G' vs ds
  | _, _, .nil => .nil
  | _, _, .cons h t => .cons (Dp.mono e h) (DpAll.mono e t)
end
section
variable {K : PySem.W.Frag} {G : Hp}
theorem DpAll.len : ∀ {vs : List V} {ds : List PyData}, DpAll K G vs ds → vs.length = ds.length
  | _, _, .nil => rfl
  | _, _, .cons _ t => congrArg (· + 1) (DpAll.len t)
theorem DpAll.get : ∀ {vs : List V} {ds : List PyData} {i : Nat} {d : PyData}, DpAll K G vs ds → ds[i]? = some d → ∃ v, vs[i]? = some v ∧ Dp K G v d
  | _, _, _, _, .nil, e => by simp at e
  | _, _, 0, _, .cons h _, e => by
    simp at e; subst e; exact ⟨_, rfl, h⟩
  | _, _, i + 1, _, .cons _ t, e => by
    obtain ⟨v, a, b⟩ := DpAll.get (i := i) t (by simpa using e)
    exact ⟨v, by simpa using a, b⟩
theorem DpAll.getV : ∀ {vs : List V} {ds : List PyData} {i : Nat} {v : V}, DpAll K G vs ds → vs[i]? = some v → ∃ d, ds[i]? = some d ∧ Dp K G v d
  | _, _, _, _, .nil, e => by simp at e
  | _, _, 0, _, .cons h _, e => by
    simp at e; subst e; exact ⟨_, rfl, h⟩
  | _, _, i + 1, _, .cons _ t, e => by
    obtain ⟨v, a, b⟩ := DpAll.getV (i := i) t (by simpa using e)
    exact ⟨v, by simpa using a, b⟩
theorem DpAll.append : ∀ {vs ws : List V} {ds es : List PyData}, DpAll K G vs ds → DpAll K G ws es → DpAll K G (vs ++ ws) (ds ++ es)
  | _, _, _, _, .nil, b => b
  | _, _, _, _, .cons h t, b => .cons h (DpAll.append t b)
theorem DpAll.set : ∀ {vs : List V} {ds : List PyData} {v : V} {d : PyData} (i : Nat), DpAll K G vs ds → Dp K G v d → DpAll K G (vs.set i v) (ds.set i d)
  | _, _, _, _, _, .nil, _ => .nil
  | _, _, _, _, 0, .cons _ t, h => .cons h t
  | _, _, _, _, i + 1, .cons q t, h => .cons q (DpAll.set i t h)
theorem DpAll.take : ∀ {vs : List V} {ds : List PyData} (i : Nat), DpAll K G vs ds → DpAll K G (vs.take i) (ds.take i)
  | _, _, 0, _ => by simpa using DpAll.nil
  | _, _, _ + 1, .nil => by simpa using DpAll.nil
  | _, _, i + 1, .cons q t => by simpa using DpAll.cons q (DpAll.take i t)
theorem DpAll.drop : ∀ {vs : List V} {ds : List PyData} (i : Nat), DpAll K G vs ds → DpAll K G (vs.drop i) (ds.drop i)
  | _, _, 0, h => by simpa using h
  | _, _, _ + 1, .nil => by simpa using DpAll.nil
  | _, _, i + 1, .cons _ t => by simpa using DpAll.drop i t
theorem DpAll.reverse : ∀ {vs : List V} {ds : List PyData}, DpAll K G vs ds → DpAll K G vs.reverse ds.reverse
  | _, _, .nil => .nil
  | _, _, .cons q t => by
    rw [List.reverse_cons, List.reverse_cons]
    exact DpAll.append (DpAll.reverse t) (.cons q .nil)
theorem DpAll.ints : ∀ {ns : List Int}, DpAll K G (ns.map V.int) (ns.map PyData.int)
  | [] => .nil
  | n :: r => .cons (.int n) (DpAll.ints)
theorem Dp.int_inv {v : V} {i : Int} (h : Dp K G v (.int i)) : v = .int i := by cases h; rfl
theorem Dp.bl_inv {v : V} {b : Bool} (h : Dp K G v (.bool b)) : v = .bl b := by cases h; rfl
theorem Dp.non_inv {v : V} (h : Dp K G v .none) : v = .non := by cases h; rfl
theorem Dp.lst_inv {v : V} {ds : List PyData} (h : Dp K G v (.list ds)) : ∃ a xs, v = .ref a ∧ SqL K G a xs ∧ DpAll K G xs ds := by
  cases h with | lst s t => exact ⟨_, _, rfl, s, t⟩
theorem Dp.tup_inv {v : V} {ds : List PyData} (h : Dp K G v (.tuple ds)) : ∃ a xs, v = .ref a ∧ SqT K G a xs ∧ DpAll K G xs ds := by
  cases h with | tup s t => exact ⟨_, _, rfl, s, t⟩
theorem DpAll.ints_inv : ∀ {vs : List V} {ns : List Int}, DpAll K G vs (ns.map PyData.int) → vs = ns.map V.int
  | _, [], h => by cases h; rfl
  | _, n :: r, h => by
    cases h with | cons a b => cases a; rw [DpAll.ints_inv b]; rfl
end
end L2
namespace Z
open PySem PySem.Spec L2
variable [Tabl]
/-! ### what the slots hold -/
def FsD (K : PySem.W.Frag) (G : Hp) : List (Str × V) → List (Str × PyData) → Prop := Paired fun p q => p.1 = q.1 ∧ Dp K G p.2 q.2
def KvD (K : PySem.W.Frag) (G : Hp) : List (Key × V) → List (Int × PyData) → Prop := Paired fun p q => p.1 = .inl q.1 ∧ Dp K G p.2 q.2
def Sl (K : PySem.W.Frag) (G H : Hp) : SK → Option V → List Addr → Prop
  | .no, _, as => as = []
  | .dat d, o, as => as = [] ∧ ∃ v, o = some v ∧ Dp K G v d
  | .own ds, o, as => ∃ a vs, o = some (.ref a) ∧ as = [a] ∧ H a = some (.lst vs) ∧ DpAll K G vs ds
  | .rng a b r, o, as => o = some (.ref a) ∧ as = [a, b] ∧ H a = some (.lst [.int r.s, .ref b, .int r.k]) ∧ H b = some (.lst (r.c.map V.int)) ∧ a ≠ b
  | .ins C fs, o, as => as = [] ∧ ∃ p dx vs, o = some (.ref p) ∧ G p = some (.ins C dx vs) ∧ FsD K G vs fs
  | .dic kvs, o, as => ∃ a vs, o = some (.ref a) ∧ as = [a] ∧ H a = some (.dK vs) ∧ KvD K G vs kvs
  | .ptr a, o, as => as = [] ∧ o = some (.ref a)
  | .tlo d0 ds, o, as => ∃ p a vs us, o = some (.ref p) ∧ as = [a] ∧ G p = some (.tup (vs ++ [.ref a])) ∧ DpAll K G vs d0 ∧ H a = some (.lst us) ∧ DpAll K G us ds
structure Ow (W : Wd) (ks : List SK) (G : Hp) (ow : Nat → List Addr) : Prop where
  dis : ∀ i j a, a ∈ ow i → a ∈ ow j → i = j
  mine : ∀ i a, a ∈ ow i → G a = none ∧ (W.H a = none ∨ (W.M a ∧ ∃ k, ks[i]? = some k ∧ isRng k = true))
  out : ∀ i, ks.length ≤ i → ow i = []
structure Sts (K : PySem.W.Frag) (W : Wd) (ks : List SK) (σ : St) (G H : Hp) : Prop where
  le : Le W G H
  len : σ.length = ks.length
  own : ∃ ow : Nat → List Addr, Ow W ks G ow ∧ ∀ i k, ks[i]? = some k → Sl K G H k ((σ[i]?).getD none) (ow i)
section
variable {K : PySem.W.Frag} {W : Wd} {ks : List SK} {σ : St} {G H G2 H2 : Hp}
theorem FsD.mono (e : Same G G2) {vs : List (Str × V)} {fs : List (Str × PyData)} (h : FsD K G vs fs) : FsD K G2 vs fs := Paired.mapP h fun _ _ q => ⟨q.1, Dp.mono e q.2⟩
theorem KvD.mono (e : Same G G2) {vs : List (Key × V)} {fs : List (Int × PyData)} (h : KvD K G vs fs) : KvD K G2 vs fs := Paired.mapP h fun _ _ q => ⟨q.1, Dp.mono e q.2⟩
theorem Sl.move {k : SK} {o : Option V} {as : List Addr} (e : Same G G2) (h : Sl K G H k o as) (k2 : ∀ a ∈ as, ∀ u, H a = some u → H2 a = some u) : Sl K G2 H2 k o as := by
  cases k with
  | no => exact h
  | dat d => obtain ⟨a, v, b, c⟩ := h; exact ⟨a, v, b, Dp.mono e c⟩
  | own ds => obtain ⟨a, vs, b, rfl, c, d⟩ := h; exact ⟨a, vs, b, rfl, k2 a (by simp) _ c, DpAll.mono e d⟩
  | rng a b r => obtain ⟨c, rfl, d, f, g⟩ := h; exact ⟨c, rfl, k2 a (by simp) _ d, k2 b (by simp) _ f, g⟩
  | ins C fs => obtain ⟨a, p, dx, vs, b, c, d⟩ := h; exact ⟨a, p, dx, vs, b, e _ _ c, FsD.mono e d⟩
  | dic kvs => obtain ⟨a, vs, b, rfl, c, d⟩ := h; exact ⟨a, vs, b, rfl, k2 a (by simp) _ c, KvD.mono e d⟩
  | tlo d0 ds => obtain ⟨p, a, vs, us, b, rfl, c, d, f, g⟩ := h; exact ⟨p, a, vs, us, b, rfl, e _ _ c, DpAll.mono e d, k2 a (by simp) _ f, DpAll.mono e g⟩
  | ptr a => exact h
theorem Sl.there {k : SK} {o : Option V} {as : List Addr} (h : Sl K G H k o as) : ∀ a ∈ as, ∃ u, H a = some u := by
  cases k with
  | no => cases (show as = [] from h); simp
  | dat d => obtain ⟨rfl, _⟩ := h; simp
  | own ds => obtain ⟨a, vs, b, rfl, c, d⟩ := h; intro x hx; simp at hx; subst hx; exact ⟨_, c⟩
  | rng a b r =>
    obtain ⟨c, rfl, d, f, g⟩ := h
    intro x hx
    simp at hx
    rcases hx with rfl | rfl
    · exact ⟨_, d⟩
    · exact ⟨_, f⟩
  | ins C fs => obtain ⟨rfl, _⟩ := h; simp
  | dic kvs => obtain ⟨a, vs, b, rfl, c, d⟩ := h; intro x hx; simp at hx; subst hx; exact ⟨_, c⟩
  | tlo d0 ds => obtain ⟨p, a, vs, us, b, rfl, c, d, f, g⟩ := h; intro x hx; simp at hx; subst hx; exact ⟨_, f⟩
  | ptr a => obtain ⟨rfl, _⟩ := h; simp
theorem Sl.thereN {k : SK} {o : Option V} {as : List Addr} (h : Sl K G H k o as) : ∀ a ∈ as, ∃ u, H a = some u ∧ ∀ ps, u ≠ .tbl ps := by
  cases k with
  | no => cases (show as = [] from h); simp
  | dat d => obtain ⟨rfl, _⟩ := h; simp
  | own ds => obtain ⟨a, vs, b, rfl, c, d⟩ := h; intro x hx; simp at hx; subst hx; exact ⟨_, c, fun _ z => by cases z⟩
  | rng a b r =>
    obtain ⟨c, rfl, d, f, g⟩ := h
    intro x hx
    simp at hx
    rcases hx with rfl | rfl
    · exact ⟨_, d, fun _ z => by cases z⟩
    · exact ⟨_, f, fun _ z => by cases z⟩
  | ins C fs => obtain ⟨rfl, _⟩ := h; simp
  | dic kvs => obtain ⟨a, vs, b, rfl, c, d⟩ := h; intro x hx; simp at hx; subst hx; exact ⟨_, c, fun _ z => by cases z⟩
  | tlo d0 ds => obtain ⟨p, a, vs, us, b, rfl, c, d, f, g⟩ := h; intro x hx; simp at hx; subst hx; exact ⟨_, f, fun _ z => by cases z⟩
  | ptr a => obtain ⟨rfl, _⟩ := h; simp
/-- a step that changes nothing of ours -/
theorem Sts.pure (S : Sts K W ks σ G H) (l : Lp G H G2 H2) : Sts K W ks σ G2 H2 := by
  obtain ⟨le, len, ow, o, f⟩ := S
  have live : ∀ i a, a ∈ ow i → ∃ u, H a = some u := fun i a ha => by
    by_cases hi : i < ks.length
    · exact (f i ks[i] (by simp [hi])).there a ha
    · rw [o.out i (by omega)] at ha; cases ha
  refine ⟨le.trans l, len, ow, ⟨o.dis, fun i a ha => ?_, o.out⟩, fun i k hk => ?_⟩
  · obtain ⟨g0, w0⟩ := o.mine i a ha
    obtain ⟨u, hu⟩ := live i a ha
    exact ⟨l.fz a u g0 hu, w0⟩
  · exact (f i k hk).move l.g fun a _ u hu => l.keep a u (fun z => z) hu
/-- .. but to tables -/
theorem Sts.step (S : Sts K W ks σ G H) (l : Le (pur G H) G2 H2) : Sts K W ks σ G2 H2 := by
  obtain ⟨le, len, ow, o, f⟩ := S
  have live : ∀ i a, a ∈ ow i → ∃ u, H a = some u ∧ ∀ ps, u ≠ .tbl ps := fun i a ha => by
    by_cases hi : i < ks.length
    · exact (f i ks[i] (by simp [hi])).thereN a ha
    · rw [o.out i (by omega)] at ha; cases ha
  refine ⟨le.transL l, len, ow, ⟨o.dis, fun i a ha => ?_, o.out⟩, fun i k hk => ?_⟩
  · obtain ⟨g0, w0⟩ := o.mine i a ha
    obtain ⟨u, hu, _⟩ := live i a ha
    exact ⟨l.fz a u g0 hu, w0⟩
  · refine (f i k hk).move l.g fun a ha u hu => ?_
    obtain ⟨u', hu', nt⟩ := live i a ha
    rw [hu] at hu'
    cases hu'
    exact l.keep a u (fun z => z) nt hu
theorem Sts.gh (S : Sts K W ks σ G H) : Same G H := S.le.gh
theorem Sts.dat (S : Sts K W ks σ G H) {i : Nat} {d : PyData} (h : ks[i]? = some (.dat d)) : ∃ v, σ[i]? = some (some v) ∧ Dp K G v d := by
  obtain ⟨le, len, ow, o, f⟩ := S
  obtain ⟨_, v, e, q⟩ := f i _ h
  have hi : i < σ.length := by rw [len]; exact (List.getElem?_eq_some_iff.mp h).1
  refine ⟨v, ?_, q⟩
  rw [List.getElem?_eq_getElem hi] at e ⊢
  simpa using e
end
end Z
namespace Z
open PySem PySem.Spec L2
variable [Tabl]
/-! ### the context of a body, by what is fixed -/
structure Sta where
  N : List Str
  sc : Scope
  fn : Str → Bool
structure Ctx (P : Program) (w : World) (K : PySem.W.Frag) (mg : Str → Option Value) (base : Heap) (T : Sta) (k : Nat) (X : Cx) : Prop where
  hP : X.prog = P
  hw : X.w = w
  hK : X.K = K
  hmg : X.mg = mg
  hbase : X.base = base
  hN : X.N = T.N
  nd : T.N.Nodup
  hs : X.env.scope = T.sc
  calm : X.calm = true
  room : Room k X.A
  po : PassesOwn (model X.prog X.w) X.A X.env X.xe
  fn : X.fn = T.fn
structure EV (X : Cx) (e : Expr) (σ : St) (H : Hp) (Q : VK) : Prop where
  run : ∀ (pins : List (Addr × Obj)) (s : Shared), Inv X pins σ H s → wpAny (model X.prog X.w) X.A (eval e X.env) (EP X pins σ Q) X.xe s
theorem pe_ev {X : Cx} {e : Expr} : PE X e (EV X e) := ⟨fun pins s σ H Q I h => h.run pins s I⟩
theorem ev_of {X : Cx} {e : Expr} {t : TE} {σ : St} {H : Hp} {Q : VK} (h : PE X e t) (q : t σ H Q) : EV X e σ H Q := ⟨fun pins s I => h.run pins s σ H Q I q⟩
structure TV (X : Cx) (e : Expr) (σ : St) (H : Hp) (Q : Bool → Hp → Prop) : Prop where
  run : ∀ (pins : List (Addr × Obj)) (s : Shared), Inv X pins σ H s → wpAny (model X.prog X.w) X.A (isTrue e X.env (eval e X.env)) (TP X pins σ Q) X.xe s
theorem pt_tv {X : Cx} {e : Expr} : PT X e (TV X e) := ⟨fun pins s σ H Q I h => h.run pins s I⟩
theorem tv_of {X : Cx} {e : Expr} {t : TT} {σ : St} {H : Hp} {Q : Bool → Hp → Prop} (h : PT X e t) (q : t σ H Q) : TV X e σ H Q := ⟨fun pins s I => h.run pins s σ H Q I q⟩
structure WV (X : Cx) (e : Expr) (σ : St) (H : Hp) (Q : Bool → Hp → Prop) : Prop where
  run : ∀ (whole : Sem Value) (pins : List (Addr × Obj)) (s : Shared), Inv X pins σ H s → wpAny (model X.prog X.w) X.A (isTrue e X.env whole) (TP X pins σ Q) X.xe s
theorem pw_wv {X : Cx} {e : Expr} : PW X e (WV X e) := ⟨fun whole pins s σ H Q I h => h.run whole pins s I⟩
theorem wv_of {X : Cx} {e : Expr} {t : TT} {σ : St} {H : Hp} {Q : Bool → Hp → Prop} (h : PW X e t) (q : t σ H Q) : WV X e σ H Q := ⟨fun whole pins s I => h.run whole pins s σ H Q I q⟩
structure AV (X : Cx) (es : List Expr) (σ : St) (H : Hp) (Q : List V → Hp → Prop) : Prop where
  run : ∀ (pos : Pos) (pins : List (Addr × Obj)) (s : Shared), Inv X pins σ H s → wpAny (model X.prog X.w) X.A (spliced (backTo pos (starEach es X.env))) (AP X pins σ Q) X.xe s
theorem pa_av {X : Cx} {es : List Expr} : PA X es (AV X es) := ⟨fun pos pins s σ H Q I h => h.run pos pins s I⟩
theorem av_of {X : Cx} {es : List Expr} {t : TA} {σ : St} {H : Hp} {Q : List V → Hp → Prop} (h : PA X es t) (q : t σ H Q) : AV X es σ H Q := ⟨fun pos pins s I => h.run pos pins s σ H Q I q⟩
/-! ### what evaluates to what data, the slots' contents ahead and behind -/
def ED (X : Cx) (ks : List SK) (e : Expr) (ks' : List SK) (d : PyData) : Prop :=
  ∀ W σ G H, Sts X.K W ks σ G H → ∀ Q : VK, (∀ v G2 H2, Sts X.K W ks' σ G2 H2 → Same G G2 → Dp X.K G2 v d → Q v H2) → EV X e σ H Q
/-- a new list of our own: it stands as one more slot -/
def EL (X : Cx) (ks : List SK) (e : Expr) (ks' : List SK) (ds : List PyData) : Prop :=
  ∀ W σ G H, Sts X.K W ks σ G H → ∀ Q : VK, (∀ a G2 H2, Sts X.K W (ks' ++ [.own ds]) (σ ++ [some (.ref a)]) G2 H2 → Same G G2 → Q (.ref a) H2) → EV X e σ H Q
def TD (X : Cx) (ks : List SK) (e : Expr) (ks' : List SK) (b : Bool) : Prop :=
  ∀ W σ G H, Sts X.K W ks σ G H → ∀ Q : Bool → Hp → Prop, (∀ G2 H2, Sts X.K W ks' σ G2 H2 → Same G G2 → Q b H2) → TV X e σ H Q
def WD (X : Cx) (ks : List SK) (e : Expr) (ks' : List SK) (b : Bool) : Prop :=
  ∀ W σ G H, Sts X.K W ks σ G H → ∀ Q : Bool → Hp → Prop, (∀ G2 H2, Sts X.K W ks' σ G2 H2 → Same G G2 → Q b H2) → WV X e σ H Q
def AD (X : Cx) (ks : List SK) (es : List Expr) (ks' : List SK) (ds : List PyData) : Prop :=
  ∀ W σ G H, Sts X.K W ks σ G H → ∀ Q : List V → Hp → Prop, (∀ vs G2 H2, Sts X.K W ks' σ G2 H2 → Same G G2 → DpAll X.K G2 vs ds → Q vs H2) → AV X es σ H Q
section
variable {P : Program} {w : World} {K : PySem.W.Frag} {mg : Str → Option Value} {base : Heap} {T : Sta} {k : Nat} {X : Cx} {ks k1 k2 k3 : List SK} {a b e : Expr} {es : List Expr} {d da db : PyData} {ds : List PyData} {pos : Pos}
/-! ### names and constants -/
theorem vis_of (c : Ctx P w K mg base T k X) {x : Str} (h : Vis T.sc x) : Vis X.env.scope x := by rw [c.hs]; exact h
theorem ix_of (c : Ctx P w K mg base T k X) {i : Nat} {x : Str} (h : T.N[i]? = some x) : X.N[i]? = some x := by rw [c.hN]; exact h
theorem ed_var (c : Ctx P w K mg base T k X) (i : Nat) {x : Str} (hN : T.N[i]? = some x) (hv : Vis T.sc x) (hk : ks[i]? = some (.dat d)) (hd : (x == ("__debug__" : Str)) = false) (hcd : (x == ("__classdict__" : Str)) = false) : ED X ks (.Name x pos) ks d := by
  intro W σ G H S Q q
  obtain ⟨v, e, r⟩ := S.dat hk
  exact ev_of (pe_var (ix_of c hN) (vis_of c hv) hd hcd) ⟨v, e, q v G H S (Same.refl G) r⟩
theorem ed_int {i : Int} {j : Nat} : ED X ks (.Constant (.int i) j pos) ks (.int i) := fun W σ G H S Q q => ev_of pe_int (q (.int i) G H S (Same.refl G) (.int i))
theorem ed_bl {b : Bool} {j : Nat} : ED X ks (.Constant (.bool b) j pos) ks (.bool b) := fun W σ G H S Q q => ev_of pe_bl (q (.bl b) G H S (Same.refl G) (.bl b))
theorem ed_non {j : Nat} : ED X ks (.Constant .none j pos) ks .none := fun W σ G H S Q q => ev_of pe_non (q .non G H S (Same.refl G) .non)
theorem ed_str {x : Str} {j : Nat} : ED X ks (.Constant (.str x) j pos) ks (.str x) := fun W σ G H S Q q => ev_of pe_str (q (.str x) G H S (Same.refl G) (.str x))
theorem gl_of (c : Ctx P w K mg base T k X) {x : Str} (h : T.sc.names.lookup x = some .globalImplicit) : Gl X x := by
  show X.env.scope.names.lookup x = _
  rw [c.hs]; exact h
/-- a module's int -/
theorem ed_gint (c : Ctx P w K mg base T k X) {x : Str} {i : Int} (hg : T.sc.names.lookup x = some .globalImplicit) (hm : ∃ t, mg x = some (.int i t)) (hd : (x == ("__debug__" : Str)) = false) : ED X ks (.Name x pos) ks (.int i) := by
  intro W σ G H S Q q
  obtain ⟨t, hm⟩ := hm
  exact ev_of (pe_glob (v := .int i) (gl_of c hg) (by rw [c.hmg]; exact hm) ⟨t, rfl⟩ hd) (q (.int i) G H S (Same.refl G) (.int i))
/-! ### operators -/
/-- two data give data by an operation on values -/
def RD (K : PySem.W.Frag) (r : R2) (da db d : PyData) : Prop := ∀ G H x y, Same G H → Dp K G x da → Dp K G y db → ∀ Q : VK, (∀ v G2 H2, Lp G H G2 H2 → Dp K G2 v d → Q v H2) → r x y H Q
theorem RD.flat {r : R2} (h : ∀ G H x y, Same G H → Dp K G x da → Dp K G y db → ∃ v, (∀ G, Dp K G v d) ∧ ∀ Q : VK, Q v H → r x y H Q) : RD K r da db d := fun G H x y g ha hb Q q => by
  obtain ⟨v, r1, r2⟩ := h G H x y g ha hb
  exact r2 Q (q v G H (Lp.refl g) (r1 G))
theorem bin_go {r : R2} {W : Wd} {σ : St} {G H : Hp} {Q : VK} (ha : ED X ks a k1 da) (hb : ED X k1 b k2 db) (hr : RD X.K r da db d) (S : Sts X.K W ks σ G H) (q : ∀ v G2 H2, Sts X.K W k2 σ G2 H2 → Same G G2 → Dp X.K G2 v d → Q v H2) : tOp r (EV X a) (EV X b) σ H Q := by
  refine ha W σ G H S _ fun x G1 H1 S1 g1 r1 => ?_
  refine hb W σ G1 H1 S1 _ fun y G2 H2 S2 g2 r2 => ?_
  exact hr G2 H2 x y S2.gh (Dp.mono g2 r1) r2 Q fun v G3 H3 l r3 => q v G3 H3 (S2.pure l) ((g1.trans g2).trans l.g) r3
/-- what a + b (..) is of data -/
structure BinD (X : Cx) (op : Operator) (da db d : PyData) : Prop where
  out : ∃ r, OpR X (binaryOp op) r ∧ RD X.K r da db d
theorem ed_bin {op : Operator} (ha : ED X ks a k1 da) (hb : ED X k1 b k2 db) (h : BinD X op da db d) : ED X ks (.BinOp a op b pos) k2 d := by
  obtain ⟨r, ho, hr⟩ := h.out
  intro W σ G H S Q q
  exact ev_of (pe_op ho pe_ev pe_ev) (bin_go ha hb hr S q)
theorem rd_I0 {g : Int → Int → V} {i j : Int} (hd : ∀ G, Dp K G (g i j) d) : RD K (rI0 g) (.int i) (.int j) d := RD.flat fun G H x y _ ha hb => ⟨g i j, hd, fun Q q => ⟨i, j, ha.int_inv, hb.int_inv, q⟩⟩
theorem rd_I {C : Int → Int → Prop} {g : Int → Int → V} {i j : Int} (hc : C i j) (hd : ∀ G, Dp K G (g i j) d) : RD K (rI C g) (.int i) (.int j) d := RD.flat fun G H x y _ ha hb => ⟨g i j, hd, fun Q q => ⟨i, j, ha.int_inv, hb.int_inv, hc, q⟩⟩
theorem bd_add {i j : Int} : BinD X .Add (.int i) (.int j) (.int (i + j)) := ⟨_, op_add, rd_I0 fun _ => .int _⟩
theorem bd_sub {i j : Int} : BinD X .Sub (.int i) (.int j) (.int (i - j)) := ⟨_, op_sub, rd_I0 fun _ => .int _⟩
theorem bd_mul {i j : Int} (h : CMul i j) : BinD X .Mult (.int i) (.int j) (.int (i * j)) := ⟨_, op_mul, rd_I h fun _ => .int _⟩
theorem bd_mod {i j : Int} (h : 0 < j) : BinD X .Mod (.int i) (.int j) (.int (i % j)) := ⟨_, op_mod, rd_I h fun _ => .int _⟩
theorem bd_fdiv {i j : Int} (h : 0 < j ∧ j < 1073741824) : BinD X .FloorDiv (.int i) (.int j) (.int (i / j)) := ⟨_, op_fdiv, rd_I h fun _ => .int _⟩
theorem bd_pow {i j : Int} (h : CPow i j) : BinD X .Pow (.int i) (.int j) (.int (i ^ j.toNat)) := ⟨_, op_pow, rd_I h fun _ => .int _⟩
/-! ### comparisons -/
structure CmpD (X : Cx) (op : CmpOp) (da db : PyData) (c : Bool) : Prop where
  out : ∃ r, OpR X (compareOp op) r ∧ RD X.K r da db (.bool c)
theorem ed_cmp {op : CmpOp} {c : Bool} (ha : ED X ks a k1 da) (hb : ED X k1 b k2 db) (h : CmpD X op da db c) (hm : behindInMarks op b = false) : ED X ks (.Compare a [op] [b] pos) k2 (.bool c) := by
  obtain ⟨r, ho, hr⟩ := h.out
  intro W σ G H S Q q
  exact ev_of (pe_cmpR ho pe_ev pe_ev hm) (bin_go ha hb hr S q)
theorem td_cmp {op : CmpOp} {c : Bool} (ha : ED X ks a k1 da) (hb : ED X k1 b k2 db) (h : CmpD X op da db c) (hm : behindInMarks op b = false) : TD X ks (.Compare a [op] [b] pos) k2 c := by
  obtain ⟨r, ho, hr⟩ := h.out
  intro W σ G H S Q q
  refine tv_of (pt_cmpR ho pe_ev pe_ev hm) (bin_go (Q := fun x H' => ∃ k, x = .bl k ∧ Q k H') ha hb hr S fun v G2 H2 S2 g r2 => ⟨c, r2.bl_inv, q G2 H2 S2 g⟩)
theorem cd_lt {i j : Int} : CmpD X .Lt (.int i) (.int j) (decide (i < j)) := ⟨_, op_lt, rd_I0 fun _ => .bl _⟩
theorem cd_le {i j : Int} : CmpD X .LtE (.int i) (.int j) (decide (i ≤ j)) := ⟨_, op_le, rd_I0 fun _ => .bl _⟩
theorem cd_gt {i j : Int} : CmpD X .Gt (.int i) (.int j) (decide (j < i)) := ⟨_, op_gt, rd_I0 fun _ => .bl _⟩
theorem cd_ge {i j : Int} : CmpD X .GtE (.int i) (.int j) (decide (j ≤ i)) := ⟨_, op_ge, rd_I0 fun _ => .bl _⟩
theorem cd_eqI {i j : Int} : CmpD X .Eq (.int i) (.int j) (decide (i = j)) := ⟨_, op_eq, RD.flat fun G H x y _ ha hb => ⟨.bl (decide (i = j)), fun _ => .bl _, fun Q q => by
  rw [ha.int_inv, hb.int_inv]
  refine ⟨rfl, ?_⟩
  have e : decide (V.int i = V.int j) = decide (i = j) := by rw [dec_int, Bool.beq_eq_decide_eq]
  rw [e]; exact q⟩⟩
theorem cd_neI {i j : Int} : CmpD X .NotEq (.int i) (.int j) (!decide (i = j)) := ⟨_, op_ne, RD.flat fun G H x y _ ha hb => ⟨.bl (!decide (i = j)), fun _ => .bl _, fun Q q => by
  rw [ha.int_inv, hb.int_inv]
  refine ⟨rfl, ?_⟩
  have e : decide (V.int i = V.int j) = decide (i = j) := by rw [dec_int, Bool.beq_eq_decide_eq]
  rw [e]; exact q⟩⟩
/-- == of data of any shape -/
theorem cd_eqD (c : Ctx P w K mg base T k X) (sa : SeqAt.shaped da = true) (sb : SeqAt.shaped db = true) : CmpD X .Eq da db (PyData.eqv da db) :=
  ⟨_, op_eqD (c.room.units), fun G H x y g ha hb Q q => ⟨da, db, Dp.mono g ha, Dp.mono g hb, sa, sb, q _ G H (Lp.refl g) (.bl _)⟩⟩
theorem cd_neD (c : Ctx P w K mg base T k X) (sa : SeqAt.shaped da = true) (sb : SeqAt.shaped db = true) : CmpD X .NotEq da db (!PyData.eqv da db) :=
  ⟨_, op_neD (c.room.units), fun G H x y g ha hb Q q => ⟨da, db, Dp.mono g ha, Dp.mono g hb, sa, sb, q _ G H (Lp.refl g) (.bl _)⟩⟩
def isNoneD : PyData → Bool
  | .none => true
  | _ => false
theorem non_dec {G : Hp} {v : V} (h : Dp K G v d) : decide (v = .non) = isNoneD d := by cases h <;> first | rfl | exact decide_eq_false (fun z => nomatch z)
theorem cd_isN : CmpD X .Is d .none (isNoneD d) := ⟨_, op_isN, RD.flat fun G H x y _ ha hb => ⟨.bl (isNoneD d), fun _ => .bl _, fun Q q => ⟨hb.non_inv, by rw [non_dec ha]; exact q⟩⟩⟩
theorem cd_notN : CmpD X .IsNot d .none (!isNoneD d) := ⟨_, op_notN, RD.flat fun G H x y _ ha hb => ⟨.bl (!isNoneD d), fun _ => .bl _, fun Q q => ⟨hb.non_inv, by rw [non_dec ha]; exact q⟩⟩⟩
/-- a < b < c -/
theorem ed_chain {op op' : CmpOp} {x y : Bool} {e3 : Expr} {dc : PyData} (ha : ED X ks a ks da) (hb : ED X ks b ks db) (hc : x = true → ED X ks e3 ks dc) (h : CmpD X op da db x) (h' : CmpD X op' db dc y)
    (hm : lastMarks [op, op'] [b, e3] = false) : ED X ks (.Compare a [op, op'] [b, e3] pos) ks (.bool (x && y)) := by
  obtain ⟨r, ho, hr⟩ := h.out
  obtain ⟨r', ho', hr'⟩ := h'.out
  intro W σ G H S Q q
  cases x with
  | false =>
    refine ev_of (pe_chain ho ho' pe_ev pe_ev pe_ev hm) ?_
    refine ha W σ G H S _ fun x G1 H1 S1 g1 r1 => ?_
    refine hb W σ G1 H1 S1 _ fun y G2 H2 S2 g2 r2 => ?_
    refine hr G2 H2 x y S2.gh (Dp.mono g2 r1) r2 _ fun v G3 H3 l r3 => ⟨false, r3.bl_inv, ?_⟩
    show Q (.bl false) H3
    exact q _ G3 H3 (S2.pure l) ((g1.trans g2).trans l.g) (.bl _)
  | true =>
    refine ev_of (pe_chain ho ho' pe_ev pe_ev pe_ev hm) ?_
    refine ha W σ G H S _ fun x G1 H1 S1 g1 r1 => ?_
    refine hb W σ G1 H1 S1 _ fun y G2 H2 S2 g2 r2 => ?_
    refine hr G2 H2 x y S2.gh (Dp.mono g2 r1) r2 _ fun v G3 H3 l r3 => ⟨true, r3.bl_inv, ?_⟩
    show EV X e3 σ H3 _
    refine hc rfl W σ G3 H3 (S2.pure l) _ fun z G4 H4 S4 g4 r4 => ?_
    refine hr' G4 H4 y z S4.gh (Dp.mono (l.g.trans g4) r2) r4 _ fun v G5 H5 l5 r5 => ?_
    exact q v G5 H5 (S4.pure l5) ((((g1.trans g2).trans l.g).trans g4).trans l5.g) r5
theorem td_val {c : Bool} (h : ED X ks e k1 (.bool c)) (he : ∀ whole, isTrue e X.env whole = (do let v ← whole; standAt e.pos; holding [v] (truthy v))) : TD X ks e k1 c := by
  intro W σ G H S Q q
  refine tv_of (pt_val pe_ev he) (h W σ G H S _ fun v G2 H2 S2 g r => ⟨c, r.bl_inv, q G2 H2 S2 g⟩)
/-! ### and, or, not, if -/
theorem td_not {c : Bool} (h : TD X ks a k1 c) : TD X ks (.UnaryOp .Not a pos) k1 (!c) := fun W σ G H S Q q => tv_of (pt_not pt_tv) (h W σ G H S _ fun G2 H2 S2 g => q G2 H2 S2 g)
theorem td_w {c : Bool} (h : WD X ks a k1 c) : TD X ks a k1 c := fun W σ G H S Q q => tv_of pw_wv.pt (h W σ G H S _ fun G2 H2 S2 g => q G2 H2 S2 g)
theorem wd_and1 {c : Bool} (h : TD X ks a k1 c) : WD X ks (.BoolOp .And [a] pos) k1 c := fun W σ G H S Q q => wv_of (pw_and1 pt_tv) (h W σ G H S _ fun G2 H2 S2 g => q G2 H2 S2 g)
theorem wd_or1 {c : Bool} (h : TD X ks a k1 c) : WD X ks (.BoolOp .Or [a] pos) k1 c := fun W σ G H S Q q => wv_of (pw_or1 pt_tv) (h W σ G H S _ fun G2 H2 S2 g => q G2 H2 S2 g)
theorem wd_and {x y : Bool} (ha : TD X ks a ks x) (hb : x = true → WD X ks (.BoolOp .And (b :: es) pos) ks y) : WD X ks (.BoolOp .And (a :: b :: es) pos) ks (x && y) := fun W σ G H S Q q => by
  refine wv_of (pw_and pt_tv pw_wv) (ha W σ G H S _ fun G2 H2 S2 g => ?_)
  cases x with
  | false => exact q G2 H2 S2 g
  | true => exact hb rfl W σ G2 H2 S2 Q fun G3 H3 S3 g3 => q G3 H3 S3 (g.trans g3)
theorem wd_or {x y : Bool} (ha : TD X ks a ks x) (hb : x = false → WD X ks (.BoolOp .Or (b :: es) pos) ks y) : WD X ks (.BoolOp .Or (a :: b :: es) pos) ks (x || y) := fun W σ G H S Q q => by
  refine wv_of (pw_or pt_tv pw_wv) (ha W σ G H S _ fun G2 H2 S2 g => ?_)
  cases x with
  | true => exact q G2 H2 S2 g
  | false => exact hb rfl W σ G2 H2 S2 Q fun G3 H3 S3 g3 => q G3 H3 S3 (g.trans g3)
theorem ed_and1 {op : BoolOp} (h : ED X ks a k1 d) : ED X ks (.BoolOp op [a] pos) k1 d := fun W σ G H S Q q => ev_of (pe_one pe_ev) (h W σ G H S Q q)
theorem ed_and {x y : Bool} (ha : ED X ks a ks (.bool x)) (hb : x = true → ED X ks (.BoolOp .And (b :: es) pos) ks (.bool y)) : ED X ks (.BoolOp .And (a :: b :: es) pos) ks (.bool (x && y)) := fun W σ G H S Q q => by
  refine ev_of (pe_and pe_ev pe_ev) (ha W σ G H S _ fun v G2 H2 S2 g r => ⟨x, r.bl_inv, ?_⟩)
  cases x with
  | false => exact q _ G2 H2 S2 g (.bl _)
  | true => exact hb rfl W σ G2 H2 S2 Q fun v G3 H3 S3 g3 => q v G3 H3 S3 (g.trans g3)
theorem ed_if {x : Bool} {t : Expr} (ht : TD X ks t k1 x) (ha : x = true → ED X k1 a k2 d) (hb : x = false → ED X k1 b k2 d) : ED X ks (.IfExp t a b pos) k2 d := fun W σ G H S Q q => by
  refine ev_of (pe_ifExp pt_tv pe_ev pe_ev) (ht W σ G H S _ fun G2 H2 S2 g => ?_)
  cases x with
  | true => exact ha rfl W σ G2 H2 S2 Q fun v G3 H3 S3 g3 => q v G3 H3 S3 (g.trans g3)
  | false => exact hb rfl W σ G2 H2 S2 Q fun v G3 H3 S3 g3 => q v G3 H3 S3 (g.trans g3)
/-! ### argument lists, displays -/
theorem ad_nil : AD X ks [] ks [] := fun W σ G H S Q q => av_of pa_nil (q [] G H S (Same.refl G) .nil)
theorem ad_cons (ha : ED X ks a k1 d) (hr : AD X k1 es k2 ds) (hs : starEach (a :: es) X.env = (false, eval a X.env) :: starEach es X.env) : AD X ks (a :: es) k2 (d :: ds) := fun W σ G H S Q q =>
  av_of (pa_cons pe_ev pa_av hs) (ha W σ G H S _ fun v G1 H1 S1 g1 r1 => hr W σ G1 H1 S1 _ fun vs G2 H2 S2 g2 r2 => q _ G2 H2 S2 (g1.trans g2) (.cons (Dp.mono g2 r1) r2))
theorem ed_tup {x1} (h : AD X ks es k1 ds) (hl : ds.length ≤ sizeLine) : ED X ks (.Tuple es x1 pos) k1 (.tuple ds) := fun W σ G H S Q q =>
  ev_of (pe_tup pa_av) (h W σ G H S _ fun vs G1 H1 S1 g1 r1 => ⟨by rw [r1.len]; exact hl, fun p np => by
    have l := Lp.new (o := .tup vs) S1.gh np
    exact q _ _ _ (S1.pure l) (g1.trans l.g) (.tup (SqT.of upd_same) (DpAll.mono l.g r1))⟩)
/-! ### subscripts -/
theorem ed_ixT {ds : List PyData} {i : Int} (ha : ED X ks a k1 (.tuple ds)) (hb : ED X k1 b k2 (.int i)) (hi : atI ds i = some d) (hs : PlainIx b) : ED X ks (.Subscript a b pos) k2 d := fun W σ G H S Q q => by
  refine ev_of (pe_ix ix_tup pe_ev pe_ev hs) (bin_go ha hb (d := d) (fun G H x y g ra rb Q q => ?_) S q)
  obtain ⟨p, vs, rfl, sp, ap⟩ := ra.tup_inv
  rw [rb.int_inv]
  obtain ⟨j, h1, h2, h3, h4, h5⟩ := atI_get hi
  obtain ⟨v, hv, rv⟩ := ap.get h2
  refine ⟨p, vs, i, v, rfl, rfl, Same.seqT g sp, ?_, q v G H (Lp.refl g) rv⟩
  unfold atI at hi ⊢
  rw [ap.len]
  cases e : ixN ds.length i with
  | none => rw [e] at hi; cases hi
  | some j' =>
    rw [e] at hi
    have hj := (ixN_seq e).1
    rw [hj] at h1
    cases h1
    exact hv
theorem ed_ixL {ds : List PyData} {i : Int} (ha : ED X ks a k1 (.list ds)) (hb : ED X k1 b k2 (.int i)) (hi : atI ds i = some d) (hs : PlainIx b) : ED X ks (.Subscript a b pos) k2 d := fun W σ G H S Q q => by
  refine ev_of (pe_ix ix_list pe_ev pe_ev hs) (bin_go ha hb (d := d) (fun G H x y g ra rb Q q => ?_) S q)
  obtain ⟨p, vs, rfl, sp, ap⟩ := ra.lst_inv
  rw [rb.int_inv]
  obtain ⟨j, h1, h2, h3, h4, h5⟩ := atI_get hi
  obtain ⟨v, hv, rv⟩ := ap.get h2
  refine ⟨p, vs, i, v, rfl, rfl, g.seq sp, ?_, q v G H (Lp.refl g) rv⟩
  unfold atI at hi ⊢
  rw [ap.len]
  cases e : ixN ds.length i with
  | none => rw [e] at hi; cases hi
  | some j' =>
    rw [e] at hi
    have hj := (ixN_seq e).1
    rw [hj] at h1
    cases h1
    exact hv
end
end Z
namespace Z
open PySem PySem.Spec L2
variable [Tabl]
section
variable {K : PySem.W.Frag} {W : Wd} {ks : List SK} {σ : St} {G H G2 H2 : Hp}
theorem Le.upd {W : Wd} {G H : Hp} {a : Addr} {o : HO} (l : Le W G H) (h : ∃ u, H a = some u) (n : ∀ u, H a = some u → Pl u) (g : G a = none) (m : W.H a = none ∨ W.M a) : Le W G (upd H a o) where
  g := l.g
  gh := fun b u e => by
    have : b ≠ a := fun z => by rw [z, g] at e; cases e
    rw [upd_ne this]; exact l.gh b u e
  keep := fun b u hm nt e => by
    have : b ≠ a := fun z => by
      subst z
      rcases m with m | m
      · rw [m] at e; cases e
      · exact hm m
    rw [upd_ne this]; exact l.keep b u hm nt e
  there := fun b u e => by
    by_cases q : b = a
    · subst q; exact ⟨_, upd_same⟩
    · rw [upd_ne q]; exact l.there b u e
  fz := l.fz
  m := l.m
  tb := l.tb.upd n
theorem Ow.live {ow : Nat → List Addr} (o : Ow W ks G ow) (f : ∀ i k, ks[i]? = some k → Sl K G H k ((σ[i]?).getD none) (ow i)) : ∀ i a, a ∈ ow i → ∃ u, H a = some u := fun i a ha => by
  by_cases hi : i < ks.length
  · exact (f i ks[i] (by simp [hi])).there a ha
  · rw [o.out i (by omega)] at ha; cases ha
theorem Ow.liveN {ow : Nat → List Addr} (o : Ow W ks G ow) (f : ∀ i k, ks[i]? = some k → Sl K G H k ((σ[i]?).getD none) (ow i)) : ∀ i a, a ∈ ow i → ∃ u, H a = some u ∧ ∀ ps, u ≠ .tbl ps := fun i a ha => by
  by_cases hi : i < ks.length
  · exact (f i ks[i] (by simp [hi])).thereN a ha
  · rw [o.out i (by omega)] at ha; cases ha
/-- slot i is set anew; what else is ours stays as it is -/
theorem Sts.put {i : Nat} {k : SK} {v : Option V} (S : Sts K W ks σ G H) (hi : i < ks.length) (l : Le W G2 H2) (gg : Same G G2)
    (gz : ∀ a u, G a = none → H a = some u → G2 a = none)
    (kp : ∀ ow, Ow W ks G ow → (∀ i k, ks[i]? = some k → Sl K G H k ((σ[i]?).getD none) (ow i)) → (∀ j a, j ≠ i → a ∈ ow j → ∀ u, H a = some u → H2 a = some u) ∧
      ∃ as, Sl K G2 H2 k v as ∧ (∀ a ∈ as, (∀ j, j ≠ i → a ∉ ow j) ∧ G2 a = none ∧ (W.H a = none ∨ (W.M a ∧ isRng k = true)))) :
    Sts K W (ks.set i k) (σ.set i v) G2 H2 := by
  obtain ⟨le, len, ow, o, f⟩ := S
  obtain ⟨kp, as, s1, s2⟩ := kp ow o f
  refine ⟨l, by simp [len], fun j => if j = i then as else ow j, ⟨fun j j' a h h' => ?_, fun j a h => ?_, fun j hj => ?_⟩, fun j kj hj => ?_⟩
  · by_cases q : j = i <;> by_cases q' : j' = i
    · rw [q, q']
    · simp only [q, if_true, q', if_false] at h h'
      exact ((s2 a h).1 j' q' h').elim
    · simp only [q, if_false, q', if_true] at h h'
      exact ((s2 a h').1 j q h).elim
    · simp only [q, q', if_false] at h h'
      exact o.dis j j' a h h'
  · by_cases q : j = i
    · simp only [q, if_true] at h
      obtain ⟨_, b, c⟩ := s2 a h
      refine ⟨b, ?_⟩
      rcases c with c | ⟨c, e⟩
      · exact .inl c
      · exact .inr ⟨c, k, by rw [q, List.getElem?_set_self hi], e⟩
    · simp only [q, if_false] at h
      obtain ⟨b, c⟩ := o.mine j a h
      obtain ⟨u, hu⟩ := o.live f j a h
      refine ⟨gz a u b hu, ?_⟩
      rcases c with c | ⟨c, r, e⟩
      · exact .inl c
      · exact .inr ⟨c, r, by rw [List.getElem?_set_ne (Ne.symm q)]; exact e.1, e.2⟩
  · have : j ≠ i := by simp at hj; omega
    simp only [this, if_false]
    exact o.out j (by simpa using hj)
  · by_cases q : j = i
    · subst q
      rw [List.getElem?_set_self hi] at hj
      cases hj
      simp only [if_true]
      rw [List.getElem?_set_self (by omega)]
      exact s1
    · rw [List.getElem?_set_ne (Ne.symm q)] at hj
      simp only [q, if_false]
      rw [List.getElem?_set_ne (Ne.symm q)]
      exact (f j kj hj).move gg fun a ha u hu => kp j a q ha u hu
theorem Sts.setDat {i : Nat} {v : V} {d : PyData} (S : Sts K W ks σ G H) (hi : i < ks.length) (r : Dp K G v d) : Sts K W (ks.set i (.dat d)) (σ.set i (some v)) G H :=
  S.put hi S.le (Same.refl G) (fun _ _ e _ => e) fun ow o f => ⟨fun _ _ _ _ u e => e, [], ⟨rfl, v, rfl, r⟩, fun _ h => by cases h⟩
/-- one more slot, a list that nobody else has -/
theorem Sts.pushL {p : Addr} {vs : List V} {ds : List PyData} (S : Sts K W ks σ G H) (l : Le (pur G H) G2 H2) (np : H p = none) (gp : G2 p = none) (hp : H2 p = some (.lst vs)) (r : DpAll K G2 vs ds) :
    Sts K W (ks ++ [.own ds]) (σ ++ [some (.ref p)]) G2 H2 := by
  have S2 := S.step l
  obtain ⟨_, _, ow0, o0, f0⟩ := S
  have wp : W.H p = none := by
    cases e : W.H p with
    | none => rfl
    | some u =>
      obtain ⟨u', e'⟩ := ‹Le W G H›.there p u e
      rw [np] at e'; cases e'
  obtain ⟨le, len, _⟩ := S2
  have live := o0.live f0
  refine ⟨le, by simp [len], fun j => if j = ks.length then [p] else ow0 j, ⟨fun j j' a h h' => ?_, fun j a h => ?_, fun j hj => ?_⟩, fun j kj hj => ?_⟩
  · have no : ∀ j, p ∉ ow0 j := fun j h => by
      obtain ⟨u, hu⟩ := live j p h
      rw [np] at hu; cases hu
    by_cases q : j = ks.length <;> by_cases q' : j' = ks.length
    · rw [q, q']
    · simp only [q, if_true, q', if_false] at h h'
      simp at h; subst h
      exact (no j' h').elim
    · simp only [q, if_false, q', if_true] at h h'
      simp at h'; subst h'
      exact (no j h).elim
    · simp only [q, q', if_false] at h h'
      exact o0.dis j j' a h h'
  · by_cases q : j = ks.length
    · simp only [q, if_true] at h
      simp at h; subst h
      exact ⟨gp, .inl wp⟩
    · simp only [q, if_false] at h
      obtain ⟨b, c⟩ := o0.mine j a h
      obtain ⟨u, hu⟩ := live j a h
      refine ⟨l.fz a u b hu, ?_⟩
      rcases c with c | ⟨c, r, e⟩
      · exact .inl c
      · refine .inr ⟨c, r, ?_, e.2⟩
        rw [List.getElem?_append_left (List.getElem?_eq_some_iff.mp e.1).1]; exact e.1
  · have : j ≠ ks.length := by simp at hj; omega
    simp only [this, if_false]
    exact o0.out j (by simp at hj; omega)
  · by_cases q : j = ks.length
    · subst q
      rw [List.getElem?_append_right (Nat.le_refl _)] at hj
      simp at hj
      subst hj
      simp only [if_true]
      rw [List.getElem?_append_right (by omega), len]
      simp only [Nat.sub_self]
      exact ⟨p, vs, rfl, rfl, hp, r⟩
    · have hj' : j < ks.length := by
        have := (List.getElem?_eq_some_iff.mp hj).1
        simp at this; omega
      rw [List.getElem?_append_left hj'] at hj
      simp only [q, if_false]
      rw [List.getElem?_append_left (by omega)]
      exact (f0 j kj hj).move l.g fun a ha u hu => by
        obtain ⟨u', hu', nt⟩ := (f0 j kj hj).thereN a ha
        rw [hu] at hu'
        cases hu'
        exact l.keep a u (fun z => z) nt hu
theorem Sts.push {p : Addr} {vs : List V} {ds : List PyData} (S : Sts K W ks σ G H) (l : Lp G H G2 H2) (np : H p = none) (gp : G2 p = none) (hp : H2 p = some (.lst vs)) (r : DpAll K G2 vs ds) :
    Sts K W (ks ++ [.own ds]) (σ ++ [some (.ref p)]) G2 H2 := S.pushL (l.le S.le.tb) np gp hp r
/-- the slot more taken away again, what it held told -/
theorem Sts.pop {a : Addr} {ds : List PyData} (S : Sts K W (ks ++ [.own ds]) (σ ++ [some (.ref a)]) G H) : Sts K W ks σ G H ∧ G a = none ∧ W.H a = none ∧ ∃ vs, H a = some (.lst vs) ∧ DpAll K G vs ds ∧
    ∃ ow, Ow W ks G ow ∧ (∀ i k, ks[i]? = some k → Sl K G H k ((σ[i]?).getD none) (ow i)) ∧ ∀ j, a ∉ ow j := by
  obtain ⟨le, len, ow, o, f⟩ := S
  have len' : σ.length = ks.length := by simpa using len
  have z := f ks.length (.own ds) (by simp)
  rw [List.getElem?_append_right (by omega), len', Nat.sub_self] at z
  obtain ⟨a', vs, e1, e2, e3, e4⟩ := z
  cases e1
  obtain ⟨m1, m2⟩ := o.mine ks.length a (by rw [e2]; simp)
  have m2 : W.H a = none := by
    rcases m2 with m2 | ⟨_, r, m2, m3⟩
    · exact m2
    · simp at m2
      subst m2
      cases m3
  have O : Ow W ks G (fun j => if j < ks.length then ow j else []) := by
    refine ⟨fun i j b h h' => ?_, fun i b h => ?_, fun i hi => by rw [if_neg (by omega)]⟩
    · by_cases q : i < ks.length <;> by_cases q' : j < ks.length <;> simp only [q, q', if_true, if_false] at h h' <;> first | exact o.dis i j b h h' | cases h | cases h'
    · by_cases q : i < ks.length
      · simp only [q, if_true] at h
        obtain ⟨b1, c⟩ := o.mine i b h
        refine ⟨b1, ?_⟩
        rcases c with c | ⟨c, r, e⟩
        · exact .inl c
        · refine .inr ⟨c, r, ?_, e.2⟩
          have e := e.1
          rw [List.getElem?_append_left q] at e; exact e
      · simp only [q, if_false] at h; cases h
  have Fs : ∀ i k, ks[i]? = some k → Sl K G H k ((σ[i]?).getD none) (if i < ks.length then ow i else []) := fun i k hk => by
    have hi := (List.getElem?_eq_some_iff.mp hk).1
    rw [if_pos hi]
    have q := f i k (by rw [List.getElem?_append_left hi]; exact hk)
    rw [List.getElem?_append_left (by omega)] at q
    exact q
  refine ⟨⟨le, len', _, O, Fs⟩, m1, m2, vs, e3, e4, _, O, Fs, fun j h => ?_⟩
  by_cases q : j < ks.length
  · simp only [q, if_true] at h
    have := o.dis j ks.length a h (by rw [e2]; simp)
    omega
  · simp only [q, if_false] at h; cases h
/-- what is ours becomes what stays -/
theorem Sts.freeze {a : Addr} {o : HO} {ow : Nat → List Addr} (le : Le W G H) (len : σ.length = ks.length) (ow1 : Ow W ks G ow) (f : ∀ i k, ks[i]? = some k → Sl K G H k ((σ[i]?).getD none) (ow i)) (no : ∀ j, a ∉ ow j)
    (ga : G a = none) (wa : W.H a = none) (ha : H a = some o) (pl : Pl o) : Sts K W ks σ (upd G a o) H ∧ Same G (upd G a o) := by
  have gg : Same G (upd G a o) := fun b u e => by
    have : b ≠ a := fun z => by rw [z, ga] at e; cases e
    rw [upd_ne this]; exact e
  refine ⟨⟨⟨le.g.trans gg, fun b u e => ?_, le.keep, le.there, fun b u e1 e2 => ?_, le.m, le.tb.updG ha pl⟩, len, ow, ⟨ow1.dis, fun i b hb => ?_, ow1.out⟩, fun i k hk => (f i k hk).move gg fun _ _ _ e => e⟩, gg⟩
  · by_cases q : b = a
    · subst q; rw [upd_same] at e; cases e; exact ha
    · rw [upd_ne q] at e; exact le.gh b u e
  · have : b ≠ a := fun z => by rw [z, wa] at e2; cases e2
    rw [upd_ne this]; exact le.fz b u e1 e2
  · have : b ≠ a := fun z => no i (z ▸ hb)
    rw [upd_ne this]; exact ow1.mine i b hb
theorem Sts.popFreeze {a : Addr} {ds : List PyData} (S : Sts K W (ks ++ [.own ds]) (σ ++ [some (.ref a)]) G H) : ∃ G2, Sts K W ks σ G2 H ∧ Same G G2 ∧ Dp K G2 (.ref a) (.list ds) := by
  obtain ⟨S1, g, w, vs, ha, r, ow, o, f, no⟩ := S.pop
  obtain ⟨S2, gg⟩ := Sts.freeze S1.le S1.len o f no g w ha pl_lst
  exact ⟨_, S2, gg, .lst (SqL.of upd_same) (DpAll.mono gg r)⟩
/-- the slot more goes to slot i -/
theorem Sts.popTo {i : Nat} {a : Addr} {ds : List PyData} (S : Sts K W (ks ++ [.own ds]) (σ ++ [some (.ref a)]) G H) (hi : i < ks.length) : Sts K W (ks.set i (.own ds)) (σ.set i (some (.ref a))) G H := by
  obtain ⟨S1, g, w, vs, ha, r, ow, o, f, no⟩ := S.pop
  refine ⟨S1.le, by simp [S1.len], fun j => if j = i then [a] else ow j, ⟨fun j j' b h h' => ?_, fun j b h => ?_, fun j hj => ?_⟩, fun j kj hj => ?_⟩
  · by_cases q : j = i <;> by_cases q' : j' = i
    · rw [q, q']
    · simp only [q, if_true, q', if_false] at h h'
      simp at h; subst h; exact (no j' h').elim
    · simp only [q, if_false, q', if_true] at h h'
      simp at h'; subst h'; exact (no j h).elim
    · simp only [q, q', if_false] at h h'
      exact o.dis j j' b h h'
  · by_cases q : j = i
    · simp only [q, if_true] at h
      simp at h; subst h
      exact ⟨g, .inl w⟩
    · simp only [q, if_false] at h
      obtain ⟨b1, c⟩ := o.mine j b h
      refine ⟨b1, ?_⟩
      rcases c with c | ⟨c, r, e⟩
      · exact .inl c
      · exact .inr ⟨c, r, by rw [List.getElem?_set_ne (Ne.symm q)]; exact e.1, e.2⟩
  · have : j ≠ i := by simp at hj; omega
    simp only [this, if_false]
    exact o.out j (by simpa using hj)
  · by_cases q : j = i
    · subst q
      rw [List.getElem?_set_self hi] at hj
      cases hj
      simp only [if_true]
      rw [List.getElem?_set_self (by rw [S1.len]; exact hi)]
      exact ⟨a, vs, rfl, rfl, ha, r⟩
    · rw [List.getElem?_set_ne (Ne.symm q)] at hj
      simp only [q, if_false]
      rw [List.getElem?_set_ne (Ne.symm q)]
      exact f j kj hj
/-- a slot of our own list -/
theorem Sts.ownAt {i : Nat} {ds : List PyData} (S : Sts K W ks σ G H) (h : ks[i]? = some (.own ds)) : ∃ a vs, σ[i]? = some (some (.ref a)) ∧ H a = some (.lst vs) ∧ DpAll K G vs ds ∧ G a = none ∧ W.H a = none ∧
    ∃ ow, Ow W ks G ow ∧ (∀ i k, ks[i]? = some k → Sl K G H k ((σ[i]?).getD none) (ow i)) ∧ ow i = [a] ∧ ∀ j, j ≠ i → a ∉ ow j := by
  obtain ⟨le, len, ow, o, f⟩ := S
  obtain ⟨a, vs, e1, e2, e3, e4⟩ := f i _ h
  have hi : i < σ.length := by rw [len]; exact (List.getElem?_eq_some_iff.mp h).1
  obtain ⟨m1, m2⟩ := o.mine i a (by rw [e2]; simp)
  have m2 : W.H a = none := by
    rcases m2 with m2 | ⟨_, r, m2, m3⟩
    · exact m2
    · rw [h] at m2; cases m2; cases m3
  refine ⟨a, vs, ?_, e3, e4, m1, m2, ow, o, f, e2, fun j hj ha => hj (o.dis j i a ha (by rw [e2]; simp))⟩
  rw [List.getElem?_eq_getElem hi] at e1 ⊢
  simpa using e1
/-- slot i's own list is changed -/
theorem Sts.mutOwn {i : Nat} {a : Addr} {vs us : List V} {ds es : List PyData} (S : Sts K W ks σ G H) (h : ks[i]? = some (.own ds)) (ha : σ[i]? = some (some (.ref a))) (r : DpAll K G us es) : Sts K W (ks.set i (.own es)) σ G (upd H a (.lst us)) := by
  obtain ⟨a', vs', e1, e2, e3, e4, e5, ow, o, f, e6, e7⟩ := S.ownAt h
  rw [ha] at e1
  cases e1
  have hi := (List.getElem?_eq_some_iff.mp h).1
  have hσ : σ.set i (some (.ref a)) = σ := by
    apply List.ext_getElem?
    intro j
    by_cases q : j = i
    · subst q; rw [List.getElem?_set_self (by rw [S.len]; exact hi), ha]
    · rw [List.getElem?_set_ne (Ne.symm q)]
  rw [← hσ]
  refine S.put hi (S.le.upd ⟨_, e2⟩ (fun u e => by rw [e2] at e; cases e; exact pl_lst) e4 (.inl e5)) (Same.refl G) (fun _ _ e _ => e) fun ow' o' f' => ⟨fun j b hj hb u hu => ?_, [a], ⟨a, us, rfl, rfl, upd_same, r⟩, fun b hb => ?_⟩
  · obtain ⟨a2, vs2, q1, q2, q3, q4⟩ := f' i _ h
    rw [ha] at q1
    cases q1
    have : b ≠ a := fun z => hj (o'.dis j i b hb (by rw [q2, z]; simp))
    rw [upd_ne this]; exact hu
  · simp at hb; subst hb
    refine ⟨fun j hj hb => ?_, e4, .inl e5⟩
    obtain ⟨a2, vs2, q1, q2, q3, q4⟩ := f' i _ h
    rw [ha] at q1
    cases q1
    exact hj (o'.dis j i b hb (by rw [q2]; simp))
/-- weaker -/
def Wk : List SK → List SK → Prop
  | [], [] => True
  | a :: as, b :: bs => (b = .no ∨ a = b) ∧ Wk as bs
  | _, _ => False
theorem Wk.len : ∀ {ks ls : List SK}, Wk ks ls → ks.length = ls.length
  | [], [], _ => rfl
  | _ :: _, _ :: _, h => congrArg (· + 1) (Wk.len h.2)
theorem Wk.at : ∀ {ks ls : List SK} {i : Nat} {k : SK}, Wk ks ls → ls[i]? = some k → k = .no ∨ ks[i]? = some k
  | [], [], _, _, _, e => by simp at e
  | a :: as, b :: bs, 0, k, h, e => by
    simp at e; subst e
    rcases h.1 with q | q
    · exact .inl q
    · exact .inr (by simp [q])
  | a :: as, b :: bs, i + 1, k, h, e => by
    have := Wk.at (i := i) h.2 (by simpa using e)
    simpa using this
theorem Wk.rfl' : ∀ {ks : List SK}, Wk ks ks
  | [] => trivial
  | _ :: _ => ⟨.inr rfl, Wk.rfl'⟩
theorem Sts.weak {ls : List SK} (S : Sts K W ks σ G H) (h : Wk ks ls) : Sts K W ls σ G H := by
  obtain ⟨le, len, ow, o, f⟩ := S
  have hl := h.len
  classical
  refine ⟨le, by omega, fun j => if ls[j]? = some .no ∨ ls.length ≤ j then [] else ow j, ⟨fun i j a ha hb => ?_, fun i a ha => ?_, fun i hi => ?_⟩, fun i k hk => ?_⟩
  · by_cases q : ls[i]? = some .no ∨ ls.length ≤ i
    · simp only [q, if_true] at ha; cases ha
    · by_cases q' : ls[j]? = some .no ∨ ls.length ≤ j
      · simp only [q', if_true] at hb; cases hb
      · simp only [q, q', if_false] at ha hb
        exact o.dis i j a ha hb
  · by_cases q : ls[i]? = some .no ∨ ls.length ≤ i
    · simp only [q, if_true] at ha; cases ha
    · simp only [q, if_false] at ha
      obtain ⟨b, c⟩ := o.mine i a ha
      refine ⟨b, ?_⟩
      rcases c with c | ⟨c, r, e⟩
      · exact .inl c
      · refine .inr ⟨c, r, ?_, e.2⟩
        have e := e.1
        have hi : i < ls.length := by omega
        have e' : ls[i]? = some ls[i] := by simp [hi]
        rcases h.at e' with z | z
        · exact (q (.inl (by rw [e', z]))).elim
        · rw [e', ← z, e]
  · simp only [hi, or_true, if_true]
  · rcases h.at hk with z | z
    · subst z
      simp only [hk, true_or, if_true]
      exact (show ([] : List Addr) = [] from rfl)
    · by_cases q : k = .no
      · subst q
        simp only [hk, true_or, if_true]
        exact (show ([] : List Addr) = [] from rfl)
      · have : ¬ (ls[i]? = some .no ∨ ls.length ≤ i) := by
          have hi := (List.getElem?_eq_some_iff.mp hk).1
          rintro (e | e)
          · rw [hk] at e; exact q (Option.some.inj e)
          · omega
        simp only [this, if_false]
        exact f i k z
end
end Z
namespace Z
open PySem PySem.Spec L2
variable [Tabl]
section
variable {P : Program} {w : World} {K : PySem.W.Frag} {mg : Str → Option Value} {base : Heap} {T : Sta} {k : Nat} {X : Cx} {ks k1 k2 k3 : List SK} {a b e : Expr} {es : List Expr} {d da db : PyData} {ds : List PyData} {pos : Pos}
/-! ### new lists -/
theorem el_lst (h : AD X ks es k1 ds) (hl : ds.length ≤ sizeLine) : EL X ks (.List es pos) k1 ds := fun W σ G H S Q q =>
  ev_of (pe_lst pa_av) (h W σ G H S _ fun vs G1 H1 S1 g1 r1 => ⟨by rw [r1.len]; exact hl, fun p np => by
    have gp : G1 p = none := by
      cases e : G1 p with
      | none => rfl
      | some u => rw [S1.gh p u e] at np; cases np
    have l := Lp.newOwn (o := .lst vs) S1.gh np
    exact q p G1 _ (S1.push l np gp upd_same r1) g1⟩)
theorem ed_el (h : EL X ks e k1 ds) : ED X ks e k1 (.list ds) := fun W σ G H S Q q => h W σ G H S Q fun a G2 H2 S2 g => by
  obtain ⟨G3, S3, g3, r⟩ := S2.popFreeze
  exact q _ G3 H2 S3 (g.trans g3) r
/-! ### built-ins by their name -/
structure CallD (X : Cx) (f : Value) (ds : List PyData) (d : PyData) : Prop where
  out : ∃ r, CallR X f r ∧ ∀ G H vs, Same G H → DpAll X.K G vs ds → ∀ Q : VK, (∀ v G2 H2, Lp G H G2 H2 → Dp X.K G2 v d → Q v H2) → r vs H Q
structure CallL (X : Cx) (f : Value) (ds : List PyData) (es : List PyData) : Prop where
  out : ∃ r, CallR X f r ∧ ∀ G H vs, Same G H → DpAll X.K G vs ds → ∀ Q : VK, (∀ p us G2 H2, Lp G H G2 H2 → H p = none → G2 p = none → H2 p = some (.lst us) → DpAll X.K G2 us es → Q (.ref p) H2) → r vs H Q
section
variable {x : Str} {p : Pos} {id : String}
theorem ed_callB (c : Ctx P w K mg base T k X) (hg : T.sc.names.lookup x = some .globalImplicit) (hm : mg x = none) (hv : bootBuiltins x = some (.builtin id)) (ha : AD X ks (e :: es) k1 ds) (h : CallD X (.builtin id) ds d) (hn : x ≠ "__name__") (hdb : (x == ("__debug__" : Str)) = false)
    (he : starEach (e :: es) X.env = (false, eval e X.env) :: starEach es X.env) (hpl : (backTo pos (starEach es X.env)).any (·.1) = false) : ED X ks (.Call (.Name x p) (e :: es) [] pos) k1 d := by
  obtain ⟨r, hc, hr⟩ := h.out
  intro W σ G H S Q q
  exact ev_of (pe_callB hc (gl_of c hg) (by rw [c.hmg]; exact hm) hv pa_av hn hdb he hpl) (ha W σ G H S _ fun vs G1 H1 S1 g1 r1 => hr G1 H1 vs S1.gh r1 Q fun v G2 H2 l r2 => q v G2 H2 (S1.pure l) (g1.trans l.g) r2)
theorem ed_callT (c : Ctx P w K mg base T k X) (hg : T.sc.names.lookup x = some .globalImplicit) (hm : mg x = none) (hv : bootBuiltins x = some (.type id)) (ha : AD X ks (e :: es) k1 ds) (h : CallD X (.type id) ds d) (hn : x ≠ "__name__") (hdb : (x == ("__debug__" : Str)) = false)
    (he : starEach (e :: es) X.env = (false, eval e X.env) :: starEach es X.env) (hpl : (backTo pos (starEach es X.env)).any (·.1) = false) : ED X ks (.Call (.Name x p) (e :: es) [] pos) k1 d := by
  obtain ⟨r, hc, hr⟩ := h.out
  intro W σ G H S Q q
  exact ev_of (pe_callTy hc (gl_of c hg) (by rw [c.hmg]; exact hm) hv pa_av hn hdb he hpl) (ha W σ G H S _ fun vs G1 H1 S1 g1 r1 => hr G1 H1 vs S1.gh r1 Q fun v G2 H2 l r2 => q v G2 H2 (S1.pure l) (g1.trans l.g) r2)
theorem DpAll.one {G : Hp} {vs : List V} (h : DpAll K G vs [d]) : ∃ v, vs = [v] ∧ Dp K G v d := by
  cases h with | cons a b => cases b; exact ⟨_, rfl, a⟩
theorem DpAll.two {G : Hp} {vs : List V} (h : DpAll K G vs [da, db]) : ∃ v u, vs = [v, u] ∧ Dp K G v da ∧ Dp K G u db := by
  cases h with | cons a b => cases b with | cons b c => cases c; exact ⟨_, _, rfl, a, b⟩
theorem cl_lenL {xs : List PyData} : CallD X (.builtin "len") [.list xs] (.int xs.length) := ⟨_, call_len_seq, fun G H vs g r Q q => by
  obtain ⟨v, rfl, r1⟩ := DpAll.one r
  obtain ⟨p, us, rfl, sp, ap⟩ := r1.lst_inv
  exact ⟨p, us, rfl, .inl (g.seq sp), by rw [ap.len]; exact q _ G H (Lp.refl g) (.int _)⟩⟩
theorem cl_lenT {xs : List PyData} : CallD X (.builtin "len") [.tuple xs] (.int xs.length) := ⟨_, call_len_seq, fun G H vs g r Q q => by
  obtain ⟨v, rfl, r1⟩ := DpAll.one r
  obtain ⟨p, us, rfl, sp, ap⟩ := r1.tup_inv
  exact ⟨p, us, rfl, .inr (Same.seqT g sp), by rw [ap.len]; exact q _ G H (Lp.refl g) (.int _)⟩⟩
theorem cl_max2 (hc : X.calm = true) {i j : Int} : CallD X (.builtin "max") [.int i, .int j] (.int (max i j)) := ⟨_, call_max2 hc, fun G H vs g r Q q => by
  obtain ⟨v, u, rfl, r1, r2⟩ := DpAll.two r
  rw [r1.int_inv, r2.int_inv]
  have e : (if j > i then j else i) = max i j := by
    split <;> omega
  exact ⟨i, j, rfl, by rw [e]; exact q _ G H (Lp.refl g) (.int _)⟩⟩
theorem cl_min2 (hc : X.calm = true) {i j : Int} : CallD X (.builtin "min") [.int i, .int j] (.int (min i j)) := ⟨_, call_min2 hc, fun G H vs g r Q q => by
  obtain ⟨v, u, rfl, r1, r2⟩ := DpAll.two r
  rw [r1.int_inv, r2.int_inv]
  have e : (if j < i then j else i) = min i j := by
    split <;> omega
  exact ⟨i, j, rfl, by rw [e]; exact q _ G H (Lp.refl g) (.int _)⟩⟩
theorem cl_intB {x : Bool} : CallD X (.type "int") [.bool x] (.int (if x then 1 else 0)) := ⟨_, call_int1, fun G H vs g r Q q => by
  obtain ⟨v, rfl, r1⟩ := DpAll.one r
  rw [r1.bl_inv]
  exact .inr ⟨x, rfl, q _ G H (Lp.refl g) (.int _)⟩⟩
theorem cl_tupL {xs : List PyData} : CallD X (.type "tuple") [.list xs] (.tuple xs) := ⟨_, call_tuple_of, fun G H vs g r Q q => by
  obtain ⟨v, rfl, r1⟩ := DpAll.one r
  obtain ⟨p, us, rfl, sp, ap⟩ := r1.lst_inv
  refine ⟨p, us, rfl, .inl ⟨g.seq sp, fun l nl => ?_⟩⟩
  have le := Lp.new (o := .tup us) g nl
  exact q _ _ _ le (.tup (SqT.of upd_same) (DpAll.mono le.g ap))⟩
theorem cl_lstL {xs : List PyData} : CallL X (.type "list") [.list xs] xs := ⟨_, call_list_of, fun G H vs g r Q q => by
  obtain ⟨v, rfl, r1⟩ := DpAll.one r
  obtain ⟨p, us, rfl, sp, ap⟩ := r1.lst_inv
  refine ⟨p, us, rfl, .inl (g.seq sp), fun l nl => ?_⟩
  have gl : G l = none := by
    cases e : G l with
    | none => rfl
    | some u => rw [g l u e] at nl; cases nl
  exact q l us G _ (Lp.newOwn g nl) nl gl upd_same ap⟩
theorem cl_lstT {xs : List PyData} : CallL X (.type "list") [.tuple xs] xs := ⟨_, call_list_of, fun G H vs g r Q q => by
  obtain ⟨v, rfl, r1⟩ := DpAll.one r
  obtain ⟨p, us, rfl, sp, ap⟩ := r1.tup_inv
  refine ⟨p, us, rfl, .inr (Same.seqT g sp), fun l nl => ?_⟩
  have gl : G l = none := by
    cases e : G l with
    | none => rfl
    | some u => rw [g l u e] at nl; cases nl
  exact q l us G _ (Lp.newOwn g nl) nl gl upd_same ap⟩
end
/-! ### a list of our own that is read where it stands -/
theorem own_ix (c : Ctx P w K mg base T k X) (i : Nat) {x : Str} {p : Pos} {ds : List PyData} {j : Int} (hN : T.N[i]? = some x) (hv : Vis T.sc x) (hb : ED X ks b k1 (.int j)) (hk : k1[i]? = some (.own ds)) (hi : atI ds j = some d) (hs : PlainIx b) (hk0 : ks[i]? = some (.own ds))
    (hd : (x == ("__debug__" : Str)) = false) (hcd : (x == ("__classdict__" : Str)) = false) : ED X ks (.Subscript (.Name x p) b pos) k1 d := fun W σ G H S Q q => by
  obtain ⟨a0, vs0, e0, h0, r0, g0, w0, _⟩ := S.ownAt hk0
  refine ev_of (pe_ix ix_list (pe_var (ix_of c hN) (vis_of c hv) hd hcd) pe_ev hs) ?_
  refine ⟨.ref a0, e0, ?_⟩
  refine hb W σ G H S _ fun v G1 H1 S1 g1 r1 => ?_
  obtain ⟨a, vs, e1, h1, r, g2, w1, _⟩ := S1.ownAt hk
  rw [e0] at e1
  cases e1
  rw [r1.int_inv]
  obtain ⟨j', q1, q2, q3, q4, q5⟩ := atI_get hi
  obtain ⟨v, hv', rv⟩ := r.get q2
  refine ⟨a0, vs, j, v, rfl, rfl, SqL.of h1, ?_, q v G1 H1 S1 g1 rv⟩
  unfold atI at hi ⊢
  rw [r.len]
  cases e : ixN ds.length j with
  | none => rw [e] at hi; cases hi
  | some j2 =>
    rw [e] at hi
    have hj := (ixN_seq e).1
    rw [hj] at q1
    cases q1
    exact hv'
/-! ### calls of defs -/
/-- what a def promises of data: no change of what stood -/
def spP (K : PySem.W.Frag) (R : List PyData → PyData → Prop) : Sp := fun vs H Q _ => ∃ G ds d, Same G H ∧ TbO G H ∧ DpAll K G vs ds ∧ R ds d ∧ ∀ v G2 H2, Le (pur G H) G2 H2 → Dp K G2 v d → Q v H2
/-- .. a new list -/
def spL (K : PySem.W.Frag) (R : List PyData → List PyData → Prop) : Sp := fun vs H Q _ => ∃ G ds es, Same G H ∧ TbO G H ∧ DpAll K G vs ds ∧ R ds es ∧
  ∀ p us G2 H2, Le (pur G H) G2 H2 → H p = none → G2 p = none → H2 p = some (.lst us) → DpAll K G2 us es → Q (.ref p) H2
def RngAt (H : Hp) (a b : Addr) (r : Rg) : Prop := H a = some (.lst [.int r.s, .ref b, .int r.k]) ∧ H b = some (.lst (r.c.map V.int)) ∧ a ≠ b
/-- .. that draws -/
def spR (K : PySem.W.Frag) (R : Rg → List PyData → Rg → PyData → Prop) : Sp := fun vs H Q _ => ∃ G a b us r ds r2 d, vs = .ref a :: us ∧ Same G H ∧ TbO G H ∧ RngAt H a b r ∧ G a = none ∧ G b = none ∧ DpAll K G us ds ∧ R r ds r2 d ∧
  ∀ v G2 H2, Le ⟨G, H, fun x => x = a ∨ x = b⟩ G2 H2 → RngAt H2 a b r2 → Dp K G2 v d → Q v H2
/-- a def of the module that keeps a promise -/
structure FnG (P : Program) (w : World) (K : PySem.W.Frag) (mg : Str → Option Value) (base : Heap) (x : Str) (ps : List Str) (j : Nat) (sp : Sp) : Prop where
  ex : ∃ f fd, FnOk P w K mg base CX0 j f fd ps sp ∧ mg x = some (.ref f) ∧ PySem.W.keepIn K (.ref f) = true ∧ Binds K fd ps []
theorem FnG.mono {x : Str} {ps : List Str} {j j' : Nat} {sp : Sp} (F : FnG P w K mg base x ps j sp) (h : j ≤ j') : FnG P w K mg base x ps j' sp := by
  obtain ⟨f, fd, a, b⟩ := F.ex
  exact ⟨f, fd, a.mono h, b⟩
section
variable {x : Str} {p : Pos} {ps : List Str} {j : Nat}
theorem fn_run (c : Ctx P w K mg base T k X) {sp : Sp} (F : FnG P w K mg base x ps j sp) (hj : j ≤ k) (hg : T.sc.names.lookup x = some .globalImplicit) (hdb : (x == ("__debug__" : Str)) = false)
    (he : starEach (e :: es) X.env = (false, eval e X.env) :: starEach es X.env) (hpl : (backTo pos (starEach es X.env)).any (·.1) = false) {t : TA} (ha : PA X (e :: es) t) : PE X (.Call (.Name x p) (e :: es) [] pos) (tCall sp [] E0 t) := by
  obtain ⟨f, fd, F, hm, hk, hb⟩ := F.ex
  have h1 := c.hP
  have h2 := c.hw
  have h3 := c.hK
  have h4 := c.hmg
  have h5 := c.hbase
  subst h1 h2 h3 h4 h5
  exact pe_call F (c.room.mono hj) (gl_of c hg) hm hk hb .nil pass0 ha hdb he hpl
theorem ed_call (c : Ctx P w K mg base T k X) {R : List PyData → PyData → Prop} (F : FnG P w K mg base x ps j (spP K R)) (hj : j ≤ k) (hg : T.sc.names.lookup x = some .globalImplicit) (ha : AD X ks (e :: es) k1 ds) (hR : R ds d) (hdb : (x == ("__debug__" : Str)) = false)
    (he : starEach (e :: es) X.env = (false, eval e X.env) :: starEach es X.env) (hpl : (backTo pos (starEach es X.env)).any (·.1) = false) : ED X ks (.Call (.Name x p) (e :: es) [] pos) k1 d := fun W σ G H S Q q => by
  have hK := c.hK
  refine ev_of (fn_run c F hj hg hdb he hpl pa_av) (ha W σ G H S _ fun vs G1 H1 S1 g1 r1 => ?_)
  show spP K R (vs ++ []) H1 Q E0
  rw [List.append_nil]
  rw [hK] at r1
  exact ⟨G1, ds, d, S1.gh, S1.le.tb, r1, hR, fun v G2 H2 l r2 => q v G2 H2 (S1.step l) (g1.trans l.g) (by rw [hK]; exact r2)⟩
theorem el_call (c : Ctx P w K mg base T k X) {R : List PyData → List PyData → Prop} (F : FnG P w K mg base x ps j (spL K R)) (hj : j ≤ k) (hg : T.sc.names.lookup x = some .globalImplicit) (ha : AD X ks (e :: es) k1 ds) {ls : List PyData} (hR : R ds ls) (hdb : (x == ("__debug__" : Str)) = false)
    (he : starEach (e :: es) X.env = (false, eval e X.env) :: starEach es X.env) (hpl : (backTo pos (starEach es X.env)).any (·.1) = false) : EL X ks (.Call (.Name x p) (e :: es) [] pos) k1 ls := fun W σ G H S Q q => by
  have hK := c.hK
  refine ev_of (fn_run c F hj hg hdb he hpl pa_av) (ha W σ G H S _ fun vs G1 H1 S1 g1 r1 => ?_)
  show spL K R (vs ++ []) H1 Q E0
  rw [List.append_nil]
  rw [hK] at r1
  exact ⟨G1, ds, ls, S1.gh, S1.le.tb, r1, hR, fun p us G2 H2 l np gp hp r2 => q p G2 H2 (S1.pushL l np gp hp (by rw [hK]; exact r2)) (g1.trans l.g)⟩
theorem Sts.rngAt {W : Wd} {σ : St} {G H : Hp} {i : Nat} {a b : Addr} {r : Rg} (S : Sts K W ks σ G H) (h : ks[i]? = some (.rng a b r)) : σ[i]? = some (some (.ref a)) ∧ RngAt H a b r ∧ G a = none ∧ G b = none ∧ (W.H a = none ∨ W.M a) ∧ (W.H b = none ∨ W.M b) ∧
    ∃ ow, Ow W ks G ow ∧ (∀ i k, ks[i]? = some k → Sl K G H k ((σ[i]?).getD none) (ow i)) ∧ ow i = [a, b] := by
  obtain ⟨le, len, ow, o, f⟩ := S
  obtain ⟨e1, e2, e3, e4, e5⟩ := f i _ h
  have hi : i < σ.length := by rw [len]; exact (List.getElem?_eq_some_iff.mp h).1
  have m1 := o.mine i a (by rw [e2]; simp)
  have m2 := o.mine i b (by rw [e2]; simp)
  refine ⟨?_, ⟨e3, e4, e5⟩, m1.1, m2.1, m1.2.imp id (·.1), m2.2.imp id (·.1), ow, o, f, e2⟩
  rw [List.getElem?_eq_getElem hi] at e1 ⊢
  simpa using e1
/-- behind a call that draws -/
theorem Sts.rngStep {W : Wd} {σ : St} {G H G2 H2 : Hp} {i : Nat} {r r2 : Rg} {a b : Addr} (S : Sts K W ks σ G H) (h : ks[i]? = some (.rng a b r)) (l : Le ⟨G, H, fun x => x = a ∨ x = b⟩ G2 H2) (hr2 : RngAt H2 a b r2) :
    Sts K W (ks.set i (.rng a b r2)) σ G2 H2 := by
  obtain ⟨ha, hr, e3, e4, e5, e6, ow, o, f, e7⟩ := S.rngAt h
  have hi := (List.getElem?_eq_some_iff.mp h).1
  have hσ : σ.set i (some (.ref a)) = σ := by
    apply List.ext_getElem?
    intro j
    by_cases q : j = i
    · subst q; rw [List.getElem?_set_self (by rw [S.len]; exact hi), ha]
    · rw [List.getElem?_set_ne (Ne.symm q)]
  have nab : ∀ x u, ¬ W.M x → W.H x = some u → ¬ (x = a ∨ x = b) := fun x u hm hx => by
    rintro (z | z) <;> subst z
    · rcases e5 with e5 | e5
      · rw [hx] at e5; cases e5
      · exact hm e5
    · rcases e6 with e6 | e6
      · rw [hx] at e6; cases e6
      · exact hm e6
  have le : Le W G2 H2 := ⟨S.le.g.trans l.g, l.gh, fun x u hm nt hx => l.keep x u (nab x u hm hx) nt (S.le.keep x u hm nt hx), fun x u hx => by
    obtain ⟨u', hu⟩ := S.le.there x u hx
    exact l.there x u' hu, fun x u h1 h2 => by
    obtain ⟨u', hu⟩ := S.le.there x u h2
    exact l.fz x u' (S.le.fz x u h1 h2) hu, S.le.m, l.tb⟩
  rw [← hσ]
  refine S.put hi le l.g (fun x u h1 h2 => l.fz x u h1 h2) fun ow' o' f' => ?_
  obtain ⟨q1, q2, q3, q4, q5⟩ := f' i _ h
  refine ⟨fun j x hj hx u hu => by
    obtain ⟨u', hu', nt⟩ := o'.liveN f' j x hx
    rw [hu] at hu'
    cases hu'
    refine l.keep x u ?_ nt hu
    rintro (z | z) <;> subst z
    · exact hj (o'.dis j i _ hx (by rw [q2]; simp))
    · exact hj (o'.dis j i _ hx (by rw [q2]; simp)), [a, b], ⟨rfl, rfl, hr2.1, hr2.2.1, hr2.2.2⟩, fun x hx => ⟨fun j hj hx' => ?_, ?_, ?_⟩⟩
  · exact hj (o'.dis j i x hx' (by rw [q2]; exact hx))
  · have : x = a ∨ x = b := by simpa using hx
    rcases this with z | z
    · rw [z]; exact l.fz a _ e3 hr.1
    · rw [z]; exact l.fz b _ e4 hr.2.1
  · have : x = a ∨ x = b := by simpa using hx
    rcases this with z | z
    · subst z; exact e5.imp id fun z => ⟨z, rfl⟩
    · subst z; exact e6.imp id fun z => ⟨z, rfl⟩
theorem ed_callR (c : Ctx P w K mg base T k X) {R : Rg → List PyData → Rg → PyData → Prop} (F : FnG P w K mg base x ps j (spR K R)) (hj : j ≤ k) (hg : T.sc.names.lookup x = some .globalImplicit) (i : Nat) {y : Str} {py : Pos} {r0 r r2 : Rg} {a' b' a0 b0 : Addr} (hN : T.N[i]? = some y) (hv : Vis T.sc y)
    (hk0 : ks[i]? = some (.rng a0 b0 r0)) (ha : AD X ks es k1 ds) (hk : k1[i]? = some (.rng a' b' r)) (hR : R r ds r2 d) (hdb : (x == ("__debug__" : Str)) = false) (hd : (y == ("__debug__" : Str)) = false) (hcd : (y == ("__classdict__" : Str)) = false)
    (he : starEach (.Name y py :: es) X.env = (false, eval (.Name y py) X.env) :: starEach es X.env) (hpl : (backTo pos (starEach es X.env)).any (·.1) = false) : ED X ks (.Call (.Name x p) (.Name y py :: es) [] pos) (k1.set i (.rng a' b' r2)) d := fun W σ G H S Q q => by
  have hK := c.hK
  obtain ⟨e1, _⟩ := S.rngAt hk0
  refine ev_of (fn_run c F hj hg hdb he hpl (pa_cons (pe_var (ix_of c hN) (vis_of c hv) hd hcd) pa_av he)) ?_
  refine ⟨.ref a0, e1, ha W σ G H S _ fun vs G1 H1 S1 g1 r1 => ?_⟩
  obtain ⟨e1', e2, e3, e4, _⟩ := S1.rngAt hk
  rw [e1] at e1'
  cases e1'
  show spR K R (.ref _ :: vs ++ []) H1 Q E0
  rw [List.append_nil]
  rw [hK] at r1
  exact ⟨G1, _, b', vs, r, ds, r2, d, rfl, S1.gh, S1.le.tb, e2, e3, e4, r1, hR, fun v G2 H2 l hr2 r3 => q v G2 H2 (S1.rngStep hk l hr2) (g1.trans l.g) (by rw [hK]; exact r3)⟩
end
end
end Z
namespace Z
open PySem PySem.Spec L2
variable [Tabl]
/-- what is wanted behind statements, by the slots' contents -/
structure Po where
  nx : List SK → Prop
  rt : List SK → PyData → Prop
  rl : List SK → List PyData → Prop := fun _ _ => False
  bk : List SK → Prop := fun _ => False
  ct : List SK → Prop := fun _ => False
  rT : List SK → List PyData → List PyData → Prop := fun _ _ _ => False
  ex : Value → List (Str × PyData) → Prop := fun _ _ => False
/-- the fields of an exception that stays -/
def ExF (K : PySem.W.Frag) (G : Hp) (d : Option Addr) (fs : List (Str × PyData)) : Prop := match d with
  | none => fs = []
  | some dx => ∃ vs, G dx = some (.xd vs) ∧ FsD K G vs fs
theorem ExF.mono {K : PySem.W.Frag} {G G2 : Hp} {d : Option Addr} {fs : List (Str × PyData)} (e : Same G G2) (h : ExF K G d fs) : ExF K G2 d fs := by
  cases d with
  | none => exact h
  | some dx => obtain ⟨vs, a, b⟩ := h; exact ⟨vs, e _ _ a, FsD.mono e b⟩
structure Mt (X : Cx) (W : Wd) (Φ : Po) (D : Ends) : Prop where
  nx : ∀ ks σ G H, Φ.nx ks → Sts X.K W ks σ G H → D.nx σ H
  bk : ∀ ks σ G H, Φ.bk ks → Sts X.K W ks σ G H → D.bk σ H
  ct : ∀ ks σ G H, Φ.ct ks → Sts X.K W ks σ G H → D.ct σ H
  rt : ∀ ks σ G H v d, Φ.rt ks d → Sts X.K W ks σ G H → Dp X.K G v d → D.rt v H
  rl : ∀ ks σ G H a ds, Φ.rl ks ds → Sts X.K W (ks ++ [.own ds]) (σ ++ [some (.ref a)]) G H → D.rt (.ref a) H
  rT : ∀ ks σ G H a ds es, Φ.rT ks ds es → Sts X.K W (ks ++ [.tlo ds es]) (σ ++ [some (.ref a)]) G H → D.rt (.ref a) H
  ex : ∃ Wx : WX, Takes X Wx ∧ ∀ ks σ G H cls d fs, Φ.ex cls fs → Sts X.K W ks σ G H → ExF X.K G d fs → Wx cls d σ H
structure SV (X : Cx) (sts : List Stmt) (D : Ends) (σ : St) (H : Hp) : Prop where
  run : ∀ (pins : List (Addr × Obj)) (s : Shared), Inv X pins σ H s → wpAny (model X.prog X.w) X.A (execs sts X.env) (SP X pins D) X.xe s
theorem pss_sv {X : Cx} {sts : List Stmt} : PSs X sts (SV X sts) := ⟨fun pins s σ H D I h => h.run pins s I⟩
theorem sv_of {X : Cx} {sts : List Stmt} {t : TS} {D : Ends} {σ : St} {H : Hp} (h : PSs X sts t) (q : t D σ H) : SV X sts D σ H := ⟨fun pins s I => h.run pins s σ H D I q⟩
def SD (X : Cx) (ks : List SK) (sts : List Stmt) (Φ : Po) : Prop := ∀ W σ G H D, Sts X.K W ks σ G H → Mt X W Φ D → SV X sts D σ H
section
variable {P : Program} {w : World} {K : PySem.W.Frag} {mg : Str → Option Value} {base : Heap} {T : Sta} {k : Nat} {X : Cx} {ks k1 k2 k3 : List SK} {a b e : Expr} {es : List Expr} {d da db : PyData} {ds : List PyData} {pos p : Pos} {rest body orelse : List Stmt} {Φ : Po}
theorem SD.imp {Ψ : Po} (h : SD X ks rest Φ) (hn : ∀ k, Φ.nx k → Ψ.nx k) (hr : ∀ k d, Φ.rt k d → Ψ.rt k d) (hl : ∀ k d, Φ.rl k d → Ψ.rl k d) (hb : ∀ k, Φ.bk k → Ψ.bk k) (hc : ∀ k, Φ.ct k → Ψ.ct k) (hT : ∀ k d e, Φ.rT k d e → Ψ.rT k d e) (hx : ∀ c f, Φ.ex c f → Ψ.ex c f) : SD X ks rest Ψ := fun W σ G H D S M =>
  h W σ G H D S ⟨fun ks σ G H q => M.nx ks σ G H (hn _ q), fun ks σ G H q => M.bk ks σ G H (hb _ q), fun ks σ G H q => M.ct ks σ G H (hc _ q), fun ks σ G H v d q => M.rt ks σ G H v d (hr _ _ q), fun ks σ G H a ds q => M.rl ks σ G H a ds (hl _ _ q), fun ks σ G H a ds es q => M.rT ks σ G H a ds es (hT _ _ _ q), let ⟨Wx, t, h⟩ := M.ex; ⟨Wx, t, fun ks σ G H c d f q => h ks σ G H c d f (hx _ _ q)⟩⟩
theorem sd_nil (h : Φ.nx ks) : SD X ks [] Φ := fun W σ G H D S M => sv_of pss_nil (M.nx ks σ G H h S)
theorem sd_weak {ls : List SK} (h : Wk ks ls) (q : SD X ls rest Φ) : SD X ks rest Φ := fun W σ G H D S M => q W σ G H D (S.weak h) M
theorem loc_of (c : Ctx P w K mg base T k X) {x : Str} (h : Loc T.sc x) : Loc X.env.scope x := by rw [c.hs]; exact h
theorem fn_of' (c : Ctx P w K mg base T k X) {x : Str} (h : T.fn x = true ∨ T.sc.names.lookup x = some .local) : X.fn x = true ∨ X.env.scope.names.lookup x = some .local := by rw [c.fn, c.hs]; exact h
theorem nd_of (c : Ctx P w K mg base T k X) : X.N.Nodup := by rw [c.hN]; exact c.nd
section
variable {x : Str} {i : Nat}
theorem sd_asg (c : Ctx P w K mg base T k X) (i : Nat) (hi : T.N[i]? = some x) (hx : Loc T.sc x) (hf : T.fn x = true ∨ T.sc.names.lookup x = some .local) (hl : i < k1.length) (h : ED X ks e k1 d) (hs : swapsWith e (some (.Name x p)) pos.line X.env = pure false)
    (q : SD X (k1.set i (.dat d)) rest Φ) : SD X ks (.Assign [.Name x p] e pos :: rest) Φ := fun W σ G H D S M => by
  refine sv_of (pss_cons (ps_set (nd_of c) (ix_of c hi) (loc_of c hx) pe_ev hs (fn_of' c hf)) pss_sv) ?_
  exact h W σ G H S _ fun v G2 H2 S2 g r => q W _ G2 H2 D (S2.setDat hl r) M
theorem sd_asgL (c : Ctx P w K mg base T k X) (i : Nat) (hi : T.N[i]? = some x) (hx : Loc T.sc x) (hf : T.fn x = true ∨ T.sc.names.lookup x = some .local) (hl : i < k1.length) (h : EL X ks e k1 ds) (hs : swapsWith e (some (.Name x p)) pos.line X.env = pure false)
    (q : SD X (k1.set i (.own ds)) rest Φ) : SD X ks (.Assign [.Name x p] e pos :: rest) Φ := fun W σ G H D S M => by
  refine sv_of (pss_cons (ps_set (nd_of c) (ix_of c hi) (loc_of c hx) pe_ev hs (fn_of' c hf)) pss_sv) ?_
  exact h W σ G H S _ fun a G2 H2 S2 g => q W _ G2 H2 D (S2.popTo hl) M
end
theorem sd_expr (h : ED X ks e k1 d) (hs : swapsWith e none pos.line X.env = pure false) (q : SD X k1 rest Φ) : SD X ks (.Expr e pos :: rest) Φ := fun W σ G H D S M =>
  sv_of (pss_cons (ps_expr pe_ev hs) pss_sv) (h W σ G H S _ fun v G2 H2 S2 g r => q W σ G2 H2 D S2 M)
theorem sd_ret (h : ED X ks e k1 d) (q : Φ.rt k1 d) : SD X ks (.Return (some e) pos :: rest) Φ := fun W σ G H D S M =>
  sv_of (pss_cons (ps_ret pe_ev) pss_sv) (h W σ G H S _ fun v G2 H2 S2 g r => M.rt k1 σ G2 H2 v d q S2 r)
theorem sd_retL (h : EL X ks e k1 ds) (q : Φ.rl k1 ds) : SD X ks (.Return (some e) pos :: rest) Φ := fun W σ G H D S M =>
  sv_of (pss_cons (ps_ret pe_ev) pss_sv) (h W σ G H S _ fun a G2 H2 S2 g => M.rl k1 σ G2 H2 a ds q S2)
theorem sd_if {t : Expr} {c : Bool} (h : TD X ks t k1 c) (h1 : c = true → SD X k1 body { Φ with nx := fun k => SD X k rest Φ }) (h0 : c = false → SD X k1 orelse { Φ with nx := fun k => SD X k rest Φ }) : SD X ks (.If t body orelse pos :: rest) Φ := fun W σ G H D S M => by
  refine sv_of (pss_cons (ps_if pt_tv pss_sv pss_sv) pss_sv) (h W σ G H S _ fun G2 H2 S2 g => ?_)
  have M' : Mt X W { Φ with nx := fun k => SD X k rest Φ } { D with nx := SV X rest D } := ⟨fun ks σ G H q S => q W σ G H D S M, M.bk, M.ct, M.rt, M.rl, M.rT, M.ex⟩
  cases c with
  | true => exact h1 rfl W σ G2 H2 _ S2 M'
  | false => exact h0 rfl W σ G2 H2 _ S2 M'
/-- an if whose ways end (return) or go on alike -/
theorem sd_ifT {t : Expr} (h : TD X ks t k1 true) (h1 : SD X k1 body { Φ with nx := fun k => SD X k rest Φ }) : SD X ks (.If t body orelse pos :: rest) Φ := sd_if h (fun _ => h1) (fun e => nomatch e)
theorem sd_ifF {t : Expr} (h : TD X ks t k1 false) (h0 : SD X k1 orelse { Φ with nx := fun k => SD X k rest Φ }) : SD X ks (.If t body orelse pos :: rest) Φ := sd_if h (fun e => nomatch e) (fun _ => h0)
/-! ### lists of our own changed -/
theorem sd_append (c : Ctx P w K mg base T k X) (i : Nat) {x : Str} {p2 p3 : Pos} (hN : T.N[i]? = some x) (hv : Vis T.sc x) (h : ED X ks e k1 d) (hk : k1[i]? = some (.own ds)) (hk0 : ks[i]? = some (.own da')) (hz : ds.length < sizeLine)
    (q : SD X (k1.set i (.own (ds ++ [d]))) rest Φ) (hd : (x == ("__debug__" : Str)) = false) (hcd : (x == ("__classdict__" : Str)) = false)
    (hs : swapsWith (.Call (.Attribute (.Name x p) "append" p2) [e] [] p3) none pos.line X.env = pure false)
    (he : starEach [e] X.env = (false, eval e X.env) :: starEach [] X.env) (hfew : (((backTo p3 (starEach [e] X.env)).all fun x => !x.fst) && ((backToKw p3 (keywordEach [] X.env)).all fun x => x.fst.isSome) && decide (([e].length + ([] : List Keyword).length + if ([] : List Keyword).isEmpty = true then 0 else 1) < 30)) = true)
    (hline : (p2.endLine == p3.line) = true) : SD X ks (.Expr (.Call (.Attribute (.Name x p) "append" p2) [e] [] p3) pos :: rest) Φ := fun W σ G H D S M => by
  obtain ⟨a0, vs0, e0, h0, r0, g0, w0, _⟩ := S.ownAt hk0
  refine sv_of (pss_cons (ps_expr (pe_bm PySem.F.plainAttrs_list PySem.F.slot_list_append PySem.F.type_list_append mt_append (pe_var (ix_of c hN) (vis_of c hv) hd hcd) (pa_cons pe_ev pa_nil he) (hs := he) (hfew := hfew) (hline := hline)) hs) pss_sv) ?_
  refine ⟨.ref a0, e0, .inl ⟨rfl, _, SqL.of h0⟩, ?_⟩
  refine h W σ G H S _ fun v G1 H1 S1 g1 r1 => ?_
  obtain ⟨a, vs, e1, h1, r, g2, w1, _⟩ := S1.ownAt hk
  rw [e0] at e1
  cases e1
  refine ⟨a0, vs, v, rfl, rfl, h1, by rw [r.len]; exact hz, ?_⟩
  exact q W σ G1 _ D (S1.mutOwn (vs := vs) hk e0 (DpAll.append r (.cons r1 .nil))) M
theorem sd_setitem (c : Ctx P w K mg base T k X) (i : Nat) {x : Str} {p2 : Pos} {n : Int} {j : Nat} (hN : T.N[i]? = some x) (hv : Vis T.sc x) (h : ED X ks e k1 d) (hb : ED X k1 b k2 (.int n)) (hk : k2[i]? = some (.own ds)) (hk0 : k1[i]? = some (.own da')) (hj : ixN ds.length n = some j)
    (q : SD X (k2.set i (.own (ds.set j d))) rest Φ) (hd : (x == ("__debug__" : Str)) = false) (hcd : (x == ("__classdict__" : Str)) = false)
    (ha : ∀ v, assign (.Subscript (.Name x p) b p2) X.env v = (do
      let ov ← holding [v] (eval (.Name x p) X.env)
      let iv ← holding [v, ov] (eval b X.env)
      standAt p2
      holding [v, ov, iv] (setItem ov iv v)
      release [v, ov, iv] []))
    (hs : swapsWithSole [.Subscript (.Name x p) b p2] e pos.line X.env = pure false) (hw : swappedStores [.Subscript (.Name x p) b p2] e X.env = pure none) (h1 : (assignEach [.Subscript (.Name x p) b p2] X.env).map (·.2) = [assign (.Subscript (.Name x p) b p2) X.env]) :
    SD X ks (.Assign [.Subscript (.Name x p) b p2] e pos :: rest) Φ := fun W σ G H D S M => by
  refine sv_of (pss_cons (ps_asg pe_ev (pg_sub (pe_var (ix_of c hN) (vis_of c hv) hd hcd) pe_ev set_list ha) hs hw h1) pss_sv) ?_
  refine h W σ G H S _ fun v G1 H1 S1 g1 r1 => ?_
  obtain ⟨a0, vs0, e0, h0, r0, g0, w0, _⟩ := S1.ownAt hk0
  refine ⟨.ref a0, e0, ?_⟩
  refine hb W σ G1 H1 S1 _ fun y G2 H2 S2 g2 r2 => ?_
  obtain ⟨a, vs, e1, h1, r, g3, w1, _⟩ := S2.ownAt hk
  rw [e0] at e1
  cases e1
  rw [r2.int_inv]
  refine ⟨a0, vs, n, j, rfl, rfl, h1, by rw [r.len]; exact hj, ?_⟩
  exact q W σ G2 _ D (S2.mutOwn (vs := vs) hk e0 (DpAll.set j r (Dp.mono g2 r1))) M
theorem sd_freeze (i : Nat) (hk : ks[i]? = some (.own ds)) (q : SD X (ks.set i (.dat (.list ds))) rest Φ) : SD X ks rest Φ := fun W σ G H D S M => by
  obtain ⟨a, vs, e1, h1, r, g, w1, ow, o, f, e2, no⟩ := S.ownAt hk
  have hi := (List.getElem?_eq_some_iff.mp hk).1
  have hσ : σ.set i (some (.ref a)) = σ := by
    apply List.ext_getElem?
    intro j
    by_cases q : j = i
    · subst q; rw [List.getElem?_set_self (by rw [S.len]; exact hi), e1]
    · rw [List.getElem?_set_ne (Ne.symm q)]
  -- forget the slot, freeze, know it again
  have S1 : Sts X.K W (ks.set i .no) (σ.set i (some (.ref a))) G H := S.put hi S.le (Same.refl G) (fun _ _ e _ => e) fun _ _ _ => ⟨fun _ _ _ _ _ e => e, [], rfl, fun _ h => by cases h⟩
  rw [hσ] at S1
  have O1 : Ow W (ks.set i .no) G (fun j => if j = i then [] else ow j) := by
    refine ⟨fun j j' b hb hb' => ?_, fun j b hb => ?_, fun j hj => ?_⟩
    · by_cases z : j = i <;> by_cases z' : j' = i <;> simp only [z, z', if_true, if_false] at hb hb' <;> first | exact o.dis j j' b hb hb' | cases hb | cases hb'
    · by_cases z : j = i
      · simp only [z, if_true] at hb; cases hb
      · simp only [z, if_false] at hb
        obtain ⟨b1, c⟩ := o.mine j b hb
        refine ⟨b1, ?_⟩
        rcases c with c | ⟨c, r, e⟩
        · exact .inl c
        · exact .inr ⟨c, r, by rw [List.getElem?_set_ne (Ne.symm z)]; exact e.1, e.2⟩
    · by_cases z : j = i
      · simp only [z, if_true]
      · simp only [z, if_false]
        exact o.out j (by simpa using hj)
  have F1 : ∀ j k, (ks.set i .no)[j]? = some k → Sl X.K G H k ((σ[j]?).getD none) (if j = i then [] else ow j) := fun j k hj => by
    by_cases z : j = i
    · subst z
      rw [List.getElem?_set_self hi] at hj
      cases hj
      simp only [if_true]
      exact (show ([] : List Addr) = [] from rfl)
    · rw [List.getElem?_set_ne (Ne.symm z)] at hj
      simp only [z, if_false]
      exact f j k hj
  obtain ⟨S2, gg⟩ := Sts.freeze (pl := pl_lst) S1.le S1.len O1 F1 (fun j hb => by
    by_cases z : j = i
    · simp only [z, if_true] at hb; cases hb
    · simp only [z, if_false] at hb
      exact no j z hb) g w1 h1
  have S3 := S2.setDat (i := i) (d := .list ds) (by simpa using hi) (.lst (SqL.of upd_same) (DpAll.mono gg r))
  rw [hσ] at S3
  rw [List.set_set] at S3
  exact q W σ _ H D S3 M
/-! ### what is walked -/
structure SrcOk (K : PySem.W.Frag) (J : It) (Gs : Hp) (ds : List PyData) : Prop where
  wk : Walk J ds.length (fun H => Same Gs H) (fun i H x H' => ∀ G, Same Gs G → Same G H → ∃ d G', ds[i]? = some d ∧ Lp G H G' H' ∧ Dp K G' x d)
structure IV (X : Cx) (tg iter : Expr) (σ : St) (H : Hp) (R : It → Hp → Prop) : Prop where
  run : ∀ (pins : List (Addr × Obj)) (s : Shared), Inv X pins σ H s →
    wpAny (model X.prog X.w) X.A (eval iter X.env) (fun v s1 => wpAny (model X.prog X.w) X.A (pyIter v) (PIE X pins σ tg R) X.xe s1) X.xe s
theorem pi_iv {X : Cx} {tg iter : Expr} : PI X tg iter (IV X tg iter) := ⟨fun pins s σ H R I h => h.run pins s I⟩
theorem iv_of {X : Cx} {tg iter : Expr} {wi : TI} {σ : St} {H : Hp} {R : It → Hp → Prop} (h : PI X tg iter wi) (q : wi σ H R) : IV X tg iter σ H R := ⟨fun pins s I => h.run pins s σ H R I q⟩
def ID (X : Cx) (ks : List SK) (tg iter : Expr) (ks' : List SK) (ds : List PyData) : Prop := ∀ W σ G H, Sts X.K W ks σ G H → ∀ R : It → Hp → Prop, (∀ J G2 H2, Sts X.K W ks' σ G2 H2 → Same G G2 → SrcOk X.K J G2 ds → R J H2) → IV X tg iter σ H R
theorem id_tup {tg : Expr} (h : ED X ks e k1 (.tuple ds)) : ID X ks tg e k1 ds := fun W σ G H S R q => by
  refine iv_of (pi_tup pe_ev) (h W σ G H S _ fun v G2 H2 S2 g r => ?_)
  obtain ⟨a, vs, rfl, sa, aa⟩ := r.tup_inv
  refine ⟨a, rfl, ⟨vs, Same.seqT S2.gh sa⟩, q _ G2 H2 S2 g ⟨?_⟩⟩
  rw [← aa.len]
  refine walk_tup.mono (fun H' s => Same.seqT s sa) fun i H' x H'' hi s y => ?_
  obtain ⟨rfl, hx⟩ := y
  intro G' s1 s2
  obtain ⟨d, hd, rd⟩ := aa.getV hx
  exact ⟨d, G', hd, Lp.refl s2, Dp.mono s1 rd⟩
theorem id_lst {tg : Expr} (h : ED X ks e k1 (.list ds)) : ID X ks tg e k1 ds := fun W σ G H S R q => by
  refine iv_of (pi_list pe_ev) (h W σ G H S _ fun v G2 H2 S2 g r => ?_)
  obtain ⟨a, vs, rfl, sa, aa⟩ := r.lst_inv
  refine ⟨a, rfl, ⟨vs, S2.gh.seq sa⟩, q _ G2 H2 S2 g ⟨?_⟩⟩
  rw [← aa.len]
  refine walk_list.mono (fun H' s => s.seq sa) fun i H' x H'' hi s y => ?_
  obtain ⟨rfl, hx⟩ := y
  intro G' s1 s2
  obtain ⟨d, hd, rd⟩ := aa.getV hx
  exact ⟨d, G', hd, Lp.refl s2, Dp.mono s1 rd⟩
def rngD (n : Nat) : List PyData := (List.range n).map fun i => .int (i : Nat)
theorem rngD_get {n i : Nat} (h : i < n) : (rngD n)[i]? = some (.int (i : Nat)) := by simp [rngD, h]
theorem id_range {tg : Expr} (c : Ctx P w K mg base T k X) {n : Int} (hg : T.sc.names.lookup ("range" : Str) = some .globalImplicit) (hm : mg "range" = none) (h : ED X ks a k1 (.int n)) (hn : n < 2 ^ 62 ∧ -(2 ^ 62) ≤ n)
    (hs : starEach [a] X.env = [(false, eval a X.env)]) : ID X ks tg (.Call (.Name "range" p) [a] [] pos) k1 (rngD n.toNat) := fun W σ G H S R q => by
  refine iv_of (pi_range1 (gl_of c hg) (by rw [c.hmg]; exact hm) (pa_cons pe_ev pa_nil hs) hs) (h W σ G H S _ fun v G2 H2 S2 g r => ?_)
  refine ⟨n, by rw [r.int_inv], hn.2, hn.1, q _ G2 H2 S2 g ⟨?_⟩⟩
  have e : (rngD n.toNat).length = n.toNat := by simp [rngD]
  rw [e]
  refine (walk_range (lo := 0) (n := n.toNat)).mono (fun _ _ => trivial) fun i H' x H'' hi s y => ?_
  obtain ⟨rfl, rfl⟩ := y
  intro G' s1 s2
  refine ⟨_, G', rngD_get hi, Lp.refl s2, ?_⟩
  show Dp X.K G' (V.int (0 + (i : Int))) (.int (i : Int))
  rw [Int.zero_add]; exact .int _
/-! ### targets -/
/-- a target takes data into slots -/
def GD (X : Cx) (tg : Expr) (f : PyData → List SK → Option (List SK)) (js : List Nat) : Prop := ∃ g : TG, PG X tg g ∧ ∀ W σ G H ks v d ks', Sts X.K W ks σ G H → Dp X.K G v d → f d ks = some ks' → ∀ Q : St → Hp → Prop,
  (∀ σ2, Sts X.K W ks' σ2 G H → (∀ i, i ∉ js → σ2[i]? = σ[i]?) → σ2.length = σ.length → Q σ2 H) → g v σ H Q
def tg1 (j : Nat) (d : PyData) (ks : List SK) : Option (List SK) := if j < ks.length then some (ks.set j (.dat d)) else none
def setAll : List Nat → List PyData → List SK → Option (List SK)
  | [], [], ks => some ks
  | j :: js, d :: ds, ks => if j < ks.length then setAll js ds (ks.set j (.dat d)) else none
  | _, _, _ => none
def tgN (js : List Nat) : PyData → List SK → Option (List SK)
  | .tuple ds, ks => setAll js ds ks
  | _, _ => none
theorem gd_name (c : Ctx P w K mg base T k X) (j : Nat) {x : Str} (hi : T.N[j]? = some x) (hx : Loc T.sc x) (hf : T.fn x = true ∨ T.sc.names.lookup x = some .local) : GD X (.Name x p) (tg1 j) [j] := by
  refine ⟨_, pg_name (nd_of c) (ix_of c hi) (loc_of c hx) (fn_of' c hf), fun W σ G H ks v d ks' S r e Q q => ?_⟩
  unfold tg1 at e
  split at e
  · cases e
    exact q _ (S.setDat ‹_› r) (fun i hi => List.getElem?_set_ne (fun z => hi (by simp [z]))) (by simp)
  · cases e
def GsD (X : Cx) (es : List Expr) (js : List Nat) : Prop := ∃ g : TGs, PGs X es g ∧ ∀ W σ G H ks vs ds ks', Sts X.K W ks σ G H → DpAll X.K G vs ds → setAll js ds ks = some ks' → ∀ Q : St → Hp → Prop,
  (∀ σ2, Sts X.K W ks' σ2 G H → (∀ i, i ∉ js → σ2[i]? = σ[i]?) → σ2.length = σ.length → Q σ2 H) → g vs σ H Q
theorem gs_nil : GsD X [] [] := ⟨_, pgs_nil, fun W σ G H ks vs ds ks' S r e Q q => by
  cases r with
  | nil => cases e; exact ⟨rfl, q σ S (fun _ _ => rfl) rfl⟩
  | cons _ _ => cases e⟩
theorem gs_cons (c : Ctx P w K mg base T k X) (j : Nat) {x : Str} {js : List Nat} (hi : T.N[j]? = some x) (hx : Loc T.sc x) (hf : T.fn x = true ∨ T.sc.names.lookup x = some .local) (h : GsD X es js)
    (hs : (assignEach (.Name x p :: es) X.env).map (·.2) = assign (.Name x p) X.env :: (assignEach es X.env).map (·.2)) : GsD X (.Name x p :: es) (j :: js) := by
  obtain ⟨g, pg, hg⟩ := h
  refine ⟨_, pgs_cons (pg_name (nd_of c) (ix_of c hi) (loc_of c hx) (fn_of' c hf)) pg hs, fun W σ G H ks vs ds ks' S r e Q q => ?_⟩
  cases r with
  | nil => cases e
  | cons r1 r2 =>
    rename_i v vs d ds
    unfold setAll at e
    split at e
    · refine ⟨v, vs, rfl, ?_⟩
      refine hg W _ G H _ vs ds ks' (S.setDat ‹_› r1) r2 e Q fun σ2 S2 h2 l2 => q σ2 S2 (fun i hi => ?_) (by rw [l2]; simp)
      rw [h2 i (fun z => hi (by simp [z]))]
      exact List.getElem?_set_ne (fun z => hi (by simp [z]))
    · cases e
theorem gd_tup {js : List Nat} {kk : Nat} (c : Ctx P w K mg base T k X) (h : GsD X es js) (hn : (assignEach es X.env).length = js.length) (hst : (assignEach es X.env).findIdx? (·.1) = none) : GD X (.Tuple es kk p) (tgN js) js := by
  obtain ⟨g, pg, hg⟩ := h
  refine ⟨_, pg_tup c.calm pg hn hst, fun W σ G H ks v d ks' S r e Q q => ?_⟩
  cases d with
  | tuple ds =>
    obtain ⟨a, vs, rfl, sa, aa⟩ := r.tup_inv
    have e' : setAll js ds ks = some ks' := e
    have hl : ∀ (js : List Nat) (ds : List PyData) (ks : List SK), setAll js ds ks = some ks' → ds.length = js.length := by
      intro js
      induction js with
      | nil => intro ds ks h; cases ds with
        | nil => rfl
        | cons _ _ => cases h
      | cons j js ih => intro ds ks h; cases ds with
        | nil => cases h
        | cons d ds =>
          unfold setAll at h
          split at h
          · simp [ih ds _ h]
          · cases h
    exact ⟨a, vs, rfl, Same.seqT S.gh sa, by rw [aa.len]; exact hl js ds ks e', hg W σ G H ks vs ds ks' S aa e' Q q⟩
  | _ => cases e
/-! ### for -/
theorem Sts.rebase {W : Wd} {σ : St} {G H Gm : Hp} (S : Sts K W ks σ G H) (h1 : Same W.G Gm) (h2 : Same Gm G) : Sts K ⟨Gm, W.H, W.M⟩ ks σ G H := by
  obtain ⟨le, len, ow, o, f⟩ := S
  refine ⟨⟨h2, le.gh, le.keep, le.there, fun a u e e2 => le.fz a u ?_ e2, le.m, le.tb⟩, len, ow, ⟨o.dis, o.mine, o.out⟩, f⟩
  cases q : W.G a with
  | none => rfl
  | some v =>
    have e : Gm a = none := e
    rw [h1 a v q] at e; cases e
theorem Sts.unbase {W : Wd} {σ : St} {G H Gm Hm : Hp} (l : Le W Gm Hm) (S : Sts K ⟨Gm, W.H, W.M⟩ ks σ G H) : Sts K W ks σ G H := by
  obtain ⟨le, len, ow, o, f⟩ := S
  exact ⟨⟨l.g.trans le.g, le.gh, le.keep, le.there, fun a u e e2 => le.fz a u (l.fz a u e e2) e2, le.m, le.tb⟩, len, ow, ⟨o.dis, o.mine, o.out⟩, f⟩
theorem Mt.exU {W : Wd} {Gm Hm : Hp} {D : Ends} (M : Mt X W Φ D) (l : Le W Gm Hm) : ∃ Wx : WX, Takes X Wx ∧ ∀ ks σ G H cls d fs, Φ.ex cls fs → Sts X.K ⟨Gm, W.H, W.M⟩ ks σ G H → ExF X.K G d fs → Wx cls d σ H := by
  obtain ⟨Wx, t, h⟩ := M.ex
  exact ⟨Wx, t, fun ks σ G H c d f q S => h ks σ G H c d f q (S.unbase l)⟩
theorem ex0 {X : Cx} {W : Wd} : ∃ Wx : WX, Takes X Wx ∧ ∀ (ks : List SK) (σ : St) (G H : Hp) (cls : Value) (d : Option Addr) (fs : List (Str × PyData)), False → Sts X.K W ks σ G H → ExF X.K G d fs → Wx cls d σ H := ⟨_, LamX.takes0, fun _ _ _ _ _ _ _ z => z.elim⟩
theorem sd_for (c : Ctx P w K mg base T k X) {tg iter : Expr} {f : PyData → List SK → Option (List SK)} {js : List Nat} (F : Nat → List SK) (hi : ID X ks tg iter k1 ds) (hg : GD X tg f js) (h0 : Wk k1 (F 0))
    (turn : ∀ i d, ds[i]? = some d → ∃ kb, f d (F i) = some kb ∧ SD X kb body { Φ with nx := fun k => Wk k (F (i + 1)), ct := fun k => Wk k (F (i + 1)), bk := fun _ => False })
    (fin : SD X (F ds.length) rest Φ) (hs : ∀ x, foldedSetIterable iter X.env x = pure x) : SD X ks (.For tg iter body [] pos :: rest) Φ := fun W σ G H D S M => by
  obtain ⟨g, pg, hg⟩ := hg
  have hp := c.po
  refine sv_of (pss_cons (ps_for hp c.calm pi_iv pg pss_sv hs) pss_sv) ?_
  refine hi W σ G H S _ fun J G2 H2 S2 g2 src => ?_
  refine for_it src.wk (fun i σ' H' => ∃ G', Sts X.K W (F i) σ' G' H' ∧ Same G2 G') ⟨G2, S2.weak h0, Same.refl G2⟩ (fun i σ' H' _ ⟨G', S', g'⟩ => g'.trans S'.gh) ?_ ?_
  · rintro i x σ' H' H'' hlt ⟨G', S', g'⟩ y
    obtain ⟨d, G3, hd, l, r⟩ := y G' g' S'.gh
    obtain ⟨kb, e, b⟩ := turn i d hd
    refine hg W σ' G3 H'' (F i) x d kb (S'.pure l) r e _ fun σ2 S3 _ _ => ?_
    refine b ⟨G2, W.H, W.M⟩ σ2 G3 H'' _ (S3.rebase S2.le.g (g'.trans l.g)) ⟨fun ks σ G H q S => ⟨G, (S.unbase S2.le).weak q, S.le.g⟩, fun _ _ _ _ q => q.elim, fun ks σ G H q S => ⟨G, (S.unbase S2.le).weak q, S.le.g⟩, fun ks σ G H v d q S r => M.rt ks σ G H v d q (S.unbase S2.le) r, fun ks σ G H a ds q S => M.rl ks σ G H a ds q (S.unbase S2.le), fun ks σ G H a ds es q S => M.rT ks σ G H a ds es q (S.unbase S2.le), M.exU S2.le⟩
  · rintro σ' H' ⟨G', S', g'⟩
    exact fin W σ' G' H' D S' M
/-- while: F by a letter m that falls -/
theorem sd_while (c : Ctx P w K mg base T k X) {t : Expr} (F : Nat → List SK → Prop) (m0 : Nat) (h0 : F m0 ks)
    (turn : ∀ m ls, F m ls → ∃ k2 b, TD X ls t k2 b ∧ (b = true → SD X k2 body { Φ with nx := fun k => ∃ m', m' < m ∧ F m' k, ct := fun k => ∃ m', m' < m ∧ F m' k, bk := fun _ => False }) ∧ (b = false → SD X k2 rest Φ)) :
    SD X ks (.While t body [] pos :: rest) Φ := fun W σ G H D S M => by
  have hp := c.po
  refine sv_of (pss_cons (ps_while hp pt_tv pss_sv) pss_sv) ?_
  refine ⟨fun m σ' H' => ∃ ls G', F m ls ∧ Sts X.K W ls σ' G' H', ⟨m0, ks, G, h0, S⟩, fun m σ' H' ⟨ls, G', f, S'⟩ => ?_⟩
  obtain ⟨k2, b, ht, hb, he⟩ := turn m ls f
  refine ht W σ' G' H' S' _ fun G2 H2 S2 g2 => ?_
  cases b with
  | true =>
    refine ⟨fun σ'' H'' => ∃ m', m' < m ∧ ∃ ls G', F m' ls ∧ Sts X.K W ls σ'' G' H'', fun σ'' H'' q => q, ?_⟩
    refine hb rfl W σ' G2 H2 _ S2 ⟨fun ks σ G H q S => ?_, fun _ _ _ _ q => q.elim, fun ks σ G H q S => ?_, M.rt, M.rl, M.rT, M.ex⟩
    · obtain ⟨m', l, q⟩ := q
      exact ⟨m', l, ks, G, q, S⟩
    · obtain ⟨m', l, q⟩ := q
      exact ⟨m', l, ks, G, q, S⟩
  | false => exact he rfl W σ' G2 H2 D S2 M
end
end Z
namespace Z
open PySem PySem.Spec L2
variable [Tabl]
def GV (X : Cx) (tg : Expr) : TG := fun v σ H Q => ∀ (pins : List (Addr × Obj)) (s : Shared) (u : Value), Inv X pins σ H s → RelV v u → wpAny (model X.prog X.w) X.A (assign tg X.env u) (fun _ s' => ∃ σ' H', Inv X pins σ' H' s' ∧ Q σ' H') X.xe s
def TsV (X : Cx) (ifs : List Expr) : TT := fun σ H Q => ∀ (pins : List (Addr × Obj)) (s : Shared), Inv X pins σ H s →
    wpAny (model X.prog X.w) X.A (forIn ifs true fun c r => if r = true then do let ok ← isTrue c X.env (eval c X.env); pure (ForInStep.yield ok) else pure (ForInStep.yield r)) (TP X pins σ Q) X.xe s
/-- a clause's tests -/
def TsD (X : Cx) (ks : List SK) (ifs : List Expr) (ks' : List SK) (b : Bool) : Prop :=
  ∀ W σ G H, Sts X.K W ks σ G H → ∀ Q : Bool → Hp → Prop, (∀ G2 H2, Sts X.K W ks' σ G2 H2 → Same G G2 → Q b H2) → TsV X ifs σ H Q
def Tb (T : Sta) (scope : Scope) : Sta := ⟨T.N, relS scope T.sc, fun x => scope.names.lookup x == some .cell⟩
def wipeK (ks : List SK) : List Nat → List SK
  | [] => ks
  | v :: vs => (wipeK ks vs).set v .no
theorem wipeK_length (ks : List SK) : ∀ vs, (wipeK ks vs).length = ks.length
  | [] => rfl
  | v :: vs => by unfold wipeK; rw [List.length_set, wipeK_length ks vs]
theorem wipeK_in {ks : List SK} {i : Nat} (h : i < ks.length) : ∀ {vs : List Nat}, i ∈ vs → (wipeK ks vs)[i]? = some .no
  | v :: vs, hm => by
    unfold wipeK
    by_cases q : v = i
    · subst q; rw [List.getElem?_set_self (by rw [wipeK_length]; exact h)]
    · rw [List.getElem?_set_ne q]
      exact wipeK_in h ((List.mem_cons.mp hm).resolve_left (fun z => q z.symm))
theorem wipeK_out {ks : List SK} {i : Nat} : ∀ {vs : List Nat}, i ∉ vs → (wipeK ks vs)[i]? = ks[i]?
  | [], _ => rfl
  | v :: vs, hm => by
    unfold wipeK
    rw [List.getElem?_set_ne (fun z => hm (by simp [z]))]
    exact wipeK_out (fun z => hm (by simp [z]))
theorem wipe_in {σ : St} {i : Nat} (h : i < σ.length) : ∀ {vs : List Nat}, i ∈ vs → (wipe σ vs)[i]? = some none
  | v :: vs, hm => by
    unfold wipe
    by_cases q : v = i
    · subst q; rw [List.getElem?_set_self (by rw [wipe_length]; exact h)]
    · rw [List.getElem?_set_ne q]
      exact wipe_in h ((List.mem_cons.mp hm).resolve_left (fun z => q z.symm))
def gB (X : Cx) (scope : Scope) (tg : Expr) : TG := fun v σ H Q => ∀ s0 H0 C cl fp, GV (X.blk s0 H0 scope (compEnvC scope cl C X.env) fp) tg v σ H Q
def ttB (X : Cx) (scope : Scope) (ifs : List Expr) : TT := fun σ H Q => ∀ s0 H0 C cl fp, TsV (X.blk s0 H0 scope (compEnvC scope cl C X.env) fp) ifs σ H Q
def teB (X : Cx) (scope : Scope) (elt : Expr) : TE := fun σ H Q => ∀ s0 H0 C cl fp, EV (X.blk s0 H0 scope (compEnvC scope cl C X.env) fp) elt σ H Q
section
variable {P : Program} {w : World} {K : PySem.W.Frag} {mg : Str → Option Value} {base : Heap} {T : Sta} {k : Nat} {X : Cx} {ks k1 k2 k3 : List SK} {a b e : Expr} {es : List Expr} {d da db : PyData} {ds : List PyData} {pos p : Pos}
theorem ts_nil : TsD X ks [] ks true := fun W σ G H S Q q => fun pins s I => pts_nil.run pins s σ H Q I (q G H S (Same.refl G))
theorem ts_one {c : Bool} (h : TD X ks e k1 c) : TsD X ks [e] k1 c := fun W σ G H S Q q => fun pins s I => (pts_one pt_tv).run pins s σ H Q I (h W σ G H S Q q)
theorem Ctx.blk (c : Ctx P w K mg base T k X) {scope : Scope} {own : List (Str × Nat)} (s : Shared) (H : Hp) (C : Addr) (cl : List (Str × Addr)) (fp : List Addr) : Ctx P w K mg base (Tb T scope) k (X.blk s H scope (compEnvC scope cl C X.env) fp) where
  hP := c.hP
  hw := c.hw
  hK := c.hK
  hmg := c.hmg
  hbase := c.hbase
  hN := c.hN
  nd := c.nd
  hs := by
    show relS scope X.env.scope = relS scope T.sc
    rw [c.hs]
  calm := c.calm
  room := c.room
  po := PassesOwn.never
  fn := rfl
/-- the slots of a block ahead of its first turn -/
theorem Sts.wiped {W : Wd} {σ : St} {G H : Hp} (S : Sts K W ks σ G H) (vs : List Nat) (nw : ∀ i ∈ vs, ∀ k, ks[i]? = some k → k = .no ∨ ∃ d, k = .dat d) : Sts K W (wipeK ks vs) (wipe σ vs) G H := by
  have S1 : Sts K W (wipeK ks vs) σ G H := by
    refine S.weak ?_
    clear S
    have : ∀ (ls : List SK) (ks : List SK), ls.length = ks.length → (∀ (i : Nat) (k : SK), ls[i]? = some k → k = .no ∨ ks[i]? = some k) → Wk ks ls := by
      intro ls
      induction ls with
      | nil => intro ks h _; cases ks with
        | nil => trivial
        | cons _ _ => cases h
      | cons l ls ih => intro ks h f; cases ks with
        | nil => cases h
        | cons k ks =>
          refine ⟨?_, ih ks (by simpa using h) fun i k hk => by have := f (i + 1) k (by simpa using hk); simpa using this⟩
          have := f 0 l (by simp)
          simp at this
          rcases this with z | z
          · exact .inl z
          · exact .inr z
    refine this _ _ (wipeK_length _ _) fun i k hk => ?_
    by_cases q : i ∈ vs
    · have hi : i < ks.length := by have := (List.getElem?_eq_some_iff.mp hk).1; rwa [wipeK_length] at this
      rw [wipeK_in hi q] at hk
      exact .inl (Option.some.inj hk).symm
    · rw [wipeK_out q] at hk; exact .inr hk
  obtain ⟨le, len, ow, o, f⟩ := S1
  refine ⟨le, by rw [wipe_length]; exact len, ow, o, fun i k hk => ?_⟩
  have := f i k hk
  by_cases q : i ∈ vs
  · have hi : i < ks.length := by have := (List.getElem?_eq_some_iff.mp hk).1; rwa [wipeK_length] at this
    rw [wipeK_in hi q] at hk
    cases hk
    exact this
  · rw [wipe_out q]
    exact this
/-- the slots' values at places of which nothing is known may differ -/
theorem Sts.swap {W : Wd} {σ σ2 : St} {G H : Hp} {vs : List Nat} (S : Sts K W ks σ G H) (hl : σ2.length = σ.length) (h : ∀ i, i ∉ vs → σ2[i]? = σ[i]?) (hn : ∀ i ∈ vs, ∀ k, ks[i]? = some k → k = .no) : Sts K W ks σ2 G H := by
  obtain ⟨le, len, ow, o, f⟩ := S
  refine ⟨le, by omega, ow, o, fun i k hk => ?_⟩
  by_cases q : i ∈ vs
  · have := f i k hk
    have e := hn i q k hk
    subst e
    exact this
  · rw [h i q]; exact f i k hk
/-- what a turn of a comprehension does: the block's slots kb, from which it goes on to those of the next turn -/
def TurnD (B : Cx → Prop) (ifs : List Expr) (elt : Expr) (kb kn : List SK) (o : Option PyData) : Prop :=
  ∃ k2 b, (∀ X', B X' → TsD X' kb ifs k2 b) ∧ (b = false → o = none ∧ Wk k2 kn) ∧ (b = true → ∃ d k3, o = some d ∧ (∀ X', B X' → ED X' k2 elt k3 d) ∧ Wk k3 kn)
theorem wipe_swap {σ σ2 : St} {vs : List Nat} (hl : σ2.length = σ.length) (h : ∀ i, i ∉ vs → σ2[i]? = σ[i]?) : wipe σ2 vs = wipe σ vs := by
  apply List.ext_getElem?
  intro i
  by_cases q : i ∈ vs
  · by_cases hi : i < σ.length
    · rw [wipe_in (by omega) q, wipe_in hi q]
    · rw [List.getElem?_eq_none (by rw [wipe_length]; omega), List.getElem?_eq_none (by rw [wipe_length]; omega)]
  · rw [wipe_out q, wipe_out q, h i q]
/-- a list comprehension, before its list goes anywhere -/
structure LC (X : Cx) (ks : List SK) (e : Expr) (ks' : List SK) (es : List PyData) : Prop where
  out : ∃ (elt tg iter : Expr) (ifs : List Expr) (scope : Scope) (pos : Pos) (own : List (Str × Nat)) (wi : TI) (g : TG) (tt : TT) (te : TE), e = .ListComp elt [⟨tg, iter, ifs, 0⟩] scope pos ∧ PI X tg iter wi ∧ BlkOk X.N X.env.scope scope own ∧
    (∀ (s : Shared) (H : Hp) (C : Addr) (cl : List (Str × Addr)) (fp : List Addr), PG (X.blk s H scope (compEnvC scope cl C X.env) fp) tg g) ∧ (∀ (s : Shared) (H : Hp) (C : Addr) (cl : List (Str × Addr)) (fp : List Addr), PTs (X.blk s H scope (compEnvC scope cl C X.env) fp) ifs tt) ∧
    (∀ (s : Shared) (H : Hp) (C : Addr) (cl : List (Str × Addr)) (fp : List Addr), PE (X.blk s H scope (compEnvC scope cl C X.env) fp) elt te) ∧ (∀ x, foldedSetIterable iter X.env x = pure x) ∧
    ∀ W σ G H, Sts X.K W ks σ G H → ∀ Q : VK, (∀ a G2 H2, Sts X.K W (ks' ++ [.own es]) (σ ++ [some (.ref a)]) G2 H2 → Same G G2 → Q (.ref a) H2) → tLc wi g tt te (own.map (·.2)) σ H Q
theorem LC.el (c : Ctx P w K mg base T k X) (h : LC X ks e k1 ds) : EL X ks e k1 ds := fun W σ G H S Q q => by
  obtain ⟨elt, tg, iter, ifs, scope, pos, own, wi, g, tt, te, rfl, hi, bk, hg, ht, he, hs, run⟩ := h.out
  exact ev_of (pe_lc c.calm (nd_of c) hi bk hg ht he hs) (run W σ G H S Q q)
theorem sd_asgC (c : Ctx P w K mg base T k X) (i : Nat) {x : Str} {px lpos : Pos} {elt : Expr} {gens : List Comprehension} {scope : Scope} {rest : List Stmt} {Φ : Po} (hi : T.N[i]? = some x) (hx : T.sc.names.lookup x = some .local) (hl : i < k1.length) (hk : T.sc.kind = .function) (hln : (px.line == lpos.line) = true)
    (ha : (scope.names.any fun (n, k) => n == x && (k == .local || k == .cell)) = false) (h : LC X ks (.ListComp elt gens scope lpos) k1 ds) (q : SD X (k1.set i (.own ds)) rest Φ) : SD X ks (.Assign [.Name x px] (.ListComp elt gens scope lpos) pos :: rest) Φ := fun W σ G H D S M => by
  obtain ⟨elt', tg, iter, ifs, scope', pos', own, wi, g, tt, te, ee, hi', bk, hg, ht, he, hs, run⟩ := h.out
  cases ee
  have hx' : X.env.scope.names.lookup x = some .local := by rw [c.hs]; exact hx
  refine sv_of (pss_cons (ps_setLc c.calm (nd_of c) (ix_of c hi) hx' (sw_true (by rw [c.hs]; exact hk) hx' hln ha) hi' bk hg ht he hs) pss_sv) ?_
  exact run W σ G H S (fun v H2 => SV X rest D (List.set σ i (some v)) H2) fun a G2 H2 S2 g2 => q W _ G2 H2 D (S2.popTo hl) M
/-- [elt for tg in iter if ..]: F the slots by the turn, ac what is made so far -/
theorem lc_lc (c : Ctx P w K mg base T k X) {elt tg iter : Expr} {ifs : List Expr} {scope : Scope} (own : List (Str × Nat)) {f : PyData → List SK → Option (List SK)} {js : List Nat} (F : Nat → List SK) (ac : Nat → List PyData)
    (ok : blkC T.N T.sc scope own = true) (hjs : js.all (fun j => (own.map (·.2)).contains j) = true) (hi : ID X ks tg iter k1 ds)
    (nw : ∀ i ∈ own.map (·.2), ∃ k, k1[i]? = some k ∧ (F ds.length)[i]? = some k ∧ (k = .no ∨ ∃ d, k = .dat d))
    (hg : ∀ X', Ctx P w K mg base (Tb T scope) k X' → GD X' tg f js)
    (h0 : F 0 = k1) (hl : ∀ i, (F i).length = k1.length) (a0 : ac 0 = []) (hz : ds.length < sizeLine)
    (turn : ∀ i d, ds[i]? = some d → ∃ kb o, f d (wipeK (F i) (own.map (·.2))) = some kb ∧ TurnD (Ctx P w K mg base (Tb T scope) k) ifs elt kb (wipeK (F (i + 1)) (own.map (·.2))) o ∧ ac (i + 1) = ac i ++ o.toList)
    (hs : ∀ x, foldedSetIterable iter X.env x = pure x) :
    LC X ks (.ListComp elt [⟨tg, iter, ifs, 0⟩] scope pos) (F ds.length) (ac ds.length) := by
  have acl : ∀ i, i ≤ ds.length → (ac i).length ≤ i := by
    intro i
    induction i with
    | zero => intro _; rw [a0]; exact Nat.le_refl _
    | succ i ih =>
      intro hi
      obtain ⟨kb, o, _, _, e⟩ := turn i ds[i] (by simp)
      rw [e, List.length_append]
      have := ih (by omega)
      cases o <;> simp <;> omega
  have bk : BlkOk X.N X.env.scope scope own := by rw [c.hN, c.hs]; exact blkOk_by ok
  have hjs' : ∀ j ∈ js, j ∈ own.map (·.2) := fun j hj => by simpa using List.all_eq_true.mp hjs j hj
  refine ⟨elt, tg, iter, ifs, scope, pos, own, _, gB X scope tg, ttB X scope ifs, teB X scope elt, rfl, pi_iv, bk,
    fun s0 H0 C cl fp => ⟨fun pins s σ H v u Q I r h => h s0 H0 C cl fp pins s u I r⟩, fun s0 H0 C cl fp => ⟨fun pins s σ H Q I h => h s0 H0 C cl fp pins s I⟩, fun s0 H0 C cl fp => ⟨fun pins s σ H Q I h => (h s0 H0 C cl fp).run pins s I⟩, hs, fun W σ G H S Q q => ?_⟩
  refine hi W σ G H S _ fun J G1 H1 S1 g1 src => ?_
  intro D hD
  have wD : W.H D = none := by
    cases e : W.H D with
    | none => rfl
    | some u =>
      obtain ⟨u', e'⟩ := S1.le.there D u e
      rw [hD] at e'; cases e'
  have gD : G1 D = none := by
    cases e : G1 D with
    | none => rfl
    | some u => rw [S1.gh D u e] at hD; cases hD
  -- a world in which the new list is another's
  have lend : ∀ {ks' : List SK} {σ' : St} {G' H' : Hp} {us us' : List V}, Sts X.K ⟨G1, upd W.H D (.lst us), W.M⟩ ks' σ' G' H' → Sts X.K ⟨G1, upd W.H D (.lst us'), W.M⟩ ks' σ' G' (upd H' D (.lst us')) := by
    intro ks' σ' G' H' us us' S'
    obtain ⟨le, len, ow, o, f⟩ := S'
    have no : ∀ i, D ∉ ow i := fun i h => by
      obtain ⟨_, z⟩ := o.mine i D h
      rcases z with z | ⟨z, _⟩
      · have z := upd_same.symm.trans z
        cases z
      · obtain ⟨u, hu⟩ := S1.le.m D z
        rw [wD] at hu; cases hu
    have gz : G' D = none := le.fz D _ gD upd_same
    have hDm0 : ¬ W.M D := fun z => by
      obtain ⟨u, hu⟩ := S1.le.m D z
      rw [wD] at hu; cases hu
    have hD0 : H' D = some (.lst us) := le.keep D _ hDm0 (fun _ z => by cases z) upd_same
    refine ⟨⟨le.g, fun b u e => ?_, fun b u hm nt e => ?_, fun b u e => ?_, fun b u e e2 => ?_, fun b hm => ?_, le.tb.upd fun u e => by rw [hD0] at e; cases e; exact pl_lst⟩, len, ow, ⟨o.dis, fun i b hb => ?_, o.out⟩, fun i k hk => (f i k hk).move (Same.refl _) fun b hb u hu => ?_⟩
    · have : b ≠ D := fun z => by rw [z, gz] at e; cases e
      exact (upd_ne this).trans (le.gh b u e)
    · by_cases z : b = D
      · subst z; exact upd_same.trans (upd_same.symm.trans e)
      · exact (upd_ne z).trans (le.keep b u hm nt ((upd_ne z).trans ((upd_ne z).symm.trans e)))
    · by_cases z : b = D
      · subst z; exact ⟨_, upd_same⟩
      · obtain ⟨o', h'⟩ := le.there b u ((upd_ne z).trans ((upd_ne z).symm.trans e))
        exact ⟨o', (upd_ne z).trans h'⟩
    · by_cases z : b = D
      · subst z; exact gz
      · exact le.fz b u e ((upd_ne z).trans ((upd_ne z).symm.trans e2))
    · obtain ⟨u, hu⟩ := S1.le.m b hm
      have z : b ≠ D := fun z => by rw [z, wD] at hu; cases hu
      exact ⟨u, (upd_ne z).trans hu⟩
    · obtain ⟨b1, b2⟩ := o.mine i b hb
      have z : b ≠ D := fun z => no i (z ▸ hb)
      exact ⟨b1, b2.imp (fun e => (upd_ne z).trans ((upd_ne z).symm.trans e)) id⟩
    · have z : b ≠ D := fun z => no i (z ▸ hb)
      exact (upd_ne z).trans hu
  have first : Sts X.K ⟨G1, upd W.H D (.lst []), W.M⟩ (wipeK k1 (own.map (·.2))) (wipe σ (own.map (·.2))) G1 (upd H1 D (.lst [])) := by
    have S2 := S1.wiped (own.map (·.2)) (fun i hi k hk => by
      obtain ⟨k', h1, _, h2⟩ := nw i hi
      rw [hk] at h1; cases h1; exact h2)
    obtain ⟨le, len, ow, o, f⟩ := S2
    have live := o.live f
    have no : ∀ i, D ∉ ow i := fun i h => by
      obtain ⟨u, hu⟩ := live i D h
      rw [hD] at hu; cases hu
    refine ⟨⟨Same.refl _, fun b u e => ?_, fun b u hm nt e => ?_, fun b u e => ?_, fun b u e _ => e, fun b hm => ?_, le.tb.upd fun u e => by rw [hD] at e; cases e⟩, len, ow, ⟨o.dis, fun i b hb => ?_, o.out⟩, fun i k hk => (f i k hk).move (Same.refl _) fun b hb u hu => ?_⟩
    · have : b ≠ D := fun z => by rw [z, gD] at e; cases e
      exact (upd_ne this).trans (le.gh b u e)
    · by_cases z : b = D
      · subst z; exact upd_same.trans (upd_same.symm.trans e)
      · exact (upd_ne z).trans (le.keep b u hm nt ((upd_ne z).symm.trans e))
    · by_cases z : b = D
      · subst z; exact ⟨_, upd_same⟩
      · obtain ⟨o', h'⟩ := le.there b u ((upd_ne z).symm.trans e)
        exact ⟨o', (upd_ne z).trans h'⟩
    · obtain ⟨u, hu⟩ := S1.le.m b hm
      have z : b ≠ D := fun z => by rw [z, wD] at hu; cases hu
      exact ⟨u, (upd_ne z).trans hu⟩
    · obtain ⟨b1, b2⟩ := o.mine i b hb
      have z : b ≠ D := fun z => no i (z ▸ hb)
      exact ⟨b1, b2.imp (fun e => (upd_ne z).trans e) id⟩
    · have z : b ≠ D := fun z => no i (z ▸ hb)
      exact (upd_ne z).trans hu
  refine lc_it (g := gB X scope tg) (tt := ttB X scope ifs) (te := teB X scope elt) (vs := own.map (·.2)) (σ := σ) (Qd := fun H => Q (.ref D) H) src.wk (fun i H' => ∃ G' us, Sts X.K ⟨G1, upd W.H D (.lst us), W.M⟩ (wipeK (F i) (own.map (·.2))) (wipe σ (own.map (·.2))) G' H' ∧ DpAll X.K G' us (ac i))
    ⟨G1, [], by rw [h0]; exact first, by rw [a0]; exact .nil⟩ (fun i H' _ ⟨G', us, S', _⟩ => S'.le.g.trans S'.le.gh) ?_ ?_
  · rintro i x H' H'' hlt ⟨G', us, S', ra⟩ y
    obtain ⟨d, G3, hd, l, r⟩ := y G' S'.le.g S'.gh
    have hst := S'.pure l
    obtain ⟨kb, o, e1, ⟨k2, b, t1, t2, t3⟩, e2⟩ := turn i d hd
    intro s0 H0 C cl fp pins s u I rx
    have c' := c.blk (scope := scope) (own := own) s0 H0 C cl fp
    obtain ⟨g', pg, hg'⟩ := hg _ c'
    refine pg.run pins s _ H'' x u _ I rx ?_
    refine hg' _ _ G3 H'' _ x d kb hst r e1 _ fun σ2 S3 hσ hσl => ⟨wipe_swap (by rw [hσl, wipe_length]) (fun j hj => ?_), ?_⟩
    · rw [hσ j (fun z => hj (hjs' j z)), wipe_out hj]
    · -- the next turn's state, from the block's
      have nxt : ∀ {k3 : List SK} {G4 H4 : Hp} {us' : List V}, Sts X.K ⟨G1, upd W.H D (.lst us'), W.M⟩ k3 σ2 G4 H4 → Wk k3 (wipeK (F (i + 1)) (own.map (·.2))) → Sts X.K ⟨G1, upd W.H D (.lst us'), W.M⟩ (wipeK (F (i + 1)) (own.map (·.2))) (wipe σ (own.map (·.2))) G4 H4 := fun {k3 G4 H4 us'} S4 hw => by
        refine (S4.weak hw).swap (vs := own.map (·.2)) hσl.symm (fun j hj => ?_) fun j hj k' hk' => ?_
        · rw [hσ j (fun z => hj (hjs' j z))]
        · have hlt : j < (F (i + 1)).length := by have := (List.getElem?_eq_some_iff.mp hk').1; rwa [wipeK_length] at this
          rw [wipeK_in hlt hj] at hk'
          exact (Option.some.inj hk').symm
      intro s0' H0' C' cl' fp' pins' s' I'
      refine t1 _ (c.blk (scope := scope) (own := own) s0' H0' C' cl' fp') _ σ2 G3 H'' S3 _ (fun G4 H4 S4 g4 => ?_) pins' s' I'
      cases b with
      | false =>
        obtain ⟨z, hw⟩ := t2 rfl
        subst z
        rw [if_neg Bool.false_ne_true]
        refine ⟨G4, us, nxt S4 hw, ?_⟩
        rw [e2]
        simp only [Option.toList, List.append_nil]
        exact DpAll.mono (l.g.trans g4) ra
      | true =>
        rw [if_pos rfl]
        obtain ⟨d', k3, z, hE, hw⟩ := t3 rfl
        subst z
        intro s0'' H0'' C'' cl'' fp''
        refine hE _ (c.blk (scope := scope) (own := own) s0'' H0'' C'' cl'' fp'') _ σ2 G4 H4 S4 _ (fun v G5 H5 S5 g5 r5 => ?_)
        have ra5 := DpAll.mono ((l.g.trans g4).trans g5) ra
        refine ⟨us, S5.le.keep D _ (fun z => ?_) (fun _ z => by cases z) upd_same, ?_, G5, us ++ [v], nxt (lend S5) hw, ?_⟩
        · obtain ⟨u, hu⟩ := S1.le.m D z
          rw [wD] at hu; cases hu
        · rw [ra.len]
          exact Nat.lt_of_le_of_lt (Nat.le_trans (acl i (Nat.le_of_lt hlt)) (Nat.le_of_lt hlt)) hz
        · rw [e2]
          exact DpAll.append ra5 (.cons r5 .nil)
  · rintro H' ⟨G', us, S', ra⟩
    have hDm : ¬ W.M D := fun z => by
      obtain ⟨u, hu⟩ := S1.le.m D z
      rw [wD] at hu; cases hu
    have hD' : H' D = some (.lst us) := S'.le.keep D _ hDm (fun _ z => by cases z) upd_same
    have gD' : G' D = none := S'.le.fz D _ gD upd_same
    obtain ⟨le, len, ow, o, f⟩ := S'
    have hvl : (F ds.length).length = k1.length := hl _
    have len' : σ.length = (F ds.length).length := by rw [wipe_length, wipeK_length] at len; exact len
    obtain ⟨le1, len1, ow1, o1, f1⟩ := S1
    refine q D G' H' ⟨⟨le1.g.trans le.g, le.gh, fun b u hm nt e => ?_, fun b u e => ?_, fun b u e e2 => ?_, le1.m, le.tb⟩, by simp [len'], fun j => if j = (F ds.length).length then [D] else if j ∈ own.map (·.2) then [] else ow j, ⟨fun i j a' ha hb => ?_, fun i a' ha => ?_, fun i hi => ?_⟩, fun i k' hk => ?_⟩ (g1.trans le.g)
    · have z : b ≠ D := fun z => by rw [z, wD] at e; cases e
      exact le.keep b u hm nt ((upd_ne z).trans e)
    · have z : b ≠ D := fun z => by rw [z, wD] at e; cases e
      exact le.there b u ((upd_ne z).trans e)
    · have z : b ≠ D := fun z => by rw [z, wD] at e2; cases e2
      exact le.fz b u (le1.fz b u e e2) ((upd_ne z).trans e2)
    · have no : ∀ i, D ∉ ow i := fun i h => by
        obtain ⟨_, z⟩ := o.mine i D h
        rcases z with z | ⟨z, _⟩
        · have z := upd_same.symm.trans z
          cases z
        · exact hDm z
      by_cases q1 : i = (F ds.length).length <;> by_cases q2 : j = (F ds.length).length
      · rw [q1, q2]
      · simp only [q1, if_true, q2, if_false] at ha hb
        simp at ha; subst ha
        split at hb
        · cases hb
        · exact (no j hb).elim
      · simp only [q1, if_false, q2, if_true] at ha hb
        simp at hb; subst hb
        split at ha
        · cases ha
        · exact (no i ha).elim
      · simp only [q1, q2, if_false] at ha hb
        split at ha
        · cases ha
        · split at hb
          · cases hb
          · exact o.dis i j a' ha hb
    · by_cases q1 : i = (F ds.length).length
      · simp only [q1, if_true] at ha
        simp at ha; subst ha
        exact ⟨gD', .inl wD⟩
      · simp only [q1, if_false] at ha
        split at ha
        · cases ha
        · rename_i qv
          obtain ⟨b1, b2⟩ := o.mine i a' ha
          refine ⟨b1, ?_⟩
          have z : a' ≠ D := fun z => by
            subst z
            rcases b2 with z | ⟨z, _⟩
            · have z := upd_same.symm.trans z
              cases z
            · exact hDm z
          rcases b2 with e | ⟨e, r, e2⟩
          · exact .inl ((upd_ne z).symm.trans e)
          · refine .inr ⟨e, r, ?_, e2.2⟩
            have e2 := e2.1
            rw [wipeK_out qv] at e2
            rw [List.getElem?_append_left (List.getElem?_eq_some_iff.mp e2).1]; exact e2
    · have h1 : i ≠ (F ds.length).length := by simp at hi; omega
      simp only [h1, if_false]
      split
      · rfl
      · exact o.out i (by rw [wipeK_length]; simp at hi; omega)
    · by_cases q1 : i = (F ds.length).length
      · subst q1
        rw [List.getElem?_append_right (Nat.le_refl _)] at hk
        simp at hk
        subst hk
        simp only [if_true]
        rw [List.getElem?_append_right (by omega), len']
        simp only [Nat.sub_self]
        exact ⟨D, us, rfl, rfl, hD', ra⟩
      · have hi' : i < (F ds.length).length := by have := (List.getElem?_eq_some_iff.mp hk).1; simp at this; omega
        rw [List.getElem?_append_left hi'] at hk
        simp only [q1, if_false]
        rw [List.getElem?_append_left (by omega)]
        by_cases qv : i ∈ own.map (·.2)
        · simp only [qv, if_true]
          obtain ⟨k'', n1, n2, n3⟩ := nw i qv
          rw [hk] at n2
          cases n2
          rcases n3 with z | ⟨d, z⟩
          · subst z
            exact (show ([] : List Addr) = [] from rfl)
          · subst z
            obtain ⟨_, v, e, r1⟩ := f1 i _ n1
            exact ⟨rfl, v, e, Dp.mono le.g r1⟩
        · simp only [qv, if_false]
          have := f i k' (by rw [wipeK_out qv]; exact hk)
          rw [wipe_out qv] at this
          exact this
end
end Z
namespace Z
open PySem PySem.Spec L2
variable [Tabl]
/-! ### a def's promise by its body -/
structure DefAt (K : PySem.W.Frag) (mg : Str → Option Value) (x : Str) (st : Stmt) (ps : List Str) : Prop where
  ex : ∃ f fd, Fun K x x st f fd ∧ mg x = some (.ref f) ∧ Binds K fd ps []
section
variable {P : Program} {w : World} {K : PySem.W.Frag} {mg : Str → Option Value} {base : Heap}
theorem cxOf_ctx {N ps : List Str} {st : Stmt} {qual : Str} {f : Addr} {k : Nat} (S : FnScope N ps (defScope st)) (cdv : Value) (A : Around) (outer : List Env) (s : Shared) (H : Hp) (E : XK) (hr : Room k (A.deeper (PyProof.Rows.envOfC qual (defScope st) s.heap.objs.size f cdv))) :
    Ctx P w K mg base ⟨N, defScope st, fun _ => true⟩ k (cxOf CX0 P w K mg base N qual (defScope st) f cdv A outer s H E).nox where
  hP := rfl
  hw := rfl
  hK := rfl
  hmg := rfl
  hbase := rfl
  hN := rfl
  nd := S.nd
  hs := rfl
  calm := rfl
  room := hr
  po := PassesOwn.never
  fn := rfl
theorem start_sts {W : Wd} {G H : Hp} {N : List Str} {vs : List V} {ds : List PyData} (le : Le W G H) (r : DpAll K G vs ds) (hl : ds.length ≤ N.length) : Sts K W (ds.map SK.dat ++ List.replicate (N.length - ds.length) .no) (L2.start N vs) G H := by
  have hv := r.len
  refine ⟨le, by simp [L2.start]; omega, fun _ => [], ⟨fun _ _ _ h _ => (by cases h), fun _ _ h => (by cases h), fun _ _ => rfl⟩, fun i k hk => ?_⟩
  by_cases q : i < ds.length
  · rw [List.getElem?_append_left (by simpa using q), List.getElem?_map] at hk
    cases e : ds[i]? with
    | none => rw [e] at hk; cases hk
    | some d =>
      rw [e] at hk
      cases hk
      obtain ⟨v, e1, e2⟩ := r.get e
      refine ⟨rfl, v, ?_, e2⟩
      unfold L2.start
      rw [List.getElem?_append_left (by simp; omega), List.getElem?_map, e1]
      rfl
  · rw [List.getElem?_append_right (by simp; omega)] at hk
    have := List.mem_of_getElem? hk
    rw [List.mem_replicate] at this
    rw [this.2]
    exact (show ([] : List Addr) = [] from rfl)
theorem fn_sd {R : List PyData → PyData → Prop} {x : Str} {st : Stmt} {N ps : List Str} {k : Nat} (D : DefAt K mg x st ps) (S : FnScope N ps (defScope st)) (hl : ∀ ds d, R ds d → ds.length = ps.length) (hN : ps.length ≤ N.length)
    (h : ∀ X, Ctx P w K mg base ⟨N, defScope st, fun _ => true⟩ k X → ∀ ds d, R ds d → SD X (ds.map SK.dat ++ List.replicate (N.length - ds.length) .no) (defBody st) { nx := fun _ => d = .none, rt := fun _ d' => d' = d, rl := fun _ ds' => d = .list ds' }) :
    FnG P w K mg base x ps (k + 1) (spP K R) := by
  obtain ⟨f, fd, F, hm, hb⟩ := D.ex
  refine ⟨f, fd, ?_, hm, F.kp, hb⟩
  refine F.ok S (fun vs H Q E ⟨G, ds, d, _, _, r, hR, _⟩ => by rw [r.len]; exact hl ds d hR) (fun cdv A outer s H vs Q E hr ⟨G, ds, d, g, tb, r, hR, q⟩ => ⟨_, pss_sv, ?_⟩)
  have S0 := start_sts (N := N) (Le.refl g tb) r (by rw [hl ds d hR]; exact hN)
  refine h _ (cxOf_ctx S cdv A outer s H E hr) ds d hR _ _ G H _ S0 ⟨fun ks σ G' H' e S' => ?_, fun _ _ _ _ z => z.elim, fun _ _ _ _ z => z.elim, fun ks σ G' H' v d' e S' r' => ?_, fun ks σ G' H' a ds' e S' => ?_, fun _ _ _ _ _ _ _ z => z.elim, ex0⟩
  · exact q .non G' H' S'.le (by rw [e]; exact .non)
  · exact q v G' H' S'.le (by rw [← e]; exact r')
  · obtain ⟨G2, S2, g2, r2⟩ := S'.popFreeze
    exact q _ G2 H' S2.le (by rw [e]; exact r2)
theorem fn_sdL {R : List PyData → List PyData → Prop} {x : Str} {st : Stmt} {N ps : List Str} {k : Nat} (D : DefAt K mg x st ps) (S : FnScope N ps (defScope st)) (hl : ∀ ds d, R ds d → ds.length = ps.length) (hN : ps.length ≤ N.length)
    (h : ∀ X, Ctx P w K mg base ⟨N, defScope st, fun _ => true⟩ k X → ∀ ds es, R ds es → SD X (ds.map SK.dat ++ List.replicate (N.length - ds.length) .no) (defBody st) { nx := fun _ => False, rt := fun _ _ => False, rl := fun _ ds' => ds' = es }) :
    FnG P w K mg base x ps (k + 1) (spL K R) := by
  obtain ⟨f, fd, F, hm, hb⟩ := D.ex
  refine ⟨f, fd, ?_, hm, F.kp, hb⟩
  refine F.ok S (fun vs H Q E ⟨G, ds, d, _, _, r, hR, _⟩ => by rw [r.len]; exact hl ds d hR) (fun cdv A outer s H vs Q E hr ⟨G, ds, es, g, tb, r, hR, q⟩ => ⟨_, pss_sv, ?_⟩)
  have S0 := start_sts (N := N) (Le.refl g tb) r (by rw [hl ds es hR]; exact hN)
  refine h _ (cxOf_ctx S cdv A outer s H E hr) ds es hR _ _ G H _ S0 ⟨fun _ _ _ _ z => z.elim, fun _ _ _ _ z => z.elim, fun _ _ _ _ z => z.elim, fun _ _ _ _ _ _ z => z.elim, fun ks σ G' H' a ds' e S' => ?_, fun _ _ _ _ _ _ _ z => z.elim, ex0⟩
  subst e
  obtain ⟨S2, g2, w2, vs2, h2, r2, _⟩ := S'.pop
  exact q a vs2 G' H' S2.le w2 g2 h2 r2
/-- a def whose first argument is the drawing state -/
theorem start_rng {W : Wd} {G H : Hp} {N : List Str} {a b : Addr} {r : Rg} {vs : List V} {ds : List PyData} (le : Le W G H) (hr : RngAt H a b r) (ga : G a = none) (gb : G b = none) (ma : W.M a) (mb : W.M b) (rr : DpAll K G vs ds) (hl : ds.length + 1 ≤ N.length) :
    Sts K W (.rng a b r :: (ds.map SK.dat ++ List.replicate (N.length - (ds.length + 1)) .no)) (L2.start N (.ref a :: vs)) G H := by
  have hv := rr.len
  have e : L2.start N (.ref a :: vs) = some (.ref a) :: (vs.map some ++ List.replicate (N.length - (ds.length + 1)) none) := by
    unfold L2.start
    rw [List.map_cons, List.length_cons, hv]
    rfl
  rw [e]
  refine ⟨le, by simp; omega, fun i => if i = 0 then [a, b] else [], ⟨fun i j x h h' => ?_, fun i x h => ?_, fun i hi => ?_⟩, fun i k hk => ?_⟩
  · by_cases q : i = 0 <;> by_cases q' : j = 0 <;> simp only [q, q', if_true, if_false] at h h' <;> first | (rw [q, q']; done) | exact absurd h List.not_mem_nil | exact absurd h' List.not_mem_nil
  · by_cases q : i = 0
    · simp only [q, if_true] at h
      have : x = a ∨ x = b := by simpa using h
      rcases this with z | z <;> subst z
      · exact ⟨ga, .inr ⟨ma, _, by rw [q]; rfl, rfl⟩⟩
      · exact ⟨gb, .inr ⟨mb, _, by rw [q]; rfl, rfl⟩⟩
    · simp only [q, if_false] at h; cases h
  · have : i ≠ 0 := by simp at hi; omega
    simp only [this, if_false]
  · cases i with
    | zero =>
      cases hk
      exact ⟨rfl, rfl, hr.1, hr.2.1, hr.2.2⟩
    | succ i =>
      simp only [Nat.succ_ne_zero, if_false]
      have hk' : (ds.map SK.dat ++ List.replicate (N.length - (ds.length + 1)) .no)[i]? = some k := hk
      show Sl K G H k (((vs.map some ++ List.replicate (N.length - (ds.length + 1)) none)[i]?).getD none) []
      by_cases q : i < ds.length
      · rw [List.getElem?_append_left (by simpa using q), List.getElem?_map] at hk'
        cases e : ds[i]? with
        | none => rw [e] at hk'; cases hk'
        | some d =>
          rw [e] at hk'
          cases hk'
          obtain ⟨v, e1, e2⟩ := rr.get e
          refine ⟨rfl, v, ?_, e2⟩
          rw [List.getElem?_append_left (by simp; omega), List.getElem?_map, e1]
          rfl
      · rw [List.getElem?_append_right (by simp; omega)] at hk'
        have := List.mem_of_getElem? hk'
        rw [List.mem_replicate] at this
        rw [this.2]
        exact (show ([] : List Addr) = [] from rfl)
theorem fn_sdR {R : Rg → List PyData → Rg → PyData → Prop} {x : Str} {st : Stmt} {N ps : List Str} {k : Nat} (D : DefAt K mg x st ps) (S : FnScope N ps (defScope st)) (hl : ∀ r ds r2 d, R r ds r2 d → ds.length + 1 = ps.length) (hN : ps.length ≤ N.length)
    (h : ∀ X, Ctx P w K mg base ⟨N, defScope st, fun _ => true⟩ k X → ∀ a b r ds r2 d, R r ds r2 d → SD X (.rng a b r :: (ds.map SK.dat ++ List.replicate (N.length - (ds.length + 1)) .no)) (defBody st)
      { nx := fun ks => d = .none ∧ ks[0]? = some (.rng a b r2), rt := fun ks d' => d' = d ∧ ks[0]? = some (.rng a b r2), rl := fun ks ds' => d = .list ds' ∧ ks[0]? = some (.rng a b r2) }) :
    FnG P w K mg base x ps (k + 1) (spR K R) := by
  obtain ⟨f, fd, F, hm, hb⟩ := D.ex
  refine ⟨f, fd, ?_, hm, F.kp, hb⟩
  refine F.ok S (fun vs H Q E ⟨G, a, b, us, r, ds, r2, d, e, _, _, _, _, _, rr, hR, _⟩ => by rw [e, List.length_cons, rr.len]; exact hl r ds r2 d hR) (fun cdv A outer s H vs Q E hr ⟨G, a, b, us, r, ds, r2, d, e, g, tb, hrg, ga, gb, rr, hR, q⟩ => ⟨_, pss_sv, ?_⟩)
  subst e
  have le : Le ⟨G, H, fun x => x = a ∨ x = b⟩ G H := ⟨Same.refl G, g, fun _ _ _ _ e => e, fun _ o e => ⟨o, e⟩, fun _ _ e _ => e, fun x hx => by
    rcases hx with z | z <;> subst z
    · exact ⟨_, hrg.1⟩
    · exact ⟨_, hrg.2.1⟩, tb⟩
  have S0 := start_rng (N := N) le hrg ga gb (.inl rfl) (.inr rfl) rr (by rw [hl r ds r2 d hR]; exact hN)
  refine h _ (cxOf_ctx S cdv A outer s H E hr) a b r ds r2 d hR _ _ G H _ S0 ⟨fun ks σ G' H' e S' => ?_, fun _ _ _ _ z => z.elim, fun _ _ _ _ z => z.elim, fun ks σ G' H' v d' e S' r' => ?_, fun ks σ G' H' p ds' e S' => ?_, fun _ _ _ _ _ _ _ z => z.elim, ex0⟩
  · exact q .non G' H' S'.le (S'.rngAt e.2).2.1 (by rw [e.1]; exact .non)
  · exact q v G' H' S'.le (S'.rngAt e.2).2.1 (by rw [← e.1]; exact r')
  · obtain ⟨G2, S2, g2, r2⟩ := S'.popFreeze
    exact q _ G2 H' S2.le (S2.rngAt e.2).2.1 (by rw [e.1]; exact r2)
end
end Z
/-! ### enumerate of a tuple -/
namespace Z
open PySem PySem.Spec L2
variable [Tabl]
section
open Sem (wp)
open AutoSeq1 (wpAny_loadPart')
theorem zmeets_enumT (t : Addr) (items : Array Value) : Meets (Builtin.«enumerate.__new__» ⟨[.type "enumerate", .ref t], []⟩) (fun _ R s => s.heap.IsTuple t items ∧
      R (.ok (.ret (.ref (s.heap.push { cls := .type "tuple_iterator", data := .fields #[.ref t, .int 0 0] }).objs.size))) { s with heap := (s.heap.push { cls := .type "tuple_iterator", data := .fields #[.ref t, .int 0 0] }).push { cls := .type "enumerate", data := .fields #[.none, .bool false, .ref s.heap.objs.size, rawInt 0, .none, .none] } }) :=
  .of_wp fun prog w A R s hh => by
    obtain ⟨zp, zg, zd, zt, zo⟩ := s
    obtain ⟨ht, hr⟩ := hh
    have zsub := sub_enumerate
    have zit : ∀ {A' : Around} {E : Value → Shared → Prop} {Q : Value → Shared → Prop}, Q (.ref zp.objs.size) ⟨zp.push { cls := .type "tuple_iterator", data := .fields #[.ref t, .int 0 0] }, zg, zd, zt, zo⟩ → wpAny (model prog w) A' (pyIter (.ref t)) Q E ⟨zp, zg, zd, zt, zo⟩ :=
      fun q => (begins_tuple t items).iter prog w _ _ ⟨zp, zg, zd, zt, zo⟩ _ ht q
    wp_walk using zit
    refine wpAny_stack_any fun zst => wpAny_pure ?_
    split
    · rename_i cz _ _ _ _ _
      cases (cz == Value.type "enumerate")
      · wp_walk using zit
        exact ⟨_, rfl, hr⟩
      · wp_walk using zit
        exact ⟨_, rfl, hr⟩
    · wp_walk using zit
      exact ⟨_, rfl, hr⟩
theorem zcall_enumT {prog : Program} {w : World} {A : Around} {E : Value → Shared → Prop} {s : Shared} {t : Addr} {items : Array Value} {Q : Value → Shared → Prop} (ht : s.heap.IsTuple t items)
    (h : ∀ h', IsEnum h' (s.heap.objs.size + 1) s.heap.objs.size 0 .none → h'.IsTupleIter s.heap.objs.size t 0 → h'.objs.size = s.heap.objs.size + 2 → (∀ b o, s.heap.get? b = some o → h'.get? b = some o) → Q (.ref (s.heap.objs.size + 1)) { s with heap := h' }) :
    wpAny (model prog w) A (call (.type "enumerate") [.ref t]) Q E s := by
  refine callType_new F.called_enumerate (by decide) (F.typeCall_enumerate_1 _) (F.newCall_enumerate_1 _) (fun ob => F.args_object_init_2 ob _) F.entry_enumerate_new (zmeets_enumT t items) ⟨ht, ?_⟩
  have zz : (s.heap.push { cls := .type "tuple_iterator", data := .fields #[.ref t, .int 0 0] }).objs.size = s.heap.objs.size + 1 := Heap.size_push ..
  show _ ∧ _
  rw [zz]
  have ze : IsEnum ((s.heap.push { cls := .type "tuple_iterator", data := .fields #[.ref t, .int 0 0] }).push { cls := .type "enumerate", data := .fields #[.none, .bool false, .ref s.heap.objs.size, rawInt 0, .none, .none] }) (s.heap.objs.size + 1) s.heap.objs.size 0 .none := by
    have zq := Heap.get?_push_size (s.heap.push { cls := .type "tuple_iterator", data := .fields #[.ref t, .int 0 0] }) (o := { cls := .type "enumerate", data := .fields #[.none, .bool false, .ref s.heap.objs.size, rawInt 0, .none, .none] }) rfl
    rw [zz] at zq
    exact zq
  exact ⟨⟨_, ze, rfl⟩, h _ ze ⟨_, Heap.get?_push_of_some _ (Heap.get?_push_size _ rfl), rfl, rfl⟩ (by rw [Heap.size_push, zz]) fun b o q => Heap.get?_push_of_some _ (Heap.get?_push_of_some _ q)⟩
end
def IteT (K : PySem.W.Frag) (a : Addr) : It :=
  ⟨fun i H => ∃ (xs : List V) (x : V), SqT K H a xs ∧ xs[i]? = some x, fun i H v H' => ∃ T x, v = .ref T ∧ H T = none ∧ H' = upd H T (.tup [.int (i : Nat), x]) ∧ ∀ xs, SqT K H a xs → xs[i]? = some x, fun i H => ∃ xs : List V, SqT K H a xs ∧ xs.length = i⟩
theorem tupIt_ne {h : Heap} {a it : Addr} {i : Nat} {its : Array Value} (ht : h.IsTuple a its) (hi : h.IsTupleIter it a i) : a ≠ it := fun z => by
  subst z
  obtain ⟨o, ho, hc, _⟩ := ht
  obtain ⟨o', ho', hc', _⟩ := hi
  rw [ho] at ho'
  cases ho'
  rw [hc] at hc'
  exact absurd hc' (by decide)
theorem zturn_enumT {P : Program} {w : World} {K : PySem.W.Frag} {elts : List Expr} {kk : Nat} {tpos : Pos} (a e it : Addr) :
    Turn P w K (.Tuple elts kk tpos) (IteT K a) [e, it] e (fun i h => (∃ old, IsEnum h e it ((i : Nat) : Int) old) ∧ h.IsTupleIter it a i ∧ e ≠ it) where
  mem := by simp
  obj := fun i h st b hb => by
    obtain ⟨⟨old, ze⟩, ⟨o, zo, _, zd⟩, _⟩ := st
    rcases (show b = e ∨ b = it by simpa using hb) with q | q <;> subst q
    · exact ⟨_, ze, fun v q => nomatch q⟩
    · exact ⟨o, zo, fun v q => by rw [zd] at q; cases q⟩
  keep := fun i h h' st k => by
    obtain ⟨⟨old, ze⟩, zi, zn⟩ := st
    exact ⟨⟨old, k e (by simp) _ ze⟩, zi.at fun o q => k it (by simp) o q, zn⟩
  item := by
    intro X hP hw hK hc i pins s σ H E I hf st hg
    subst hP hw hK
    obtain ⟨⟨old, ze⟩, zi, zn⟩ := st
    obtain ⟨xs, x, hq, hx⟩ := hg
    obtain ⟨its, rv, p, hz⟩ := I.tuple hq
    have pt : s.heap.IsTuple a its.toArray := p
    obtain ⟨u0, hu0, ru0⟩ := rv.get hx
    have hlt : i < its.toArray.size := by
      have := (List.getElem?_eq_some_iff.mp hu0).1
      simpa using this
    have zne := tupIt_ne pt zi
    have zel : e < s.heap.objs.size := Heap.lt_size ze
    have zil : it < s.heap.objs.size := by obtain ⟨_, q, _⟩ := zi; exact Heap.lt_size q
    have zea : e ∉ [it, a] := by
      intro z
      rcases (show e = it ∨ e = a by simpa using z) with z | z
      · exact zn z
      · subst z
        obtain ⟨o, ho, hcl, _⟩ := pt
        have ze' : s.heap.get? e = some _ := ze
        rw [ze'] at ho
        cases ho
        exact absurd (show Value.type "enumerate" = Value.type "tuple" from hcl) (by decide)
    have zh : X.A.in1.handled = none := I.ok.hd hc
    refine wpAny_pyNext_enum_itemD (Draws.tuple zh it a zne its.toArray) ze ⟨zi, pt⟩ hlt zn zea fun u h' tk hu ho st' hT hsz hk => ?_
    have hu' : its[i]? = some u := by simpa using hu
    have ru : RelV x u := by
      rw [hu0] at hu'
      cases hu'
      exact ru0
    refine ⟨_, rfl, wpAny_letOwnedTupleGo_enum (s := { s with heap := h', toks := tk + 1 }) ho fun h'' he' sb => ?_⟩
    have hT2 : h''.get? s.heap.objs.size = some { cls := .type "tuple", data := .seq #[.int i tk, u] } := (sb.2 _ (Nat.ne_of_gt zel)).trans hT
    have new : ObjOk X.prog X.w (upd H s.heap.objs.size (.tup [.int (i : Nat), x])) h'' s.heap.objs.size (.tup [.int (i : Nat), x]) :=
      ⟨by show 2 ≤ sizeLine; decide, [.int i tk, u], .cons ⟨_, rfl⟩ (.cons ru .nil), ⟨_, hT2, rfl, _, rfl⟩⟩
    have I1 : Inv X pins σ (upd H s.heap.objs.size (.tup [.int (i : Nat), x])) { s with heap := h'', toks := tk + 1 } :=
      I.turnedNew (ch := [e, it]) (fun b ob hb q => (sb.2 b (fun z => hb (by simp [z]))).trans (hk b ob (fun z => hb (by simp [z])) (fun z => hb (by simp [z])) q)) hf (Nat.le_refl _) new
    refine ⟨.ref s.heap.objs.size, _, I1, rfl, ⟨_, x, rfl, I.hok.fresh (Nat.le_refl _), rfl, fun ys hy => by rw [I.tuple_inj hy hq]; exact hx⟩, ⟨⟨u, ?_⟩, st'.1.at fun o q => (sb.2 it (Ne.symm zn)).trans q, zn⟩, fun b hb => ?_⟩
    · have e1 : ((i + 1 : Nat) : Int) = (i : Int) + 1 := by omega
      rw [e1]; exact he'
    · have hb' : b < s.heap.objs.size := by
        rcases (show b = e ∨ b = it by simpa using hb) with z | z
        · rw [z]; exact zel
        · rw [z]; exact zil
      rw [upd_ne (Nat.ne_of_lt hb')]
      exact (hf b hb).1
  done := by
    intro X hP hw hK hc i pins s σ H E I hf st hg
    subst hP hw hK
    obtain ⟨⟨old, ze⟩, zi, zn⟩ := st
    obtain ⟨xs, hq, hx⟩ := hg
    obtain ⟨its, rv, p, hz⟩ := I.tuple hq
    have pt : s.heap.IsTuple a its.toArray := p
    obtain ⟨f0, f1, f2, f3, f4, f5⟩ := hf it (by simp)
    have hl := rv.length
    have zne := tupIt_ne pt zi
    have zh : X.A.in1.handled = none := I.ok.hd hc
    obtain ⟨o, ho, hcl, hd⟩ := id zi
    have zis : s.heap.IsTupleIter it a i ∧ s.heap.IsTuple a its.toArray := ⟨zi, pt⟩
    have q : i = its.toArray.size := by simp; omega
    subst q
    exact wpAny_pyNext_enum_endD (Draws.tuple zh it a zne its.toArray) ze zis fun h' eb => ⟨rfl, I.turned (t' := s.toks) (fun b o hb q => eb b o hb q) f0 f1 f3 f4 f5⟩
  self := fun A i s Q E st q => by
    obtain ⟨⟨_, ze⟩, _⟩ := st
    exact wpAny_pyIter_enum ze q
def iEnumT (K : PySem.W.Frag) (ta : TA) : TI := fun σ H R => ta σ H fun vs H1 => ∃ a xs, vs = [.ref a] ∧ SqT K H1 a xs ∧ R (IteT K a) H1
theorem zpi_enumT {X : Cx} {e : Expr} {ta : TA} {p pos tpos : Pos} {elts : List Expr} {kk : Nat} (hg : Gl X "enumerate") (hm : X.mg "enumerate" = none) (ha : PA X [e] ta) (hs : starEach [e] X.env = [(false, eval e X.env)]) :
    PI X (.Tuple elts kk tpos) (.Call (.Name "enumerate" p) [e] [] pos) (iEnumT X.K ta) := by
  refine ⟨fun pins s σ H R I h => ?_⟩
  refine PyProof.Rows.Call_ (ld_blt I hg hm PyProof.Rows.boot_enumerate (PyProof.Rows.callWith_type1 (thn (ha.run pos pins s σ H _ I h) fun us s1 ⟨vs, H1, I1, r1, q1⟩ => ?_) hs rfl))
  obtain ⟨a, xs, ex, hq, q⟩ := q1
  subst ex
  cases r1 with
  | cons r rr =>
    cases rr
    cases r
    obtain ⟨its, rv, p', hz⟩ := I1.tuple hq
    refine zcall_enumT (show s1.heap.IsTuple a its.toArray from p') fun h' he hit hsz hk => wpAny_pyIter_enum he ?_
    have I2 : Inv X pins σ H1 { s1 with heap := h' } := I1.kept (t' := s1.toks) hk
    refine ⟨s1.heap.objs.size + 1, [s1.heap.objs.size + 1, s1.heap.objs.size], _, _, H1, rfl, I2, zturn_enumT a (s1.heap.objs.size + 1) s1.heap.objs.size, ⟨⟨.none, he⟩, hit, Nat.succ_ne_self _⟩, fun b hb => ?_, q⟩
    have hle : s1.heap.objs.size ≤ b := by
      rcases (show b = s1.heap.objs.size + 1 ∨ b = s1.heap.objs.size by simpa using hb) with z | z
      · rw [z]; exact Nat.le_add_right _ _
      · rw [z]; exact Nat.le_refl _
    exact I1.fpOk hle (I1.hok.fresh hle)
theorem walk_enumT {K : PySem.W.Frag} {a : Addr} {xs : List V} : Walk (IteT K a) xs.length (fun H => SqT K H a xs) (YPair (fun i => some (.int (i : Nat))) (fun i => xs[i]?)) := by
  refine ⟨fun i _ hi q => ⟨xs, xs[i], q, by simp [hi]⟩, fun _ q => ⟨xs, q, rfl⟩, fun i H v H' _ q y => ?_⟩
  obtain ⟨T, x, h1, h2, h3, h4⟩ := y
  exact ⟨T, .int (i : Nat), x, h1, h2, h3, rfl, h4 xs q⟩
section
variable {P : Program} {w : World} {K : PySem.W.Frag} {mg : Str → Option Value} {base : Heap} {T : Sta} {k : Nat} {X : Cx} {ks k1 k2 k3 : List SK} {a b e : Expr} {es : List Expr} {d da db : PyData} {ds : List PyData} {pos p tpos : Pos} {rest body orelse : List Stmt} {Φ : Po}
/-- i, x of enumerate -/
def enumD (ds : List PyData) : List PyData := (List.range ds.length).map fun i => .tuple [.int (i : Nat), ds.getD i .none]
theorem enumD_len (ds : List PyData) : (enumD ds).length = ds.length := by simp [enumD]
theorem enumD_get {ds : List PyData} {i : Nat} {d : PyData} (h : ds[i]? = some d) : (enumD ds)[i]? = some (.tuple [.int (i : Nat), d]) := by
  have hi := (List.getElem?_eq_some_iff.mp h).1
  unfold enumD
  rw [List.getElem?_map, List.getElem?_range hi]
  simp [List.getD_eq_getElem?_getD, h]
theorem enumD_inv {ds : List PyData} {i : Nat} {z : PyData} (h : (enumD ds)[i]? = some z) : ∃ d, ds[i]? = some d ∧ z = .tuple [.int (i : Nat), d] := by
  have hi := (List.getElem?_eq_some_iff.mp h).1
  rw [enumD_len] at hi
  have e : ds[i]? = some ds[i] := by simp [hi]
  rw [enumD_get e] at h
  exact ⟨_, e, (Option.some.inj h).symm⟩
theorem src_pair {J : It} {Gs : Hp} {vs : List V} {n : Nat} {x y : Nat → Option V} {es : List PyData} {Gc : Hp → Prop} (wk : Walk J n Gc (YPair x y)) (hn : n = es.length) (hG : ∀ H, Same Gs H → Gc H)
    (hd : ∀ i u v, i < n → x i = some u → y i = some v → ∃ d d', es[i]? = some (.tuple [d, d']) ∧ Dp K Gs u d ∧ Dp K Gs v d') : SrcOk K J Gs es := by
  subst hn
  refine ⟨wk.mono (fun H s => hG H s) fun i H v H' hi s yy => ?_⟩
  obtain ⟨t, u, v', rfl, nT, rfl, hx, hy⟩ := yy
  intro G s1 s2
  obtain ⟨d, d', h1, h2, h3⟩ := hd i u v' hi hx hy
  have l := Lp.new (o := .tup [u, v']) s2 nT
  exact ⟨_, _, h1, l, .tup (SqT.of upd_same) (.cons (Dp.mono (s1.trans l.g) h2) (.cons (Dp.mono (s1.trans l.g) h3) .nil))⟩
theorem id_enumT {elts : List Expr} {kk : Nat} (c : Ctx P w K mg base T k X) (hg : T.sc.names.lookup ("enumerate" : Str) = some .globalImplicit) (hm : mg "enumerate" = none) (h : ED X ks a k1 (.tuple ds)) (hs : starEach [a] X.env = [(false, eval a X.env)]) :
    ID X ks (.Tuple elts kk tpos) (.Call (.Name "enumerate" p) [a] [] pos) k1 (enumD ds) := fun W σ G H S R q => by
  refine iv_of (zpi_enumT (gl_of c hg) (by rw [c.hmg]; exact hm) (pa_cons pe_ev pa_nil hs) hs) (h W σ G H S _ fun v G2 H2 S2 g r => ?_)
  obtain ⟨a, vs, rfl, sa, aa⟩ := r.tup_inv
  refine ⟨a, vs, rfl, Same.seqT S2.gh sa, q _ G2 H2 S2 g (src_pair (vs := vs) walk_enumT (by rw [enumD_len, aa.len]) (fun H s => Same.seqT s sa) fun i u v hi hx hy => ?_)⟩
  obtain ⟨d, hd, rd⟩ := aa.getV hy
  have hx := (Option.some.inj hx).symm
  subst hx
  exact ⟨_, d, enumD_get hd, .int _, rd⟩
/-! ### subscripts, slices, in -/
def ixD : PyData → Int → Option PyData
  | .tuple ds, i => atI ds i
  | .list ds, i => atI ds i
  | _, _ => none
theorem ed_ix {i : Int} (ha : ED X ks a k1 da) (hb : ED X k1 b k2 (.int i)) (hi : ixD da i = some d) (hs : PlainIx b) : ED X ks (.Subscript a b pos) k2 d := by
  cases da with
  | tuple ds => exact ed_ixT ha hb hi hs
  | list ds => exact ed_ixL ha hb hi hs
  | _ => cases hi
def seqD : PyData → Option (List PyData)
  | .tuple ds => some ds
  | .list ds => some ds
  | _ => none
theorem id_seq {tg : Expr} (h : ED X ks e k1 d) (hd : seqD d = some ds) : ID X ks tg e k1 ds := by
  cases d with
  | tuple ds' => cases hd; exact id_tup h
  | list ds' => cases hd; exact id_lst h
  | _ => cases hd
/-- an optional part of a slice -/
def POd (X : Cx) (ks : List SK) (e : Option Expr) (o : Option Int) : Prop := ∃ t : TO, PO X e t ∧ ∀ W σ G H, Sts X.K W ks σ G H → ∀ Q : Option Int → Hp → Prop, (∀ G2 H2, Sts X.K W ks σ G2 H2 → Same G G2 → Q o H2) → t σ H Q
theorem po_no : POd X ks none none := ⟨_, po_none, fun W σ G H S Q q => q G H S (Same.refl G)⟩
theorem po_yes {i : Int} (h : ED X ks e ks (.int i)) : POd X ks (some e) (some i) := ⟨_, po_some pe_ev, fun W σ G H S Q q => h W σ G H S _ fun v G2 H2 S2 g r => ⟨i, r.int_inv, q G2 H2 S2 g⟩⟩
def cutD (xs : List PyData) (lo hi : Option Int) : List PyData := (xs.drop (HT.sIx xs.length 0 lo)).take (HT.sIx xs.length xs.length hi - HT.sIx xs.length 0 lo)
theorem DpAll.cut {G : Hp} {vs : List V} {ds : List PyData} (r : DpAll K G vs ds) (lo hi : Option Int) : DpAll K G (cutV vs lo hi) (cutD ds lo hi) := by
  unfold cutV cutD
  rw [r.len]
  exact (r.drop _).take _
theorem ed_slT {lo hi : Option Expr} {l h : Option Int} {p2 : Pos} (ha : ED X ks a k1 (.tuple ds)) (hl : POd X k1 lo l) (hh : POd X k1 hi h) : ED X ks (.Subscript a (.Slice lo hi none p2) pos) k1 (.tuple (cutD ds l h)) := by
  obtain ⟨tl, pl, ql⟩ := hl
  obtain ⟨th, ph, qh⟩ := hh
  intro W σ G H S Q q
  refine ev_of (pe_slice sl_tupA pe_ev pl ph) (ha W σ G H S _ fun v G1 H1 S1 g1 r1 => ql W σ G1 H1 S1 _ fun G2 H2 S2 g2 => qh W σ G2 H2 S2 _ fun G3 H3 S3 g3 => ?_)
  obtain ⟨t, vs, rfl, sa, aa⟩ := r1.tup_inv
  have sa3 := Same.seqT (g2.trans g3) sa
  have aa3 := DpAll.mono (g2.trans g3) aa
  refine ⟨t, vs, rfl, Same.seqT S3.gh sa3, fun hw => ?_, fun hw m nm => ?_⟩
  · refine q _ G3 H3 S3 ((g1.trans g2).trans g3) ?_
    have e : cutD ds l h = ds := by
      unfold cutD
      rw [← aa.len, hw.1, hw.2, aa.len]
      simp
    rw [e]
    exact .tup sa3 aa3
  · have le := Lp.new (o := .tup (cutV vs l h)) S3.gh nm
    exact q _ _ _ (S3.pure le) (((g1.trans g2).trans g3).trans le.g) (.tup (SqT.of upd_same) (DpAll.mono le.g (DpAll.cut aa3 l h)))
theorem cd_niL (c : Ctx P w K mg base T k X) (sa : SeqAt.shaped da = true) (sb : SeqAt.shaped (.list ds) = true) : CmpD X .NotIn da (.list ds) (!ds.any fun z => PyData.eqv z da) :=
  ⟨_, op_notInD (by have := c.room.un; omega), fun G H x y g ha hb Q q => ⟨da, ds, Dp.mono g ha, Dp.mono g hb, sa, sb, q _ G H (Lp.refl g) (.bl _)⟩⟩
/-! ### unpacking, a list of our own handed back -/
theorem sd_unpack (c : Ctx P w K mg base T k X) {tg : Expr} {f : PyData → List SK → Option (List SK)} {js : List Nat} (h : ED X ks e k1 d) (hg : GD X tg f js) (hf : f d k1 = some k2) (hs : swapsWithSole [tg] e pos.line X.env = pure false) (hw : swappedStores [tg] e X.env = pure none)
    (h1 : (assignEach [tg] X.env).map (·.2) = [assign tg X.env]) (q : SD X k2 rest Φ) : SD X ks (.Assign [tg] e pos :: rest) Φ := fun W σ G H D S M => by
  obtain ⟨g, pg, hg⟩ := hg
  refine sv_of (pss_cons (ps_asg pe_ev pg hs hw h1) pss_sv) ?_
  refine h W σ G H S _ fun v G2 H2 S2 g2 r => ?_
  exact hg W σ G2 H2 k1 v d k2 S2 r hf _ fun σ2 S3 _ _ => q W σ2 G2 H2 D S3 M
theorem sd_retOwn (c : Ctx P w K mg base T k X) (i : Nat) {x : Str} (hN : T.N[i]? = some x) (hv : Vis T.sc x) (hk : ks[i]? = some (.own ds)) (hd : (x == ("__debug__" : Str)) = false) (hcd : (x == ("__classdict__" : Str)) = false) (q : Φ.rl (ks.set i .no) ds) :
    SD X ks (.Return (some (.Name x p)) pos :: rest) Φ := fun W σ G H D S M => by
  obtain ⟨a, vs, e1, h1, r, g, w1, ow, o, f, e2, no⟩ := S.ownAt hk
  refine sv_of (pss_cons (ps_ret (pe_var (ix_of c hN) (vis_of c hv) hd hcd)) pss_sv) ⟨.ref a, e1, ?_⟩
  refine M.rl (ks.set i .no) σ G H a ds q ?_
  have hi := (List.getElem?_eq_some_iff.mp hk).1
  have hl := S.len
  refine ⟨S.le, by simp [hl], fun j => if j = ks.length then [a] else if j = i then [] else ow j, ⟨fun j j' b hb hb' => ?_, fun j b hb => ?_, fun j hj => ?_⟩, fun j kj hj => ?_⟩
  · by_cases q1 : j = ks.length <;> by_cases q2 : j' = ks.length
    · rw [q1, q2]
    · simp only [q1, if_true, q2, if_false] at hb hb'
      simp at hb; subst hb
      split at hb'
      · cases hb'
      · exact (no j' ‹_› hb').elim
    · simp only [q1, if_false, q2, if_true] at hb hb'
      simp at hb'; subst hb'
      split at hb
      · cases hb
      · exact (no j ‹_› hb).elim
    · simp only [q1, q2, if_false] at hb hb'
      split at hb
      · cases hb
      · split at hb'
        · cases hb'
        · exact o.dis j j' b hb hb'
  · by_cases q1 : j = ks.length
    · simp only [q1, if_true] at hb
      simp at hb; subst hb
      exact ⟨g, .inl w1⟩
    · simp only [q1, if_false] at hb
      split at hb
      · cases hb
      · rename_i q2
        obtain ⟨b1, b2⟩ := o.mine j b hb
        refine ⟨b1, ?_⟩
        rcases b2 with b2 | ⟨b2, k', e, e'⟩
        · exact .inl b2
        · refine .inr ⟨b2, k', ?_, e'⟩
          rw [List.getElem?_append_left (by simp; exact (List.getElem?_eq_some_iff.mp e).1), List.getElem?_set_ne (Ne.symm q2)]; exact e
  · have h3 : j ≠ ks.length := by simp at hj; omega
    simp only [h3, if_false]
    split
    · rfl
    · exact o.out j (by simp at hj; omega)
  · by_cases q1 : j = ks.length
    · subst q1
      rw [List.getElem?_append_right (by simp)] at hj
      simp at hj
      subst hj
      simp only [if_true]
      rw [List.getElem?_append_right (by omega), hl]
      simp only [Nat.sub_self]
      exact ⟨a, vs, rfl, rfl, h1, r⟩
    · have hj' : j < ks.length := by have := (List.getElem?_eq_some_iff.mp hj).1; simp at this; omega
      rw [List.getElem?_append_left (by simpa using hj')] at hj
      simp only [q1, if_false]
      rw [List.getElem?_append_left (by omega)]
      by_cases q2 : j = i
      · subst q2
        rw [List.getElem?_set_self hi] at hj
        cases hj
        simp only [if_true]
        exact (show ([] : List Addr) = [] from rfl)
      · rw [List.getElem?_set_ne (Ne.symm q2)] at hj
        simp only [q2, if_false]
        exact f j kj hj
end
end Z
namespace Z
open PySem PySem.Spec L2
/-! ### books as data -/
abbrev Row := Int × Int × Int × Int
structure Book where
  fl : List (List Int)
  st : List Row
  ca : List Row
  bi : List Int
def eInts (l : List Int) : PyData := .tuple (l.map .int)
def eRow (r : Row) : PyData := .tuple [.int r.1, .int r.2.1, .int r.2.2.1, .int r.2.2.2]
def eBook (B : Book) : PyData := .tuple [.tuple (B.fl.map eInts), .tuple (B.st.map eRow), .tuple (B.ca.map eRow), eInts B.bi]
abbrev Book.n (B : Book) : Nat := B.fl.length
def Book.row (B : Book) (o : Int) : List Int := B.fl.getD o.toNat []
def Book.f (B : Book) (o h : Int) : Int := (B.row o).getD h.toNat 0
def Book.off (B : Book) (o : Int) : Prop := 0 ≤ o ∧ o < (B.n : Int)
structure GoodRow (B : Book) (r : Row) : Prop where
  a : B.off r.1
  b : B.off r.2.1
  ne : r.1 ≠ r.2.1
  h0 : 0 ≤ r.2.2.1
  h1 : r.2.2.1 < r.2.2.2
  h2 : r.2.2.2 ≤ 99
structure Good (B : Book) : Prop where
  n2 : 2 ≤ B.n
  n6 : B.n ≤ 6
  rows : ∀ r ∈ B.fl, r.length = B.n
  vals : ∀ o h, B.off o → B.off h → if h = o then B.f o h = 0 else 1 ≤ B.f o h ∧ B.f o h ≤ 9
  st : ∀ r ∈ B.st, GoodRow B r
  stl : B.st.length ≤ 8
  ca : ∀ r ∈ B.ca, GoodRow B r
  cal : B.ca.length ≤ 12
  bi : ∀ h ∈ B.bi, B.off h
  bil : B.bi.length ≤ 6
/-! ### indices -/
theorem atI_of {α : Type} {xs : List α} {i : Int} (h0 : 0 ≤ i) (h1 : i < xs.length) (d : α) : atI xs i = some (xs.getD i.toNat d) := by
  obtain ⟨j, rfl⟩ : ∃ j : Nat, i = (j : Int) := ⟨i.toNat, by omega⟩
  rw [Int.toNat_natCast]
  have hj : j < xs.length := by omega
  exact atI_nat (by rw [List.getD_eq_getElem?_getD]; simp [hj])
theorem atI_map {α β : Type} (f : α → β) (xs : List α) (i : Int) : atI (xs.map f) i = (atI xs i).map f := by
  unfold atI
  rw [List.length_map]
  cases ixN xs.length i with
  | none => rfl
  | some j => simp
theorem ix_fl {B : Book} {o : Int} (h : B.off o) : ixD (.tuple (B.fl.map eInts)) o = some (eInts (B.row o)) := by
  show atI _ _ = _
  rw [atI_map, atI_of h.1 h.2 []]
  rfl
theorem row_len {B : Book} {o : Int} (g : Good B) (h : B.off o) : (B.row o).length = B.n := by
  refine g.rows _ ?_
  unfold Book.row
  have h1 := h.1
  have h2 : o < (B.fl.length : Int) := h.2
  have : o.toNat < B.fl.length := by omega
  rw [List.getD_eq_getElem?_getD, List.getElem?_eq_getElem this]
  simp
theorem ix_row {B : Book} {o h : Int} (g : Good B) (ho : B.off o) (hh : B.off h) : ixD (eInts (B.row o)) h = some (.int (B.f o h)) := by
  show atI _ _ = _
  rw [atI_map, atI_of hh.1 (by rw [row_len g ho]; exact hh.2) 0]
  rfl
theorem ed_to [Tabl] {X : Cx} {ks k1 : List SK} {e : Expr} {d d' : PyData} (h : ED X ks e k1 d) (e' : d = d') : ED X ks e k1 d' := e' ▸ h
theorem td_to [Tabl] {X : Cx} {ks k1 : List SK} {e : Expr} {b b' : Bool} (h : TD X ks e k1 b) (e' : b = b') : TD X ks e k1 b' := e' ▸ h
theorem decT {p : Prop} [Decidable p] (h : p) : decide p = true := decide_eq_true h
end Z
namespace Z
open PySem PySem.Spec L2
variable [Tabl]
section
variable {P : Program} {w : World} {K : PySem.W.Frag} {mg : Str → Option Value} {base : Heap} {T : Sta} {k : Nat} {X : Cx} {ks k1 k2 k3 : List SK} {a b e : Expr} {es : List Expr} {d da db : PyData} {ds : List PyData} {pos p tpos : Pos} {rest body orelse : List Stmt} {Φ : Po}
/-! ### loops with a word of their own -/
theorem sd_forP (c : Ctx P w K mg base T k X) {tg iter : Expr} {f : PyData → List SK → Option (List SK)} {js : List Nat} (F : Nat → List SK → Prop) (hi : ID X ks tg iter k1 ds) (hg : GD X tg f js) (h0 : F 0 k1)
    (turn : ∀ i d ls, ds[i]? = some d → F i ls → ∃ kb, f d ls = some kb ∧ SD X kb body { Φ with nx := F (i + 1), ct := F (i + 1), bk := fun _ => False })
    (fin : ∀ ls, F ds.length ls → SD X ls rest Φ) (hs : ∀ x, foldedSetIterable iter X.env x = pure x) : SD X ks (.For tg iter body [] pos :: rest) Φ := fun W σ G H D S M => by
  obtain ⟨g, pg, hg⟩ := hg
  have hp := c.po
  refine sv_of (pss_cons (ps_for hp c.calm pi_iv pg pss_sv hs) pss_sv) ?_
  refine hi W σ G H S _ fun J G2 H2 S2 g2 src => ?_
  refine for_it src.wk (fun i σ' H' => ∃ G' ls, F i ls ∧ Sts X.K W ls σ' G' H' ∧ Same G2 G') ⟨G2, _, h0, S2, Same.refl G2⟩ (fun i σ' H' _ ⟨G', ls, _, S', g'⟩ => g'.trans S'.gh) ?_ ?_
  · rintro i x σ' H' H'' hlt ⟨G', ls, fl, S', g'⟩ y
    obtain ⟨d, G3, hd, l, r⟩ := y G' g' S'.gh
    obtain ⟨kb, e, b⟩ := turn i d ls hd fl
    refine hg W σ' G3 H'' ls x d kb (S'.pure l) r e _ fun σ2 S3 _ _ => ?_
    refine b ⟨G2, W.H, W.M⟩ σ2 G3 H'' _ (S3.rebase S2.le.g (g'.trans l.g)) ⟨fun ks σ G H q S => ⟨G, ks, q, S.unbase S2.le, S.le.g⟩, fun _ _ _ _ q => q.elim, fun ks σ G H q S => ⟨G, ks, q, S.unbase S2.le, S.le.g⟩, fun ks σ G H v d q S r => M.rt ks σ G H v d q (S.unbase S2.le) r, fun ks σ G H a ds q S => M.rl ks σ G H a ds q (S.unbase S2.le), fun ks σ G H a ds es q S => M.rT ks σ G H a ds es q (S.unbase S2.le), M.exU S2.le⟩
  · rintro σ' H' ⟨G', ls, fl, S', g'⟩
    exact fin ls fl W σ' G' H' D S' M
/-- slots by the turn, and a word of the turn -/
theorem sd_forJ (c : Ctx P w K mg base T k X) {tg iter : Expr} {f : PyData → List SK → Option (List SK)} {js : List Nat} (F : Nat → List SK) (J : Nat → Prop) (hi : ID X ks tg iter k1 ds) (hg : GD X tg f js) (h0 : Wk k1 (F 0)) (j0 : J 0)
    (turn : ∀ i d, ds[i]? = some d → J i → ∃ kb, f d (F i) = some kb ∧ SD X kb body { Φ with nx := fun k => Wk k (F (i + 1)) ∧ J (i + 1), ct := fun k => Wk k (F (i + 1)) ∧ J (i + 1), bk := fun _ => False })
    (fin : J ds.length → SD X (F ds.length) rest Φ) (hs : ∀ x, foldedSetIterable iter X.env x = pure x) : SD X ks (.For tg iter body [] pos :: rest) Φ := by
  by_cases hz : ds.length = 0
  · refine sd_forP c (fun i ls => Wk ls (F i) ∧ J i ∧ (i = 0 ∨ ls = F i)) hi hg ⟨h0, j0, .inl rfl⟩ (fun i d ls hd => ?_) (fun ls hl => sd_weak hl.1 (fin hl.2.1)) hs
    have := (List.getElem?_eq_some_iff.mp hd).1
    omega
  · exact fun W σ G H D S M => by
      refine sd_forP (Φ := Φ) c (fun i ls => ls = F i ∧ J i) (k1 := F 0) (fun W σ G H S R q => hi W σ G H S R fun Jt G2 H2 S2 => q Jt G2 H2 (S2.weak h0)) hg ⟨rfl, j0⟩ (fun i d ls hd hl => ?_) (fun ls hl => ?_) hs W σ G H D S M
      · obtain ⟨rfl, hj⟩ := hl
        obtain ⟨kb, e, b⟩ := turn i d hd hj
        refine ⟨kb, e, fun W σ G H D S M => b W σ G H D S ⟨fun ks σ G H q S => M.nx (F (i + 1)) σ G H ⟨rfl, q.2⟩ (S.weak q.1), fun _ _ _ _ q => q.elim, fun ks σ G H q S => M.ct (F (i + 1)) σ G H ⟨rfl, q.2⟩ (S.weak q.1), M.rt, M.rl, M.rT, M.ex⟩⟩
      · obtain ⟨rfl, hj⟩ := hl
        exact fin hj
/-! ### a < b < c < d -/
theorem ed_chain3 {op op' op2 : CmpOp} {x y z : Bool} {e3 e4 : Expr} {dc dd : PyData} (ha : ED X ks a ks da) (hb : ED X ks b ks db) (hc : ED X ks e3 ks dc) (hd : ED X ks e4 ks dd) (h : CmpD X op da db x) (h' : CmpD X op' db dc y) (h2 : CmpD X op2 dc dd z)
    (hm : lastMarks [op, op', op2] [b, e3, e4] = false) : ED X ks (.Compare a [op, op', op2] [b, e3, e4] pos) ks (.bool (x && (y && z))) := by
  obtain ⟨r, ho, hr⟩ := h.out
  obtain ⟨r', ho', hr'⟩ := h'.out
  obtain ⟨r2, ho2, hr2⟩ := h2.out
  intro W σ G H S Q q
  refine ⟨fun pins s I => ?_⟩
  refine PyProof.Rows.Compare_chain (thn (EV.run (ha W σ G H S (fun v H1 => ∃ G1, Sts X.K W ks σ G1 H1 ∧ Same G G1 ∧ Dp X.K G1 v da) (fun v G1 H1 S1 g1 r1 => ⟨G1, S1, g1, r1⟩)) pins s I) fun u1 s1 ⟨v1, H1, I1, rv1, G1, S1, g1, d1⟩ => ?_) hm
  refine PyProof.Rows.chain_link (thn (EV.run (hb W σ G1 H1 S1 (fun v H2 => ∃ G2, Sts X.K W ks σ G2 H2 ∧ Same G1 G2 ∧ Dp X.K G2 v db) (fun v G2 H2 S2 g2 r2 => ⟨G2, S2, g2, r2⟩)) pins s1 I1) fun u2 s2 ⟨v2, H2, I2, rv2, G2, S2, g2, d2⟩ => ?_)
  refine thn (ho pins s2 σ H2 v1 v2 u1 u2 (fun v H3 => ∃ G3, Sts X.K W ks σ G3 H3 ∧ Same G2 G3 ∧ v = .bl x) I2 rv1 rv2 (hr G2 H2 v1 v2 S2.gh (Dp.mono g2 d1) d2 _ fun v G3 H3 l r3 => ⟨G3, S2.pure l, l.g, r3.bl_inv⟩)) fun c3 s3 ⟨v3, H3, I3, rv3, G3, S3, g3, e3'⟩ => ?_
  subst e3'
  cases rv3
  refine wpAny_truthy_bool ?_
  cases x with
  | false => exact PyProof.Rows.ite_ff ⟨.bl false, H3, I3, rfl, q _ G3 H3 S3 ((g1.trans g2).trans g3) (.bl _)⟩
  | true =>
    refine PyProof.Rows.ite_tt ?_
    refine PyProof.Rows.chain_link (thn (EV.run (hc W σ G3 H3 S3 (fun v H4 => ∃ G4, Sts X.K W ks σ G4 H4 ∧ Same G3 G4 ∧ Dp X.K G4 v dc) (fun v G4 H4 S4 g4 r4 => ⟨G4, S4, g4, r4⟩)) pins s3 I3) fun u4 s4 ⟨v4, H4, I4, rv4, G4, S4, g4, d4⟩ => ?_)
    refine thn (ho' pins s4 σ H4 v2 v4 u2 u4 (fun v H5 => ∃ G5, Sts X.K W ks σ G5 H5 ∧ Same G4 G5 ∧ v = .bl y) I4 rv2 rv4 (hr' G4 H4 v2 v4 S4.gh (Dp.mono (g3.trans g4) d2) d4 _ fun v G5 H5 l r5 => ⟨G5, S4.pure l, l.g, r5.bl_inv⟩)) fun c5 s5 ⟨v5, H5, I5, rv5, G5, S5, g5, e5'⟩ => ?_
    subst e5'
    cases rv5
    refine wpAny_truthy_bool ?_
    cases y with
    | false => exact PyProof.Rows.ite_ff ⟨.bl false, H5, I5, rfl, q _ G5 H5 S5 ((((g1.trans g2).trans g3).trans g4).trans g5) (.bl _)⟩
    | true =>
      refine PyProof.Rows.ite_tt ?_
      refine PyProof.Rows.chain_last (thn (EV.run (hd W σ G5 H5 S5 (fun v H6 => ∃ G6, Sts X.K W ks σ G6 H6 ∧ Same G5 G6 ∧ Dp X.K G6 v dd) (fun v G6 H6 S6 g6 r6 => ⟨G6, S6, g6, r6⟩)) pins s5 I5) fun u6 s6 ⟨v6, H6, I6, rv6, G6, S6, g6, d6⟩ => ?_)
      exact ho2 pins s6 σ H6 v4 v6 u4 u6 Q I6 rv4 rv6 (hr2 G6 H6 v4 v6 S6.gh (Dp.mono (g5.trans g6) d4) d6 _ fun v G7 H7 l r7 => q v G7 H7 (S6.pure l) ((((((g1.trans g2).trans g3).trans g4).trans g5).trans g6).trans l.g) r7)
/-! ### isinstance -/
def tyD : PyData → String
  | .none => "NoneType"
  | .bool _ => "bool"
  | .int _ => "int"
  | .str _ => "str"
  | .list _ => "list"
  | .tuple _ => "tuple"
  | .dict _ => "dict"
theorem tyx_of {G H : Hp} {v : V} (g : Same G H) (h : Dp K G v d) : TyX K H v (.type (tyD d)) := by
  cases h with
  | non => exact .base .non
  | bl b => exact .base (.bl b)
  | int i => exact .base (.int i)
  | str x => exact .base (.str x)
  | lst s _ =>
    rcases g.seq s with (s | ⟨o, s⟩) | ⟨o, its, n, s, hc, _⟩
    · exact .base (.lst s)
    · exact .base (.frz s)
    · exact .kList s hc
  | tup s _ =>
    rcases Same.seqT g s with (s | ⟨o, s⟩) | ⟨o, its, n, s, hc, _⟩
    · exact .base (.tup s)
    · exact .fTuple s
    · exact .kTuple s hc
theorem ed_isi (c : Ctx P w K mg base T k X) {y : Str} {tn : String} {b : Bool} {q q2 : Pos} (hg : T.sc.names.lookup ("isinstance" : Str) = some .globalImplicit) (hm : mg "isinstance" = none) (ha : ED X ks a k1 d) (hy : T.sc.names.lookup y = some .globalImplicit) (hmy : mg y = none)
    (hv : bootBuiltins y = some (.type tn)) (hb : kitB (tyD d) tn = some b) (hn : y ≠ "__name__") (hd : (y == ("__debug__" : Str)) = false) (h1 : starEach [a, .Name y q2] X.env = (false, eval a X.env) :: starEach [.Name y q2] X.env) (h2 : starEach [.Name y q2] X.env = (false, eval (.Name y q2) X.env) :: starEach [] X.env)
    (hpl : (backTo pos (starEach [.Name y q2] X.env)).any (·.1) = false) :
    ED X ks (.Call (.Name "isinstance" q) [a, .Name y q2] [] pos) k1 (.bool b) := fun W σ G H S Q qq => by
  refine ev_of (pe_callB call_isi (gl_of c hg) (by rw [c.hmg]; exact hm) PyProof.Rows.boot_isinstance (pa_cons pe_ev (pa_cons (pe_bltn (v := .ty tn) (gl_of c hy) (by rw [c.hmg]; exact hmy) hv rfl hn hd) pa_nil h2) h1) (he := h1) (hpl := hpl)) ?_
  refine ha W σ G H S _ fun v G1 H1 S1 g1 r1 => ?_
  exact ⟨v, .ty tn, .type (tyD d), .type tn, b, rfl, .ty tn, tyx_of S1.gh r1, kit_ty hb, qq _ G1 H1 S1 g1 (.bl b)⟩
theorem shaped_ints (l : List Int) : SeqAt.shaped (.list (l.map .int)) = true := by
  have h1 : ∀ l : List Int, PyData.canLayAll0 (l.map .int) = true := by
    intro l
    induction l with
    | nil => rfl
    | cons a l ih =>
      show (PyData.canLay0 (.int a) && PyData.canLayAll0 (l.map .int)) = true
      rw [ih]
      rfl
  have h2 : ∀ l : List Int, PyData.depthAll (l.map .int) = 0 := by
    intro l
    induction l with
    | nil => rfl
    | cons a l ih =>
      show max (PyData.depth (.int a)) (PyData.depthAll (l.map .int)) = 0
      rw [ih]
      rfl
  unfold SeqAt.shaped
  have e1 : (PyData.list (l.map .int)).canLay0 = true := h1 l
  have e2 : (PyData.list (l.map .int)).depth = 1 := by
    show PyData.depthAll (l.map .int) + 1 = 1
    rw [h2]
  rw [e1, e2]
  rfl
/-! ### the drawing state, read and changed -/
section
variable {x : Str} {i : Nat} {A B : Addr} {r : Rg} {px : Pos}
/-- _law_h[0], _law_h[2] -/
theorem rng_ix (c : Ctx P w K mg base T k X) (hN : T.N[i]? = some x) (hv : Vis T.sc x) (hk : ks[i]? = some (.rng A B r)) (hd : (x == ("__debug__" : Str)) = false) (hcd : (x == ("__classdict__" : Str)) = false) {j : Int} {q : Int} {jj : Nat} {p2 : Pos}
    (hj : (j = 0 ∧ q = r.s) ∨ (j = 2 ∧ q = r.k)) : ED X ks (.Subscript (.Name x px) (.Constant (.int j) jj p2) pos) ks (.int q) := fun W σ G H S Q qq => by
  obtain ⟨e1, ⟨h1, h2, h3⟩, _⟩ := S.rngAt hk
  refine ev_of (pe_ix ix_list (pe_var (ix_of c hN) (vis_of c hv) hd hcd) pe_int (fun _ _ => rfl)) ⟨_, e1, A, _, j, .int q, rfl, rfl, SqL.of h1, ?_, qq _ G H S (Same.refl G) (.int _)⟩
  rcases hj with ⟨rfl, rfl⟩ | ⟨rfl, rfl⟩ <;> rfl
/-- the reading of _law_h[1] -/
theorem rng_cells (c : Ctx P w K mg base T k X) (hN : T.N[i]? = some x) (hv : Vis T.sc x) (hk : ks[i]? = some (.rng A B r)) (hd : (x == ("__debug__" : Str)) = false) (hcd : (x == ("__classdict__" : Str)) = false) {jj : Nat} {p2 : Pos} {W : Wd} {σ : St} {G H : Hp} (S : Sts X.K W ks σ G H) {Q : VK} (q : Q (.ref B) H) :
    EV X (.Subscript (.Name x px) (.Constant (.int 1) jj p2) pos) σ H Q := by
  obtain ⟨e1, ⟨h1, h2, h3⟩, _⟩ := S.rngAt hk
  exact ev_of (pe_ix ix_list (pe_var (ix_of c hN) (vis_of c hv) hd hcd) pe_int (fun _ _ => rfl)) ⟨_, e1, A, _, 1, .ref B, rfl, rfl, SqL.of h1, rfl, q⟩
theorem rng_len (c : Ctx P w K mg base T k X) (hN : T.N[i]? = some x) (hv : Vis T.sc x) (hk : ks[i]? = some (.rng A B r)) (hd : (x == ("__debug__" : Str)) = false) (hcd : (x == ("__classdict__" : Str)) = false) {jj : Nat} {p2 q1 : Pos} {pp : Pos}
    (hg : T.sc.names.lookup ("len" : Str) = some .globalImplicit) (hm : mg "len" = none) : ED X ks (.Call (.Name "len" q1) [.Subscript (.Name x px) (.Constant (.int 1) jj p2) pp] [] pos) ks (.int r.c.length) := fun W σ G H S Q qq => by
  obtain ⟨e1, ⟨h1, h2, h3⟩, _⟩ := S.rngAt hk
  refine ev_of (pe_callB call_len_seq (gl_of c hg) (by rw [c.hmg]; exact hm) PySem.boot_len (pa_cons pe_ev pa_nil)) ?_
  refine rng_cells c hN hv hk hd hcd S ?_
  exact ⟨B, _, rfl, .inl (SqL.of h2), by rw [List.length_map]; exact qq _ G H S (Same.refl G) (.int _)⟩
theorem rng_some (c : Ctx P w K mg base T k X) (hN : T.N[i]? = some x) (hv : Vis T.sc x) (hk : ks[i]? = some (.rng A B r)) (hd : (x == ("__debug__" : Str)) = false) (hcd : (x == ("__classdict__" : Str)) = false) {jj : Nat} {p2 pp q1 : Pos} :
    TD X ks (.Compare (.Subscript (.Name x px) (.Constant (.int 1) jj p2) pp) [.NotEq] [.List [] q1] pos) ks (!r.c.isEmpty) := fun W σ G H S Q qq => by
  obtain ⟨e1, ⟨h1, h2, h3⟩, _⟩ := S.rngAt hk
  refine tv_of (pt_cmpR (op_neD c.room.units) pe_ev (pe_lst pa_nil) (nomark _)) ?_
  refine rng_cells c hN hv hk hd hcd S ?_
  refine ⟨Nat.zero_le _, fun l nl => ?_⟩
  have nb : B ≠ l := ne_of_none h2 nl
  have gl : G l = none := by
    cases e : G l with
    | none => rfl
    | some u => rw [S.gh l u e] at nl; cases nl
  refine ⟨.list (r.c.map .int), .list [], .lst (SqL.of (by rw [upd_ne nb]; exact h2)) DpAll.ints, .lst (SqL.of upd_same) .nil, ?_, rfl, ?_⟩
  · exact shaped_ints r.c
  · have e : (!PyData.eqv (.list (r.c.map .int)) (.list [])) = !r.c.isEmpty := by cases r.c <;> rfl
    rw [e]
    exact ⟨_, rfl, qq G _ (S.pure (Lp.newOwn S.gh nl)) (Same.refl G)⟩
theorem rng_cell (c : Ctx P w K mg base T k X) (hN : T.N[i]? = some x) (hv : Vis T.sc x) (hk : ks[i]? = some (.rng A B r)) (hd : (x == ("__debug__" : Str)) = false) (hcd : (x == ("__classdict__" : Str)) = false) {jj : Nat} {p2 pp : Pos} {j q : Int}
    (hb : ED X ks b ks (.int j)) (hj : atI r.c j = some q) (hs : PlainIx b) : ED X ks (.Subscript (.Subscript (.Name x px) (.Constant (.int 1) jj p2) pp) b pos) ks (.int q) := fun W σ G H S Q qq => by
  refine ev_of (pe_ix ix_list pe_ev pe_ev hs) ?_
  refine rng_cells c hN hv hk hd hcd S ?_
  refine hb W σ G H S _ fun v G1 H1 S1 g1 r1 => ?_
  obtain ⟨e1, ⟨h1, h2, h3⟩, _⟩ := S1.rngAt hk
  rw [r1.int_inv]
  refine ⟨B, _, j, .int q, rfl, rfl, SqL.of h2, ?_, qq _ G1 H1 S1 g1 (.int _)⟩
  rw [atI_map, hj]
  rfl
/-- _law_h[0] = .., _law_h[2] = .. -/
theorem Sts.rngPut {W : Wd} {σ : St} {G H : Hp} {r2 : Rg} {o : HO} {z : Addr} (S : Sts K W ks σ G H) (hk : ks[i]? = some (.rng A B r)) (hz : z = A ∨ z = B) (h2 : RngAt (upd H z o) A B r2) : Sts K W (ks.set i (.rng A B r2)) σ G (upd H z o) := by
  obtain ⟨e1, ⟨q1, q2, q3⟩, q4, q5, _⟩ := S.rngAt hk
  have hzz : ∃ u, H z = some u := by rcases hz with e | e <;> subst e <;> exact ⟨_, ‹_›⟩
  have gz : G z = none := by rcases hz with e | e <;> subst e <;> assumption
  have plz : ∀ u, H z = some u → Pl u := fun u e => by
    rcases hz with y | y <;> subst y
    · rw [q1] at e; cases e; exact pl_lst
    · rw [q2] at e; cases e; exact pl_lst
  refine S.rngStep hk ⟨Same.refl G, fun b u e => ?_, fun b u hm _ e => ?_, fun b u e => ?_, fun _ _ e _ => e, fun b hb => ?_, S.le.tb.upd plz⟩ h2
  · have : b ≠ z := fun y => by
      have e : G b = some u := e
      rw [y, gz] at e; cases e
    rw [upd_ne this]; exact S.gh b u e
  · have : b ≠ z := fun y => hm (y ▸ hz)
    rw [upd_ne this]; exact e
  · by_cases y : b = z
    · subst y; exact ⟨_, upd_same⟩
    · exact ⟨u, by rw [upd_ne y]; exact e⟩
  · rcases (show b = A ∨ b = B from hb) with e | e <;> subst e
    · exact ⟨_, q1⟩
    · exact ⟨_, q2⟩
theorem sd_rngSet (c : Ctx P w K mg base T k X) (hN : T.N[i]? = some x) (hv : Vis T.sc x) (hk : k1[i]? = some (.rng A B r)) (hd : (x == ("__debug__" : Str)) = false) (hcd : (x == ("__classdict__" : Str)) = false) {j q : Int} {jj : Nat} {p2 p3 : Pos} {r2 : Rg}
    (h : ED X ks e k1 (.int q)) (hj : (j = 0 ∧ r2 = { r with s := q }) ∨ (j = 2 ∧ r2 = { r with k := q })) (qq : SD X (k1.set i (.rng A B r2)) rest Φ)
    (ha : ∀ v, assign (.Subscript (.Name x px) (.Constant (.int j) jj p2) p3) X.env v = (do
      let ov ← holding [v] (eval (.Name x px) X.env)
      let iv ← holding [v, ov] (eval (.Constant (.int j) jj p2) X.env)
      standAt p3
      holding [v, ov, iv] (setItem ov iv v)
      release [v, ov, iv] []))
    (hs : swapsWithSole [.Subscript (.Name x px) (.Constant (.int j) jj p2) p3] e pos.line X.env = pure false) (hw : swappedStores [.Subscript (.Name x px) (.Constant (.int j) jj p2) p3] e X.env = pure none)
    (h1 : (assignEach [.Subscript (.Name x px) (.Constant (.int j) jj p2) p3] X.env).map (·.2) = [assign (.Subscript (.Name x px) (.Constant (.int j) jj p2) p3) X.env]) :
    SD X ks (.Assign [.Subscript (.Name x px) (.Constant (.int j) jj p2) p3] e pos :: rest) Φ := fun W σ G H D S M => by
  refine sv_of (pss_cons (ps_asg pe_ev (pg_sub (pe_var (ix_of c hN) (vis_of c hv) hd hcd) pe_int set_list ha) hs hw h1) pss_sv) ?_
  refine h W σ G H S _ fun v G1 H1 S1 g1 r1 => ?_
  obtain ⟨e1, ⟨q1, q2, q3⟩, _⟩ := S1.rngAt hk
  rw [r1.int_inv]
  refine ⟨_, e1, ?_⟩
  rcases hj with ⟨rfl, rfl⟩ | ⟨rfl, rfl⟩
  · refine ⟨A, _, 0, 0, rfl, rfl, q1, rfl, ?_⟩
    exact qq W σ G1 _ D (S1.rngPut hk (.inl rfl) ⟨upd_same, by rw [upd_ne (Ne.symm q3)]; exact q2, q3⟩) M
  · refine ⟨A, _, 2, 2, rfl, rfl, q1, rfl, ?_⟩
    exact qq W σ G1 _ D (S1.rngPut hk (.inl rfl) ⟨upd_same, by rw [upd_ne (Ne.symm q3)]; exact q2, q3⟩) M
theorem sd_rngCell (c : Ctx P w K mg base T k X) (hN : T.N[i]? = some x) (hv : Vis T.sc x) (hk : ks[i]? = some (.rng A B r)) (hd : (x == ("__debug__" : Str)) = false) (hcd : (x == ("__classdict__" : Str)) = false) {j q : Int} {jj m : Nat} {p2 p3 pp : Pos}
    (h : ED X ks e ks (.int q)) (hb : ED X ks b ks (.int j)) (hj : ixN r.c.length j = some m) (qq : SD X (ks.set i (.rng A B { r with c := r.c.set m q })) rest Φ)
    (ha : ∀ v, assign (.Subscript (.Subscript (.Name x px) (.Constant (.int 1) jj p2) pp) b p3) X.env v = (do
      let ov ← holding [v] (eval (.Subscript (.Name x px) (.Constant (.int 1) jj p2) pp) X.env)
      let iv ← holding [v, ov] (eval b X.env)
      standAt p3
      holding [v, ov, iv] (setItem ov iv v)
      release [v, ov, iv] []))
    (hs : swapsWithSole [.Subscript (.Subscript (.Name x px) (.Constant (.int 1) jj p2) pp) b p3] e pos.line X.env = pure false) (hw : swappedStores [.Subscript (.Subscript (.Name x px) (.Constant (.int 1) jj p2) pp) b p3] e X.env = pure none)
    (h1 : (assignEach [.Subscript (.Subscript (.Name x px) (.Constant (.int 1) jj p2) pp) b p3] X.env).map (·.2) = [assign (.Subscript (.Subscript (.Name x px) (.Constant (.int 1) jj p2) pp) b p3) X.env]) :
    SD X ks (.Assign [.Subscript (.Subscript (.Name x px) (.Constant (.int 1) jj p2) pp) b p3] e pos :: rest) Φ := fun W σ G H D S M => by
  refine sv_of (pss_cons (ps_asg pe_ev (pg_sub pe_ev pe_ev set_list ha) hs hw h1) pss_sv) ?_
  refine h W σ G H S _ fun v G1 H1 S1 g1 r1 => ?_
  rw [r1.int_inv]
  refine rng_cells c hN hv hk hd hcd S1 ?_
  refine hb W σ G1 H1 S1 _ fun y G2 H2 S2 g2 r2 => ?_
  obtain ⟨e1, ⟨q1, q2, q3⟩, _⟩ := S2.rngAt hk
  rw [r2.int_inv]
  refine ⟨B, _, j, m, rfl, rfl, q2, by rw [List.length_map]; exact hj, ?_⟩
  refine qq W σ G2 _ D (S2.rngPut hk (.inr rfl) ⟨by rw [upd_ne q3]; exact q1, ?_, q3⟩) M
  rw [upd_same, List.map_set]
end
end
end Z
namespace Z
open PySem PySem.Spec L2
/-! ### shapes -/
structure Shp (n : Nat) (d : PyData) : Prop where
  lay : d.canLay0 = true
  dep : d.depth ≤ n
theorem Shp.int {n : Nat} (i : Int) : Shp n (.int i) := ⟨rfl, Nat.zero_le _⟩
theorem Shp.non {n : Nat} : Shp n .none := ⟨rfl, Nat.zero_le _⟩
theorem Shp.bool {n : Nat} (b : Bool) : Shp n (.bool b) := ⟨rfl, Nat.zero_le _⟩
theorem shp_all {n : Nat} : ∀ {xs : List PyData}, (∀ x ∈ xs, Shp n x) → PyData.canLayAll0 xs = true ∧ PyData.depthAll xs ≤ n
  | [], _ => ⟨rfl, by simp [PyData.depthAll]⟩
  | x :: xs, h => by
    obtain ⟨a, b⟩ := shp_all (xs := xs) fun y hy => h y (List.mem_cons_of_mem _ hy)
    obtain ⟨c, d⟩ := h x List.mem_cons_self
    refine ⟨?_, ?_⟩
    · show (x.canLay0 && PyData.canLayAll0 xs) = true
      rw [c, a]; rfl
    · show max (PyData.depth x) (PyData.depthAll xs) ≤ n
      exact Nat.max_le.mpr ⟨d, b⟩
theorem Shp.list {n : Nat} {xs : List PyData} (h : ∀ x ∈ xs, Shp n x) : Shp (n + 1) (.list xs) := ⟨(shp_all h).1, by
  show PyData.depthAll xs + 1 ≤ n + 1
  exact Nat.succ_le_succ (shp_all h).2⟩
theorem Shp.tuple {n : Nat} {xs : List PyData} (h : ∀ x ∈ xs, Shp n x) : Shp (n + 1) (.tuple xs) := ⟨(shp_all h).1, by
  show PyData.depthAll xs + 1 ≤ n + 1
  exact Nat.succ_le_succ (shp_all h).2⟩
theorem Shp.mono {n m : Nat} {d : PyData} (h : Shp n d) (l : n ≤ m) : Shp m d := ⟨h.lay, Nat.le_trans h.dep l⟩
theorem Shp.ok {n : Nat} {d : PyData} (h : Shp n d) (l : n ≤ 64) : SeqAt.shaped d = true := by
  unfold SeqAt.shaped
  rw [h.lay, decide_eq_true (Nat.le_trans h.dep l)]; rfl
theorem all1 {α : Type} {p : α → Prop} {a : α} (h : p a) : ∀ x ∈ [a], p x := fun x hx => by simp at hx; subst hx; exact h
theorem allC {α : Type} {p : α → Prop} {a : α} {l : List α} (h : p a) (h2 : ∀ x ∈ l, p x) : ∀ x ∈ a :: l, p x := fun x hx => by
  rcases List.mem_cons.mp hx with z | z
  · rw [z]; exact h
  · exact h2 x z
theorem allN {α : Type} {p : α → Prop} : ∀ x ∈ ([] : List α), p x := fun x hx => by cases hx
theorem allM {α β : Type} {p : β → Prop} {f : α → β} {l : List α} (h : ∀ a ∈ l, p (f a)) : ∀ x ∈ l.map f, p x := fun x hx => by
  obtain ⟨a, ha, e⟩ := List.mem_map.mp hx
  rw [← e]; exact h a ha
/-! ### == of data without bools is equality -/
mutual
def nb : PyData → Bool
  | .none => true
  | .bool _ => false
  | .int _ => true
  | .str _ => true
  | .list xs => nbAll xs
  | .tuple xs => nbAll xs
  | .dict _ => false
def nbAll : List PyData → Bool
  | [] => true
  | x :: xs => nb x && nbAll xs
end
mutual
theorem eqv_iff : ∀ (d e : PyData), nb d = true → nb e = true → (PyData.eqv d e = true ↔ d = e)
  | .none, e, _, he => by cases e <;> simp_all [PyData.eqv, nb]
  | .int i, e, _, he => by cases e <;> simp_all [PyData.eqv, nb]
  | .str x, e, _, he => by cases e <;> simp_all [PyData.eqv, nb]
  | .list xs, e, hd, he => by
    cases e with
    | list ys =>
      have := eqv_iffAll xs ys (by simpa [nb] using hd) (by simpa [nb] using he)
      simpa [PyData.eqv] using this
    | _ => simp_all [PyData.eqv, nb]
  | .tuple xs, e, hd, he => by
    cases e with
    | tuple ys =>
      have := eqv_iffAll xs ys (by simpa [nb] using hd) (by simpa [nb] using he)
      simpa [PyData.eqv] using this
    | _ => simp_all [PyData.eqv, nb]
  | .bool _, _, hd, _ => by simp [nb] at hd
  | .dict _, _, hd, _ => by simp [nb] at hd
theorem eqv_iffAll : ∀ (d e : List PyData), nbAll d = true → nbAll e = true → (PyData.eqvAll d e = true ↔ d = e)
  | [], e, _, _ => by cases e <;> simp [PyData.eqvAll]
  | x :: xs, e, hd, he => by
    cases e with
    | nil => simp [PyData.eqvAll]
    | cons y ys =>
      have h1 : nb x = true ∧ nbAll xs = true := by simpa [nbAll] using hd
      have h2 : nb y = true ∧ nbAll ys = true := by simpa [nbAll] using he
      have a := eqv_iff x y h1.1 h2.1
      have b := eqv_iffAll xs ys h1.2 h2.2
      simp [PyData.eqvAll, a, b]
end
theorem nb_all {xs : List PyData} (h : ∀ x ∈ xs, nb x = true) : nbAll xs = true := by
  induction xs with
  | nil => rfl
  | cons x xs ih =>
    show (nb x && nbAll xs) = true
    rw [h x List.mem_cons_self, ih fun y hy => h y (List.mem_cons_of_mem _ hy)]; rfl
theorem nb_list {xs : List PyData} (h : ∀ x ∈ xs, nb x = true) : nb (.list xs) = true := nb_all h
theorem eqv_refl {d : PyData} (h : nb d = true) : PyData.eqv d d = true := (eqv_iff d d h h).mpr rfl
theorem eqv_ne {d e : PyData} (h : nb d = true) (h2 : nb e = true) (n : d ≠ e) : PyData.eqv d e = false := by
  cases q : PyData.eqv d e with
  | false => rfl
  | true => exact absurd ((eqv_iff d e h h2).mp q) n
theorem eqv_dec {d e : PyData} (h : nb d = true) (h2 : nb e = true) {p : Prop} [Decidable p] (i : d = e ↔ p) : PyData.eqv d e = decide p := by
  by_cases q : p
  · rw [decide_eq_true q, i.mpr q]; exact eqv_refl h2
  · rw [decide_eq_false q]; exact eqv_ne h h2 fun z => q (i.mp z)
/-! ### lists -/
theorem map_get {α : Type} {f : α → PyData} {xs : List α} {i : Nat} {d : PyData} (h : (xs.map f)[i]? = some d) : ∃ x, xs[i]? = some x ∧ d = f x := by
  rw [List.getElem?_map] at h
  cases e : xs[i]? with
  | none => rw [e] at h; cases h
  | some x => rw [e] at h; exact ⟨x, rfl, (Option.some.inj h).symm⟩
theorem rngD_inv [Tabl] {n i : Nat} {d : PyData} (h : (rngD n)[i]? = some d) : i < n ∧ d = .int (i : Int) := by
  have hi := (List.getElem?_eq_some_iff.mp h).1
  have hi : i < n := by simpa [rngD] using hi
  rw [rngD_get hi] at h
  exact ⟨hi, (Option.some.inj h).symm⟩
theorem any_true {α : Type} {p : α → Bool} {xs : List α} {i : Nat} {x : α} (h : xs[i]? = some x) (hp : p x = true) : xs.any p = true :=
  List.any_eq_true.mpr ⟨x, List.mem_of_getElem? h, hp⟩
theorem any_false {α : Type} {p : α → Bool} {xs : List α} (h : ∀ (i : Nat) (x : α), xs[i]? = some x → p x = false) : xs.any p = false := by
  rw [List.any_eq_false]
  intro x hx
  obtain ⟨i, hi, e⟩ := List.mem_iff_getElem.mp hx
  have := h i x (by rw [List.getElem?_eq_getElem hi, e])
  simp [this]
theorem prev_succ {α : Type} {xs : List α} {q : α → Prop} {i : Nat} {x : α} (h : ∀ (j : Nat) (y : α), j < i → xs[j]? = some y → q y) (hx : xs[i]? = some x) (hq : q x) : ∀ (j : Nat) (y : α), j < i + 1 → xs[j]? = some y → q y := fun j y hj hy => by
  rcases Nat.lt_succ_iff_lt_or_eq.mp hj with z | z
  · exact h j y z hy
  · subst z; rw [hx] at hy; cases hy; exact hq
end Z
namespace Z
open PySem PySem.Spec L2
variable [Tabl]
/-! ### drawing, as functions -/
def cellOf (r : Rg) : Int := if r.c.isEmpty = true then 0 else r.c.getD (r.k % max 1 (r.c.length : Int)).toNat 0
def nxS (r : Rg) : Int := (r.s * 48271 + cellOf r * 69621 + 11) % 2147483647
def nxR (r : Rg) (m : Int) : Rg := if 10 ^ 18 ≤ cellOf r then { r with c := r.c.set (r.k % max 1 (r.c.length : Int)).toNat (cellOf r / m) } else { s := nxS r, c := r.c, k := r.k + 1 }
def nxV (r : Rg) (m : Int) : Int := if 10 ^ 18 ≤ cellOf r then cellOf r % m else nxS r / 7 % m
theorem nxV_0 {r : Rg} {m : Int} (h : 0 < m) : 0 ≤ nxV r m := by
  unfold nxV
  split <;> exact Int.emod_nonneg _ (by omega)
theorem nxV_1 {r : Rg} {m : Int} (h : 0 < m) : nxV r m < m := by
  unfold nxV
  split <;> exact Int.emod_lt_of_pos _ h
theorem nxV_off {r : Rg} {B : Book} {m : Int} (e : m = (B.n : Int)) (h : 0 < B.n) : B.off (nxV r m) := by
  subst e
  exact ⟨nxV_0 (by omega), nxV_1 (by omega)⟩
def pick2 (a b : Int) (i : Int) : Int := if i = 0 then a else b
def pick3 (a b c : Int) (i : Int) : Int := if i = 0 then a else if i = 1 then b else c
theorem ix_pick2 {a b i : Int} (h0 : 0 ≤ i) (h1 : i < 2) : ixD (.list [.int a, .int b]) i = some (.int (pick2 a b i)) := by
  rcases (show i = 0 ∨ i = 1 by omega) with e | e <;> subst e <;> rfl
theorem ix_pick3 {a b c i : Int} (h0 : 0 ≤ i) (h1 : i < 3) : ixD (.list [.int a, .int b, .int c]) i = some (.int (pick3 a b c i)) := by
  rcases (show i = 0 ∨ i = 1 ∨ i = 2 by omega) with e | e | e <;> subst e <;> rfl
theorem pick2_in {a b i : Int} {p : Int → Prop} (ha : p a) (hb : p b) : p (pick2 a b i) := by unfold pick2; split <;> assumption
theorem pick3_in {a b c i : Int} {p : Int → Prop} (ha : p a) (hb : p b) (hc : p c) : p (pick3 a b c i) := by unfold pick3; split; · assumption
                                                                                                             · split <;> assumption
/-- n draws, each with its number -/
def iterI {α : Type} (f : Nat → Rg → α × Rg) : Nat → Rg → List α × Rg
  | 0, r => ([], r)
  | n + 1, r => ((iterI f n r).1 ++ [(f n (iterI f n r).2).1], (f n (iterI f n r).2).2)
theorem iterI_len {α : Type} (f : Nat → Rg → α × Rg) (n : Nat) (r : Rg) : (iterI f n r).1.length = n := by
  induction n with
  | zero => rfl
  | succ n ih => show ((iterI f n r).1 ++ [_]).length = n + 1; rw [List.length_append, ih]; rfl
theorem iterI_all {α : Type} {f : Nat → Rg → α × Rg} {p : Nat → α → Prop} (h : ∀ i r, p i (f i r).1) : ∀ (n : Nat) (r : Rg) (i : Nat) (x : α), (iterI f n r).1[i]? = some x → p i x
  | 0, r, i, x, e => by simp [iterI] at e
  | n + 1, r, i, x, e => by
    have hl := iterI_len f n r
    have e' : ((iterI f n r).1 ++ [(f n (iterI f n r).2).1])[i]? = some x := e
    by_cases q : i < n
    · rw [List.getElem?_append_left (by omega)] at e'
      exact iterI_all h n r i x e'
    · rw [List.getElem?_append_right (by omega)] at e'
      have hi : i = n := by
        have := (List.getElem?_eq_some_iff.mp e').1
        simp at this
        omega
      subst hi
      rw [hl, Nat.sub_self] at e'
      simp at e'
      rw [← e']
      exact h _ _
theorem iterI_mem {α : Type} {f : Nat → Rg → α × Rg} {p : α → Prop} (h : ∀ i r, p (f i r).1) (n : Nat) (r : Rg) : ∀ x ∈ (iterI f n r).1, p x := fun x hx => by
  obtain ⟨i, hi, e⟩ := List.mem_iff_getElem.mp hx
  exact iterI_all (p := fun _ => p) h n r i x (by rw [List.getElem?_eq_getElem hi, e])
def hourRow (n : Int) (_ : Nat) (r : Rg) : Row × Rg :=
  let one := nxV r n
  let r1 := nxR r n
  let bg := nxV (nxR r1 3) (pick3 20 60 90 (nxV r1 3))
  let r3 := nxR (nxR r1 3) (pick3 20 60 90 (nxV r1 3))
  let ee := nxV (nxR r3 3) (pick3 9 9 70 (nxV r3 3))
  let r5 := nxR (nxR r3 3) (pick3 9 9 70 (nxV r3 3))
  ((one, (one + 1 + nxV r5 (n - 1)) % n, bg, min 99 (bg + 1 + ee)), nxR r5 (n - 1))
def hours (n most : Int) (r : Rg) : List Row × Rg := iterI (hourRow n) (nxV r (most + 1)).toNat (nxR r (most + 1))
def flCell (k j : Nat) (r : Rg) : Int × Rg := ((1 + nxV r 9) * (if (!decide ((j : Int) = (k : Int))) = true then 1 else 0), nxR r 9)
def flights (m : Nat) (r : Rg) : List (List Int) × Rg := iterI (fun k => iterI (flCell k) m) m r
def drawM (m : Int) (_ : Nat) (r : Rg) : Int × Rg := (nxV r m, nxR r m)
def bkN (n : Int) (r : Rg) : Int := 2 + nxV r (n - 1)
def bkF (n : Int) (r : Rg) : List (List Int) × Rg := flights (bkN n r).toNat (nxR r (n - 1))
def bkS (n : Int) (r : Rg) : List Row × Rg := hours (bkN n r) (pick3 0 3 8 (nxV (bkF n r).2 3)) (nxR (bkF n r).2 3)
def bkC (n : Int) (r : Rg) : List Row × Rg := hours (bkN n r) (pick2 4 12 (nxV (bkS n r).2 2)) (nxR (bkS n r).2 2)
def bkB (n b : Int) (r : Rg) : List Int × Rg := iterI (drawM (bkN n r)) (nxV (bkC n r).2 (b + 1)).toNat (nxR (bkC n r).2 (b + 1))
def lawBook (n b : Int) (r : Rg) : Book := ⟨(bkF n r).1, (bkS n r).1, (bkC n r).1, (bkB n b r).1⟩
theorem bkN_in {n : Int} {r : Rg} (h : 2 ≤ n) : 2 ≤ bkN n r ∧ bkN n r ≤ n := by
  unfold bkN
  have h0 := nxV_0 (r := r) (m := n - 1) (by omega)
  have h1 := nxV_1 (r := r) (m := n - 1) (by omega)
  omega
theorem bk_n {n b : Int} {r : Rg} (h : 2 ≤ n) : ((lawBook n b r).n : Int) = bkN n r := by
  show (((flights (bkN n r).toNat (nxR r (n - 1))).1.length : Nat) : Int) = _
  unfold flights
  rw [iterI_len]
  have := bkN_in (r := r) h
  omega
theorem hours_len {n most : Int} {r : Rg} (hm : 0 ≤ most) : ((hours n most r).1.length : Int) ≤ most := by
  unfold hours
  rw [iterI_len]
  have h0 := nxV_0 (r := r) (m := most + 1) (by omega)
  have h1 := nxV_1 (r := r) (m := most + 1) (by omega)
  omega
theorem hours_good {B : Book} {most : Int} {r : Rg} (h2 : 2 ≤ B.n) : ∀ x ∈ (hours (B.n : Int) most r).1, GoodRow B x := by
  refine iterI_mem (fun i r => ?_) _ _
  have hn : (0 : Int) < (B.n : Int) := by omega
  have a0 := nxV_0 (r := r) hn
  have a1 := nxV_1 (r := r) hn
  show GoodRow B (hourRow (B.n : Int) i r).1
  unfold hourRow
  dsimp only
  generalize nxR r (B.n : Int) = r1
  have p1 : 0 < pick3 20 60 90 (nxV r1 3) ∧ pick3 20 60 90 (nxV r1 3) ≤ 90 := pick3_in (p := fun z => 0 < z ∧ z ≤ 90) (by decide) (by decide) (by decide)
  generalize pick3 20 60 90 (nxV r1 3) = m1 at p1
  have b0 := nxV_0 (r := nxR r1 3) p1.1
  have b1 := nxV_1 (r := nxR r1 3) p1.1
  generalize nxV (nxR r1 3) m1 = bg at b0 b1
  generalize nxR (nxR r1 3) m1 = r3
  have p2 : 0 < pick3 9 9 70 (nxV r3 3) := pick3_in (p := fun z => 0 < z) (by decide) (by decide) (by decide)
  generalize pick3 9 9 70 (nxV r3 3) = m2 at p2
  have c0 := nxV_0 (r := nxR r3 3) p2
  generalize nxV (nxR r3 3) m2 = ee at c0
  generalize nxR (nxR r3 3) m2 = r5
  have d0 := nxV_0 (r := r5) (m := (B.n : Int) - 1) (by omega)
  have d1 := nxV_1 (r := r5) (m := (B.n : Int) - 1) (by omega)
  generalize nxV r5 ((B.n : Int) - 1) = ot at d0 d1
  generalize nxV r (B.n : Int) = one at a0 a1
  refine ⟨⟨a0, a1⟩, ⟨Int.emod_nonneg _ (by omega), Int.emod_lt_of_pos _ hn⟩, fun e => ?_, b0, ?_, ?_⟩
  · have e : one = (one + 1 + ot) % (B.n : Int) := e
    by_cases q : one + 1 + ot < (B.n : Int)
    · rw [Int.emod_eq_of_lt (by omega) q] at e
      omega
    · have : (one + 1 + ot) % (B.n : Int) = one + 1 + ot - (B.n : Int) := by
        rw [← Int.sub_emod_right, Int.emod_eq_of_lt (by omega) (by omega)]
      omega
  · show bg < min 99 (bg + 1 + ee)
    omega
  · show min 99 (bg + 1 + ee) ≤ 99
    omega
theorem lawBook_good {n b : Int} {r : Rg} (h2 : 2 ≤ n) (h6 : n ≤ 6) (hb : 0 ≤ b) (hb6 : b ≤ 6) : Good (lawBook n b r) := by
  have hn := bk_n (b := b) (r := r) h2
  have hm := bkN_in (r := r) h2
  have hn2 : 2 ≤ (lawBook n b r).n := by omega
  refine ⟨hn2, by omega, ?_, ?_, ?_, ?_, ?_, ?_, ?_, ?_⟩
  · intro x hx
    have hx : x ∈ (iterI (fun k => iterI (flCell k) (bkN n r).toNat) (bkN n r).toNat (nxR r (n - 1))).1 := hx
    have := iterI_mem (p := fun (x : List Int) => x.length = (bkN n r).toNat) (fun i r' => iterI_len _ _ _) _ _ x hx
    rw [this]
    omega
  · intro o h ho hh
    obtain ⟨i, rfl⟩ : ∃ i : Nat, o = (i : Int) := ⟨o.toNat, by have := ho.1; omega⟩
    obtain ⟨j, rfl⟩ : ∃ j : Nat, h = (j : Int) := ⟨h.toNat, by have := hh.1; omega⟩
    have hi : i < (bkN n r).toNat := by have := ho.2; omega
    have hj : j < (bkN n r).toNat := by have := hh.2; omega
    have fl : (lawBook n b r).fl = (iterI (fun k => iterI (flCell k) (bkN n r).toNat) (bkN n r).toNat (nxR r (n - 1))).1 := rfl
    have cell := iterI_all (f := fun k => iterI (flCell k) (bkN n r).toNat) (p := fun k row => ∀ (j : Nat) (v : Int), row[j]? = some v → (if (j : Int) = (k : Int) then v = 0 else 1 ≤ v ∧ v ≤ 9)) (fun k r' j v hv => by
      refine iterI_all (f := flCell k) (p := fun j v => if (j : Int) = (k : Int) then v = 0 else 1 ≤ v ∧ v ≤ 9) (fun j r'' => ?_) _ r' j v hv
      have v0 := nxV_0 (r := r'') (m := 9) (by decide)
      have v1 := nxV_1 (r := r'') (m := 9) (by decide)
      show if (j : Int) = (k : Int) then (1 + nxV r'' 9) * (if (!decide ((j : Int) = (k : Int))) = true then 1 else 0) = 0 else _
      by_cases q : (j : Int) = (k : Int)
      · rw [if_pos q, decide_eq_true q]; simp
      · rw [if_neg q]
        show 1 ≤ (1 + nxV r'' 9) * (if (!decide ((j : Int) = (k : Int))) = true then 1 else 0) ∧ (1 + nxV r'' 9) * (if (!decide ((j : Int) = (k : Int))) = true then 1 else 0) ≤ 9
        rw [decide_eq_false q]
        simp
        omega) (bkN n r).toNat (nxR r (n - 1))
    have hil : i < (lawBook n b r).fl.length := by rw [fl, iterI_len]; exact hi
    have hr : (lawBook n b r).fl[i]? = some ((lawBook n b r).fl[i]) := List.getElem?_eq_getElem hil
    have c1 := cell i _ (by rw [← fl]; exact hr)
    have rl : ((lawBook n b r).fl[i]).length = (bkN n r).toNat := iterI_mem (p := fun (x : List Int) => x.length = (bkN n r).toNat) (fun i r' => iterI_len _ _ _) _ _ _ (by rw [← fl]; exact List.getElem_mem hil)
    have hv : ((lawBook n b r).fl[i])[j]? = some (((lawBook n b r).fl[i])[j]'(by omega)) := List.getElem?_eq_getElem _
    have c2 := c1 j _ hv
    have ef : (lawBook n b r).f (i : Int) (j : Int) = ((lawBook n b r).fl[i])[j]'(by omega) := by
      unfold Book.f Book.row
      rw [Int.toNat_natCast, Int.toNat_natCast, List.getD_eq_getElem?_getD, List.getD_eq_getElem?_getD, hr]
      show (((lawBook n b r).fl[i])[j]?).getD 0 = _
      rw [hv]; rfl
    rw [ef]
    exact c2
  · have := hours_good (B := lawBook n b r) (most := pick3 0 3 8 (nxV (bkF n r).2 3)) (r := nxR (bkF n r).2 3) hn2
    rw [hn] at this
    exact this
  · have : 0 ≤ pick3 0 3 8 (nxV (bkF n r).2 3) ∧ pick3 0 3 8 (nxV (bkF n r).2 3) ≤ 8 := pick3_in (p := fun z => 0 ≤ z ∧ z ≤ 8) (by decide) (by decide) (by decide)
    have h := hours_len (n := bkN n r) (r := nxR (bkF n r).2 3) this.1
    show (hours _ _ _).1.length ≤ 8
    omega
  · have := hours_good (B := lawBook n b r) (most := pick2 4 12 (nxV (bkS n r).2 2)) (r := nxR (bkS n r).2 2) hn2
    rw [hn] at this
    exact this
  · have : 0 ≤ pick2 4 12 (nxV (bkS n r).2 2) ∧ pick2 4 12 (nxV (bkS n r).2 2) ≤ 12 := pick2_in (p := fun z => 0 ≤ z ∧ z ≤ 12) (by decide) (by decide)
    have h := hours_len (n := bkN n r) (r := nxR (bkS n r).2 2) this.1
    show (hours _ _ _).1.length ≤ 12
    omega
  · refine iterI_mem (fun i r' => ?_) _ _
    show (lawBook n b r).off (nxV r' (bkN n r))
    exact nxV_off hn.symm (by omega)
  · show (iterI _ _ _).1.length ≤ 6
    rw [iterI_len]
    have h0 := nxV_0 (r := (bkC n r).2) (m := b + 1) (by omega)
    have h1 := nxV_1 (r := (bkC n r).2) (m := b + 1) (by omega)
    omega
section
variable {P : Program} {w : World} {K : PySem.W.Frag} {mg : Str → Option Value} {base : Heap} {T : Sta} {k : Nat} {X : Cx} {ks k1 k2 k3 : List SK} {a b e : Expr} {es : List Expr} {d da db : PyData} {ds : List PyData} {pos p tpos : Pos} {rest body orelse : List Stmt} {Φ : Po}
/-- a comprehension that changes nothing -/
theorem lc_filter {α : Type} (c : Ctx P w K mg base T k X) {elt tg iter : Expr} {ifs : List Expr} {scope : Scope} (own : List (Str × Nat)) {f : PyData → List SK → Option (List SK)} {js : List Nat} {xs : List α} {enc : α → PyData} (pr : α → Bool) (g : α → PyData)
    (ok : blkC T.N T.sc scope own = true) (hjs : js.all (fun j => (own.map (·.2)).contains j) = true) (hi : ID X ks tg iter k1 (xs.map enc))
    (nw : ∀ i ∈ own.map (·.2), ∃ k, k1[i]? = some k ∧ (k = .no ∨ ∃ d, k = .dat d))
    (hg : ∀ X', Ctx P w K mg base (Tb T scope) k X' → GD X' tg f js) (hz : xs.length < sizeLine)
    (turn : ∀ x ∈ xs, ∃ kb, f (enc x) (wipeK k1 (own.map (·.2))) = some kb ∧ (∀ X', Ctx P w K mg base (Tb T scope) k X' → TsD X' kb ifs kb (pr x)) ∧ Wk kb (wipeK k1 (own.map (·.2))) ∧ (pr x = true → ∀ X', Ctx P w K mg base (Tb T scope) k X' → ED X' kb elt kb (g x)))
    (hs : ∀ x, foldedSetIterable iter X.env x = pure x) : LC X ks (.ListComp elt [⟨tg, iter, ifs, 0⟩] scope pos) k1 ((xs.filter pr).map g) := by
  have key := lc_lc (pos := pos) c own (fun _ => k1) (fun i => ((xs.take i).filter pr).map g) ok hjs hi (fun i hi => by
    obtain ⟨k', h1, h2⟩ := nw i hi
    exact ⟨k', h1, h1, h2⟩) hg rfl (fun _ => rfl) (by simp) (by rw [List.length_map]; exact hz) (fun i d hd => by
    obtain ⟨x, hx, rfl⟩ := map_get hd
    obtain ⟨kb, e1, e2, e3, e4⟩ := turn x (List.mem_of_getElem? hx)
    refine ⟨kb, if pr x = true then some (g x) else none, e1, ⟨kb, pr x, e2, fun h => ⟨by rw [if_neg (by rw [h]; decide)], e3⟩, fun h => ⟨g x, kb, by rw [if_pos h], e4 h, e3⟩⟩, ?_⟩
    have ht : xs.take (i + 1) = xs.take i ++ [x] := by
      rw [List.take_succ, hx]; rfl
    rw [ht, List.filter_append, List.map_append]
    congr 1
    by_cases h : pr x = true
    · rw [if_pos h]; simp [h]
    · rw [if_neg h]; simp [h]) hs
  rw [List.length_map, List.take_length] at key
  exact key
theorem el_filter {α : Type} (c : Ctx P w K mg base T k X) {elt tg iter : Expr} {ifs : List Expr} {scope : Scope} (own : List (Str × Nat)) {f : PyData → List SK → Option (List SK)} {js : List Nat} {xs : List α} {enc : α → PyData} (pr : α → Bool) (g : α → PyData)
    (ok : blkC T.N T.sc scope own = true) (hjs : js.all (fun j => (own.map (·.2)).contains j) = true) (hi : ID X ks tg iter k1 (xs.map enc))
    (nw : ∀ i ∈ own.map (·.2), ∃ k, k1[i]? = some k ∧ (k = .no ∨ ∃ d, k = .dat d))
    (hg : ∀ X', Ctx P w K mg base (Tb T scope) k X' → GD X' tg f js) (hz : xs.length < sizeLine)
    (turn : ∀ x ∈ xs, ∃ kb, f (enc x) (wipeK k1 (own.map (·.2))) = some kb ∧ (∀ X', Ctx P w K mg base (Tb T scope) k X' → TsD X' kb ifs kb (pr x)) ∧ Wk kb (wipeK k1 (own.map (·.2))) ∧ (pr x = true → ∀ X', Ctx P w K mg base (Tb T scope) k X' → ED X' kb elt kb (g x)))
    (hs : ∀ x, foldedSetIterable iter X.env x = pure x) : EL X ks (.ListComp elt [⟨tg, iter, ifs, 0⟩] scope pos) k1 ((xs.filter pr).map g) := (lc_filter c own pr g ok hjs hi nw hg hz turn hs).el c
/-- a comprehension that draws at each turn -/
theorem lc_draw {α : Type} (c : Ctx P w K mg base T k X) {elt tg iter : Expr} {scope : Scope} (own : List (Str × Nat)) (h : Nat) {A B : Addr} {r : Rg} {f : PyData → List SK → Option (List SK)} {js : List Nat} {n : Nat} (fr : Nat → Rg → α × Rg) (g : α → PyData)
    (ok : blkC T.N T.sc scope own = true) (hjs : js.all (fun j => (own.map (·.2)).contains j) = true) (hi : ID X ks tg iter k1 (rngD n)) (hk : k1[h]? = some (.rng A B r)) (hh : h ∉ own.map (·.2))
    (nw : ∀ i ∈ own.map (·.2), ∃ k, k1[i]? = some k ∧ (k = .no ∨ ∃ d, k = .dat d))
    (hg : ∀ X', Ctx P w K mg base (Tb T scope) k X' → GD X' tg f js) (hz : n < sizeLine)
    (turn : ∀ i r', i < n → ∃ kb k3, f (.int (i : Nat)) (wipeK (k1.set h (.rng A B r')) (own.map (·.2))) = some kb ∧ (∀ X', Ctx P w K mg base (Tb T scope) k X' → ED X' kb elt k3 (g (fr i r').1)) ∧ Wk k3 (wipeK (k1.set h (.rng A B (fr i r').2)) (own.map (·.2))))
    (hs : ∀ x, foldedSetIterable iter X.env x = pure x) : LC X ks (.ListComp elt [⟨tg, iter, [], 0⟩] scope pos) (k1.set h (.rng A B (iterI fr n r).2)) ((iterI fr n r).1.map g) := by
  have hset : k1.set h (.rng A B r) = k1 := by
    apply List.ext_getElem?
    intro j
    by_cases q : h = j
    · subst q; rw [List.getElem?_set_self (List.getElem?_eq_some_iff.mp hk).1, hk]
    · rw [List.getElem?_set_ne q]
  have key := lc_lc (pos := pos) c own (fun i => k1.set h (.rng A B (iterI fr i r).2)) (fun i => (iterI fr i r).1.map g) ok hjs hi (fun i hi => by
    obtain ⟨k', h1, h2⟩ := nw i hi
    refine ⟨k', h1, ?_, h2⟩
    rw [List.getElem?_set_ne (show h ≠ i from fun z => hh (by rw [z]; exact hi))]; exact h1) hg hset (fun _ => by simp) rfl (by simp [rngD]; exact hz) (fun i d hd => by
    obtain ⟨hin, rfl⟩ := rngD_inv hd
    obtain ⟨kb, k3, e1, e2, e3⟩ := turn i (iterI fr i r).2 hin
    refine ⟨kb, some (g (fr i (iterI fr i r).2).1), e1, ⟨kb, true, fun X' _ => ts_nil, (fun h => by cases h), fun _ => ⟨_, k3, rfl, e2, e3⟩⟩, ?_⟩
    show List.map g ((iterI fr i r).1 ++ [_]) = _
    rw [List.map_append]; rfl) hs
  have hl : (rngD n).length = n := by simp [rngD]
  rw [hl] at key
  exact key
theorem el_draw {α : Type} (c : Ctx P w K mg base T k X) {elt tg iter : Expr} {scope : Scope} (own : List (Str × Nat)) (h : Nat) {A B : Addr} {r : Rg} {f : PyData → List SK → Option (List SK)} {js : List Nat} {n : Nat} (fr : Nat → Rg → α × Rg) (g : α → PyData)
    (ok : blkC T.N T.sc scope own = true) (hjs : js.all (fun j => (own.map (·.2)).contains j) = true) (hi : ID X ks tg iter k1 (rngD n)) (hk : k1[h]? = some (.rng A B r)) (hh : h ∉ own.map (·.2))
    (nw : ∀ i ∈ own.map (·.2), ∃ k, k1[i]? = some k ∧ (k = .no ∨ ∃ d, k = .dat d))
    (hg : ∀ X', Ctx P w K mg base (Tb T scope) k X' → GD X' tg f js) (hz : n < sizeLine)
    (turn : ∀ i r', i < n → ∃ kb k3, f (.int (i : Nat)) (wipeK (k1.set h (.rng A B r')) (own.map (·.2))) = some kb ∧ (∀ X', Ctx P w K mg base (Tb T scope) k X' → ED X' kb elt k3 (g (fr i r').1)) ∧ Wk k3 (wipeK (k1.set h (.rng A B (fr i r').2)) (own.map (·.2))))
    (hs : ∀ x, foldedSetIterable iter X.env x = pure x) : EL X ks (.ListComp elt [⟨tg, iter, [], 0⟩] scope pos) (k1.set h (.rng A B (iterI fr n r).2)) ((iterI fr n r).1.map g) := (lc_draw c own h fr g ok hjs hi hk hh nw hg hz turn hs).el c
end
end Z
namespace Z
open PySem PySem.Spec L2
variable [Tabl]
section
variable {P : Program} {w : World} {K : PySem.W.Frag} {mg : Str → Option Value} {base : Heap} {T : Sta} {k : Nat} {X : Cx} {ks k1 k2 k3 : List SK} {a b e : Expr} {es : List Expr} {d da db : PyData} {ds : List PyData} {pos p tpos : Pos} {rest body orelse : List Stmt} {Φ : Po}
/-- both arms end in a word, the rest is walked once -/
theorem sd_ifJ {t : Expr} {c : Bool} (J : List SK → Prop) (h : TD X ks t k1 c) (h1 : c = true → SD X k1 body { Φ with nx := J }) (h0 : c = false → SD X k1 orelse { Φ with nx := J }) (tail : ∀ k, J k → SD X k rest Φ) : SD X ks (.If t body orelse pos :: rest) Φ :=
  sd_if h (fun e => (h1 e).imp tail (fun _ _ z => z) (fun _ _ z => z) (fun _ z => z) (fun _ z => z) (fun _ _ _ z => z) (fun _ _ z => z)) (fun e => (h0 e).imp tail (fun _ _ z => z) (fun _ _ z => z) (fun _ z => z) (fun _ z => z) (fun _ _ _ z => z) (fun _ _ z => z))
theorem SD.nxW {L L' : List SK} {rt : List SK → PyData → Prop} {rl : List SK → List PyData → Prop} {bk : List SK → Prop} {rT : List SK → List PyData → List PyData → Prop} {ex : Value → List (Str × PyData) → Prop} (e : L = L') (h : SD X ks rest ⟨fun k => Wk k L', rt, rl, bk, fun k => Wk k L', rT, ex⟩) : SD X ks rest ⟨fun k => Wk k L, rt, rl, bk, fun k => Wk k L, rT, ex⟩ := e ▸ h
theorem rngD_len (n : Nat) : (rngD n).length = n := by simp [rngD]
/-- what a law's call begins with -/
theorem sp_law {R : List PyData → PyData → Prop} (hR : ∀ ns : List Int, ns.length ≤ 63 → R [.list (ns.map .int)] (.bool true)) (H : Hp) (a : Addr) (ns : List Int) (hl : ns.length ≤ 63) (hT : LamX.Tabs Tabl.T H) (hS : SqL K H a (ns.map V.int)) : spP K R [.ref a] H (fun v _ => v = .bl true) fun _ _ _ => False :=
by
  classical
  refine ⟨fun b => if ∃ ps, H b = some (.tbl ps) then none else H b, [.list (ns.map .int)], .bool true, fun b u e => ?_, ⟨fun p hp => ?_, hT⟩, .cons (.lst ?_ DpAll.ints) .nil, hR ns hl, fun v G2 H2 _ r => r.bl_inv⟩
  · have e : (if ∃ ps, H b = some (.tbl ps) then none else H b) = some u := e
    split at e
    · cases e
    · exact e
  · obtain ⟨ps, h, _⟩ := hT p hp
    exact if_pos ⟨ps, h⟩
  · rcases hS with (h | ⟨o, h⟩) | h
    · refine .inl (.inl ?_)
      show (if ∃ ps, H a = some (.tbl ps) then none else H a) = _
      rw [h, if_neg (fun ⟨ps, z⟩ => by cases z)]
    · refine .inl (.inr ⟨o, ?_⟩)
      show (if ∃ ps, H a = some (.tbl ps) then none else H a) = _
      rw [h, if_neg (fun ⟨ps, z⟩ => by cases z)]
    · exact .inr h
/-- _law_h = [c, list(..), 0] -/
theorem sd_rngNew (c : Ctx P w K mg base T k X) (i : Nat) {x : Str} {c0 : Int} {ns : List Int} {q0 q1 q2 q3 q4 : Pos} {j0 j2 : Nat} (hi : T.N[i]? = some x) (hx : Loc T.sc x) (hf : T.fn x = true ∨ T.sc.names.lookup x = some .local) (hl : i < ks.length)
    (hg : T.sc.names.lookup ("list" : Str) = some .globalImplicit) (hm : mg "list" = none) (h : ED X ks e ks (.list (ns.map .int)))
    (hs : swapsWith (.List [.Constant (.int c0) j0 q0, .Call (.Name "list" q1) [e] [] q2, .Constant (.int 0) j2 q3] q4) (some (.Name x p)) pos.line X.env = pure false)
    (he : starEach [e] X.env = (false, eval e X.env) :: starEach [] X.env)
    (q : ∀ A B, SD X (ks.set i (.rng A B ⟨c0, ns, 0⟩)) rest Φ) : SD X ks (.Assign [.Name x p] (.List [.Constant (.int c0) j0 q0, .Call (.Name "list" q1) [e] [] q2, .Constant (.int 0) j2 q3] q4) pos :: rest) Φ := fun W σ G H D S M => by
  refine sv_of (pss_cons (ps_set (nd_of c) (ix_of c hi) (loc_of c hx) (pe_lst (pa_cons pe_int (pa_cons (pe_callTy call_list_of (gl_of c hg) (by rw [c.hmg]; exact hm) PyProof.Rows.boot_list (pa_cons pe_ev pa_nil he) (he := he)) (pa_cons pe_int pa_nil)))) hs (fn_of' c hf)) pss_sv) ?_
  refine h W σ G H S _ fun v G1 H1 S1 g1 r1 => ?_
  obtain ⟨B0, us, rfl, sq, au⟩ := r1.lst_inv
  have eu := au.ints_inv
  subst eu
  refine ⟨B0, _, rfl, .inl (S1.gh.seq sq), fun B nB => ?_⟩
  refine ⟨by show 3 ≤ sizeLine; exact Nat.le_of_ble_eq_true rfl, fun A nA => ?_⟩
  have nab : B ≠ A := ne_of_none (H := upd H1 B _) upd_same nA
  have gA : G1 A = none := by
    cases e : G1 A with
    | none => rfl
    | some u =>
      have := S1.gh A u e
      rw [upd_ne (Ne.symm nab), this] at nA; cases nA
  have gB : G1 B = none := by
    cases e : G1 B with
    | none => rfl
    | some u => rw [S1.gh B u e] at nB; cases nB
  have l1 := Lp.newOwn (o := .lst (ns.map V.int)) S1.gh nB
  have l2 := Lp.newOwn (o := .lst [.int c0, .ref B, .int 0]) l1.gh nA
  have ll := l1.trans l2
  refine q A B W _ G1 _ D (S1.put hl (S1.le.trans ll) (Same.refl _) (fun _ _ e _ => e) fun ow o f => ⟨fun j b hj hb u hu => ll.keep b u (fun z => z) hu, [A, B], ⟨rfl, rfl, upd_same, ?_, Ne.symm nab⟩, fun b hb => ?_⟩) M
  · rw [upd_ne nab]; exact upd_same
  · have wn : ∀ z, H1 z = none → (∀ j, z ∉ ow j) ∧ W.H z = none := fun z hz => by
      refine ⟨fun j hj => ?_, ?_⟩
      · obtain ⟨u, hu⟩ := o.live f j z hj
        rw [hz] at hu; cases hu
      · cases e : W.H z with
        | none => rfl
        | some u =>
          obtain ⟨u', e'⟩ := S1.le.there z u e
          rw [hz] at e'; cases e'
    rcases (show b = A ∨ b = B by simpa using hb) with z | z <;> subst z
    · have := wn b (by rw [upd_ne (Ne.symm nab)] at nA; exact nA)
      exact ⟨fun j _ => this.1 j, gA, .inl this.2⟩
    · have := wn b nB
      exact ⟨fun j _ => this.1 j, gB, .inl this.2⟩
end
end Z
namespace Z
open PySem PySem.Spec L2
/-! ### the earliest hours: plain -/
structure Edge where
  a : Int
  b : Int
  go : Int → Option Int
structure Edge.Ok (e : Edge) : Prop where
  mono : ∀ v v' t', v ≤ v' → e.go v' = some t' → ∃ t, e.go v = some t ∧ t ≤ t'
  late : ∀ v t, e.go v = some t → v < t
abbrev Dt := Int → Option Int
/-- D is nowhere later than D' -/
def NL (D D' : Dt) : Prop := ∀ o t, D' o = some t → ∃ u, D o = some u ∧ u ≤ t
theorem NL.rfl {D : Dt} : NL D D := fun o t h => ⟨t, h, Int.le_refl t⟩
theorem NL.trans {D D' D2 : Dt} (h : NL D D') (h' : NL D' D2) : NL D D2 := fun o t e => by
  obtain ⟨u, e', l⟩ := h' o t e
  obtain ⟨u', e2, l'⟩ := h o u e'
  exact ⟨u', e2, Int.le_trans l' l⟩
theorem NL.anti {D D' : Dt} (h : NL D D') (h' : NL D' D) : D = D' := by
  funext o
  cases e : D o with
  | none =>
    cases e' : D' o with
    | none => rfl
    | some t =>
      obtain ⟨u, e2, _⟩ := h o t e'
      rw [e] at e2; cases e2
  | some t =>
    obtain ⟨u, e2, l⟩ := h' o t e
    obtain ⟨u', e3, l'⟩ := h o u e2
    rw [e] at e3
    cases e3
    rw [e2, Int.le_antisymm l l']
structure Sound (E : Edge → Prop) (bs : Int × Int → Prop) (D : Dt) : Prop where
  pos : ∀ o t, D o = some t → 0 ≤ t
  from_ : ∀ o t, D o = some t → bs (o, t) ∨ ∃ e, E e ∧ e.b = o ∧ ∃ v u, D e.a = some v ∧ e.go v = some u ∧ u ≤ t
structure Stable (E : Edge → Prop) (bs : Int × Int → Prop) (D : Dt) : Prop where
  beg : ∀ o t, bs (o, t) → ∃ u, D o = some u ∧ u ≤ t
  ed : ∀ e, E e → ∀ v t, D e.a = some v → e.go v = some t → ∃ u, D e.b = some u ∧ u ≤ t
section
variable {E E' : Edge → Prop} {bs bs' : Int × Int → Prop} {D D' : Dt}
theorem snd_le (hE : ∀ e, E e → e.Ok) (S : Sound E bs D) (T : Stable E bs D') : NL D' D := by
  have : ∀ (n : Nat) o t, t.toNat < n → D o = some t → ∃ u, D' o = some u ∧ u ≤ t := by
    intro n
    induction n with
    | zero => intro o t h; exact absurd h (Nat.not_lt_zero _)
    | succ n ih =>
      intro o t hn ht
      have p := S.pos o t ht
      rcases S.from_ o t ht with h | ⟨e, he, rfl, v, u, h1, h2, h3⟩
      · exact T.beg o t h
      · have lv := (hE e he).late v u h2
        have pv := S.pos _ _ h1
        obtain ⟨v', h4, h5⟩ := ih e.a v (by omega) h1
        obtain ⟨u', h6, h7⟩ := (hE e he).mono v' v u h5 h2
        obtain ⟨z, h8, h9⟩ := T.ed e he v' u' h4 h6
        exact ⟨z, h8, by omega⟩
  exact fun o t h => this _ o t (Nat.lt_succ_self _) h
theorem sp_uniq (hE : ∀ e, E e → e.Ok) (S : Sound E bs D) (T : Stable E bs D) (S' : Sound E bs D') (T' : Stable E bs D') : D = D' := NL.anti (snd_le hE S' T) (snd_le hE S T')
/-- what is soundly there stays soundly there when all else comes earlier -/
theorem Sound.earlier (hE : ∀ e, E e → e.Ok) (l : NL D' D) {o t : Int} (h : bs (o, t) ∨ ∃ e, E e ∧ e.b = o ∧ ∃ v u, D e.a = some v ∧ e.go v = some u ∧ u ≤ t) : bs (o, t) ∨ ∃ e, E e ∧ e.b = o ∧ ∃ v u, D' e.a = some v ∧ e.go v = some u ∧ u ≤ t := by
  rcases h with h | ⟨e, he, hb, v, u, h1, h2, h3⟩
  · exact .inl h
  · obtain ⟨v', h4, h5⟩ := l _ _ h1
    obtain ⟨u', h6, h7⟩ := (hE e he).mono v' v u h5 h2
    exact .inr ⟨e, he, hb, v', u', h4, h6, by omega⟩
end
def better (u : Option Int) (t : Int) : Bool := match u with
  | none => true
  | some u => decide (t < u)
def upD (D : Dt) (o : Int) (t : Option Int) : Dt := fun x => if x = o then t else D x
theorem upD_at {D : Dt} {o : Int} {t : Option Int} : upD D o t o = t := if_pos rfl
theorem upD_ne {D : Dt} {o x : Int} {t : Option Int} (h : x ≠ o) : upD D o t x = D x := if_neg h
def low (D : Dt) (o t : Int) : Dt := if better (D o) t = true then upD D o (some t) else D
theorem low_le {D : Dt} {o t : Int} : NL (low D o t) D := fun x s h => by
  unfold low
  by_cases q : better (D o) t = true
  · rw [if_pos q]
    by_cases qx : x = o
    · subst qx
      rw [h] at q
      exact ⟨t, upD_at, by have : t < s := of_decide_eq_true q; omega⟩
    · exact ⟨s, by rw [upD_ne qx]; exact h, Int.le_refl _⟩
  · rw [if_neg q]; exact ⟨s, h, Int.le_refl _⟩
theorem low_at {D : Dt} {o t : Int} : ∃ u, low D o t o = some u ∧ u ≤ t := by
  unfold low
  by_cases q : better (D o) t = true
  · rw [if_pos q]; exact ⟨t, upD_at, Int.le_refl _⟩
  · rw [if_neg q]
    cases e : D o with
    | none => rw [e] at q; exact absurd rfl q
    | some u =>
      rw [e] at q
      exact ⟨u, rfl, by have : ¬ t < u := fun z => q (decide_eq_true z); omega⟩
theorem low_inv {D : Dt} {o t x s : Int} (h : low D o t x = some s) : (x = o ∧ s = t) ∨ D x = some s := by
  unfold low at h
  split at h
  · by_cases q : x = o
    · subst q; rw [upD_at] at h; cases h; exact .inl ⟨rfl, rfl⟩
    · rw [upD_ne q] at h; exact .inr h
  · exact .inr h
section
variable {E E' : Edge → Prop} {bs bs' : Int × Int → Prop} {D D' : Dt}
theorem Sound.low (hE : ∀ e, E e → e.Ok) (S : Sound E bs D) {o t : Int} (p : 0 ≤ t) (h : bs (o, t) ∨ ∃ e, E e ∧ e.b = o ∧ ∃ v u, D e.a = some v ∧ e.go v = some u ∧ u ≤ t) : Sound E bs (low D o t) := by
  refine ⟨fun x s hs => ?_, fun x s hs => ?_⟩
  · rcases low_inv hs with ⟨_, rfl⟩ | z
    · exact p
    · exact S.pos x s z
  · rcases low_inv hs with ⟨rfl, rfl⟩ | z
    · exact Sound.earlier hE low_le h
    · exact Sound.earlier hE low_le (S.from_ x s z)
def rel (D : Dt) (e : Edge) : Dt := match D e.a with
  | none => D
  | some v => match e.go v with
    | none => D
    | some t => low D e.b t
theorem rel_le {D : Dt} {e : Edge} : NL (rel D e) D := by
  unfold rel
  cases D e.a with
  | none => exact NL.rfl
  | some v =>
    dsimp only
    cases e.go v with
    | none => exact NL.rfl
    | some t => exact low_le
theorem Sound.rel (hE : ∀ e, E e → e.Ok) {e : Edge} (he : E e) (S : Sound E bs D) : Sound E bs (rel D e) := by
  unfold Z.rel
  cases h : D e.a with
  | none => exact S
  | some v =>
    dsimp only
    cases h' : e.go v with
    | none => exact S
    | some t =>
      have := (hE e he).late v t h'
      have := S.pos _ _ h
      exact S.low hE (by omega) (.inr ⟨e, he, rfl, v, t, h, h', Int.le_refl _⟩)
def rnd (es : List Edge) (D : Dt) : Dt := es.foldl Z.rel D
def its (es : List Edge) : Nat → Dt → Dt
  | 0, D => D
  | k + 1, D => rnd es (its es k D)
theorem rnd_le : ∀ (es : List Edge) (D : Dt), NL (rnd es D) D
  | [], D => NL.rfl
  | e :: es, D => (rnd_le es (Z.rel D e)).trans rel_le
theorem Sound.rnd (hE : ∀ e, E e → e.Ok) : ∀ {es : List Edge} {D : Dt}, (∀ e ∈ es, E e) → Sound E bs D → Sound E bs (rnd es D)
  | [], D, _, S => S
  | e :: es, D, h, S => Sound.rnd hE (es := es) (fun x hx => h x (List.mem_cons_of_mem _ hx)) (S.rel hE (h e List.mem_cons_self))
theorem Sound.its (hE : ∀ e, E e → e.Ok) {es : List Edge} {D : Dt} (h : ∀ e ∈ es, E e) (S : Sound E bs D) : ∀ k, Sound E bs (its es k D)
  | 0 => S
  | k + 1 => (Sound.its hE h S k).rnd hE h
/-- behind a round, an edge of it has been gone -/
theorem rnd_gone (hE : ∀ e, E e → e.Ok) : ∀ {es : List Edge} {D : Dt} {e : Edge}, (∀ e ∈ es, E e) → e ∈ es → ∀ v t, D e.a = some v → e.go v = some t → ∃ u, Z.rnd es D e.b = some u ∧ u ≤ t
  | x :: es, D, e, h, hm, v, t, hv, ht => by
    by_cases q : e = x
    · subst q
      have : ∃ u, Z.rel D e e.b = some u ∧ u ≤ t := by
        unfold Z.rel
        rw [hv]
        dsimp only
        rw [ht]
        exact low_at
      obtain ⟨u, h1, h2⟩ := this
      obtain ⟨z, h3, h4⟩ := rnd_le es (Z.rel D e) _ _ h1
      exact ⟨z, h3, by omega⟩
    · have hm' := (List.mem_cons.mp hm).resolve_left q
      obtain ⟨v', h1, h2⟩ := rel_le (D := D) (e := x) _ _ hv
      obtain ⟨t', h3, h4⟩ := (hE e (h e hm)).mono v' v t h2 ht
      obtain ⟨u, h5, h6⟩ := rnd_gone hE (es := es) (D := Z.rel D x) (fun y hy => h y (List.mem_cons_of_mem _ hy)) hm' v' t' h1 h3
      exact ⟨u, h5, by omega⟩
/-- a round that changes nothing ends in what is stable -/
theorem stable_of_rnd (hE : ∀ e, E e → e.Ok) {es : List Edge} (h : ∀ e, E e ↔ e ∈ es) (hb : ∀ o t, bs (o, t) → ∃ u, D o = some u ∧ u ≤ t) (e0 : Z.rnd es D = D) : Stable E bs D :=
  ⟨hb, fun e he v t hv ht => by
    obtain ⟨u, h1, h2⟩ := rnd_gone hE (fun e he => (h e).mpr he) ((h e).mp he) v t hv ht
    rw [e0] at h1
    exact ⟨u, h1, h2⟩⟩
/-! ### there is one -/
inductive Ach (E : Edge → Prop) (bs : Int × Int → Prop) : Int → Int → Prop
  | beg {o t : Int} : bs (o, t) → Ach E bs o t
  | ed {e : Edge} {v t : Int} : E e → Ach E bs e.a v → e.go v = some t → Ach E bs e.b t
theorem least {p : Nat → Prop} {n : Nat} (h : p n) : ∃ m, p m ∧ ∀ k, p k → m ≤ k := by
  induction n using Nat.strongRecOn with
  | _ n ih =>
    by_cases q : ∃ k, p k ∧ k < n
    · obtain ⟨k, h1, h2⟩ := q
      exact ih k h2 h1
    · exact ⟨n, h, fun k hk => Nat.le_of_not_lt fun z => q ⟨k, hk, z⟩⟩
theorem sp_exists (hE : ∀ e, E e → e.Ok) (hb : ∀ o t, bs (o, t) → 0 ≤ t) : ∃ D, Sound E bs D ∧ Stable E bs D := by
  have pos : ∀ o t, Ach E bs o t → 0 ≤ t := fun o t h => by
    induction h with
    | beg h => exact hb _ _ h
    | ed he _ hg ih => have := (hE _ he).late _ _ hg; omega
  have mn : ∀ o, (∃ t, Ach E bs o t) → ∃ t, Ach E bs o t ∧ ∀ s, Ach E bs o s → t ≤ s := fun o ⟨t, h⟩ => by
    have h' : Ach E bs o ((t.toNat : Nat) : Int) := by
      have := pos o t h
      rw [show ((t.toNat : Nat) : Int) = t by omega]; exact h
    obtain ⟨m, h1, h2⟩ := least (p := fun n => Ach E bs o (n : Int)) h'
    refine ⟨m, h1, fun s hs => ?_⟩
    have := pos o s hs
    have := h2 s.toNat (by rw [show ((s.toNat : Nat) : Int) = s by omega]; exact hs)
    omega
  have key : ∀ o, ∃ r : Option Int, (∀ t, r = some t → Ach E bs o t ∧ ∀ s, Ach E bs o s → t ≤ s) ∧ (r = none → ¬ ∃ t, Ach E bs o t) := fun o => by
    by_cases q : ∃ t, Ach E bs o t
    · obtain ⟨t, h1, h2⟩ := mn o q
      exact ⟨some t, fun s e => by cases e; exact ⟨h1, h2⟩, fun e => by cases e⟩
    · exact ⟨none, (fun s e => by cases e), fun _ => q⟩
  obtain ⟨D, hD⟩ : ∃ D : Dt, ∀ o, (∀ t, D o = some t → Ach E bs o t ∧ ∀ s, Ach E bs o s → t ≤ s) ∧ (D o = none → ¬ ∃ t, Ach E bs o t) := ⟨fun o => (key o).choose, fun o => (key o).choose_spec⟩
  have at_ : ∀ o t, Ach E bs o t → ∃ u, D o = some u ∧ u ≤ t := fun o t h => by
    cases e : D o with
    | none => exact absurd ⟨t, h⟩ ((hD o).2 e)
    | some u => exact ⟨u, rfl, ((hD o).1 u e).2 t h⟩
  refine ⟨D, ⟨fun o t h => pos o t ((hD o).1 t h).1, fun o t h => ?_⟩, ⟨fun o t h => at_ o t (.beg h), fun e he v t hv ht => at_ _ _ (.ed he ((hD _).1 v hv).1 ht)⟩⟩
  have := ((hD o).1 t h).1
  cases this with
  | beg h => exact .inl h
  | ed he ha hg =>
    rename_i e v
    obtain ⟨v', h1, h2⟩ := at_ _ _ ha
    obtain ⟨t', h3, h4⟩ := (hE e he).mono v' v t h2 hg
    exact .inr ⟨e, he, rfl, v', t', h1, h3, h4⟩
open Classical in
/-- the earliest hours -/
noncomputable def Sp (E : Edge → Prop) (bs : Int × Int → Prop) : Dt := if h : ∃ D, Sound E bs D ∧ Stable E bs D then h.choose else fun _ => none
theorem sp_spec (hE : ∀ e, E e → e.Ok) (hb : ∀ o t, bs (o, t) → 0 ≤ t) : Sound E bs (Sp E bs) ∧ Stable E bs (Sp E bs) := by
  have h := sp_exists hE hb
  unfold Sp
  rw [dif_pos h]
  exact h.choose_spec
theorem sp_is (hE : ∀ e, E e → e.Ok) (hb : ∀ o t, bs (o, t) → 0 ≤ t) (S : Sound E bs D) (T : Stable E bs D) : D = Sp E bs := sp_uniq hE S T (sp_spec hE hb).1 (sp_spec hE hb).2
/-! ### how many rounds do -/
theorem countP_lt {α : Type} {p q : α → Bool} : ∀ {l : List α}, (∀ x, p x = true → q x = true) → (∃ y ∈ l, q y = true ∧ p y = false) → l.countP p < l.countP q
  | [], _, ⟨y, h, _⟩ => by cases h
  | x :: l, h, ⟨y, hy, h1, h2⟩ => by
    have mono : ∀ l : List α, l.countP p ≤ l.countP q := fun l => List.countP_mono_left fun x _ => h x
    rcases List.mem_cons.mp hy with e | e
    · subst e
      rw [List.countP_cons_of_neg (by rw [h2]; decide), List.countP_cons_of_pos h1]
      have := mono l
      omega
    · have ih := countP_lt (l := l) h ⟨y, e, h1, h2⟩
      rw [List.countP_cons, List.countP_cons]
      by_cases z : p x = true
      · rw [if_pos z, if_pos (h x z)]; omega
      · rw [if_neg z]; omega
def within (D : Dt) (t : Int) (b : Int) : Bool := match D b with
  | none => false
  | some u => decide (u ≤ t)
def rank (T : List Int) (D : Dt) (o : Int) : Nat := match D o with
  | none => 0
  | some t => T.countP (within D t)
theorem rank_lt {T : List Int} {D : Dt} {a b v t : Int} (hb : b ∈ T) (ha : D a = some v) (h : D b = some t) (l : v < t) : rank T D a < rank T D b := by
  unfold rank
  rw [ha, h]
  refine countP_lt (fun x hx => ?_) ⟨b, hb, ?_, ?_⟩
  · unfold within at hx ⊢
    cases e : D x with
    | none => rw [e] at hx; cases hx
    | some u =>
      rw [e] at hx
      have : u ≤ v := of_decide_eq_true hx
      exact decide_eq_true (by omega)
  · unfold within; rw [h]; exact decide_eq_true (Int.le_refl t)
  · unfold within; rw [h]; exact decide_eq_false (by omega)
theorem rounds (hE : ∀ e, E e → e.Ok) {es : List Edge} (h : ∀ e, E e ↔ e ∈ es) {Q : Dt} (SQ : Sound E bs Q) (TQ : Stable E bs Q) (S : Sound E bs D) (hb : ∀ o t, bs (o, t) → ∃ u, D o = some u ∧ u ≤ t) (T : List Int) (hT : ∀ e, E e → e.b ∈ T) :
    ∀ k o t, Q o = some t → rank T Q o ≤ k + 1 → its es k D o = some t ∨ (∃ e, E e ∧ e.b = o ∧ ∃ v, Q e.a = some v ∧ v < t ∧ k + 1 ≤ rank T Q e.a + 1 ∧ rank T Q e.a < rank T Q o) := by
  intro k
  have lowQ : ∀ k, NL Q (its es k D) := fun k => snd_le hE (Sound.its hE (fun e he => (h e).mpr he) S k) TQ
  induction k with
  | zero =>
    intro o t ht hr
    rcases SQ.from_ o t ht with z | ⟨e, he, hb', v, u, h1, h2, h3⟩
    · obtain ⟨u, h1, h2⟩ := hb o t z
      obtain ⟨u', h3, h4⟩ := lowQ 0 o u h1
      rw [ht] at h3
      cases h3
      left
      show D o = some t
      rw [h1]; congr 1; omega
    · have lv := (hE e he).late v u h2
      refine .inr ⟨e, he, hb', v, h1, by omega, by omega, ?_⟩
      subst hb'
      exact rank_lt (hT e he) h1 ht (by omega)
  | succ k ih =>
    intro o t ht hr
    rcases SQ.from_ o t ht with z | ⟨e, he, hb', v, u, h1, h2, h3⟩
    · obtain ⟨u, h1, h2⟩ := hb o t z
      have : NL (its es (k + 1) D) D := by
        generalize k + 1 = m
        clear ih hr
        induction m with
        | zero => exact NL.rfl
        | succ m ih => exact (rnd_le es _).trans ih
      obtain ⟨u', h3, h4⟩ := this o u h1
      obtain ⟨u2, h5, h6⟩ := lowQ (k + 1) o u' h3
      rw [ht] at h5
      cases h5
      left
      rw [h3]; congr 1; omega
    · have lv := (hE e he).late v u h2
      subst hb'
      have rk := rank_lt (hT e he) h1 ht (show v < t by omega)
      by_cases q : rank T Q e.a ≤ k
      · left
        have : its es k D e.a = some v := by
          rcases ih e.a v h1 (by omega) with z | ⟨e', he', hb2, v', h4, h5, h6, h7⟩
          · exact z
          · omega
        obtain ⟨u', h4, h5⟩ := rnd_gone hE (D := its es k D) (fun e he => (h e).mpr he) ((h e).mp he) v u this h2
        obtain ⟨u2, h6, h7⟩ := lowQ (k + 1) _ _ h4
        rw [ht] at h6
        cases h6
        show rnd es (its es k D) e.b = some t
        rw [h4]; congr 1; omega
      · exact .inr ⟨e, he, rfl, v, h1, by omega, by omega, rk⟩
theorem rank_le {T : List Int} {D : Dt} {o : Int} : rank T D o ≤ T.length := by
  unfold rank
  cases D o with
  | none => exact Nat.zero_le _
  | some t => exact List.countP_le_length
theorem rounds_do (hE : ∀ e, E e → e.Ok) {es : List Edge} (h : ∀ e, E e ↔ e ∈ es) {Q : Dt} (SQ : Sound E bs Q) (TQ : Stable E bs Q) (S : Sound E bs D) (hb : ∀ o t, bs (o, t) → ∃ u, D o = some u ∧ u ≤ t) (T : List Int) (hT : ∀ e, E e → e.b ∈ T) {k : Nat} (hk : T.length ≤ k) :
    its es k D = Q := by
  have lowQ : NL Q (its es k D) := snd_le hE (Sound.its hE (fun e he => (h e).mpr he) S k) TQ
  refine NL.anti (fun o t ht => ?_) lowQ
  have rl := rank_le (T := T) (D := Q) (o := o)
  rcases rounds hE h SQ TQ S hb T hT k o t ht (by omega) with z | ⟨e, he, hb', v, h1, h2, h3, h4⟩
  · exact ⟨t, z, Int.le_refl _⟩
  · omega
end
/-! ### hours as a list -/
def oD : Option Int → PyData
  | none => .none
  | some t => .int t
def fl (n : Nat) (D : Dt) : List PyData := (List.range n).map fun (i : Nat) => oD (D (i : Int))
theorem fl_len {n : Nat} {D : Dt} : (fl n D).length = n := by simp [fl]
theorem fl_get {n i : Nat} {D : Dt} (h : i < n) : (fl n D)[i]? = some (oD (D (i : Int))) := by simp [fl, h]
theorem fl_at {n : Nat} {D : Dt} {o : Int} (h : 0 ≤ o ∧ o < (n : Int)) : L2.atI (fl n D) o = some (oD (D o)) := by
  obtain ⟨i, rfl⟩ : ∃ i : Nat, o = (i : Int) := ⟨o.toNat, by omega⟩
  exact L2.atI_nat (fl_get (by omega))
theorem fl_ix {n : Nat} {D : Dt} {o : Int} (h : 0 ≤ o ∧ o < (n : Int)) : ixD (.list (fl n D)) o = some (oD (D o)) := fl_at h
theorem fl_set {n : Nat} {D : Dt} {o : Int} {x : Option Int} (h : 0 ≤ o ∧ o < (n : Int)) : (fl n D).set o.toNat (oD x) = fl n (upD D o x) := by
  obtain ⟨i, rfl⟩ : ∃ i : Nat, o = (i : Int) := ⟨o.toNat, by omega⟩
  rw [Int.toNat_natCast]
  apply List.ext_getElem?
  intro j
  by_cases q : i = j
  · subst q
    rw [List.getElem?_set_self (by rw [fl_len]; omega), fl_get (by omega), upD_at]
  · rw [List.getElem?_set_ne q]
    by_cases qj : j < n
    · rw [fl_get qj, fl_get qj, upD_ne (by omega)]
    · rw [List.getElem?_eq_none (by rw [fl_len]; omega), List.getElem?_eq_none (by rw [fl_len]; omega)]
theorem fl_ixN {n : Nat} {D : Dt} {o : Int} (h : 0 ≤ o ∧ o < (n : Int)) : L2.ixN (fl n D).length o = some o.toNat := by
  obtain ⟨i, rfl⟩ : ∃ i : Nat, o = (i : Int) := ⟨o.toNat, by omega⟩
  rw [fl_len]
  unfold L2.ixN
  rw [if_pos (by omega), if_pos (by omega)]
theorem fl_none {n : Nat} : fl n (fun _ => none) = List.replicate n .none := by
  apply List.ext_getElem?
  intro j
  by_cases qj : j < n
  · rw [fl_get qj]; simp [oD, qj]
  · rw [List.getElem?_eq_none (by rw [fl_len]; omega), List.getElem?_eq_none (by simp; omega)]
theorem nb_oD {t : Option Int} : nb (oD t) = true := by cases t <;> rfl
theorem nb_fl {n : Nat} {D : Dt} : nb (.list (fl n D)) = true := nb_list (allM fun _ _ => nb_oD)
theorem shp_oD {k : Nat} (t : Option Int) : Shp k (oD t) := by cases t <;> first | exact .non | exact .int _
theorem shp_fl {n k : Nat} {D : Dt} : Shp (k + 1) (.list (fl n D)) := .list (allM fun _ _ => shp_oD _)
end Z
namespace Z
open PySem PySem.Spec L2
variable [Tabl]
section
variable {P : Program} {w : World} {K : PySem.W.Frag} {mg : Str → Option Value} {base : Heap} {T : Sta} {k : Nat} {X : Cx} {ks k1 k2 k3 : List SK} {a b e : Expr} {es : List Expr} {d da db : PyData} {ds : List PyData} {pos p tpos : Pos} {rest body orelse : List Stmt} {Φ : Po}
theorem SD.to {ls : List SK} (e : ks = ls) (h : SD X ls rest Φ) : SD X ks rest Φ := e ▸ h
/-- [g for .. in ..] -/
theorem lc_map {α : Type} (c : Ctx P w K mg base T k X) {elt tg iter : Expr} {scope : Scope} (own : List (Str × Nat)) {f : PyData → List SK → Option (List SK)} {js : List Nat} {xs : List α} {enc : α → PyData} (g : α → PyData)
    (ok : blkC T.N T.sc scope own = true) (hjs : js.all (fun j => (own.map (·.2)).contains j) = true) (hi : ID X ks tg iter k1 (xs.map enc))
    (nw : ∀ i ∈ own.map (·.2), ∃ k, k1[i]? = some k ∧ (k = .no ∨ ∃ d, k = .dat d))
    (hg : ∀ X', Ctx P w K mg base (Tb T scope) k X' → GD X' tg f js) (hz : xs.length < sizeLine)
    (turn : ∀ x ∈ xs, ∃ kb, f (enc x) (wipeK k1 (own.map (·.2))) = some kb ∧ (∀ X', Ctx P w K mg base (Tb T scope) k X' → ED X' kb elt kb (g x)) ∧ Wk kb (wipeK k1 (own.map (·.2))))
    (hs : ∀ x, foldedSetIterable iter X.env x = pure x) : LC X ks (.ListComp elt [⟨tg, iter, [], 0⟩] scope pos) k1 (xs.map g) := by
  have key := lc_filter (pos := pos) c own (xs := xs) (enc := enc) (fun _ => true) g ok hjs hi nw hg hz (fun x hx => by
    obtain ⟨kb, h1, h2, h3⟩ := turn x hx
    exact ⟨kb, h1, fun X' _ => ts_nil, h3, fun _ => h2⟩) hs
  rw [List.filter_eq_self.mpr (fun _ _ => rfl)] at key
  exact key
theorem el_map {α : Type} (c : Ctx P w K mg base T k X) {elt tg iter : Expr} {scope : Scope} (own : List (Str × Nat)) {f : PyData → List SK → Option (List SK)} {js : List Nat} {xs : List α} {enc : α → PyData} (g : α → PyData)
    (ok : blkC T.N T.sc scope own = true) (hjs : js.all (fun j => (own.map (·.2)).contains j) = true) (hi : ID X ks tg iter k1 (xs.map enc))
    (nw : ∀ i ∈ own.map (·.2), ∃ k, k1[i]? = some k ∧ (k = .no ∨ ∃ d, k = .dat d))
    (hg : ∀ X', Ctx P w K mg base (Tb T scope) k X' → GD X' tg f js) (hz : xs.length < sizeLine)
    (turn : ∀ x ∈ xs, ∃ kb, f (enc x) (wipeK k1 (own.map (·.2))) = some kb ∧ (∀ X', Ctx P w K mg base (Tb T scope) k X' → ED X' kb elt kb (g x)) ∧ Wk kb (wipeK k1 (own.map (·.2))))
    (hs : ∀ x, foldedSetIterable iter X.env x = pure x) : EL X ks (.ListComp elt [⟨tg, iter, [], 0⟩] scope pos) k1 (xs.map g) := (lc_map c own g ok hjs hi nw hg hz turn hs).el c
/-- found[o] is None or t < found[o] -/
theorem td_low (c : Ctx P w K mg base T k X) (i : Nat) {x : Str} {p1 p2 q1 q2 q3 q4 : Pos} {e1 e2 e3 : Expr} {o t : Int} {n jj : Nat} {D : Dt} (hN : T.N[i]? = some x) (hv : Vis T.sc x) (hk : ks[i]? = some (.own (fl n D))) (h1 : ED X ks e1 ks (.int o)) (h2 : ED X ks e2 ks (.int o)) (h3 : ED X ks e3 ks (.int t)) (ho : 0 ≤ o ∧ o < (n : Int))
    (s1 : PlainIx e1) (s2 : PlainIx e2) (hd : (x == ("__debug__" : Str)) = false) (hcd : (x == ("__classdict__" : Str)) = false)
    (m2 : behindInMarks .Lt (.Subscript (.Name x p2) e2 q2) = false) : TD X ks (.BoolOp .Or [.Compare (.Subscript (.Name x p1) e1 q1) [.Is] [.Constant .none jj p] q3, .Compare e3 [.Lt] [.Subscript (.Name x p2) e2 q2] q4] pos) ks (better (D o) t) := by
  have hx : L2.atI (fl n D) o = some (oD (D o)) := fl_at ho
  cases e : D o with
  | none =>
    rw [e] at hx
    exact td_w (wd_or (x := true) (y := true) (td_cmp (own_ix c i hN hv h1 hk hx s1 hk hd hcd) ed_non cd_isN (nomark _)) (fun z => nomatch z))
  | some u =>
    rw [e] at hx
    exact td_w (wd_or (x := false) (td_cmp (own_ix c i hN hv h1 hk hx s1 hk hd hcd) ed_non cd_isN (nomark _)) (fun _ => wd_or1 (td_cmp h3 (own_ix c i hN hv h2 hk hx s2 hk hd hcd) cd_lt m2)))
/-- found[o] = t, where it is better, is low -/
theorem low_t {D : Dt} {o t : Int} (h : better (D o) t = true) : low D o t = upD D o (some t) := if_pos h
theorem low_f {D : Dt} {o t : Int} (h : better (D o) t = false) : low D o t = D := if_neg (by rw [h]; decide)
theorem low_fix {D : Dt} {o t : Int} (h : better (D o) t = true) : low D o t ≠ D := fun z => by
  rw [low_t h] at z
  have : upD D o (some t) o = D o := by rw [z]
  rw [upD_at] at this
  rw [← this] at h
  exact absurd (of_decide_eq_true h : t < t) (Int.lt_irrefl t)
end
end Z
namespace Z
open PySem PySem.Spec L2
variable [Tabl]
/-! ### list + list of any lists -/
section
variable {P : Program} {w : World} {K : PySem.W.Frag} {mg : Str → Option Value} {base : Heap} {T : Sta} {k : Nat} {X : Cx} {ks k1 k2 k3 : List SK} {a b e : Expr} {es : List Expr} {d da db : PyData} {ds ds' : List PyData} {pos p tpos : Pos} {rest body orelse : List Stmt} {Φ : Po}
theorem id_to {tg iter : Expr} (h : ID X ks tg iter k1 ds) (e : ds = ds') : ID X ks tg iter k1 ds' := e ▸ h
end
end Z
namespace Z
open PySem PySem.Spec L2
variable [Tabl]
/-! ### a list of our own looked at as data -/
def dOnly : SK → SK
  | .dat d => .dat d
  | _ => .no
/-- only the data slots, slot j as the list ds -/
def view (ks : List SK) (j : Nat) (ds : List PyData) : List SK := (ks.map dOnly).set j (.dat (.list ds))
def less (G : Hp) (a : Addr) : Hp := fun b => if b = a then none else G b
section
variable {P : Program} {w : World} {K : PySem.W.Frag} {mg : Str → Option Value} {base : Heap} {T : Sta} {k : Nat} {X : Cx} {ks k1 k2 k3 : List SK} {a b e : Expr} {es : List Expr} {d da db : PyData} {ds ds' : List PyData} {pos p tpos : Pos} {rest body orelse : List Stmt} {Φ : Po}
theorem view_sts {W : Wd} {σ : St} {G H : Hp} {j : Nat} (S : Sts K W ks σ G H) (hk : ks[j]? = some (.own ds)) : ∃ a vs, σ[j]? = some (some (.ref a)) ∧ H a = some (.lst vs) ∧ G a = none ∧ DpAll K G vs ds ∧ Sts K (pur (upd G a (.lst vs)) H) (view ks j ds) σ (upd G a (.lst vs)) H := by
  obtain ⟨a, vs, e1, e2, e3, e4, e5, ow, o, f, e6, e7⟩ := S.ownAt hk
  have gg : Same G (upd G a (.lst vs)) := fun b u e => by
    have : b ≠ a := fun z => by rw [z, e4] at e; cases e
    rw [upd_ne this]; exact e
  have gh : Same (upd G a (.lst vs)) H := fun b u e => by
    by_cases z : b = a
    · subst z; rw [upd_same] at e; cases e; exact e2
    · rw [upd_ne z] at e; exact S.gh b u e
  have hj := (List.getElem?_eq_some_iff.mp hk).1
  refine ⟨a, vs, e1, e2, e4, e3, ⟨Le.refl gh (S.le.tb.updG e2 pl_lst), by rw [S.len]; simp [view], fun _ => [], ⟨fun _ _ _ h _ => (by cases h), fun _ _ h => (by cases h), fun _ _ => rfl⟩, fun i q hq => ?_⟩⟩
  unfold view at hq
  by_cases z : i = j
  · subst z
    rw [List.getElem?_set_self (by simpa using hj)] at hq
    cases hq
    refine ⟨rfl, .ref a, by rw [e1]; rfl, .lst (SqL.of upd_same) (DpAll.mono gg e3)⟩
  · rw [List.getElem?_set_ne (Ne.symm z), List.getElem?_map] at hq
    cases e : ks[i]? with
    | none => rw [e] at hq; cases hq
    | some q' =>
      rw [e] at hq
      have hq : dOnly q' = q := Option.some.inj hq
      cases q' with
      | dat d =>
        subst hq
        obtain ⟨h0, v, h1, h2⟩ := f i _ e
        exact ⟨rfl, v, h1, Dp.mono gg h2⟩
      | _ => subst hq; exact (show ([] : List Addr) = [] from rfl)
theorem thaw_le {G H G2 H2 : Hp} {a : Addr} {vs : List V} (ga : G a = none) (ha : H a = some (.lst vs)) (gh : Same G H) (l : Le (pur (upd G a (.lst vs)) H) G2 H2) : Le (pur G H) (less G2 a) H2 where
  tb := l.tb.mono (fun p hp => by
    show (if p.1 = a then none else G2 p.1) = none
    split
    · rfl
    · exact l.tb.g p hp) fun _ _ _ e => e
  g := fun b u e => by
    have z : b ≠ a := fun z => by
      have e : G b = some u := e
      rw [z, ga] at e; cases e
    show (if b = a then none else G2 b) = some u
    rw [if_neg z]
    exact l.g b u (show upd G a (.lst vs) b = some u by rw [upd_ne z]; exact e)
  gh := fun b u e => by
    have e : (if b = a then none else G2 b) = some u := e
    split at e
    · cases e
    · exact l.gh b u e
  keep := fun b u m nt e => l.keep b u (fun z => z) nt e
  there := fun b u e => l.there b u e
  fz := fun b u e e2 => by
    show (if b = a then none else G2 b) = none
    by_cases z : b = a
    · rw [if_pos z]
    · rw [if_neg z]
      exact l.fz b u (show upd G a (.lst vs) b = none by rw [upd_ne z]; exact e) e2
  m := fun _ z => z.elim
theorem less_gg {G G2 : Hp} {a : Addr} {vs : List V} (ga : G a = none) (g : Same (upd G a (.lst vs)) G2) : Same G (less G2 a) := fun b u e => by
  have z : b ≠ a := fun z => by rw [z, ga] at e; cases e
  show (if b = a then none else G2 b) = some u
  rw [if_neg z]
  exact g b u (by rw [upd_ne z]; exact e)
/-- a test on a list of our own -/
theorem td_thaw (j : Nat) {t : Expr} {bb : Bool} (hk : ks[j]? = some (.own ds)) (h : TD X (view ks j ds) t (view ks j ds) bb) : TD X ks t ks bb := fun W σ G H S Q q => by
  obtain ⟨a, vs, e1, e2, e4, e3, S'⟩ := view_sts S hk
  refine h _ σ _ H S' Q fun G2 H2 S2 g2 => ?_
  exact q _ H2 (S.step (thaw_le e4 e2 S.gh S2.le)) (less_gg e4 g2)
/-! ### a walk over a list of our own, that stays -/
theorem sd_forO (c : Ctx P w K mg base T k X) (j : Nat) {x : Str} {px : Pos} {tg : Expr} {f : PyData → List SK → Option (List SK)} {js : List Nat} (F : Addr → Nat → List SK → Prop) (hN : T.N[j]? = some x) (hv : Vis T.sc x) (hk : ks[j]? = some (.own ds)) (hd : (x == ("__debug__" : Str)) = false) (hcd : (x == ("__classdict__" : Str)) = false)
    (hg : GD X tg f js) (h0 : ∀ a, F a 0 (ks.set j (.ptr a)))
    (turn : ∀ a i d ls, ds[i]? = some d → F a i ls → ∃ kb, f d ls = some kb ∧ SD X kb body { nx := F a (i + 1), ct := F a (i + 1), bk := fun _ => False, rt := fun _ _ => False, rl := fun _ _ => False })
    (fin : ∀ a ls, F a ds.length ls → ls[j]? = some (.ptr a) ∧ SD X (ls.set j (.own ds)) rest Φ) (hs : ∀ y, foldedSetIterable (.Name x px) X.env y = pure y) : SD X ks (.For tg (.Name x px) body [] pos :: rest) Φ := fun W σ G H D S M => by
  obtain ⟨g, pg, hg⟩ := hg
  have hp := c.po
  refine sv_of (pss_cons (ps_for hp c.calm (pi_list (pe_var (ix_of c hN) (vis_of c hv) hd hcd)) pg pss_sv hs) pss_sv) ?_
  obtain ⟨a, vs, e1, e2, e3, e4, e5, ow, o, fs, e6, e7⟩ := S.ownAt hk
  have hj := (List.getElem?_eq_some_iff.mp hk).1
  have nm : ¬ W.M a := fun z => by
    obtain ⟨u, hu⟩ := S.le.m a z
    rw [e5] at hu; cases hu
  -- the world in which the list is another's
  have S1 : Sts X.K ⟨G, upd W.H a (.lst vs), W.M⟩ (ks.set j (.ptr a)) σ G H := by
    refine ⟨⟨Same.refl G, S.gh, fun b u m nt e => ?_, fun b u e => ?_, fun b u e _ => e, fun b m => ?_, S.le.tb⟩, by rw [List.length_set]; exact S.len, fun i => if i = j then [] else ow i, ⟨fun i i' b h h' => ?_, fun i b h => ?_, fun i hi => ?_⟩, fun i q hq => ?_⟩
    · by_cases z : b = a
      · subst z; exact e2.trans (upd_same.symm.trans e)
      · exact S.le.keep b u m nt ((upd_ne z).symm.trans e)
    · by_cases z : b = a
      · subst z; exact ⟨_, e2⟩
      · exact S.le.there b u ((upd_ne z).symm.trans e)
    · obtain ⟨u, hu⟩ := S.le.m b m
      have z : b ≠ a := fun z => nm (z ▸ m)
      exact ⟨u, (upd_ne z).trans hu⟩
    · by_cases q1 : i = j
      · simp only [q1, if_true] at h; cases h
      · by_cases q2 : i' = j
        · simp only [q2, if_true] at h'; cases h'
        · simp only [q1, q2, if_false] at h h'; exact o.dis i i' b h h'
    · by_cases q1 : i = j
      · simp only [q1, if_true] at h; cases h
      · simp only [q1, if_false] at h
        obtain ⟨b1, b2⟩ := o.mine i b h
        have z : b ≠ a := fun z => e7 i q1 (z ▸ h)
        refine ⟨b1, b2.imp (fun e => (upd_ne z).trans e) fun ⟨m, r, e, e'⟩ => ⟨m, r, ?_, e'⟩⟩
        rw [List.getElem?_set_ne (Ne.symm q1)]; exact e
    · have : i ≠ j := by simp at hi; omega
      simp only [this, if_false]
      exact o.out i (by simpa using hi)
    · by_cases q1 : i = j
      · subst q1
        rw [List.getElem?_set_self hj] at hq
        cases hq
        simp only [if_true]
        exact ⟨rfl, by rw [e1]; rfl⟩
      · rw [List.getElem?_set_ne (Ne.symm q1)] at hq
        simp only [q1, if_false]
        exact fs i q hq
  refine ⟨.ref a, e1, a, rfl, ⟨vs, SqL.of e2⟩, ?_⟩
  have hlen : vs.length = ds.length := e3.len
  refine for_it (walk_list (xs := vs)) (fun i σ' H' => ∃ G' ls, F a i ls ∧ Sts X.K ⟨G, upd W.H a (.lst vs), W.M⟩ ls σ' G' H') ⟨G, _, h0 a, S1⟩ (fun i σ' H' _ ⟨G', ls, _, S'⟩ => SqL.of (S'.le.keep a _ nm (fun _ z => by cases z) upd_same)) ?_ ?_
  · rintro i v σ' H' H'' hlt ⟨G', ls, fl, S'⟩ ⟨rfl, hv'⟩
    obtain ⟨d, hd', rd⟩ := e3.getV hv'
    obtain ⟨kb, e, b⟩ := turn a i d ls hd' fl
    refine hg _ σ' G' H'' ls v d kb S' (Dp.mono S'.le.g rd) e _ fun σ2 S3 _ _ => ?_
    refine b _ σ2 G' H'' _ S3 ⟨fun ks' σ3 G3 H3 q S4 => ⟨G3, ks', q, S4⟩, fun _ _ _ _ q => q.elim, fun ks' σ3 G3 H3 q S4 => ⟨G3, ks', q, S4⟩, fun _ _ _ _ _ _ q => q.elim, fun _ _ _ _ _ _ q => q.elim, fun _ _ _ _ _ _ _ q => q.elim, ex0⟩
  · rintro σ' H' ⟨G', ls, fl, S'⟩
    rw [hlen] at fl
    obtain ⟨hp', fin'⟩ := fin a ls fl
    refine fin' W σ' G' H' D ?_ M
    have ha' : H' a = some (.lst vs) := S'.le.keep a _ nm (fun _ z => by cases z) upd_same
    have ga' : G' a = none := S'.le.fz a _ e4 upd_same
    have gG : Same G G' := S'.le.g
    have hjl := (List.getElem?_eq_some_iff.mp hp').1
    obtain ⟨le, len, ow2, o2, f2⟩ := S'
    have no : ∀ i, a ∉ ow2 i := fun i h => by
      obtain ⟨_, z⟩ := o2.mine i a h
      rcases z with z | ⟨z, _⟩
      · have z := upd_same.symm.trans z
        cases z
      · exact nm z
    refine ⟨⟨S.le.g.trans gG, le.gh, fun b u m nt e => ?_, fun b u e => ?_, fun b u e e' => ?_, S.le.m, le.tb⟩, by rw [List.length_set]; exact len, fun i => if i = j then [a] else ow2 i, ⟨fun i i' b h h' => ?_, fun i b h => ?_, fun i hi => ?_⟩, fun i q hq => ?_⟩
    · have z : b ≠ a := fun z => by rw [z, e5] at e; cases e
      exact le.keep b u m nt ((upd_ne z).trans e)
    · have z : b ≠ a := fun z => by rw [z, e5] at e; cases e
      exact le.there b u ((upd_ne z).trans e)
    · have z : b ≠ a := fun z => by rw [z, e5] at e'; cases e'
      exact le.fz b u (S.le.fz b u e e') ((upd_ne z).trans e')
    · by_cases q1 : i = j <;> by_cases q2 : i' = j
      · rw [q1, q2]
      · simp only [q1, if_true, q2, if_false] at h h'
        simp at h; subst h; exact (no i' h').elim
      · simp only [q1, if_false, q2, if_true] at h h'
        simp at h'; subst h'; exact (no i h).elim
      · simp only [q1, q2, if_false] at h h'
        exact o2.dis i i' b h h'
    · by_cases q1 : i = j
      · simp only [q1, if_true] at h
        simp at h; subst h
        exact ⟨ga', .inl e5⟩
      · simp only [q1, if_false] at h
        obtain ⟨b1, b2⟩ := o2.mine i b h
        have z : b ≠ a := fun z => no i (z ▸ h)
        refine ⟨b1, b2.imp (fun e => (upd_ne z).symm.trans e) fun ⟨m, r, e, e'⟩ => ⟨m, r, ?_, e'⟩⟩
        rw [List.getElem?_set_ne (Ne.symm q1)]; exact e
    · have : i ≠ j := by simp at hi; omega
      simp only [this, if_false]
      exact o2.out i (by simpa using hi)
    · by_cases q1 : i = j
      · subst q1
        rw [List.getElem?_set_self hjl] at hq
        cases hq
        simp only [if_true]
        obtain ⟨_, z⟩ := f2 i _ hp'
        exact ⟨a, vs, z, rfl, ha', DpAll.mono gG e3⟩
      · rw [List.getElem?_set_ne (Ne.symm q1)] at hq
        simp only [q1, if_false]
        exact f2 i q hq
theorem DpAll.rep {G : Hp} {vs : List V} {ds : List PyData} (r : DpAll K G vs ds) : ∀ n : Nat, DpAll K G (List.replicate n vs).flatten (List.replicate n ds).flatten
  | 0 => .nil
  | n + 1 => by
    rw [List.replicate_succ, List.replicate_succ, List.flatten_cons, List.flatten_cons]
    exact DpAll.append r (DpAll.rep r n)
/-- [None] * n -/
theorem el_rep {n : Int} (ha : EL X ks a k1 ds) (hb : ED X (k1.map dOnly) b (k1.map dOnly) (.int n)) (h0 : 0 ≤ n) (hn : n < 1000) (hz : ds.length * n.toNat ≤ sizeLine) : EL X ks (.BinOp a .Mult b pos) k1 (List.replicate n.toNat ds).flatten := fun W σ G H S Q q => by
  refine ev_of (pe_op op_rep pe_ev pe_ev) (ha W σ G H S _ fun l G1 H1 S1 g1 => ?_)
  obtain ⟨S1', gl, wl, vs, hl, rl, _⟩ := S1.pop
  -- the right side is walked with the new list as another's
  have S1w : Sts X.K (pur G1 H1) ((k1.map dOnly)) σ G1 H1 := by
    obtain ⟨le, len, ow, o, f⟩ := S1'
    refine ⟨Le.refl le.gh le.tb, by simpa using len, fun _ => [], ⟨fun _ _ _ h _ => (by cases h), fun _ _ h => (by cases h), fun _ _ => rfl⟩, fun i q' hq => ?_⟩
    rw [List.getElem?_map] at hq
    cases e : k1[i]? with
    | none => rw [e] at hq; cases hq
    | some q2 =>
      rw [e] at hq
      have hq : dOnly q2 = q' := Option.some.inj hq
      cases q2 with
      | dat d => subst hq; obtain ⟨h0, v, h1, h2⟩ := f i _ e; exact ⟨rfl, v, h1, h2⟩
      | _ => subst hq; exact (show ([] : List Addr) = [] from rfl)
  refine hb _ σ G1 H1 S1w _ fun v G2 H2 S2 g2 r2 => ?_
  rw [r2.int_inv]
  refine ⟨l, n, vs, rfl, rfl, S2.le.keep l _ (fun z => z) (fun _ z => by cases z) hl, by omega, by omega, by rw [rl.len]; exact hz, fun p np => ?_⟩
  have gp : G2 p = none := by
    cases e : G2 p with
    | none => rfl
    | some u => rw [S2.gh p u e] at np; cases np
  have S3 := S1'.step S2.le
  exact q p G2 _ (S3.push (Lp.newOwn S2.gh np) np gp upd_same (DpAll.rep (DpAll.mono g2 rl) n.toNat)) (g1.trans g2)
end
end Z
namespace Z
open PySem PySem.Spec L2
variable [Tabl]
/-! ### sorted -/
abbrev T3 := Int × Int × Int
def eT3 (r : T3) : PyData := .tuple [.int r.1, .int r.2.1, .int r.2.2]
def cd3 (r : T3) : Int := TS.code 1000 [r.1, r.2.1, r.2.2]
def Bd3 (r : T3) : Prop := (0 ≤ r.1 ∧ r.1 < 1000) ∧ (0 ≤ r.2.1 ∧ r.2.1 < 1000) ∧ (0 ≤ r.2.2 ∧ r.2.2 < 1000)
theorem cd3_eq (r : T3) : cd3 r = r.1 * 1000000 + r.2.1 * 1000 + r.2.2 := by
  show r.1 * 1000 ^ 2 + (r.2.1 * 1000 ^ 1 + (r.2.2 * 1000 ^ 0 + 0)) = _
  have e2 : (1000 : Int) ^ 2 = 1000000 := by decide
  have e1 : (1000 : Int) ^ 1 = 1000 := by decide
  have e0 : (1000 : Int) ^ 0 = 1 := by decide
  rw [e2, e1, e0]
  omega
theorem cd3_inj {r q : T3} (h : Bd3 r) (h' : Bd3 q) (e : cd3 r = cd3 q) : r = q := by
  rw [cd3_eq, cd3_eq] at e
  obtain ⟨a, b, c⟩ := r
  obtain ⟨a', b', c'⟩ := q
  obtain ⟨h1, h2, h3⟩ := h
  obtain ⟨g1, g2, g3⟩ := h'
  dsimp only at *
  have : a = a' := by omega
  subst this
  have : b = b' := by omega
  subst this
  have : c = c' := by omega
  subst this
  rfl
def sort3 (l : List T3) : List T3 := l.mergeSort fun a b => decide (cd3 a ≤ cd3 b)
theorem sort3_perm (l : List T3) : (sort3 l).Perm l := List.mergeSort_perm _ _
theorem sort3_mem {l : List T3} {x : T3} : x ∈ sort3 l ↔ x ∈ l := (sort3_perm l).mem_iff
theorem sort3_sorted (l : List T3) : (sort3 l).Pairwise fun a b => cd3 a ≤ cd3 b := by
  have := List.pairwise_mergeSort (le := fun a b : T3 => decide (cd3 a ≤ cd3 b)) (fun a b c h1 h2 => decide_eq_true (Int.le_trans (of_decide_eq_true h1) (of_decide_eq_true h2))) (fun a b => by
    rcases Int.le_total (cd3 a) (cd3 b) with h | h
    · rw [decide_eq_true h]; rfl
    · rw [decide_eq_true h]; simp) l
  exact this.imp fun h => of_decide_eq_true h
theorem sort3_is {l l' : List T3} (hb : ∀ r ∈ l, Bd3 r) (p : l'.Perm l) (s : l'.Pairwise fun a b => cd3 a ≤ cd3 b) : l' = sort3 l :=
  List.Perm.eq_of_pairwise (le := fun a b => cd3 a ≤ cd3 b) (fun a b ha hb' h1 h2 => cd3_inj (hb a (p.mem_iff.mp ha)) (hb b (sort3_mem.mp hb')) (Int.le_antisymm h1 h2)) s (sort3_sorted l) (p.trans (sort3_perm l).symm)
section
variable {K : PySem.W.Frag} {G : Hp}
theorem dpall_perm {α : Type} {enc : α → PyData} {xs ys : List V} (p : ys.Perm xs) : ∀ l : List α, DpAll K G xs (l.map enc) → ∃ l' : List α, l'.Perm l ∧ DpAll K G ys (l'.map enc) := by
  induction p with
  | nil => intro l h; exact ⟨l, .refl _, h⟩
  | cons x p ih =>
    intro l h
    cases l with
    | nil => cases h
    | cons r l =>
      cases h with
      | cons a b =>
        obtain ⟨l', h1, h2⟩ := ih l b
        exact ⟨r :: l', .cons r h1, .cons a h2⟩
  | swap x y xs =>
    intro l h
    cases l with
    | nil => cases h
    | cons r l =>
      cases l with
      | nil => cases h with | cons a b => cases b
      | cons r2 l =>
        cases h with
        | cons a b =>
          cases b with
          | cons b c => exact ⟨r2 :: r :: l, .swap _ _ _, .cons b (.cons a c)⟩
  | trans p1 p2 ih1 ih2 =>
    intro l h
    obtain ⟨l1, h1, h2⟩ := ih2 l h
    obtain ⟨l2, h3, h4⟩ := ih1 l1 h2
    exact ⟨l2, h3.trans h1, h4⟩
theorem tupI_of {H : Hp} (g : Same G H) {v : V} {r : T3} (h : Dp K G v (eT3 r)) : TupI K H v [r.1, r.2.1, r.2.2] := by
  obtain ⟨a, xs, rfl, s, t⟩ := h.tup_inv
  cases t with
  | cons h1 t =>
    cases t with
    | cons h2 t =>
      cases t with
      | cons h3 t =>
        cases t
        cases h1
        cases h2
        cases h3
        exact ⟨a, rfl, Same.seqT g s⟩
theorem pw_of {H : Hp} (g : Same G H) : ∀ {ys : List V} {l : List T3}, DpAll K G ys (l.map eT3) → ys.Pairwise (fun x y => ∀ n m, TupI K H x n → TupI K H y m → TS.code 1000 n ≤ TS.code 1000 m) → l.Pairwise fun a b => cd3 a ≤ cd3 b
  | _, [], _, _ => .nil
  | _, r :: l, h, p => by
    cases h with
    | cons a b =>
      obtain ⟨p1, p2⟩ := List.pairwise_cons.mp p
      refine List.pairwise_cons.mpr ⟨fun q hq => ?_, pw_of g b p2⟩
      obtain ⟨i, hi, e⟩ := List.mem_iff_getElem.mp hq
      obtain ⟨v, e1, e2⟩ := b.get (i := i) (d := eT3 q) (by rw [List.getElem?_map, List.getElem?_eq_getElem hi, e]; rfl)
      exact p1 v (List.mem_of_getElem? e1) _ _ (tupI_of g a) (tupI_of g e2)
end
section
variable {X : Cx}
theorem cl_sort3 {l : List T3} (hb : ∀ r ∈ l, Bd3 r) (hl : l.length < 64) : CallL X (.builtin "sorted") [.list (l.map eT3)] ((sort3 l).map eT3) := ⟨_, cr_sortT (d := 3) (B := 1000) (by decide), fun G H vs g r Q q => by
  obtain ⟨v, rfl, r1⟩ := DpAll.one r
  obtain ⟨p, us, rfl, sp, ap⟩ := r1.lst_inv
  have hlen : us.length = l.length := by rw [ap.len, List.length_map]
  refine ⟨p, us, rfl, g.seq sp, by omega, fun x hx => ?_, fun ys a pm pw np => ?_⟩
  · obtain ⟨i, hi, e⟩ := List.mem_iff_getElem.mp hx
    obtain ⟨d, e1, e2⟩ := ap.getV (i := i) (v := x) (by rw [List.getElem?_eq_getElem hi, e])
    rw [List.getElem?_map] at e1
    cases e3 : l[i]? with
    | none => rw [e3] at e1; cases e1
    | some q' =>
      rw [e3] at e1
      have e1 : eT3 q' = d := Option.some.inj e1
      subst e1
      obtain ⟨h1, h2, h3⟩ := hb q' (List.mem_of_getElem? e3)
      exact ⟨_, tupI_of g e2, rfl, allC h1 (allC h2 (all1 h3))⟩
  · obtain ⟨l', h1, h2⟩ := dpall_perm pm l ap
    have h3 := sort3_is hb h1 (pw_of g h2 pw)
    rw [h3] at h2
    have ga : G a = none := by
      cases e : G a with
      | none => rfl
      | some u => rw [g a u e] at np; cases np
    exact q a ys G _ (Lp.newOwn g np) np ga upd_same h2⟩
end
section
variable {P : Program} {w : World} {K : PySem.W.Frag} {mg : Str → Option Value} {base : Heap} {T : Sta} {k : Nat} {X : Cx} {ks k1 : List SK} {e : Expr} {es : List Expr} {ds : List PyData} {pos p : Pos} {x : Str} {id : String}
theorem el_callB (c : Ctx P w K mg base T k X) (hg : T.sc.names.lookup x = some .globalImplicit) (hm : mg x = none) (hv : bootBuiltins x = some (.builtin id)) (ha : AD X ks (e :: es) k1 ds) {ls : List PyData} (h : CallL X (.builtin id) ds ls) (hn : x ≠ "__name__") (hdb : (x == ("__debug__" : Str)) = false)
    (he : starEach (e :: es) X.env = (false, eval e X.env) :: starEach es X.env) (hpl : (backTo pos (starEach es X.env)).any (·.1) = false) : EL X ks (.Call (.Name x p) (e :: es) [] pos) k1 ls := by
  obtain ⟨r, hc, hr⟩ := h.out
  intro W σ G H S Q q
  exact ev_of (pe_callB hc (gl_of c hg) (by rw [c.hmg]; exact hm) hv pa_av hn hdb he hpl) (ha W σ G H S _ fun vs G1 H1 S1 g1 r1 => hr G1 H1 vs S1.gh r1 Q fun p us G2 H2 l np gp hp r2 => q p G2 H2 (S1.push l np gp hp r2) (g1.trans l.g))
end
end Z
namespace Z
open PySem PySem.Spec L2 RT
end Z
namespace Z
open PySem PySem.Spec L2 PyProof.Rows
/-! ### x in a tuple -/
end Z
namespace Z
open PySem PySem.Spec L2 PyProof.Rows
end Z
namespace Z
open PySem PySem.Spec L2 PyProof.Rows
end Z
namespace Z
open PySem PySem.Spec L2
/-! ### dicts of ints -/
end Z
namespace Z
open PySem PySem.Spec L2
variable [Tabl]
section
variable {P : Program} {w : World} {K : PySem.W.Frag} {mg : Str → Option Value} {base : Heap} {T : Sta} {k : Nat} {X : Cx} {ks k1 k2 k3 : List SK} {a b e : Expr} {es : List Expr} {d da db : PyData} {ds ds' el : List PyData} {pos p tpos : Pos} {rest body orelse : List Stmt} {Φ : Po}
/-! ### slots moved -/
section
variable {W : Wd} {σ : St} {G H : Hp} {i : Nat}
theorem Sts.at {k' : SK} (S : Sts K W ks σ G H) (hk : ks[i]? = some k') : ∃ as, Sl K G H k' ((σ[i]?).getD none) as := let ⟨_, _, ow, _, f⟩ := S; ⟨ow i, f i _ hk⟩
theorem Sts.there (S : Sts K W ks σ G H) (hi : i < ks.length) {v : V} (h : (σ[i]?).getD none = some v) : σ[i]? = some (some v) := by
  have hl : i < σ.length := by rw [S.len]; exact hi
  rw [List.getElem?_eq_getElem hl] at h ⊢
  simpa using h
end
/-! ### a tuple that ends with a list of our own -/
end
end Z
namespace Z
open PySem PySem.Spec L2
end Z
namespace ZL
open PySem PySem.Spec PySem.W PySem.Calls PyProof.Rows L2
section
variable {prog : Program} {w : World} {A : Around} {E : Value → Shared → Prop} {s : Shared}
/-! ### sorted of a tuple or a list, by a key -/
abbrev cop1 (h : Heap) (vs : List Value) : Heap := (h.push (seqObj "list" #[] 0)).update h.objs.size (Obj.mapSeq (· ++ vs.toArray))
theorem coll_tup {l : Addr} {vs : List Value} {Q : List Value → Shared → Prop} (il : s.heap.IsTuple l vs.toArray) (q : Q vs { s with heap := cop1 s.heap vs }) (hz : vs.length ≤ sizeLine) : wpAny (model prog w) A (collect (.ref l)) Q E s := by
  obtain ⟨o, ho, hc, n, hd⟩ := id il
  unfold collect
  refine wpAny_bind (wpAny_runValue (codeAny_builtin entry_proto_collect' (show wpAny _ _ (do again (.builtin "list.__iadd__" ⟨[← newList [], .ref l], []⟩)) _ _ s from ?_)))
  refine wpAny_bind (wpAny_newList (wpAny_pure ⟨Code.quiet_builtin _ (by decide +kernel), codeAny_builtin entry_list_iadd' (show wpAny _ _ (Builtin.List.listExtendWith (.ref s.heap.objs.size) (.ref l) (.ref s.heap.objs.size)) _ _ { s with heap := s.heap.push (seqObj "list" #[] 0) } from ?_)⟩))
  unfold Builtin.List.listExtendWith
  have g : (s.heap.push (seqObj "list" #[] 0)).get? l = some o := Heap.get?_push_of_some _ ho
  have gn : (s.heap.push (seqObj "list" #[] 0)).get? s.heap.objs.size = some (seqObj "list" #[] 0) := Heap.get?_push_size _ rfl
  refine wpAny_bind (wpAny_typeOf (T := "tuple") ⟨o, g, hc⟩ ?_)
  rw [if_pos (by rw [show (Value.type "tuple" == Value.type "tuple") = true from rfl, Bool.or_true])]
  refine wpAny_bind (listItems_at g hd (wpAny_bind (listItems_at (xs := #[]) (n := 0) gn rfl ?_)))
  rw [if_neg (by simp)]
  refine wpAny_bind (listUpdate_at (xs := #[]) (n := 0) gn rfl (wpAny_pure ?_) (Nat.zero_le _) (by show (#[] ++ vs.toArray).size ≤ sizeLine + 1; simp only [Array.size_append, List.size_toArray, List.length_nil]; omega))
  show wpAny (model prog w) A (do
      let o ← load s.heap.objs.size
      match o.data with
      | .seq xs _ => pure xs.toList
      | _ => unsupported "internal:collect") Q E { s with heap := cop1 s.heap vs }
  refine wpAny_bind (wpAny_load (get?_update_seq gn _) (show wpAny _ _ (pure ((#[] : Array Value) ++ vs.toArray).toList) Q E _ from ?_))
  rw [show ((#[] : Array Value) ++ vs.toArray).toList = vs by simp]
  exact wpAny_pure q
/-- what collect makes of l -/
def Colls (prog : Program) (w : World) (s : Shared) (l : Addr) (vs : List Value) : Prop := ∀ (A : Around) (E : Value → Shared → Prop) (Q : List Value → Shared → Prop), Q vs { s with heap := cop1 s.heap vs } → wpAny (model prog w) A (collect (.ref l)) Q E s
theorem colls_tup {l : Addr} {vs : List Value} (il : s.heap.IsTuple l vs.toArray) (hz : vs.length ≤ sizeLine) : Colls prog w s l vs := fun _ _ _ q => coll_tup il q hz
theorem colls_lst {l : Addr} {vs : List Value} (il : s.heap.IsList l vs.toArray) (hz : vs.length ≤ sizeLine) : Colls prog w s l vs := fun _ _ _ q => collect_list il q hz
variable {β : Type} {vs : List Value} {bs : List β} {R : Value → β → Prop}
theorem sorted_by {l : Addr} {f : Value} {kw : List (Str × Value)} {b : Bool} {Q : Value → Shared → Prop} (k : β → PyData) (il : Colls prog w s l vs) (e : EachIs R vs bs) (al : AllAlike (bs.map k)) (so : Sortable (bs.map k)) (hz : bs.length ≤ sizeLine) (un : ∀ x, x ∈ bs → A.units + 2 + (k x).depth < cLine)
    (a1 : argsOk "sorted" ⟨[.ref l], kw⟩) (a2 : ∀ x, argsOk "list.sort" ⟨[.ref x], kw⟩) (tr : ∀ x, Builtin.«list.sort» ⟨[.ref x], kw⟩ = ksk_tree x f b)
    (turn : ∀ (v : Value) (x : β), R v x → x ∈ bs → ∀ (h : Heap) (tk : Nat), (∀ b o, s.heap.get? b = some o → h.get? b = some o) → wpAny (model prog w) A.in1.in1 (call f [v]) (KeyPure (k x) { s with heap := h, toks := tk }) (fun _ _ => False) { s with heap := h, toks := tk })
    (q : ∀ out c h' tk, (∀ b o, s.heap.get? b = some o → h'.get? b = some o) → s.heap.get? (s.heap.objs.size + 1) = none → h'.get? (s.heap.objs.size + 1) = some (seqObj "list" (List.toArray out) c) → out.length = bs.length → EachIs R out (bs.mergeSort (dataLe b k)) → Q (.ref (s.heap.objs.size + 1)) { s with heap := h', toks := tk }) :
    wpAny (model prog w) A (call (.builtin "sorted") [.ref l] kw) Q E s := by
  have vl : vs.length = bs.length := e.length
  have up : ∀ {g : Heap}, KeepsBut (s.heap.objs.size + 1) (copyHeap s.heap vs) g → ∀ b o, s.heap.get? b = some o → g.get? b = some o := fun {g} kp b o y => kp b o (Nat.ne_of_lt (Nat.lt_succ_of_lt (Heap.lt_size y))) (copyHeap_old y)
  have sz : (cop1 s.heap vs).objs.size = s.heap.objs.size + 1 := by rw [Heap.size_update, size_push']
  refine call_function_entry_kw kind_sorted plain_sorted entry_sorted a1 ?_
  unfold Builtin.«sorted»
  refine wpAny_bind (m := checkCount "sorted" 1 1 _) (wpAny_pure (wpAny_bind (il _ _ _ (wpAny_bind (wpAny_newList (show wpAny _ _ _ _ _ { s with heap := copyHeap s.heap vs } from ?_) (by rw [vl]; exact hz))))))
  rw [sz]
  refine wpAny_bind (wpAny_holding (wpAny_call_entry_kw slot_list_sort ⟨_, copyHeap_at s.heap vs, rfl⟩ entry_list_sort (show wpAny (model prog w) A.in1.in1 (Builtin.«list.sort» ⟨[.ref (s.heap.objs.size + 1)], kw⟩) _ _ _ from ?_) (a2 _)))
  rw [tr]
  refine keyH_tree (kz := bs.map k) (s := { s with heap := copyHeap s.heap vs }) (copyHeap_at s.heap vs) (by rw [List.length_map]; exact vl.symm) (by rw [vl]; exact hz) al so (bound_map (A := A.in1.in1) un) (keyH_turns (s := { s with heap := copyHeap s.heap vs }) e fun v x hR hx h tk kp => turn v x hR hx h tk (up kp)) fun h' tk out c kp hD ko => ⟨_, rfl, wpAny_pure ⟨_, rfl, ?_⟩⟩
  exact q out c h' tk (up kp) (Heap.get?_none_of_le (Nat.le_succ _)) hD ((ko.length (by rw [List.length_map]; exact vl.symm)).trans vl) (keyedOut_each k ko e)
/-! ### lambda x: (x[i], x[j]) called -/
theorem pair_ix {M : Model} {env : Env} {x : Str} {t : Addr} {items : Array Value} {i : Nat} {a : Int} {ta : Tok} {p1 p2 p3 : Pos} {kk : Nat} {Q : Value → Shared → Prop} {m : Str → Option Value} (hM : M = model prog w) (kd : env.scope.kind = .function) (lk : env.kindOf x = some .local) (hn : s.heap.Ns env.locals m) (hm : m x = some (.ref t))
    (it : IsTup s.heap t items) (hi : items[i]? = some (.int a ta)) (sm : items.size < 1000) (hd : (x == ("__debug__" : Str)) = false) (q : Q (.int a ta) { s with toks := s.toks + 1 }) :
    wpAny M A (eval (.Subscript (.Name x p1) (.Constant (.int (i : Int)) kk p2) p3) env) Q E s := by
  subst hM
  refine Subscript_ (wpAny_Name (wpAny_loadName_local kd lk hn hm (wpAny_Constant_int ?_)) hd)
  have hl : i < items.size := (Array.getElem?_eq_some_iff.mp hi).1
  refine subscriptTail_builtinR (x := .int a ta) (T := "tuple") it.typeIs slot_tuple_getitem.lookup ?_ rfl
  have h63 : (2 : Int) ^ 63 = 9223372036854775808 := by decide
  have hi0 : ((i : Nat) : Int) < 1000 := by omega
  refine getItem_tuple (j := i) it (by rw [h63]; omega) (by rw [h63]; omega) ?_ hi ⟨rfl, q⟩
  unfold seqIndex?
  rw [if_neg (show ¬ ((i : Nat) : Int) < 0 by omega)]
  have e : (decide (0 ≤ ((i : Nat) : Int)) && decide (((i : Nat) : Int) < (items.size : Nat))) = true := by
    rw [decide_eq_true (show (0 : Int) ≤ (i : Nat) by omega), decide_eq_true (show ((i : Nat) : Int) < (items.size : Nat) by omega)]
    rfl
  show (if (decide (0 ≤ ((i : Nat) : Int)) && decide (((i : Nat) : Int) < (items.size : Nat))) = true then some ((i : Nat) : Int).toNat else none) = some i
  rw [if_pos e]
  rfl
end
end ZL
namespace ZL
open PySem PySem.Spec PySem.W PySem.Calls PyProof.Rows L2
section
variable {prog : Program} {w : World} {A : Around} {E : Value → Shared → Prop} {s : Shared}
theorem key_call {f t c' : Addr} {q x : Str} {i j : Nat} {a b : Int} {ta tb : Tok} {args : Arguments} {scope : Scope} {clos : List (Str × Addr)} {pm ctv : Value} {items : Array Value} {k1 k2 k3 : Nat} {p1 p2 p3 p4 p5 p6 p7 : Pos} (room : A.depth < recursionLimit) (nl : s.heap.NoLimit)
    (ho : s.heap.get? f = some (kla_obj "<lambda>" q args (.Tuple [.Subscript (.Name x p1) (.Constant (.int (i : Int)) k1 p2) p3, .Subscript (.Name x p4) (.Constant (.int (j : Int)) k2 p5) p6] k3 p7) scope clos pm c' ctv)) (co : s.heap.CodeRec (.ref c') q)
    (hb : ∀ v, bindArgs (kla_fn "<lambda>" q args (.Tuple [.Subscript (.Name x p1) (.Constant (.int (i : Int)) k1 p2) p3, .Subscript (.Name x p4) (.Constant (.int (j : Int)) k2 p5) p6] k3 p7) scope clos pm (.ref c') ctv) ⟨[v], []⟩ = pure [(x, v)])
    (kd : scope.kind = .function) (nc : scope.isCoroutine = false) (ng : scope.isGenerator = false) (own : ∀ y ∈ scope.names, y.2 ≠ .cell) (lk : scope.names.lookup x = some .local) (hd : (x == ("__debug__" : Str)) = false)
    (it : IsTup s.heap t items) (hi : items[i]? = some (.int a ta)) (hj : items[j]? = some (.int b tb)) (sm : items.size < 1000) :
    wpAny (model prog w) A (call (.ref f) [.ref t]) (KeyPure (.tuple [.int a, .int b]) s) (fun _ _ => False) s := by
  refine wpAny_call (codeAny_mono (R := fun r s' => ∃ v, r = .ok (.ret v) ∧ KeyPure (.tuple [.int a, .int b]) s v s') (kla_callFunE room ho rfl nc ng rfl co ?_) fun r s' hr => ?_)
  · rw [hb]
    refine wpAny_pure (wpAny_newFunctionEnv own (fun y hy => ?_) (fun h1 hns hsb => ⟨nl.fresh _ hsb, kla_codeExpr ?_⟩) kd)
    · rw [List.mem_singleton.mp hy]; exact lk
    have kp : ∀ b o, s.heap.get? b = some o → h1.get? b = some o := fun b o e => hsb.extBut b o (Nat.ne_of_lt (Heap.lt_size e)) (Heap.get?_push_of_some _ e)
    have it1 : IsTup h1 t items := it.keeps kp
    have hm : (fun y => ([(x, Value.ref t)] : List (Str × Value)).reverse.lookup y) x = some (.ref t) := by simp
    refine wpAny_Tuple_spliced (Calls.spliced_cons (pair_ix rfl kd lk hns hm it1 hi sm hd (Calls.spliced_cons (pair_ix rfl kd lk hns hm it1 hj sm hd (Calls.spliced_nil ?_)))))
    refine ⟨Nat.le_of_ble_eq_true rfl, _, rfl, _, _, rfl, fun b o e => Heap.get?_push_of_some _ (kp b o e), ?_⟩
    exact .tuple (Heap.get?_push_size _ rfl) rfl rfl (.cons (as := []) (bs := []) (.int _ _) (.cons (as := []) (bs := []) (.int _ _) .nil))
  · obtain ⟨v, rfl, hk⟩ := hr
    exact hk
end
end ZL
namespace ZL
open PySem PySem.Spec PyProof.Rows L2
section
variable {X : Cx} {pins : List (Addr × Obj)} {σ : L2.St} {H : Hp} {s : Shared}
/-- a lambda is made; but for its maker's table all stays -/
theorem lam_new {T : List (Addr × Str)} {cc tt : Addr} {nm : Str} {args : Arguments} {body : Expr} {scope : Scope} {pos : Pos} {E : Value → Shared → Prop} {Q : Value → Shared → Prop} (I : Inv X pins σ H s) (B : LamX.TabB X.base X.mg cc tt) (hc : X.env.code = .ref cc) (hq : X.env.qual ++ "<lambda>" = nm)
    (mem : (tt, nm) ∈ T) (uni : ∀ p ∈ T, p.1 = tt → p.2 = nm) (ok : LamX.Tabs T H) (hdef : defaultsOf args X.env = ([], [])) (hfree : ∀ y ∈ scope.names, y.2 = .free → ∃ c, X.env.cells.lookup y.1 = some c)
    (q : ∀ (f c' : Addr) (pm ctv : Value) (H1 : Hp) (s' : Shared), Inv X pins σ H1 s' → (∀ b o, b ≠ tt → H b = some o → H1 b = some o) → LamX.Tabs T H1 →
      s'.heap.get? f = some (PySem.W.kla_obj "<lambda>" nm args body scope (cloFrom X.env.cells scope.names []) pm c' ctv) → (∃ (oc : Obj) (vs : Array Value) (t : Tok), s'.heap.get? c' = some oc ∧ oc.data = .fields vs ∧ vs[1]? = some (.str nm t)) → Q (.ref f) s') :
    wpAny (model X.prog X.w) X.A (eval (.Lambda args body scope pos) X.env) Q E s := by
  subst hq
  obtain ⟨ps, tb, tr, am⟩ := ok _ mem
  have gt : s.heap.get? tt = some { cls := .none, data := .fields ps } := I.hok tt _ tb
  have bt : s.heap.BuiltinsAt X.mg tt := B.bm.keeps I.bk
  have cd := B.code.keeps I.bk
  have ns := I.mod.glob.keeps I.bk
  refine PySem.W.kla_eval hdef ?_
  cases hit : codeAmong pos ps.toList with
  | some cv =>
    obtain ⟨c', rfl, co⟩ := am pos cv hit
    refine PySem.W.kla_makeFunctionHit (mg := X.mg) (c := cc) (P := tt) (ps := ps) (closure_ok hfree) I.ok.glob ns hc cd gt tr hit bt fun ctv h' tk hx hsz => ?_
    have kp : ∀ (o : Obj) b u, s.heap.get? b = some u → (h'.push o).get? b = some u := fun o b u e => Heap.get?_push_of_some _ (hx b u e)
    obtain ⟨⟨oc, vs, t, e1, e2, e3⟩, _, _⟩ := I.hok c' _ co
    exact q h'.objs.size c' ((X.mg "__name__").getD .none) ctv H _ (I.kept (kp _)) (fun _ _ _ e => e) ok (Heap.get?_push_size _ rfl) ⟨oc, vs, t, kp _ _ _ e1, e2, e3⟩
  | none =>
    refine PySem.W.kla_makeFunction (mg := X.mg) (c := cc) (P := tt) (ps := ps) (closure_ok hfree) I.ok.glob ns hc cd gt tr hit B.gP bt fun c' ctv h' tk hx hge hlt hrec htb => ?_
    obtain ⟨c2, oc, vs, t, ec, hoc, hd, hv⟩ := hrec
    cases ec
    have fresh : H c' = none := I.hok.fresh hge
    have fr2 : ∀ {b u}, H b = some u → b ≠ c' := fun e => ne_of_none e fresh
    have J := LamX.inv_table (q := X.env.qual ++ "<lambda>") (t' := tk) (more := #[rawInt pos.line, rawInt pos.col, .ref c']) (h' := h'.push (PySem.W.kla_obj "<lambda>" (X.env.qual ++ "<lambda>") args body scope (cloFrom X.env.cells scope.names []) ((X.mg "__name__").getD .none) c' ctv)) I tb (fun b o nb e => Heap.get?_push_of_some _ (hx b o nb e)) (Heap.get?_push_of_some _ htb) hge ⟨oc, vs, t, Heap.get?_push_of_some _ hoc, hd, hv⟩
    have up : ∀ b u, b ≠ tt → H b = some u → upd (upd H tt (.tbl (ps ++ #[rawInt pos.line, rawInt pos.col, .ref c']))) c' (LamX.CodeO c' (X.env.qual ++ "<lambda>")) b = some u := fun b u nb e => by rw [upd_ne (fr2 e), upd_ne nb]; exact e
    have lt : (ps ++ #[rawInt pos.line, rawInt pos.col, .ref c']).toList = ps.toList ++ [rawInt pos.line, rawInt pos.col, .ref c'] := by simp
    refine q h'.objs.size c' ((X.mg "__name__").getD .none) ctv _ _ J up (fun p hp => ?_) (Heap.get?_push_size _ rfl) ⟨oc, vs, t, Heap.get?_push_of_some _ hoc, hd, hv⟩
    by_cases z : p.1 = tt
    · rw [uni p hp z, z]
      refine ⟨_, (upd_ne (fr2 tb)).trans upd_same, by rw [lt]; exact PySem.TriplesOk_snoc _ _ _ _ tr, fun p' cv e => ?_⟩
      rw [lt] at e
      rcases LamX.among_app _ tr e with y | y
      · obtain ⟨c0, e1, e2⟩ := am p' cv y
        exact ⟨c0, e1, up _ _ (fun y => by rw [y, tb] at e2; exact absurd (Option.some.inj e2).symm (LamX.codeO_ne _)) e2⟩
      · exact ⟨c', y, upd_same⟩
    · obtain ⟨qs, a1, a2, a3⟩ := ok p hp
      refine ⟨qs, up _ _ z a1, a2, fun p' cv e => ?_⟩
      obtain ⟨c0, e1, e2⟩ := a3 p' cv e
      exact ⟨c0, e1, up _ _ (fun y => by rw [y, tb] at e2; exact absurd (Option.some.inj e2).symm (LamX.codeO_ne _)) e2⟩
end
end ZL
namespace Z
open PySem PySem.Spec PyProof.Rows L2
variable [Tabl]
/-! ### defs that make lambdas: the code object is known -/
structure FunC (K : PySem.W.Frag) (x : Str) (st : Stmt) (f : Addr) (fd : FuncData) (cc : Addr) : Prop where
  ex : ∃ (oc : Value) (od : Option Addr) (kV doc pm : Value) (an : Option Addr) (ct : Value) (osl : Array (Option Value)), fd = PySem.W.fnOf x x (defArgs st) (defBody st) (defScope st) .none kV doc pm an (.ref cc) ct ∧ K.lookup f = some ⟨oc, od, .func fd, osl⟩ ∧ PySem.W.codeIn K (.ref cc) x = true
  kp : PySem.W.keepIn K (.ref f) = true
theorem fun_mkC {K : PySem.W.Frag} {x : Str} {st : Stmt} {f cc : Addr} {oc : Value} {od : Option Addr} {kV doc pm : Value} {an : Option Addr} {ct : Value} {osl : Array (Option Value)} (lk : K.lookup f = some ⟨oc, od, .func (PySem.W.fnOf x x (defArgs st) (defBody st) (defScope st) .none kV doc pm an (.ref cc) ct), osl⟩)
    (hcd : PySem.W.codeIn K (.ref cc) x = true) (kp : PySem.W.keepIn K (.ref f) = true) : FunC K x st f (PySem.W.fnOf x x (defArgs st) (defBody st) (defScope st) .none kV doc pm an (.ref cc) ct) cc := ⟨⟨_, _, _, _, _, _, _, _, rfl, lk, hcd⟩, kp⟩
/-- what a lambda's making asks of the def around it -/
structure LamIn (X : Cx) (cc tt : Addr) (nm : Str) : Prop where
  tb : LamX.TabB X.base X.mg cc tt
  code : X.env.code = .ref cc
  qual : X.env.qual ++ "<lambda>" = nm
  mem : (tt, nm) ∈ Tabl.T
  uni : ∀ p ∈ Tabl.T, p.1 = tt → p.2 = nm
section
variable {P : Program} {w : World} {K : PySem.W.Frag} {mg : Str → Option Value} {base : Heap}
theorem ok_sdC {R : List PyData → PyData → Prop} {x : Str} {st : Stmt} {N ps : List Str} {k : Nat} {f : Addr} {fd : FuncData} {cc tt : Addr} {nm : Str} (F : FunC K x st f fd cc) (TB : LamX.TabB base mg cc tt) (hq : x ++ ".<locals>." ++ "<lambda>" = nm) (hmem : (tt, nm) ∈ Tabl.T) (huni : ∀ p ∈ Tabl.T, p.1 = tt → p.2 = nm)
    (S : FnScope N ps (defScope st)) (hl : ∀ ds d, R ds d → ds.length = ps.length) (hN : ps.length ≤ N.length)
    (h : ∀ X, Ctx P w K mg base ⟨N, defScope st, fun _ => true⟩ k X → LamIn X cc tt nm → ∀ ds d, R ds d → SD X (ds.map SK.dat ++ List.replicate (N.length - ds.length) .no) (defBody st) { nx := fun _ => d = .none, rt := fun _ d' => d' = d, rl := fun _ ds' => d = .list ds' }) :
    FnOk P w K mg base CX0 (k + 1) f fd ps (spP K R) := by
  obtain ⟨oc, od, kV, doc, pm, an, ct, osl, rfl, lk, hcd⟩ := F.ex
  refine fn_of lk hcd S (fun vs H Q E ⟨G, ds, d, _, _, r, hR, _⟩ => by rw [r.len]; exact hl ds d hR) fun A outer s H vs Q E hr ⟨G, ds, d, g, tb, r, hR, q⟩ => ?_
  have S0 := start_sts (N := N) (Le.refl g tb) r (by rw [hl ds d hR]; exact hN)
  refine ⟨_, (pss_sv (X := (cxOf CX0 P w K mg base N x (defScope st) f (.ref cc) A outer s H E).nox)).nox, ?_⟩
  refine h _ (cxOf_ctx S (.ref cc) A outer s H E hr) ⟨TB, rfl, hq, hmem, huni⟩ ds d hR _ _ G H _ S0 ⟨fun ks σ G' H' e S' => ?_, fun _ _ _ _ z => z.elim, fun _ _ _ _ z => z.elim, fun ks σ G' H' v d' e S' r' => ?_, fun ks σ G' H' a ds' e S' => ?_, fun _ _ _ _ _ _ _ z => z.elim, ex0⟩
  · exact q .non G' H' S'.le (by rw [e]; exact .non)
  · exact q v G' H' S'.le (by rw [← e]; exact r')
  · obtain ⟨G2, S2, g2, r2⟩ := S'.popFreeze
    exact q _ G2 H' S2.le (by rw [e]; exact r2)
end
/-! ### sorted(.., key = lambda x: (x[i], x[j])) -/
section
variable {P : Program} {w : World} {K : PySem.W.Frag} {mg : Str → Option Value} {base : Heap} {T : Sta} {k : Nat} {X : Cx} {ks k1 : List SK} {e : Expr}
theorem each_of {G : Hp} {β : Type} {enc : β → PyData} : ∀ {vs : List V} {us : List Value} {bs : List β}, Vals vs us → DpAll K G vs (bs.map enc) → PySem.W.EachIs (fun u b => ∃ v, RelV v u ∧ Dp K G v (enc b)) us bs
  | _, _, [], .nil, _ => .nil
  | _, _, [], .cons _ _, h => by cases h
  | _, _, b :: bs, .nil, h => by cases h
  | _, _, b :: bs, .cons r rr, h => by cases h with | cons a t => exact .cons ⟨_, r, a⟩ (each_of rr t)
theorem each_to {G : Hp} {β : Type} {enc : β → PyData} : ∀ {us : List Value} {bs : List β}, PySem.W.EachIs (fun u b => ∃ v, RelV v u ∧ Dp K G v (enc b)) us bs → ∃ vs, Vals vs us ∧ DpAll K G vs (bs.map enc)
  | _, _, .nil => ⟨[], .nil, .nil⟩
  | _, _, .cons ⟨v, r, d⟩ t => by
    obtain ⟨vs, a, b⟩ := each_to t
    exact ⟨v :: vs, .cons r a, .cons d b⟩
theorem depth_ii {i j : Int} : (PyData.tuple [.int i, .int j]).depth = 1 := by simp [PyData.depth, PyData.depthAll]
theorem el_sortedKey {cc tt : Addr} {nm : Str} (c : Ctx P w K mg base T (k + 2) X) (L : LamIn X cc tt nm) (hg : T.sc.names.lookup ("sorted" : Str) = some .globalImplicit) (hm : mg "sorted" = none) {β : Type} {bs : List β} {enc : β → List Int} {fi fj : β → Int} {i j : Nat}
    {x : Str} {args : Arguments} {scope : Scope} {k1' k2' k3' : Nat} {p p1 p2 p3 p4 p5 p6 p7 lpos kpos pos : Pos} {da : PyData}
    (h : ED X ks e k1 da) (hda : da = .list (bs.map fun b => .tuple ((enc b).map .int)) ∨ da = .tuple (bs.map fun b => .tuple ((enc b).map .int)))
    (hi : ∀ b ∈ bs, (enc b)[i]? = some (fi b)) (hj : ∀ b ∈ bs, (enc b)[j]? = some (fj b)) (sm : ∀ b ∈ bs, (enc b).length < 1000)
    (hdef : defaultsOf args X.env = ([], [])) (hfree : ∀ y ∈ scope.names, y.2 = .free → False)
    (hb : ∀ f pm cv ctv v, bindArgs (PySem.W.kla_fn "<lambda>" nm args (.Tuple [.Subscript (.Name x p1) (.Constant (.int (i : Int)) k1' p2) p3, .Subscript (.Name x p4) (.Constant (.int (j : Int)) k2' p5) p6] k3' p7) scope f pm cv ctv) ⟨[v], []⟩ = pure [(x, v)])
    (kd : scope.kind = .function) (nc : scope.isCoroutine = false) (ng : scope.isGenerator = false) (own : ∀ y ∈ scope.names, y.2 ≠ .cell) (lk : scope.names.lookup x = some .local) (hd : (x == ("__debug__" : Str)) = false)
    (hs : starEach [e] X.env = (false, eval e X.env) :: starEach [] X.env) :
    EL X ks (.Call (.Name "sorted" p) [e] [⟨some "key", .Lambda args (.Tuple [.Subscript (.Name x p1) (.Constant (.int (i : Int)) k1' p2) p3, .Subscript (.Name x p4) (.Constant (.int (j : Int)) k2' p5) p6] k3' p7) scope lpos, kpos⟩] pos) k1
      ((bs.mergeSort fun a b => decide (fi a < fi b ∨ (fi a = fi b ∧ fj a ≤ fj b))).map fun b => .tuple ((enc b).map .int)) := by
  intro W σ G H S Q q
  refine ⟨fun pins s I => ?_⟩
  refine wpAny_Call_Name_kw (ld_blt I (gl_of c hg) (by rw [c.hmg]; exact hm) PyProof.Rows.boot_sorted ?_)
  have run1 := (av_of (t := tCons (EV X e) tNil) (pa_cons pe_ev pa_nil hs) (σ := σ) (H := H) (Q := fun vs H1 => ∃ G1 v, vs = [v] ∧ Sts X.K W k1 σ G1 H1 ∧ Same G G1 ∧ Dp X.K G1 v da)
    (h W σ G H S _ fun v G1 H1 S1 g1 r1 => ⟨G1, v, rfl, S1, g1, r1⟩))
  refine PyProof.Rows.callWith_kw (thn (run1.run pos pins s I) fun us s1 ⟨vs, H1, I1, rv, G1, v, ev, S1, g1, r1⟩ => ?_) (by rw [hs]; rfl) (by rw [hs]; rfl)
  subst ev
  show wpAny _ _ (evalAll [(do let v ← eval (.Lambda args _ scope lpos) X.env; standAt pos; pure v)]) _ _ s1
  refine wpAny_evalAll_cons (wpAny_bind (ZL.lam_new I1 L.tb L.code L.qual L.mem L.uni S1.le.tb.t hdef (fun y hy e => (hfree y hy e).elim) fun f c' pm ctv H2 s2 I2 st T2 hf hc => wpAny_bind (wpAny_standAt (wpAny_pure (wpAny_evalAll_nil ?_)))))
  show wpAny _ _ (call (.builtin "sorted") us [(Str.ofString "key", .ref f)]) _ _ s2
  have tg : G1 tt = none := S1.le.tb.g _ L.mem
  have gh2 : Same G1 H2 := fun b u e => st b u (fun z => by rw [z, tg] at e; cases e) (S1.gh b u e)
  have le2 : Le (pur G1 H1) G1 H2 := {
    g := Same.refl _
    gh := gh2
    keep := fun a o _ nt e => by
      by_cases z : a = tt
      · obtain ⟨ps, hp⟩ := S1.le.tb.at L.mem
        have e : H1 a = some o := e
        rw [z, hp] at e
        cases e
        exact (nt _ rfl).elim
      · exact st a o z e
    there := fun a o e => by
      by_cases z : a = tt
      · obtain ⟨ps, hp, _⟩ := T2 _ L.mem
        rw [z]; exact ⟨_, hp⟩
      · exact ⟨o, st a o z e⟩
    fz := fun _ _ e _ => e
    m := fun _ z => z.elim
    tb := ⟨S1.le.tb.g, T2⟩ }
  have S2 := S1.step le2
  -- the items
  obtain ⟨l, vs, its, ev, dp, rvs, cl, hz⟩ : ∃ (l : Addr) (vs : List V) (its : List Value), us = [.ref l] ∧ DpAll X.K G1 vs (bs.map fun b => .tuple ((enc b).map .int)) ∧ Vals vs its ∧ ZL.Colls X.prog X.w s2 l its ∧ its.length ≤ sizeLine := by
    rcases hda with e | e
    · subst e
      obtain ⟨l, xs, rfl, sl, al⟩ := r1.lst_inv
      obtain ⟨its, ri, pl, hz⟩ := I2.list (gh2.seq sl)
      have hz' : its.length ≤ sizeLine := by rw [← ri.length]; exact hz
      exact ⟨l, xs, its, Vals.ref1 rv, al, ri, ZL.colls_lst pl.isList hz', hz'⟩
    · subst e
      obtain ⟨l, xs, rfl, sl, al⟩ := r1.tup_inv
      obtain ⟨its, ri, pl, hz⟩ := I2.tuple (Same.seqT gh2 sl)
      have hz' : its.length ≤ sizeLine := by rw [← ri.length]; exact hz
      obtain ⟨o, h1, h2, n, h3⟩ := pl
      exact ⟨l, xs, its, Vals.ref1 rv, al, ri, ZL.colls_tup ⟨o, h1, h2, n, h3⟩ hz', hz'⟩
  subst ev
  have E := each_of rvs dp
  have hlen : bs.length ≤ sizeLine := by rw [← E.length]; exact hz
  refine ZL.sorted_by (b := false) (fun b : β => .tuple [.int (fi b), .int (fj b)]) cl E (PySem.W.AllAlike.of fun _ _ => by simp [PySem.W.alike, PySem.W.alikeAll]) (PySem.W.Sortable.tuples fun _ => ⟨_, _, rfl⟩) hlen (fun b _ => ?_) (PyProof.Rows.ksk_s1 _ _) (fun _ => PyProof.Rows.ksk_l1 _ _) (fun _ => PyProof.Rows.ksk_t1 _ _) (fun u b ⟨v, ru, rb⟩ hb' h3 tk kp => ?_) fun out cx h' tk kp hn hD hol eo => ?_
  · rw [depth_ii]
    have := c.room.un
    omega
  · obtain ⟨t, xs, rfl, st', at'⟩ := rb.tup_inv
    obtain rfl : u = .ref t := ru
    have ea := DpAll.ints_inv at'
    subst ea
    obtain ⟨is, ri, it, _⟩ := I2.tuple (Same.seqT gh2 st')
    have key : ∀ {n : Nat} {a : Int}, (enc b)[n]? = some a → ∃ ta, is.toArray[n]? = some (.int a ta) := fun {n a} hn => by
      obtain ⟨y, h1, h2⟩ := ri.get (i := n) (x := .int a) (by rw [List.getElem?_map, hn]; rfl)
      obtain ⟨ta, rfl⟩ : ∃ ta, y = .int a ta := h2
      exact ⟨ta, by simpa using h1⟩
    obtain ⟨ta, h1⟩ := key (hi b hb')
    obtain ⟨tb, h2⟩ := key (hj b hb')
    obtain ⟨oc, ws, tq, c1, c2, c3⟩ := hc
    exact ZL.key_call (s := { s2 with heap := h3, toks := tk }) c.room.in1.in1.depth (I2.nolimit.keeps kp) (kp _ _ hf) ⟨c', oc, ws, tq, rfl, kp _ _ c1, c2, c3⟩ (hb _ _ _ _) kd nc ng own lk hd (it.keeps kp) h1 h2 (by
      have e := ri.length
      rw [List.length_map] at e
      rw [List.size_toArray, ← e]; exact sm b hb')
  · rw [PySem.W.dataLe_ii] at eo
    obtain ⟨zs, rz, dz⟩ := each_to eo
    have nH : H2 (s2.heap.objs.size + 1) = none := I2.hok.fresh (Nat.le_succ _)
    have gp : G1 (s2.heap.objs.size + 1) = none := by
      cases e : G1 (s2.heap.objs.size + 1) with
      | none => rfl
      | some u => rw [gh2 _ u e] at nH; cases nH
    have l3 := Lp.newOwn (o := .lst zs) S2.gh nH
    refine ⟨.ref _, upd H2 (s2.heap.objs.size + 1) (.lst zs), I2.laid (t' := tk) kp (Nat.le_succ _) ⟨by rw [rz.length, hol]; exact hlen, _, cx, rz, hD⟩, rfl, ?_⟩
    exact q _ G1 _ (S2.push l3 nH gp upd_same dz) g1
end
end Z
local macro_rules | `(tactic| kspl_open vis) => `(tactic| first | exact .inl rfl | exact .inr (.inl rfl) | exact .inr (.inr rfl))
local macro_rules | `(tactic| kspl_open loc) => `(tactic| first | exact .inl rfl | exact .inr rfl)
local macro_rules | `(tactic| kspl_open bd) => `(tactic| first | exact Z.bd_add | exact Z.bd_sub | exact Z.bd_mod (by first | decide | omega) | exact Z.bd_fdiv ⟨by first | decide | omega, by first | decide | omega⟩ | exact Z.bd_mul (.inl ⟨by omega, by omega⟩) | exact Z.bd_mul (.inr ⟨by omega, by omega⟩))
local macro_rules | `(tactic| kspl_open cd) => `(tactic| first | exact Z.cd_lt | exact Z.cd_le | exact Z.cd_gt | exact Z.cd_ge | exact Z.cd_eqI | exact Z.cd_neI | exact Z.cd_isN | exact Z.cd_notN)
local macro_rules | `(tactic| kspl_open cl) => `(tactic| first | exact Z.cl_lenT | exact Z.cl_lenL | exact Z.cl_max2 (Z.Ctx.calm (by assumption)) | exact Z.cl_min2 (Z.Ctx.calm (by assumption)) | exact Z.cl_intB | exact Z.cl_tupL | exact Z.cl_lstL | exact Z.cl_lstT)
local macro_rules | `(tactic| kspl_open ix) => `(tactic| first | rfl | assumption | exact Z.ix_fl (by assumption) | exact Z.ix_row (by assumption) (by assumption) (by assumption))
namespace K
open PySem L2 Z
def top (i : Nat) : Stmt := PySem.Challenge.pw_homingpost_k04_whole_letters_spread.main.body.getD i (.Pass ⟨0, 0, 0, 0⟩)
abbrev s_need : Stmt := top 17
abbrev s_is_office : Stmt := top 18
abbrev s_need_flights : Stmt := top 19
abbrev s_need_rows : Stmt := top 20
abbrev s_need_book : Stmt := top 21
abbrev s_need_posting : Stmt := top 22
abbrev s_need_office : Stmt := top 23
abbrev s_is_barred : Stmt := top 25
abbrev s_let_go : Stmt := top 26
abbrev s_comes : Stmt := top 27
abbrev s_need_begins : Stmt := top 29
abbrev s_posted : Stmt := top 30
abbrev s_spread : Stmt := top 31
abbrev s_reach : Stmt := top 32
abbrev s_flights_of : Stmt := top 33
abbrev s_flown : Stmt := top 34
abbrev s__law_next : Stmt := top 36
abbrev s__law_hours : Stmt := top 37
abbrev s__law_book : Stmt := top 38
abbrev s__law_posting : Stmt := top 39
abbrev s__law_begins : Stmt := top 40
abbrev s__law_barred : Stmt := top 41
abbrev s__law_days : Stmt := top 42
abbrev s__law_rows : Stmt := top 43
abbrev s_law : Stmt := top 44
class LamC where
  cc : Addr
  tt : Addr
instance tabOf [LamC] : Tabl := ⟨[(LamC.tt, "law.<locals>.<lambda>")]⟩
structure Md (K : PySem.W.Frag) (mg : Str → Option Value) : Prop where
  c_LEAST_OFFICES : ∃ t, mg "LEAST_OFFICES" = some (.int 2 t)
  c_MOST_OFFICES : ∃ t, mg "MOST_OFFICES" = some (.int 6 t)
  c_MOST_FLIGHT : ∃ t, mg "MOST_FLIGHT" = some (.int 9 t)
  c_MOST_STORMS : ∃ t, mg "MOST_STORMS" = some (.int 8 t)
  c_MOST_CARTS : ∃ t, mg "MOST_CARTS" = some (.int 12 t)
  c_MOST_BIRDS : ∃ t, mg "MOST_BIRDS" = some (.int 6 t)
  c_MOST_HOUR : ∃ t, mg "MOST_HOUR" = some (.int 99 t)
  c_FLIGHTS : ∃ t, mg "FLIGHTS" = some (.int 0 t)
  c_STORMS : ∃ t, mg "STORMS" = some (.int 1 t)
  c_CARTS : ∃ t, mg "CARTS" = some (.int 2 t)
  c_BIRDS : ∃ t, mg "BIRDS" = some (.int 3 t)
  d_need : DefAt K mg "need" s_need ["good", "why"]
  d_is_office : DefAt K mg "is_office" s_is_office ["book", "office"]
  d_need_flights : DefAt K mg "need_flights" s_need_flights ["book"]
  d_need_rows : DefAt K mg "need_rows" s_need_rows ["book", "place", "most", "why"]
  d_need_book : DefAt K mg "need_book" s_need_book ["book"]
  d_need_posting : DefAt K mg "need_posting" s_need_posting ["book", "posting"]
  d_need_office : DefAt K mg "need_office" s_need_office ["book", "office"]
  d_is_barred : DefAt K mg "is_barred" s_is_barred ["book", "office", "home", "hour"]
  d_let_go : DefAt K mg "let_go" s_let_go ["book", "office", "home", "hour"]
  d_comes : DefAt K mg "comes" s_comes ["book", "office", "home", "hour"]
  d_need_begins : DefAt K mg "need_begins" s_need_begins ["book", "begins"]
  d_posted : DefAt K mg "posted" s_posted ["posting"]
  d_spread : DefAt K mg "spread" s_spread ["book", "rows", "begins"]
  d_reach : DefAt K mg "reach" s_reach ["book", "posting", "begins"]
  d_flights_of : DefAt K mg "flights_of" s_flights_of ["book", "rows", "begins"]
  d_flown : DefAt K mg "flown" s_flown ["book", "posting", "begins"]
  d__law_next : DefAt K mg "_law_next" s__law_next ["_law_h", "_law_many"]
  d__law_hours : DefAt K mg "_law_hours" s__law_hours ["_law_h", "_law_offices", "_law_most"]
  d__law_book : DefAt K mg "_law_book" s__law_book ["_law_h", "_law_offices", "_law_birds"]
  d__law_posting : DefAt K mg "_law_posting" s__law_posting ["_law_h", "_law_book_here"]
  d__law_begins : DefAt K mg "_law_begins" s__law_begins ["_law_h", "_law_book_here"]
  d__law_barred : DefAt K mg "_law_barred" s__law_barred ["_law_book_here", "_law_office", "_law_home", "_law_hour"]
  d__law_days : DefAt K mg "_law_days" s__law_days ["_law_book_here", "_law_rows_here", "_law_begins_here"]
  d__law_rows : DefAt K mg "_law_rows" s__law_rows ["_law_posting_here"]
  b_bool : mg "bool" = none
  b_enumerate : mg "enumerate" = none
  b_int : mg "int" = none
  b_isinstance : mg "isinstance" = none
  b_len : mg "len" = none
  b_list : mg "list" = none
  b_max : mg "max" = none
  b_min : mg "min" = none
  b_range : mg "range" = none
  b_sorted : mg "sorted" = none
  b_tuple : mg "tuple" = none
end K
namespace K
open PySem L2 Z
section
variable {P : Program} {w : World} {K : PySem.W.Frag} {mg : Str → Option Value} {base : Heap} [LamC]
def R_need (ds : List PyData) (d : PyData) : Prop := ∃ b w, ds = [.bool b, w] ∧ b = true ∧ d = .none
theorem ok_need (M : Md K mg) : FnG P w K mg base "need" ["good", "why"] 1 (spP K R_need) := by
  refine fn_sd (N := ["good", "why"]) M.d_need ⟨rfl, rfl, rfl, by decide +kernel, rfl, by decide +kernel, by decide +kernel⟩ (fun ds d ⟨_, _, e, _⟩ => by rw [e]; rfl) (by decide) (fun X c ds d hR => ?_)
  obtain ⟨b, w, rfl, rfl, rfl⟩ := hR
  show SD X [.dat (.bool true), .dat w] _ _
  refine sd_if (td_not (td_val (ed_var c 0 rfl (.inl rfl) rfl rfl rfl) (fun _ => rfl))) (fun hb => ?_) (fun hb => ?_)
  · cases hb
  · exact sd_nil (sd_nil rfl)
def R_is_office (ds : List PyData) (d : PyData) : Prop := ∃ B o, ds = [eBook B, .int o] ∧ d = .bool (decide (0 ≤ o) && decide (o < (B.n : Int)))
theorem ok_is_office (M : Md K mg) : FnG P w K mg base "is_office" ["book", "office"] 1 (spP K R_is_office) := by
  refine fn_sd (N := ["book", "office"]) M.d_is_office ⟨rfl, rfl, rfl, by decide +kernel, rfl, by decide +kernel, by decide +kernel⟩ (fun ds d ⟨_, _, e, _⟩ => by rw [e]; rfl) (by decide) (fun X c ds d hR => ?_)
  obtain ⟨B, o, rfl, rfl⟩ := hR
  show SD X [.dat (eBook B), .dat (.int o)] _ _
  refine sd_ret (ed_chain ed_int (ed_var c 1 rfl (.inl rfl) rfl rfl rfl) (fun _ => (ed_callB c rfl M.b_len PySem.boot_len (ad_cons (ed_ix (ed_var c 0 rfl (.inl rfl) rfl rfl rfl) (ed_gint c rfl M.c_FLIGHTS rfl) (by kspl_open ix) (fun _ _ => rfl)) ad_nil rfl) (by kspl_open cl) (by decide) rfl rfl rfl)) (by kspl_open cd) (by kspl_open cd) (by with_unfolding_all rfl)) ?_
  show PyData.bool _ = _
  rw [List.length_map]
end
end K
namespace K
open PySem L2 Z
section
variable {P : Program} {w : World} {K : PySem.W.Frag} {mg : Str → Option Value} {base : Heap} [LamC]
def R_need_office (ds : List PyData) (d : PyData) : Prop := ∃ B o, ds = [eBook B, .int o] ∧ B.off o ∧ d = .none
theorem ok_need_office (M : Md K mg) : FnG P w K mg base "need_office" ["book", "office"] 2 (spP K R_need_office) := by
  have Fis_office := ok_is_office (P := P) (w := w) (base := base) M
  refine fn_sd (N := ["book", "office"]) M.d_need_office ⟨rfl, rfl, rfl, by decide +kernel, rfl, by decide +kernel, by decide +kernel⟩ (fun ds d ⟨_, _, e, _⟩ => by rw [e]; rfl) (by decide) (fun X c ds d hR => ?_)
  obtain ⟨B, o, rfl, ho, rfl⟩ := hR
  show SD X [.dat (eBook B), .dat (.int o)] _ _
  refine sd_if (td_not (td_val (ed_call c Fis_office (by decide) rfl (ad_cons (ed_var c 0 rfl (.inl rfl) rfl rfl rfl) (ad_cons (ed_var c 1 rfl (.inl rfl) rfl rfl rfl) ad_nil rfl) rfl) ⟨B, o, rfl, rfl⟩ rfl rfl rfl) (fun _ => rfl))) (fun hb => ?_) (fun hb => ?_)
  · rw [decT ho.1, decT ho.2] at hb
    cases hb
  · exact sd_nil (sd_nil rfl)
end
end K
namespace K
open PySem L2 Z
section
variable {P : Program} {w : World} {K : PySem.W.Frag} {mg : Str → Option Value} {base : Heap} [LamC]
/-! ### books -/
def R_need_flights (ds : List PyData) (d : PyData) : Prop := ∃ B, ds = [eBook B] ∧ Good B ∧ d = .none
theorem row_at {B : Book} {i : Nat} {r : List Int} (h : B.fl[i]? = some r) : B.row (i : Int) = r ∧ B.off (i : Int) := by
  have hi := (List.getElem?_eq_some_iff.mp h).1
  refine ⟨?_, by omega, ?_⟩
  · unfold Book.row
    rw [Int.toNat_natCast, List.getD_eq_getElem?_getD, h]; rfl
  · show ((i : Nat) : Int) < (B.fl.length : Int)
    omega
theorem f_at {B : Book} {i j : Nat} {r : List Int} {v : Int} (h : B.fl[i]? = some r) (hv : r[j]? = some v) : B.f (i : Int) (j : Int) = v := by
  unfold Book.f
  rw [(row_at h).1, Int.toNat_natCast, List.getD_eq_getElem?_getD, hv]; rfl
theorem ok_need_flights (M : Md K mg) : FnG P w K mg base "need_flights" ["book"] 2 (spP K R_need_flights) := by
  have Fneed := ok_need (P := P) (w := w) (base := base) M
  refine fn_sd (N := ["book", "rows", "office", "row", "home", "hours"]) M.d_need_flights ⟨rfl, rfl, rfl, by decide +kernel, rfl, by decide +kernel, by decide +kernel⟩ (fun ds d ⟨_, e, _⟩ => by rw [e]; rfl) (by decide) (fun X c ds d hR => ?_)
  obtain ⟨B, rfl, g, rfl⟩ := hR
  show SD X [.dat (eBook B), .no, .no, .no, .no, .no] _ _
  -- rows = book[FLIGHTS]
  refine sd_asg c 1 rfl (.inl rfl) (.inl rfl) (Nat.le_of_ble_eq_true rfl) (ed_ix (ed_var c 0 rfl (.inl rfl) rfl rfl rfl) (ed_gint c rfl M.c_FLIGHTS rfl) (by kspl_open ix) (fun _ _ => rfl)) rfl ?_
  -- need(LEAST_OFFICES <= len(rows) <= MOST_OFFICES, 'flights')
  refine sd_expr (ed_call c Fneed (by decide) rfl (ad_cons (ed_chain (ed_gint c rfl M.c_LEAST_OFFICES rfl) (ed_callB c rfl M.b_len PySem.boot_len (ad_cons (ed_var c 1 rfl (.inl rfl) rfl rfl rfl) ad_nil rfl) (by kspl_open cl) (by decide) rfl rfl rfl) (fun _ => (ed_gint c rfl M.c_MOST_OFFICES rfl)) (by kspl_open cd) (by kspl_open cd) (by with_unfolding_all rfl)) (ad_cons ed_str ad_nil rfl) rfl) ⟨_, _, rfl, ?_, rfl⟩ rfl rfl rfl) rfl ?_
  · have h1 := g.n2
    have h2 := g.n6
    rw [List.length_map, decT (show (2 : Int) ≤ (B.fl.length : Int) by show _; have : 2 ≤ B.fl.length := h1; omega), decT (show (B.fl.length : Int) ≤ 6 by have : B.fl.length ≤ 6 := h2; omega)]
    rfl
  -- for office, row in enumerate(rows):
  refine sd_for c (fun i => [.dat (eBook B), .dat (.tuple (B.fl.map eInts)), .no, .no, .no, .no]) (id_enumT c rfl M.b_enumerate (ed_var c 1 rfl (.inl rfl) rfl rfl rfl) rfl) (gd_tup c (gs_cons c 2 rfl (by kspl_open loc) (by kspl_open loc) (gs_cons c 3 rfl (by kspl_open loc) (by kspl_open loc) gs_nil rfl) rfl) rfl rfl) Wk.rfl' (fun i d hd => ?_) (sd_nil rfl) (fun _ => rfl)
  obtain ⟨d', hd', rfl⟩ := enumD_inv hd
  obtain ⟨r, hr, rfl⟩ := map_get hd'
  have rl : r.length = B.n := g.rows r (List.mem_of_getElem? hr)
  refine ⟨_, rfl, ?_⟩
  -- need(len(row) == len(rows), 'flights')
  refine sd_expr (ed_call c Fneed (by decide) rfl (ad_cons (ed_cmp (ed_callB c rfl M.b_len PySem.boot_len (ad_cons (ed_var c 3 rfl (.inl rfl) rfl rfl rfl) ad_nil rfl) (by kspl_open cl) (by decide) rfl rfl rfl) (ed_callB c rfl M.b_len PySem.boot_len (ad_cons (ed_var c 1 rfl (.inl rfl) rfl rfl rfl) ad_nil rfl) (by kspl_open cl) (by decide) rfl rfl rfl) (by kspl_open cd) (nomark _)) (ad_cons ed_str ad_nil rfl) rfl) ⟨_, _, rfl, ?_, rfl⟩ rfl rfl rfl) rfl ?_
  · rw [List.length_map, List.length_map, rl]
    exact decT rfl
  -- for home, hours in enumerate(row):
  refine sd_for c (fun j => [.dat (eBook B), .dat (.tuple (B.fl.map eInts)), .dat (.int (i : Int)), .dat (eInts r), .no, .no]) (id_enumT c rfl M.b_enumerate (ed_var c 3 rfl (.inl rfl) rfl rfl rfl) rfl) (gd_tup c (gs_cons c 4 rfl (by kspl_open loc) (by kspl_open loc) (gs_cons c 5 rfl (by kspl_open loc) (by kspl_open loc) gs_nil rfl) rfl) rfl rfl) Wk.rfl' (fun j d hd => ?_) (sd_nil ⟨.inr rfl, .inr rfl, .inl rfl, .inl rfl, .inl rfl, .inl rfl, trivial⟩) (fun _ => rfl)
  obtain ⟨d', hd'', rfl⟩ := enumD_inv hd
  obtain ⟨v, hv, rfl⟩ := map_get hd''
  refine ⟨_, rfl, ?_⟩
  have jn : j < B.n := by rw [← rl]; exact (List.getElem?_eq_some_iff.mp hv).1
  have jj : B.off (j : Int) := ⟨by omega, Int.ofNat_lt.mpr jn⟩
  have val := g.vals (i : Int) (j : Int) (row_at hr).2 jj
  rw [f_at hr hv] at val
  -- need(hours == 0 if home == office else 1 <= hours <= MOST_FLIGHT, 'flights')
  refine sd_expr (ed_call c Fneed (by decide) rfl (ad_cons (ed_if (d := .bool true) (td_cmp (ed_var c 4 rfl (.inl rfl) rfl rfl rfl) (ed_var c 2 rfl (.inl rfl) rfl rfl rfl) (by kspl_open cd) (nomark _)) (fun hb => ed_to (ed_cmp (ed_var c 5 rfl (.inl rfl) rfl rfl rfl) ed_int (by kspl_open cd) (nomark _)) ?_) (fun hb => ed_to (ed_chain ed_int (ed_var c 5 rfl (.inl rfl) rfl rfl rfl) (fun _ => (ed_gint c rfl M.c_MOST_FLIGHT rfl)) (by kspl_open cd) (by kspl_open cd) (by with_unfolding_all rfl)) ?_)) (ad_cons ed_str ad_nil rfl) rfl) ⟨_, _, rfl, rfl, rfl⟩ rfl rfl rfl) rfl ?_
  · rw [if_pos (of_decide_eq_true hb)] at val
    rw [decT val]
  · rw [if_neg (of_decide_eq_false hb)] at val
    rw [decT val.1, decT val.2]; rfl
  exact sd_nil ⟨.inr rfl, .inr rfl, .inr rfl, .inr rfl, .inl rfl, .inl rfl, trivial⟩
def R_need_rows (ds : List PyData) (d : PyData) : Prop := ∃ (B : Book) (p m : Int) (w : PyData) (l : List Row), ds = [eBook B, .int p, .int m, w] ∧ ixD (eBook B) p = some (.tuple (l.map eRow)) ∧ (l.length : Int) ≤ m ∧ (∀ r ∈ l, GoodRow B r) ∧ d = .none
theorem ok_need_rows (M : Md K mg) : FnG P w K mg base "need_rows" ["book", "place", "most", "why"] 2 (spP K R_need_rows) := by
  have Fneed := ok_need (P := P) (w := w) (base := base) M
  have Fis_office := ok_is_office (P := P) (w := w) (base := base) M
  refine fn_sd (N := ["book", "place", "most", "why", "one", "other", "begin", "end"]) M.d_need_rows ⟨rfl, rfl, rfl, by decide +kernel, rfl, by decide +kernel, by decide +kernel⟩ (fun ds d ⟨_, _, _, _, _, e, _⟩ => by rw [e]; rfl) (by decide) (fun X c ds d hR => ?_)
  obtain ⟨B, p, m, w, l, rfl, hp, hm, hl, rfl⟩ := hR
  show SD X [.dat (eBook B), .dat (.int p), .dat (.int m), .dat w, .no, .no, .no, .no] _ _
  -- need(len(book[place]) <= most, why)
  refine sd_expr (ed_call c Fneed (by decide) rfl (ad_cons (ed_cmp (ed_callB c rfl M.b_len PySem.boot_len (ad_cons (ed_ix (ed_var c 0 rfl (.inl rfl) rfl rfl rfl) (ed_var c 1 rfl (.inl rfl) rfl rfl rfl) hp (fun _ _ => rfl)) ad_nil rfl) (by kspl_open cl) (by decide) rfl rfl rfl) (ed_var c 2 rfl (.inl rfl) rfl rfl rfl) (by kspl_open cd) (nomark _)) (ad_cons (ed_var c 3 rfl (.inl rfl) rfl rfl rfl) ad_nil rfl) rfl) ⟨_, _, rfl, by rw [List.length_map]; exact decT hm, rfl⟩ rfl rfl rfl) rfl ?_
  -- for one, other, begin, end in book[place]:
  refine sd_for c (fun _ => [.dat (eBook B), .dat (.int p), .dat (.int m), .dat w, .no, .no, .no, .no]) (id_seq (ed_ix (ed_var c 0 rfl (.inl rfl) rfl rfl rfl) (ed_var c 1 rfl (.inl rfl) rfl rfl rfl) hp (fun _ _ => rfl)) rfl) (gd_tup c (gs_cons c 4 rfl (by kspl_open loc) (by kspl_open loc) (gs_cons c 5 rfl (by kspl_open loc) (by kspl_open loc) (gs_cons c 6 rfl (by kspl_open loc) (by kspl_open loc) (gs_cons c 7 rfl (by kspl_open loc) (by kspl_open loc) gs_nil rfl) rfl) rfl) rfl) rfl rfl) Wk.rfl' (fun i d hd => ?_) (sd_nil rfl) (fun _ => rfl)
  obtain ⟨r, hr, rfl⟩ := map_get hd
  have gr := hl r (List.mem_of_getElem? hr)
  refine ⟨_, rfl, ?_⟩
  -- need(is_office(book, one) and is_office(book, other) and (one != other), why)
  refine sd_expr (ed_call c Fneed (by decide) rfl (ad_cons (ed_and (ed_call c Fis_office (by decide) rfl (ad_cons (ed_var c 0 rfl (.inl rfl) rfl rfl rfl) (ad_cons (ed_var c 4 rfl (.inl rfl) rfl rfl rfl) ad_nil rfl) rfl) ⟨B, _, rfl, rfl⟩ rfl rfl rfl) (fun _ => (ed_and (ed_call c Fis_office (by decide) rfl (ad_cons (ed_var c 0 rfl (.inl rfl) rfl rfl rfl) (ad_cons (ed_var c 5 rfl (.inl rfl) rfl rfl rfl) ad_nil rfl) rfl) ⟨B, _, rfl, rfl⟩ rfl rfl rfl) (fun _ => (ed_and1 (ed_cmp (ed_var c 4 rfl (.inl rfl) rfl rfl rfl) (ed_var c 5 rfl (.inl rfl) rfl rfl rfl) (by kspl_open cd) (nomark _))))))) (ad_cons (ed_var c 3 rfl (.inl rfl) rfl rfl rfl) ad_nil rfl) rfl) ⟨_, _, rfl, ?_, rfl⟩ rfl rfl rfl) rfl ?_
  · rw [decT gr.a.1, decT gr.a.2, decT gr.b.1, decT gr.b.2, decide_eq_false gr.ne]; rfl
  -- need(0 <= begin < end <= MOST_HOUR, why)
  refine sd_expr (ed_call c Fneed (by decide) rfl (ad_cons (ed_chain3 ed_int (ed_var c 6 rfl (.inl rfl) rfl rfl rfl) (ed_var c 7 rfl (.inl rfl) rfl rfl rfl) (ed_gint c rfl M.c_MOST_HOUR rfl) (by kspl_open cd) (by kspl_open cd) (by kspl_open cd) (by with_unfolding_all rfl)) (ad_cons (ed_var c 3 rfl (.inl rfl) rfl rfl rfl) ad_nil rfl) rfl) ⟨_, _, rfl, ?_, rfl⟩ rfl rfl rfl) rfl ?_
  · rw [decT gr.h0, decT gr.h1, decT gr.h2]; rfl
  exact sd_nil ⟨.inr rfl, .inr rfl, .inr rfl, .inr rfl, .inl rfl, .inl rfl, .inl rfl, .inl rfl, trivial⟩
def R_need_book (ds : List PyData) (d : PyData) : Prop := ∃ B, ds = [eBook B] ∧ Good B ∧ d = .none
theorem ok_need_book (M : Md K mg) : FnG P w K mg base "need_book" ["book"] 3 (spP K R_need_book) := by
  have Fneed := ok_need (P := P) (w := w) (base := base) M
  have Fis_office := ok_is_office (P := P) (w := w) (base := base) M
  have Fneed_flights := ok_need_flights (P := P) (w := w) (base := base) M
  have Fneed_rows := ok_need_rows (P := P) (w := w) (base := base) M
  refine fn_sd (N := ["book", "home"]) M.d_need_book ⟨rfl, rfl, rfl, by decide +kernel, rfl, by decide +kernel, by decide +kernel⟩ (fun ds d ⟨_, e, _⟩ => by rw [e]; rfl) (by decide) (fun X c ds d hR => ?_)
  obtain ⟨B, rfl, g, rfl⟩ := hR
  show SD X [.dat (eBook B), .no] _ _
  -- need_flights(book)
  refine sd_expr (ed_call c Fneed_flights (by decide) rfl (ad_cons (ed_var c 0 rfl (.inl rfl) rfl rfl rfl) ad_nil rfl) ⟨B, rfl, g, rfl⟩ rfl rfl rfl) rfl ?_
  -- need_rows(book, STORMS, MOST_STORMS, 'storms')
  refine sd_expr (ed_call c Fneed_rows (by decide) rfl (ad_cons (ed_var c 0 rfl (.inl rfl) rfl rfl rfl) (ad_cons (ed_gint c rfl M.c_STORMS rfl) (ad_cons (ed_gint c rfl M.c_MOST_STORMS rfl) (ad_cons ed_str ad_nil rfl) rfl) rfl) rfl) ⟨B, 1, 8, _, B.st, rfl, rfl, by have := g.stl; omega, g.st, rfl⟩ rfl rfl rfl) rfl ?_
  -- need_rows(book, CARTS, MOST_CARTS, 'carts')
  refine sd_expr (ed_call c Fneed_rows (by decide) rfl (ad_cons (ed_var c 0 rfl (.inl rfl) rfl rfl rfl) (ad_cons (ed_gint c rfl M.c_CARTS rfl) (ad_cons (ed_gint c rfl M.c_MOST_CARTS rfl) (ad_cons ed_str ad_nil rfl) rfl) rfl) rfl) ⟨B, 2, 12, _, B.ca, rfl, rfl, by have := g.cal; omega, g.ca, rfl⟩ rfl rfl rfl) rfl ?_
  -- need(len(book[BIRDS]) <= MOST_BIRDS, 'birds')
  refine sd_expr (ed_call c Fneed (by decide) rfl (ad_cons (ed_cmp (ed_callB c rfl M.b_len PySem.boot_len (ad_cons (ed_ix (ed_var c 0 rfl (.inl rfl) rfl rfl rfl) (ed_gint c rfl M.c_BIRDS rfl) (by kspl_open ix) (fun _ _ => rfl)) ad_nil rfl) (by kspl_open cl) (by decide) rfl rfl rfl) (ed_gint c rfl M.c_MOST_BIRDS rfl) (by kspl_open cd) (nomark _)) (ad_cons ed_str ad_nil rfl) rfl) ⟨_, _, rfl, by rw [List.length_map]; exact decT (by have := g.bil; omega), rfl⟩ rfl rfl rfl) rfl ?_
  -- for home in book[BIRDS]:
  refine sd_for c (fun _ => [.dat (eBook B), .no]) (id_seq (ed_ix (ed_var c 0 rfl (.inl rfl) rfl rfl rfl) (ed_gint c rfl M.c_BIRDS rfl) (by kspl_open ix) (fun _ _ => rfl)) rfl) (gd_name c 1 rfl (by kspl_open loc) (by kspl_open loc)) Wk.rfl' (fun i d hd => ?_) (sd_nil rfl) (fun _ => rfl)
  obtain ⟨h, hh, rfl⟩ := map_get hd
  have gh := g.bi h (List.mem_of_getElem? hh)
  refine ⟨_, rfl, ?_⟩
  -- need(is_office(book, home), 'birds')
  refine sd_expr (ed_call c Fneed (by decide) rfl (ad_cons (ed_call c Fis_office (by decide) rfl (ad_cons (ed_var c 0 rfl (.inl rfl) rfl rfl rfl) (ad_cons (ed_var c 1 rfl (.inl rfl) rfl rfl rfl) ad_nil rfl) rfl) ⟨B, _, rfl, rfl⟩ rfl rfl rfl) (ad_cons ed_str ad_nil rfl) rfl) ⟨_, _, rfl, by rw [decT gh.1, decT gh.2]; rfl, rfl⟩ rfl rfl rfl) rfl ?_
  exact sd_nil ⟨.inr rfl, .inl rfl, trivial⟩
end
end K
namespace K
open PySem L2 Z
section
variable {P : Program} {w : World} {K : PySem.W.Frag} {mg : Str → Option Value} {base : Heap} [LamC]
/-! ### flying: pure -/
def stormIn (B : Book) (o h t : Int) (r : Row) : Bool := decide (r.1 = o) && (decide (r.2.1 = h) && (decide (r.2.2.1 < t + B.f o h) && decide (t < r.2.2.2)))
def barred (B : Book) (o h t : Int) : Bool := B.st.any (stormIn B o h t)
theorem barred_late {B : Book} (g : Good B) {o h t : Int} (ht : 99 ≤ t) : barred B o h t = false := by
  unfold barred
  rw [List.any_eq_false]
  intro r hr
  have := (g.st r hr).h2
  simp [stormIn]
  omega
/-- from an hour on, the first at which nothing bars; n: how many are looked at -/
def goAt (B : Book) (o h : Int) : Nat → Int → Int
  | 0, t => t
  | n + 1, t => if barred B o h t = true then goAt B o h n (t + 1) else t
def letGo (B : Book) (o h t : Int) : Int := goAt B o h (99 - t).toNat t
theorem letGo_yes {B : Book} (g : Good B) {o h t : Int} (hb : barred B o h t = true) : letGo B o h t = letGo B o h (t + 1) := by
  have ht : t < 99 := by
    rcases Int.lt_or_le t 99 with z | z
    · exact z
    · rw [barred_late g z] at hb; cases hb
  unfold letGo
  have e : (99 - t).toNat = (99 - (t + 1)).toNat + 1 := by omega
  rw [e]
  show (if barred B o h t = true then goAt B o h (99 - (t + 1)).toNat (t + 1) else t) = _
  rw [if_pos hb]
theorem letGo_no {B : Book} {o h t : Int} (hb : barred B o h t = false) : letGo B o h t = t := by
  unfold letGo
  cases (99 - t).toNat with
  | zero => rfl
  | succ n =>
    show (if barred B o h t = true then goAt B o h n (t + 1) else t) = _
    rw [if_neg (by rw [hb]; decide)]
def comesAt (B : Book) (o h t : Int) : Int := if o = h then t else letGo B o h t + B.f o h
end
end K
namespace K
open PySem L2 Z
section
variable {P : Program} {w : World} {K : PySem.W.Frag} {mg : Str → Option Value} {base : Heap} [LamC]
def R_is_barred (ds : List PyData) (d : PyData) : Prop := ∃ B o h t, ds = [eBook B, .int o, .int h, .int t] ∧ Good B ∧ B.off o ∧ B.off h ∧ d = .bool (barred B o h t)
theorem ok_is_barred (M : Md K mg) : FnG P w K mg base "is_barred" ["book", "office", "home", "hour"] 1 (spP K R_is_barred) := by
  refine fn_sd (N := ["book", "office", "home", "hour", "come", "one", "other", "begin", "end"]) M.d_is_barred ⟨rfl, rfl, rfl, by decide +kernel, rfl, by decide +kernel, by decide +kernel⟩ (fun ds d ⟨_, _, _, _, e, _⟩ => by rw [e]; rfl) (by decide) (fun X c ds d hR => ?_)
  obtain ⟨B, o, h, t, rfl, g, ho, hh, rfl⟩ := hR
  show SD X [.dat (eBook B), .dat (.int o), .dat (.int h), .dat (.int t), .no, .no, .no, .no, .no] _ _
  -- come = hour + book[FLIGHTS][office][home]
  refine sd_asg c 4 rfl (.inl rfl) (.inl rfl) (Nat.le_of_ble_eq_true rfl) (ed_bin (ed_var c 3 rfl (.inl rfl) rfl rfl rfl) (ed_ix (ed_ix (ed_ix (ed_var c 0 rfl (.inl rfl) rfl rfl rfl) (ed_gint c rfl M.c_FLIGHTS rfl) (by kspl_open ix) (fun _ _ => rfl)) (ed_var c 1 rfl (.inl rfl) rfl rfl rfl) (by kspl_open ix) (fun _ _ => rfl)) (ed_var c 2 rfl (.inl rfl) rfl rfl rfl) (by kspl_open ix) (fun _ _ => rfl)) (by kspl_open bd)) rfl ?_
  -- for one, other, begin, end in book[STORMS]:
  refine sd_forJ c (fun i => [.dat (eBook B), .dat (.int o), .dat (.int h), .dat (.int t), .dat (.int (t + B.f o h)), .no, .no, .no, .no]) (fun i => ∀ (j : Nat) (r : Row), j < i → B.st[j]? = some r → stormIn B o h t r = false) (id_seq (ed_ix (ed_var c 0 rfl (.inl rfl) rfl rfl rfl) (ed_gint c rfl M.c_STORMS rfl) (by kspl_open ix) (fun _ _ => rfl)) rfl) (gd_tup c (gs_cons c 5 rfl (by kspl_open loc) (by kspl_open loc) (gs_cons c 6 rfl (by kspl_open loc) (by kspl_open loc) (gs_cons c 7 rfl (by kspl_open loc) (by kspl_open loc) (gs_cons c 8 rfl (by kspl_open loc) (by kspl_open loc) gs_nil rfl) rfl) rfl) rfl) rfl rfl) Wk.rfl' (fun _ _ z => absurd z (Nat.not_lt_zero _)) (fun i d hd hj => ?_) (fun hj => ?_) (fun _ => rfl)
  · obtain ⟨r, hr, rfl⟩ := map_get hd
    refine ⟨_, rfl, ?_⟩
    -- if one == office and other == home and (begin < come) and (hour < end):
    refine sd_if (td_w (wd_and (td_cmp (ed_var c 5 rfl (.inl rfl) rfl rfl rfl) (ed_var c 1 rfl (.inl rfl) rfl rfl rfl) (by kspl_open cd) (nomark _)) (fun _ => (wd_and (td_cmp (ed_var c 6 rfl (.inl rfl) rfl rfl rfl) (ed_var c 2 rfl (.inl rfl) rfl rfl rfl) (by kspl_open cd) (nomark _)) (fun _ => (wd_and (td_cmp (ed_var c 7 rfl (.inl rfl) rfl rfl rfl) (ed_var c 4 rfl (.inl rfl) rfl rfl rfl) (by kspl_open cd) (nomark _)) (fun _ => (wd_and1 (td_cmp (ed_var c 3 rfl (.inl rfl) rfl rfl rfl) (ed_var c 8 rfl (.inl rfl) rfl rfl rfl) (by kspl_open cd) (nomark _)))))))))) (fun hb => ?_) (fun hb => ?_)
    · refine sd_ret ed_bl ?_
      show PyData.bool true = .bool (barred B o h t)
      rw [show barred B o h t = true from any_true hr hb]
    · refine sd_nil (sd_nil ⟨?_, prev_succ hj hr hb⟩)
      exact ⟨.inr rfl, .inr rfl, .inr rfl, .inr rfl, .inr rfl, .inl rfl, .inl rfl, .inl rfl, .inl rfl, trivial⟩
  · refine sd_ret ed_bl ?_
    show PyData.bool false = .bool (barred B o h t)
    rw [show barred B o h t = false from any_false fun j r hr => hj j r (by have := (List.getElem?_eq_some_iff.mp hr).1; simpa using this) hr]
def R_let_go (ds : List PyData) (d : PyData) : Prop := ∃ B o h t, ds = [eBook B, .int o, .int h, .int t] ∧ Good B ∧ B.off o ∧ B.off h ∧ d = .int (letGo B o h t)
theorem ok_let_go (M : Md K mg) : FnG P w K mg base "let_go" ["book", "office", "home", "hour"] 2 (spP K R_let_go) := by
  have Fis_barred := ok_is_barred (P := P) (w := w) (base := base) M
  refine fn_sd (N := ["book", "office", "home", "hour"]) M.d_let_go ⟨rfl, rfl, rfl, by decide +kernel, rfl, by decide +kernel, by decide +kernel⟩ (fun ds d ⟨_, _, _, _, e, _⟩ => by rw [e]; rfl) (by decide) (fun X c ds d hR => ?_)
  obtain ⟨B, o, h, t, rfl, g, ho, hh, rfl⟩ := hR
  show SD X [.dat (eBook B), .dat (.int o), .dat (.int h), .dat (.int t)] _ _
  -- while is_barred(book, office, home, hour):
  refine sd_while c (fun m ls => ∃ u : Int, ls = [.dat (eBook B), .dat (.int o), .dat (.int h), .dat (.int u)] ∧ letGo B o h u = letGo B o h t ∧ m = (99 - u).toNat) _ ⟨t, rfl, rfl, rfl⟩ (fun m ls ⟨u, e1, e2, e3⟩ => ?_)
  subst e1
  refine ⟨_, _, (td_val (ed_call c Fis_barred (by decide) rfl (ad_cons (ed_var c 0 rfl (.inl rfl) rfl rfl rfl) (ad_cons (ed_var c 1 rfl (.inl rfl) rfl rfl rfl) (ad_cons (ed_var c 2 rfl (.inl rfl) rfl rfl rfl) (ad_cons (ed_var c 3 rfl (.inl rfl) rfl rfl rfl) ad_nil rfl) rfl) rfl) rfl) ⟨B, o, h, u, rfl, g, ho, hh, rfl⟩ rfl rfl rfl) (fun _ => rfl)), fun hb => ?_, fun hb => ?_⟩
  · -- hour = hour + 1
    refine sd_asg c 3 rfl (.inl rfl) (.inl rfl) (Nat.le_of_ble_eq_true rfl) (ed_bin (ed_var c 3 rfl (.inl rfl) rfl rfl rfl) ed_int (by kspl_open bd)) rfl ?_
    have hu : u < 99 := by
      rcases Int.lt_or_le u 99 with z | z
      · exact z
      · rw [barred_late g z] at hb; cases hb
    exact sd_nil ⟨_, by omega, u + 1, rfl, by rw [← letGo_yes g hb]; exact e2, rfl⟩
  · -- return hour
    refine sd_ret (ed_var c 3 rfl (.inl rfl) rfl rfl rfl) ?_
    show PyData.int u = .int (letGo B o h t)
    rw [← e2, letGo_no hb]
def R_comes (ds : List PyData) (d : PyData) : Prop := ∃ B o h t, ds = [eBook B, .int o, .int h, .int t] ∧ Good B ∧ B.off o ∧ B.off h ∧ d = .int (comesAt B o h t)
theorem ok_comes (M : Md K mg) : FnG P w K mg base "comes" ["book", "office", "home", "hour"] 3 (spP K R_comes) := by
  have Flet_go := ok_let_go (P := P) (w := w) (base := base) M
  refine fn_sd (N := ["book", "office", "home", "hour"]) M.d_comes ⟨rfl, rfl, rfl, by decide +kernel, rfl, by decide +kernel, by decide +kernel⟩ (fun ds d ⟨_, _, _, _, e, _⟩ => by rw [e]; rfl) (by decide) (fun X c ds d hR => ?_)
  obtain ⟨B, o, h, t, rfl, g, ho, hh, rfl⟩ := hR
  show SD X [.dat (eBook B), .dat (.int o), .dat (.int h), .dat (.int t)] _ _
  -- if office == home:
  refine sd_if (td_cmp (ed_var c 1 rfl (.inl rfl) rfl rfl rfl) (ed_var c 2 rfl (.inl rfl) rfl rfl rfl) (by kspl_open cd) (nomark _)) (fun hb => ?_) (fun hb => ?_)
  · refine sd_ret (ed_var c 3 rfl (.inl rfl) rfl rfl rfl) ?_
    show PyData.int t = .int (comesAt B o h t)
    rw [comesAt, if_pos (of_decide_eq_true hb)]
  · refine sd_nil ?_
    -- return let_go(book, office, home, hour) + book[FLIGHTS][office][home]
    refine sd_ret (ed_bin (ed_call c Flet_go (by decide) rfl (ad_cons (ed_var c 0 rfl (.inl rfl) rfl rfl rfl) (ad_cons (ed_var c 1 rfl (.inl rfl) rfl rfl rfl) (ad_cons (ed_var c 2 rfl (.inl rfl) rfl rfl rfl) (ad_cons (ed_var c 3 rfl (.inl rfl) rfl rfl rfl) ad_nil rfl) rfl) rfl) rfl) ⟨B, o, h, t, rfl, g, ho, hh, rfl⟩ rfl rfl rfl) (ed_ix (ed_ix (ed_ix (ed_var c 0 rfl (.inl rfl) rfl rfl rfl) (ed_gint c rfl M.c_FLIGHTS rfl) (by kspl_open ix) (fun _ _ => rfl)) (ed_var c 1 rfl (.inl rfl) rfl rfl rfl) (by kspl_open ix) (fun _ _ => rfl)) (ed_var c 2 rfl (.inl rfl) rfl rfl rfl) (by kspl_open ix) (fun _ _ => rfl)) (by kspl_open bd)) ?_
    show PyData.int _ = .int (comesAt B o h t)
    rw [comesAt, if_neg (of_decide_eq_false hb)]
end
end K
namespace K
open PySem L2 Z
section
variable {P : Program} {w : World} {K : PySem.W.Frag} {mg : Str → Option Value} {base : Heap} [LamC]
/-! ### drawing -/
def R_next (r : Rg) (ds : List PyData) (r2 : Rg) (d : PyData) : Prop := ∃ m : Int, ds = [.int m] ∧ 0 < m ∧ m < 1073741824 ∧ r2 = nxR r m ∧ d = .int (nxV r m)
theorem ok_next (M : Md K mg) : FnG P w K mg base "_law_next" ["_law_h", "_law_many"] 1 (spR K R_next) := by
  refine fn_sdR (N := ["_law_h", "_law_many", "_law_at", "_law_cell"]) M.d__law_next ⟨rfl, rfl, rfl, by decide +kernel, rfl, by decide +kernel, by decide +kernel⟩ (fun r ds r2 d ⟨_, e, _⟩ => by rw [e]; rfl) (by decide) (fun X c A B r ds r2 d hR => ?_)
  obtain ⟨m, rfl, m0, m1, rfl, rfl⟩ := hR
  show SD X [.rng A B r, .dat (.int m), .no, .no] _ _
  have hm : 0 < max 1 (r.c.length : Int) := by omega
  refine sd_asg c 2 rfl (.inl rfl) (.inl rfl) (Nat.le_of_ble_eq_true rfl) (ed_bin (rng_ix (i := 0) c rfl (.inl rfl) rfl rfl rfl (.inr ⟨rfl, rfl⟩)) (ed_callB c rfl M.b_max PyProof.Rows.boot_max (ad_cons ed_int (ad_cons (rng_len (i := 0) c rfl (.inl rfl) rfl rfl rfl rfl M.b_len) ad_nil rfl) rfl) (cl_max2 c.calm) (by decide) rfl rfl rfl) (bd_mod hm)) rfl ?_
  refine sd_asg c 3 rfl (.inl rfl) (.inl rfl) (Nat.le_of_ble_eq_true rfl) (ed_if (d := .int (Z.cellOf r)) (rng_some (i := 0) c rfl (.inl rfl) rfl rfl rfl) (fun hb => rng_cell (i := 0) c rfl (.inl rfl) rfl rfl rfl (ed_var c 2 rfl (.inl rfl) rfl rfl rfl) ?_ (fun _ _ => rfl)) (fun hb => ed_to ed_int ?_)) rfl ?_
  · have hc : r.c.isEmpty = false := by cases e : r.c.isEmpty <;> simp_all
    have hl : 0 < r.c.length := by
      cases e : r.c with
      | nil => rw [e] at hc; cases hc
      | cons _ _ => simp
    unfold Z.cellOf
    rw [if_neg (by rw [hc]; decide)]
    refine atI_of (Int.emod_nonneg _ (by omega)) ?_ 0
    have := Int.emod_lt_of_pos r.k hm
    omega
  · have hc : r.c.isEmpty = true := by cases e : r.c.isEmpty <;> simp_all
    unfold Z.cellOf
    rw [if_pos hc]
  refine sd_if (td_cmp (ed_var c 3 rfl (.inl rfl) rfl rfl rfl) (ed_bin ed_int ed_int (bd_pow ⟨by decide, by decide, by decide⟩)) cd_ge (nomark _)) (fun hb => ?_) (fun hb => ?_)
  · have hb : (10 : Int) ^ 18 ≤ Z.cellOf r := of_decide_eq_true hb
    have hl : 0 < r.c.length := by
      cases e : r.c with
      | nil =>
        unfold Z.cellOf at hb
        rw [e] at hb
        have hb : (10 : Int) ^ 18 ≤ 0 := hb
        exact absurd hb (by decide)
      | cons _ _ => simp
    refine sd_rngCell (i := 0) c rfl (.inl rfl) rfl rfl rfl (ed_bin (ed_var c 3 rfl (.inl rfl) rfl rfl rfl) (ed_var c 1 rfl (.inl rfl) rfl rfl rfl) (bd_fdiv ⟨m0, m1⟩)) (ed_var c 2 rfl (.inl rfl) rfl rfl rfl) (m := (r.k % max 1 (r.c.length : Int)).toNat) ?_ ?_ (fun _ => rfl) rfl rfl rfl
    · have h0 := Int.emod_nonneg r.k (b := max 1 (r.c.length : Int)) (by omega)
      have h1 := Int.emod_lt_of_pos r.k hm
      generalize r.k % max 1 (r.c.length : Int) = z at h0 h1
      obtain ⟨j, rfl⟩ : ∃ j : Nat, z = (j : Int) := ⟨z.toNat, by omega⟩
      unfold L2.ixN; rw [if_pos (by omega), if_pos (by omega)]
    · refine sd_ret (ed_bin (ed_var c 3 rfl (.inl rfl) rfl rfl rfl) (ed_var c 1 rfl (.inl rfl) rfl rfl rfl) (bd_mod m0)) ⟨?_, ?_⟩
      · unfold nxV; rw [if_pos hb]
      · unfold nxR; rw [if_pos hb]; rfl
  · have hb : ¬ (10 : Int) ^ 18 ≤ Z.cellOf r := of_decide_eq_false hb
    refine sd_nil ?_
    refine sd_rngSet (i := 0) c rfl (.inl rfl) rfl rfl rfl (ed_bin (ed_bin (ed_bin (ed_bin (rng_ix (i := 0) c rfl (.inl rfl) rfl rfl rfl (.inl ⟨rfl, rfl⟩)) ed_int (bd_mul (.inr (by decide)))) (ed_bin (ed_var c 3 rfl (.inl rfl) rfl rfl rfl) ed_int (bd_mul (.inr (by decide)))) bd_add) ed_int bd_add) ed_int (bd_mod (by decide))) (.inl ⟨rfl, rfl⟩) ?_ (fun _ => rfl) rfl rfl rfl
    refine sd_rngSet (i := 0) c rfl (.inl rfl) rfl rfl rfl (ed_bin (rng_ix (i := 0) c rfl (.inl rfl) rfl rfl rfl (.inr ⟨rfl, rfl⟩)) ed_int bd_add) (.inr ⟨rfl, rfl⟩) ?_ (fun _ => rfl) rfl rfl rfl
    refine sd_ret (ed_bin (ed_bin (rng_ix (i := 0) c rfl (.inl rfl) rfl rfl rfl (.inl ⟨rfl, rfl⟩)) ed_int (bd_fdiv (by decide))) (ed_var c 1 rfl (.inl rfl) rfl rfl rfl) (bd_mod m0)) ⟨?_, ?_⟩
    · unfold nxV; rw [if_neg hb]; rfl
    · unfold nxR; rw [if_neg hb]; rfl
theorem p3_pos {a b c i : Int} (ha : 0 < a ∧ a < 1000) (hb : 0 < b ∧ b < 1000) (hc : 0 < c ∧ c < 1000) : 0 < pick3 a b c i ∧ pick3 a b c i < 1000 := pick3_in (p := fun z => 0 < z ∧ z < 1000) ha hb hc
def R_hours (r : Rg) (ds : List PyData) (r2 : Rg) (d : PyData) : Prop := ∃ n most : Int, ds = [.int n, .int most] ∧ 2 ≤ n ∧ n ≤ 100 ∧ 0 ≤ most ∧ most ≤ 100 ∧ r2 = (hours n most r).2 ∧ d = .tuple ((hours n most r).1.map eRow)
theorem ok_hours (M : Md K mg) : FnG P w K mg base "_law_hours" ["_law_h", "_law_offices", "_law_most"] 2 (spR K R_hours) := by
  have Fn := ok_next (P := P) (w := w) (base := base) M
  refine fn_sdR (N := ["_law_h", "_law_offices", "_law_most", "_law_found", "_law_k", "_law_one", "_law_begin", "_law_end"]) M.d__law_hours ⟨rfl, rfl, rfl, by decide +kernel, rfl, by decide +kernel, by decide +kernel⟩ (fun r ds r2 d ⟨_, _, e, _⟩ => by rw [e]; rfl) (by decide) (fun X c A B r ds r2 d hR => ?_)
  obtain ⟨n, most, rfl, n0, n1, m0, m1, rfl, rfl⟩ := hR
  show SD X [.rng A B r, .dat (.int n), .dat (.int most), .no, .no, .no, .no, .no] _ _
  have q0 := nxV_0 (r := r) (m := most + 1) (by omega)
  have q1 := nxV_1 (r := r) (m := most + 1) (by omega)
  refine sd_asgL c 3 rfl (.inl rfl) (.inl rfl) (Nat.le_of_ble_eq_true rfl) (el_lst ad_nil (Nat.le_of_ble_eq_true rfl)) rfl ?_
  refine sd_for c (fun i => [.rng A B (iterI (hourRow n) i (nxR r (most + 1))).2, .dat (.int n), .dat (.int most), .own ((iterI (hourRow n) i (nxR r (most + 1))).1.map eRow), .no, .no, .no, .no]) (id_range c rfl M.b_range (ed_callR c Fn (by decide) rfl 0 rfl (.inl rfl) rfl (ad_cons (ed_bin (ed_var c 2 rfl (.inl rfl) rfl rfl rfl) ed_int bd_add) ad_nil rfl) rfl ⟨_, rfl, by omega, by omega, rfl, rfl⟩ rfl rfl rfl rfl rfl) ⟨by omega, by omega⟩ rfl) (gd_name c 4 rfl (by kspl_open loc) (by kspl_open loc)) Wk.rfl' (fun i d hd => ?_) ?_ (fun _ => rfl)
  · obtain ⟨hi, rfl⟩ := rngD_inv hd
    refine ⟨_, rfl, ?_⟩
    have hl := iterI_len (hourRow n) i (nxR r (most + 1))
    show SD X [.rng A B (iterI (hourRow n) i (nxR r (most + 1))).2, .dat (.int n), .dat (.int most), .own ((iterI (hourRow n) i (nxR r (most + 1))).1.map eRow), .dat (.int i), .no, .no, .no] _ _
    refine SD.nxW (L' := [.rng A B (hourRow n i (iterI (hourRow n) i (nxR r (most + 1))).2).2, .dat (.int n), .dat (.int most), .own ((iterI (hourRow n) i (nxR r (most + 1))).1.map eRow ++ [eRow (hourRow n i (iterI (hourRow n) i (nxR r (most + 1))).2).1]), .no, .no, .no, .no]) ?_ ?_
    · show [_, _, _, SK.own (((iterI (hourRow n) i (nxR r (most + 1))).1 ++ [(hourRow n i (iterI (hourRow n) i (nxR r (most + 1))).2).1]).map eRow), _, _, _, _] = _
      rw [List.map_append]
      rfl
    generalize (iterI (hourRow n) i (nxR r (most + 1))).2 = s at *
    generalize (iterI (hourRow n) i (nxR r (most + 1))).1 = xs at *
    refine sd_asg c 5 rfl (.inl rfl) (.inl rfl) (Nat.le_of_ble_eq_true rfl) (ed_callR c Fn (by decide) rfl 0 rfl (.inl rfl) rfl (ad_cons (ed_var c 1 rfl (.inl rfl) rfl rfl rfl) ad_nil rfl) rfl ⟨_, rfl, by omega, by omega, rfl, rfl⟩ rfl rfl rfl rfl rfl) rfl ?_
    have p1 := p3_pos (a := 20) (b := 60) (c := 90) (i := nxV (nxR s n) 3) (by decide) (by decide) (by decide)
    refine sd_asg c 6 rfl (.inl rfl) (.inl rfl) (Nat.le_of_ble_eq_true rfl) (ed_callR c Fn (by decide) rfl 0 rfl (.inl rfl) rfl (ad_cons (ed_ix (ed_el (el_lst (ad_cons ed_int (ad_cons ed_int (ad_cons ed_int ad_nil rfl) rfl) rfl) (Nat.le_of_ble_eq_true rfl))) (ed_callR c Fn (by decide) rfl 0 rfl (.inl rfl) rfl (ad_cons ed_int ad_nil rfl) rfl ⟨_, rfl, by decide, by decide, rfl, rfl⟩ rfl rfl rfl rfl rfl) (ix_pick3 (nxV_0 (by decide)) (nxV_1 (by decide))) (fun _ _ => rfl)) ad_nil rfl) rfl ⟨_, rfl, p1.1, by have := p1.2; omega, rfl, rfl⟩ rfl rfl rfl rfl rfl) rfl ?_
    generalize eb : nxV (nxR (nxR s n) 3) (pick3 20 60 90 (nxV (nxR s n) 3)) = bg
    generalize e3 : nxR (nxR (nxR s n) 3) (pick3 20 60 90 (nxV (nxR s n) 3)) = s3
    have p2 := p3_pos (a := 9) (b := 9) (c := 70) (i := nxV s3 3) (by decide) (by decide) (by decide)
    refine sd_asg c 7 rfl (.inl rfl) (.inl rfl) (Nat.le_of_ble_eq_true rfl) (ed_callB c rfl M.b_min PyProof.Rows.boot_min (ad_cons ed_int (ad_cons (ed_bin (ed_bin (ed_var c 6 rfl (.inl rfl) rfl rfl rfl) ed_int bd_add) (ed_callR c Fn (by decide) rfl 0 rfl (.inl rfl) rfl (ad_cons (ed_ix (ed_el (el_lst (ad_cons ed_int (ad_cons ed_int (ad_cons ed_int ad_nil rfl) rfl) rfl) (Nat.le_of_ble_eq_true rfl))) (ed_callR c Fn (by decide) rfl 0 rfl (.inl rfl) rfl (ad_cons ed_int ad_nil rfl) rfl ⟨_, rfl, by decide, by decide, rfl, rfl⟩ rfl rfl rfl rfl rfl) (ix_pick3 (nxV_0 (by decide)) (nxV_1 (by decide))) (fun _ _ => rfl)) ad_nil rfl) rfl ⟨_, rfl, p2.1, by have := p2.2; omega, rfl, rfl⟩ rfl rfl rfl rfl rfl) bd_add) ad_nil rfl) rfl) (cl_min2 c.calm) (by decide) rfl rfl rfl) rfl ?_
    refine sd_append c 3 rfl (.inl rfl) (ed_tup (ad_cons (ed_var c 5 rfl (.inl rfl) rfl rfl rfl) (ad_cons (ed_bin (ed_bin (ed_bin (ed_var c 5 rfl (.inl rfl) rfl rfl rfl) ed_int bd_add) (ed_callR c Fn (by decide) rfl 0 rfl (.inl rfl) rfl (ad_cons (ed_bin (ed_var c 1 rfl (.inl rfl) rfl rfl rfl) ed_int bd_sub) ad_nil rfl) rfl ⟨_, rfl, by omega, by omega, rfl, rfl⟩ rfl rfl rfl rfl rfl) bd_add) (ed_var c 1 rfl (.inl rfl) rfl rfl rfl) (bd_mod (by omega))) (ad_cons (ed_var c 6 rfl (.inl rfl) rfl rfl rfl) (ad_cons (ed_var c 7 rfl (.inl rfl) rfl rfl rfl) ad_nil rfl) rfl) rfl) rfl) (Nat.le_of_ble_eq_true rfl)) rfl rfl ?hz ?_ rfl rfl rfl rfl rfl rfl
    · rw [List.length_map, hl]
      exact Nat.lt_of_lt_of_le (show i < 1000 by omega) (Nat.le_of_ble_eq_true rfl)
    · refine sd_nil ?_
      have hrow : hourRow n i s = ((nxV s n, (nxV s n + 1 + nxV (nxR (nxR s3 3) (pick3 9 9 70 (nxV s3 3))) (n - 1)) % n, bg, min 99 (bg + 1 + nxV (nxR s3 3) (pick3 9 9 70 (nxV s3 3)))), nxR (nxR (nxR s3 3) (pick3 9 9 70 (nxV s3 3))) (n - 1)) := by
        unfold hourRow
        dsimp only
        rw [eb, e3]
      rw [hrow]
      exact ⟨.inr rfl, .inr rfl, .inr rfl, .inr rfl, .inl rfl, .inl rfl, .inl rfl, .inl rfl, trivial⟩
  · rw [rngD_len]
    refine sd_freeze 3 rfl ?_
    exact sd_ret (ed_callT c rfl M.b_tuple PyProof.Rows.boot_tuple (ad_cons (ed_var c 3 rfl (.inl rfl) rfl rfl rfl) ad_nil rfl) cl_tupL (by decide) rfl rfl rfl) ⟨rfl, rfl⟩
def R_book (r : Rg) (ds : List PyData) (r2 : Rg) (d : PyData) : Prop := ∃ n b : Int, ds = [.int n, .int b] ∧ 2 ≤ n ∧ n ≤ 6 ∧ 0 ≤ b ∧ b ≤ 6 ∧ r2 = (bkB n b r).2 ∧ d = eBook (lawBook n b r)
theorem ok_book (M : Md K mg) : FnG P w K mg base "_law_book" ["_law_h", "_law_offices", "_law_birds"] 3 (spR K R_book) := by
  have Fn := ok_next (P := P) (w := w) (base := base) M
  have Fh := ok_hours (P := P) (w := w) (base := base) M
  refine fn_sdR (N := ["_law_h", "_law_offices", "_law_birds", "_law_many", "_law_flights", "_law_k", "_law_storms", "_law_carts", "_law_j"]) M.d__law_book ⟨rfl, rfl, rfl, by decide +kernel, rfl, by decide +kernel, by decide +kernel⟩ (fun r ds r2 d ⟨_, _, e, _⟩ => by rw [e]; rfl) (by decide) (fun X c A B r ds r2 d hR => ?_)
  obtain ⟨n, b, rfl, n0, n1, b0, b1, rfl, rfl⟩ := hR
  show SD X [.rng A B r, .dat (.int n), .dat (.int b), .no, .no, .no, .no, .no, .no] _ _
  have hm := bkN_in (r := r) n0
  refine sd_asg c 3 rfl (.inr rfl) (.inl rfl) (Nat.le_of_ble_eq_true rfl) (ed_bin ed_int (ed_callR c Fn (by decide) rfl 0 rfl (.inr (.inl rfl)) rfl (ad_cons (ed_bin (ed_var c 1 rfl (.inl rfl) rfl rfl rfl) ed_int bd_sub) ad_nil rfl) rfl ⟨_, rfl, by omega, by omega, rfl, rfl⟩ rfl rfl rfl rfl rfl) bd_add) rfl ?_
  refine sd_asgL c 4 rfl (.inl rfl) (.inl rfl) (Nat.le_of_ble_eq_true rfl) (el_lst ad_nil (Nat.le_of_ble_eq_true rfl)) rfl ?_
  refine sd_for c (fun i => [.rng A B (iterI (fun k => iterI (flCell k) (bkN n r).toNat) i (nxR r (n - 1))).2, .dat (.int n), .dat (.int b), .dat (.int (bkN n r)), .own ((iterI (fun k => iterI (flCell k) (bkN n r).toNat) i (nxR r (n - 1))).1.map eInts), .no, .no, .no, .no]) (id_range c rfl M.b_range (ed_var c 3 rfl (.inr (.inl rfl)) rfl rfl rfl) (n := bkN n r) ⟨by omega, by omega⟩ rfl) (gd_name c 5 rfl (by kspl_open loc) (by kspl_open loc)) Wk.rfl' (fun i d hd => ?_) ?_ (fun _ => rfl)
  · obtain ⟨hi, rfl⟩ := rngD_inv hd
    refine ⟨_, rfl, ?_⟩
    have hl := iterI_len (fun k => iterI (flCell k) (bkN n r).toNat) i (nxR r (n - 1))
    show SD X [.rng A B (iterI (fun k => iterI (flCell k) (bkN n r).toNat) i (nxR r (n - 1))).2, .dat (.int n), .dat (.int b), .dat (.int (bkN n r)), .own ((iterI (fun k => iterI (flCell k) (bkN n r).toNat) i (nxR r (n - 1))).1.map eInts), .dat (.int i), .no, .no, .no] _ _
    refine SD.nxW (L' := [.rng A B (iterI (flCell i) (bkN n r).toNat (iterI (fun k => iterI (flCell k) (bkN n r).toNat) i (nxR r (n - 1))).2).2, .dat (.int n), .dat (.int b), .dat (.int (bkN n r)), .own ((iterI (fun k => iterI (flCell k) (bkN n r).toNat) i (nxR r (n - 1))).1.map eInts ++ [eInts (iterI (flCell i) (bkN n r).toNat (iterI (fun k => iterI (flCell k) (bkN n r).toNat) i (nxR r (n - 1))).2).1]), .no, .no, .no, .no]) ?_ ?_
    · show [_, _, _, _, SK.own (((iterI (fun k => iterI (flCell k) (bkN n r).toNat) i (nxR r (n - 1))).1 ++ [(iterI (flCell i) (bkN n r).toNat (iterI (fun k => iterI (flCell k) (bkN n r).toNat) i (nxR r (n - 1))).2).1]).map eInts), _, _, _, _] = _
      rw [List.map_append]
      rfl
    generalize (iterI (fun k => iterI (flCell k) (bkN n r).toNat) i (nxR r (n - 1))).2 = s at *
    generalize (iterI (fun k => iterI (flCell k) (bkN n r).toNat) i (nxR r (n - 1))).1 = xs at *
    refine sd_append c 4 rfl (.inl rfl) (ed_callT c rfl M.b_tuple PyProof.Rows.boot_tuple (ad_cons (ed_el (el_draw (A := A) (B := B) (r := s) c [("_law_j", 8)] 0 (flCell i) PyData.int (by decide +kernel) rfl (id_range c rfl M.b_range (ed_var c 3 rfl (.inr (.inl rfl)) rfl rfl rfl) (n := bkN n r) ⟨by omega, by omega⟩ rfl) rfl (by decide) (all1 ⟨_, rfl, .inl rfl⟩) (fun X' c2 => gd_name c2 8 rfl (by kspl_open loc) (by kspl_open loc)) (Nat.lt_of_lt_of_le (show (bkN n r).toNat < 1000 by omega) (Nat.le_of_ble_eq_true rfl)) (fun j r' hj => ⟨_, _, rfl, fun X' c2 => (ed_bin (ed_bin ed_int (ed_callR c2 Fn (by decide) rfl 0 rfl (by kspl_open vis) rfl (ad_cons ed_int ad_nil rfl) rfl ⟨9, rfl, by decide, by decide, rfl, rfl⟩ rfl rfl rfl rfl rfl) bd_add) (ed_callT c2 rfl M.b_int PyProof.Rows.boot_int (ad_cons (ed_cmp (ed_var c2 8 rfl (by kspl_open vis) rfl rfl rfl) (ed_var c2 5 rfl (by kspl_open vis) rfl rfl rfl) cd_neI (nomark _)) ad_nil rfl) cl_intB (by decide) rfl rfl rfl) (bd_mul (.inr (by split <;> decide)))), ?wk⟩) (fun _ => rfl))) ad_nil rfl) cl_tupL (by decide) rfl rfl rfl) rfl rfl ?hz ?_ rfl rfl rfl rfl rfl rfl
    · exact ⟨.inr rfl, .inr rfl, .inr rfl, .inr rfl, .inr rfl, .inr rfl, .inr rfl, .inr rfl, .inl rfl, trivial⟩
    · rw [List.length_map, hl]
      exact Nat.lt_of_lt_of_le (show i < 1000 by omega) (Nat.le_of_ble_eq_true rfl)
    · exact sd_nil ⟨.inr rfl, .inr rfl, .inr rfl, .inr rfl, .inr rfl, .inl rfl, .inl rfl, .inl rfl, .inl rfl, trivial⟩
  · rw [rngD_len]
    show SD X [.rng A B (bkF n r).2, .dat (.int n), .dat (.int b), .dat (.int (bkN n r)), .own ((bkF n r).1.map eInts), .no, .no, .no, .no] _ _
    have p1 : 0 ≤ pick3 0 3 8 (nxV (bkF n r).2 3) ∧ pick3 0 3 8 (nxV (bkF n r).2 3) ≤ 100 := pick3_in (p := fun z => 0 ≤ z ∧ z ≤ 100) (by decide) (by decide) (by decide)
    refine sd_asg c 6 rfl (.inl rfl) (.inl rfl) (Nat.le_of_ble_eq_true rfl) (ed_callR c Fh (by decide) rfl 0 rfl (.inr (.inl rfl)) rfl (ad_cons (ed_var c 3 rfl (.inr (.inl rfl)) rfl rfl rfl) (ad_cons (ed_ix (ed_el (el_lst (ad_cons ed_int (ad_cons ed_int (ad_cons ed_int ad_nil rfl) rfl) rfl) (Nat.le_of_ble_eq_true rfl))) (ed_callR c Fn (by decide) rfl 0 rfl (.inr (.inl rfl)) rfl (ad_cons ed_int ad_nil rfl) rfl ⟨3, rfl, by decide, by decide, rfl, rfl⟩ rfl rfl rfl rfl rfl) (ix_pick3 (nxV_0 (by decide)) (nxV_1 (by decide))) (fun _ _ => rfl)) ad_nil rfl) rfl) rfl ⟨_, _, rfl, hm.1, by omega, p1.1, p1.2, rfl, rfl⟩ rfl rfl rfl rfl rfl) rfl ?_
    show SD X [.rng A B (bkS n r).2, .dat (.int n), .dat (.int b), .dat (.int (bkN n r)), .own ((bkF n r).1.map eInts), .no, .dat (.tuple ((bkS n r).1.map eRow)), .no, .no] _ _
    have p2 : 0 ≤ pick2 4 12 (nxV (bkS n r).2 2) ∧ pick2 4 12 (nxV (bkS n r).2 2) ≤ 100 := pick2_in (p := fun z => 0 ≤ z ∧ z ≤ 100) (by decide) (by decide)
    refine sd_asg c 7 rfl (.inl rfl) (.inl rfl) (Nat.le_of_ble_eq_true rfl) (ed_callR c Fh (by decide) rfl 0 rfl (.inr (.inl rfl)) rfl (ad_cons (ed_var c 3 rfl (.inr (.inl rfl)) rfl rfl rfl) (ad_cons (ed_ix (ed_el (el_lst (ad_cons ed_int (ad_cons ed_int ad_nil rfl) rfl) (Nat.le_of_ble_eq_true rfl))) (ed_callR c Fn (by decide) rfl 0 rfl (.inr (.inl rfl)) rfl (ad_cons ed_int ad_nil rfl) rfl ⟨2, rfl, by decide, by decide, rfl, rfl⟩ rfl rfl rfl rfl rfl) (ix_pick2 (nxV_0 (by decide)) (nxV_1 (by decide))) (fun _ _ => rfl)) ad_nil rfl) rfl) rfl ⟨_, _, rfl, hm.1, by omega, p2.1, p2.2, rfl, rfl⟩ rfl rfl rfl rfl rfl) rfl ?_
    refine sd_freeze 4 rfl ?_
    show SD X [.rng A B (bkC n r).2, .dat (.int n), .dat (.int b), .dat (.int (bkN n r)), .dat (.list ((bkF n r).1.map eInts)), .no, .dat (.tuple ((bkS n r).1.map eRow)), .dat (.tuple ((bkC n r).1.map eRow)), .no] _ _
    have q0 := nxV_0 (r := (bkC n r).2) (m := b + 1) (by omega)
    have q1 := nxV_1 (r := (bkC n r).2) (m := b + 1) (by omega)
    refine sd_ret (ed_tup (ad_cons (ed_callT c rfl M.b_tuple PyProof.Rows.boot_tuple (ad_cons (ed_var c 4 rfl (.inl rfl) rfl rfl rfl) ad_nil rfl) cl_tupL (by decide) rfl rfl rfl) (ad_cons (ed_var c 6 rfl (.inl rfl) rfl rfl rfl) (ad_cons (ed_var c 7 rfl (.inl rfl) rfl rfl rfl) (ad_cons (ed_callT c rfl M.b_tuple PyProof.Rows.boot_tuple (ad_cons (ed_el (el_draw (A := A) (B := B) (r := nxR (bkC n r).2 (b + 1)) c [("_law_k", 5)] 0 (drawM (bkN n r)) PyData.int (by decide +kernel) rfl (id_range c rfl M.b_range (ed_callR c Fn (by decide) rfl 0 rfl (.inr (.inl rfl)) rfl (ad_cons (ed_bin (ed_var c 2 rfl (.inl rfl) rfl rfl rfl) ed_int bd_add) ad_nil rfl) rfl ⟨_, rfl, by omega, by omega, rfl, rfl⟩ rfl rfl rfl rfl rfl) ⟨by omega, by omega⟩ rfl) rfl (by decide) (all1 ⟨_, rfl, .inl rfl⟩) (fun X' c2 => gd_name c2 5 rfl (by kspl_open loc) (by kspl_open loc)) (Nat.lt_of_lt_of_le (show (nxV (bkC n r).2 (b + 1)).toNat < 1000 by omega) (Nat.le_of_ble_eq_true rfl)) (fun j r' hj => ⟨_, _, rfl, fun X' c2 => (ed_callR c2 Fn (by decide) rfl 0 rfl (by kspl_open vis) rfl (ad_cons (ed_var c2 3 rfl (by kspl_open vis) rfl rfl rfl) ad_nil rfl) rfl ⟨_, rfl, by omega, by omega, rfl, rfl⟩ rfl rfl rfl rfl rfl), ⟨.inr rfl, .inr rfl, .inr rfl, .inr rfl, .inr rfl, .inl rfl, .inr rfl, .inr rfl, .inr rfl, trivial⟩⟩) (fun _ => rfl))) ad_nil rfl) cl_tupL (by decide) rfl rfl rfl) ad_nil rfl) rfl) rfl) rfl) (Nat.le_of_ble_eq_true rfl)) ⟨rfl, rfl⟩
end
end K
namespace K
open PySem L2 Z
section
variable {P : Program} {w : World} {K : PySem.W.Frag} {mg : Str → Option Value} {base : Heap} [LamC]
/-! ### postings and begins -/
def eP2 (p : Int × Int) : PyData := .tuple [.int p.1, .int p.2]
def oP : Option (Int × Int) → PyData
  | none => .none
  | some p => eP2 p
abbrev R3 := Int × Int × Int
def eR3 (r : R3) : PyData := .tuple [.int r.1, .int r.2.1, .int r.2.2]
abbrev Posting := List (Option (Int × Int))
def ePost (ps : Posting) : PyData := .tuple (ps.map oP)
def _root_.Z.Book.home (B : Book) (b : Int) : Int := B.bi.getD b.toNat 0
structure GoodPost (B : Book) (ps : Posting) : Prop where
  len : ps.length = B.bi.length
  at_ : ∀ (i : Nat) o t, ps[i]? = some (some (o, t)) → B.off o ∧ o ≠ B.home (i : Int) ∧ 0 ≤ t
def GoodBeg (B : Book) (bs : List (Int × Int)) : Prop := ∀ p ∈ bs, B.off p.1 ∧ 0 ≤ p.2
/-- the rows of a posting's first n birds -/
def posts (ps : Posting) : Nat → List R3
  | 0 => []
  | i + 1 => posts ps i ++ (match ps.getD i none with
    | none => []
    | some p => [((i : Int), p.1, p.2)])
def rowsOf (ps : Posting) : List R3 := posts ps ps.length
theorem posts_mem {ps : Posting} : ∀ {n : Nat} {r : R3}, r ∈ posts ps n ↔ ∃ (i : Nat) (o t : Int), i < n ∧ ps.getD i none = some (o, t) ∧ r = ((i : Int), o, t)
  | 0, r => by simp [posts]
  | n + 1, r => by
    unfold posts
    rw [List.mem_append, posts_mem (n := n)]
    constructor
    · rintro (⟨i, o, t, h1, h2, h3⟩ | h)
      · exact ⟨i, o, t, by omega, h2, h3⟩
      · cases e : ps.getD n none with
        | none => rw [e] at h; cases h
        | some p =>
          rw [e] at h
          exact ⟨n, p.1, p.2, by omega, e, by simpa using h⟩
    · rintro ⟨i, o, t, h1, h2, h3⟩
      by_cases q : i = n
      · subst q
        right
        rw [h2]
        simp [h3]
      · exact .inl ⟨i, o, t, by omega, h2, h3⟩
theorem posts_len {ps : Posting} : ∀ n, (posts ps n).length ≤ n
  | 0 => Nat.le_refl _
  | n + 1 => by
    unfold posts
    rw [List.length_append]
    have := posts_len (ps := ps) n
    cases ps.getD n none with
    | none => simp; omega
    | some p => simp; omega
structure GoodRows (B : Book) (rows : List R3) : Prop where
  at_ : ∀ r ∈ rows, (0 ≤ r.1 ∧ r.1 < (B.bi.length : Int)) ∧ B.off r.2.1 ∧ B.home r.1 ≠ r.2.1 ∧ 0 ≤ r.2.2
  len : rows.length ≤ 1000
theorem home_off {B : Book} (g : Good B) {b : Int} (h : 0 ≤ b ∧ b < (B.bi.length : Int)) : B.off (B.home b) := by
  refine g.bi _ ?_
  have : b.toNat < B.bi.length := by omega
  unfold Z.Book.home
  rw [List.getD_eq_getElem?_getD, List.getElem?_eq_getElem this]
  simp
theorem ix_home {B : Book} {b : Int} (h : 0 ≤ b ∧ b < (B.bi.length : Int)) : ixD (eInts B.bi) b = some (.int (B.home b)) := by
  show L2.atI _ _ = _
  rw [atI_map, atI_of h.1 h.2 0]
  rfl
theorem good_rows {B : Book} {ps : Posting} (g : Good B) (h : GoodPost B ps) : GoodRows B (rowsOf ps) := by
  refine ⟨fun r hr => ?_, ?_⟩
  · obtain ⟨i, o, t, h1, h2, rfl⟩ := posts_mem.mp hr
    have h3 : ps[i]? = some (some (o, t)) := by
      rw [List.getD_eq_getElem?_getD, List.getElem?_eq_getElem h1] at h2
      rw [List.getElem?_eq_getElem h1]
      simpa using h2
    obtain ⟨a, b, c⟩ := h.at_ i o t h3
    have := h.len
    exact ⟨⟨by show (0 : Int) ≤ (i : Int); omega, by show (i : Int) < _; omega⟩, a, fun z => b z.symm, c⟩
  · have := posts_len (ps := ps) ps.length
    have := h.len
    have := g.bil
    show (posts ps ps.length).length ≤ 1000
    omega
def R_need_posting (ds : List PyData) (d : PyData) : Prop := ∃ B ps, ds = [eBook B, ePost ps] ∧ Good B ∧ GoodPost B ps ∧ d = .none
theorem ok_need_posting (M : Md K mg) : FnG P w K mg base "need_posting" ["book", "posting"] 4 (spP K R_need_posting) := by
  have Fneed_book := ok_need_book (P := P) (w := w) (base := base) M
  have Fis_office := ok_is_office (P := P) (w := w) (base := base) M
  refine fn_sd (N := ["book", "posting", "bird", "place"]) M.d_need_posting ⟨rfl, rfl, rfl, by decide +kernel, rfl, by decide +kernel, by decide +kernel⟩ (fun ds d ⟨_, _, e, _⟩ => by rw [e]; rfl) (by decide) (fun X c ds d hR => ?_)
  obtain ⟨B, ps, rfl, g, gp, rfl⟩ := hR
  show SD X [.dat (eBook B), .dat (ePost ps), .no, .no] _ _
  refine sd_expr (ed_call c Fneed_book (by decide) rfl (ad_cons (ed_var c 0 rfl (.inl rfl) rfl rfl rfl) ad_nil rfl) ⟨B, rfl, g, rfl⟩ rfl rfl rfl) rfl ?_
  refine sd_if (td_cmp (ed_callB c rfl M.b_len PySem.boot_len (ad_cons (ed_var c 1 rfl (.inl rfl) rfl rfl rfl) ad_nil rfl) cl_lenT (by decide) rfl rfl rfl) (ed_callB c rfl M.b_len PySem.boot_len (ad_cons (ed_ix (ed_var c 0 rfl (.inl rfl) rfl rfl rfl) (ed_gint c rfl M.c_BIRDS rfl) rfl (fun _ _ => rfl)) ad_nil rfl) cl_lenT (by decide) rfl rfl rfl) cd_neI (nomark _)) (fun hb => ?_) (fun hb => ?_)
  · rw [List.length_map, List.length_map, gp.len] at hb
    simp at hb
  refine sd_nil ?_
  refine sd_for c (fun _ => [.dat (eBook B), .dat (ePost ps), .no, .no]) (id_enumT c rfl M.b_enumerate (ed_var c 1 rfl (.inl rfl) rfl rfl rfl) rfl) (gd_tup c (gs_cons c 2 rfl (by kspl_open loc) (by kspl_open loc) (gs_cons c 3 rfl (by kspl_open loc) (by kspl_open loc) gs_nil rfl) rfl) rfl rfl) Wk.rfl' (fun i d hd => ?_) (sd_nil rfl) (fun _ => rfl)
  obtain ⟨d', hd', rfl⟩ := enumD_inv hd
  obtain ⟨p, hp, rfl⟩ := map_get hd'
  refine ⟨_, rfl, ?_⟩
  have wk : ∀ d1 d2, Wk [.dat (eBook B), .dat (ePost ps), .dat d1, .dat d2] [.dat (eBook B), .dat (ePost ps), .no, .no] := fun _ _ => ⟨.inr rfl, .inr rfl, .inl rfl, .inl rfl, trivial⟩
  cases p with
  | none => exact sd_ifF (td_cmp (ed_var c 3 rfl (.inl rfl) rfl rfl rfl) ed_non cd_notN (nomark _)) (sd_nil (sd_nil (wk _ _)))
  | some ot =>
    obtain ⟨o, t⟩ := ot
    obtain ⟨ho, hn, ht⟩ := gp.at_ i o t hp
    have hi : 0 ≤ (i : Int) ∧ (i : Int) < (B.bi.length : Int) := by
      have := (List.getElem?_eq_some_iff.mp hp).1
      have := gp.len
      omega
    refine sd_ifT (td_cmp (ed_var c 3 rfl (.inl rfl) rfl rfl rfl) ed_non cd_notN (nomark _)) ?_
    refine sd_if (td_w (wd_or (td_not (td_val (ed_call c Fis_office (by decide) rfl (ad_cons (ed_var c 0 rfl (.inl rfl) rfl rfl rfl) (ad_cons (ed_ix (ed_var c 3 rfl (.inl rfl) rfl rfl rfl) ed_int rfl (fun _ _ => rfl)) ad_nil rfl) rfl) ⟨B, o, rfl, rfl⟩ rfl rfl rfl) (fun _ => rfl))) (fun _ => (wd_or (td_cmp (ed_ix (ed_var c 3 rfl (.inl rfl) rfl rfl rfl) ed_int rfl (fun _ _ => rfl)) (ed_ix (ed_ix (ed_var c 0 rfl (.inl rfl) rfl rfl rfl) (ed_gint c rfl M.c_BIRDS rfl) rfl (fun _ _ => rfl)) (ed_var c 2 rfl (.inl rfl) rfl rfl rfl) (ix_home hi) (fun _ _ => rfl)) cd_eqI (nomark _)) (fun _ => (wd_or1 (td_cmp (ed_ix (ed_var c 3 rfl (.inl rfl) rfl rfl rfl) ed_int rfl (fun _ _ => rfl)) ed_int cd_lt (nomark _)))))))) (fun hb => ?_) (fun hb => ?_)
    · rw [decT ho.1, decT ho.2, decide_eq_false hn, decide_eq_false (show ¬ t < 0 by omega)] at hb
      cases hb
    · exact sd_nil (sd_nil (sd_nil (wk _ _)))
end
end K
namespace K
open PySem L2 Z
section
variable {P : Program} {w : World} {K : PySem.W.Frag} {mg : Str → Option Value} {base : Heap} [LamC]
def R_need_begins (ds : List PyData) (d : PyData) : Prop := ∃ B bs db, ds = [eBook B, db] ∧ seqD db = some (List.map eP2 bs) ∧ GoodBeg B bs ∧ d = .none
theorem ok_need_begins (M : Md K mg) : FnG P w K mg base "need_begins" ["book", "begins"] 3 (spP K R_need_begins) := by
  have Fneed_office := ok_need_office (P := P) (w := w) (base := base) M
  refine fn_sd (N := ["book", "begins", "office", "hour"]) M.d_need_begins ⟨rfl, rfl, rfl, by decide +kernel, rfl, by decide +kernel, by decide +kernel⟩ (fun ds d ⟨_, _, _, e, _⟩ => by rw [e]; rfl) (by decide) (fun X c ds d hR => ?_)
  obtain ⟨B, bs, db, rfl, hq, g, rfl⟩ := hR
  show SD X [.dat (eBook B), .dat db, .no, .no] _ _
  refine sd_for c (fun _ => [.dat (eBook B), .dat db, .no, .no]) (id_seq (ed_var c 1 rfl (.inl rfl) rfl rfl rfl) hq) (gd_tup c (gs_cons c 2 rfl (by kspl_open loc) (by kspl_open loc) (gs_cons c 3 rfl (by kspl_open loc) (by kspl_open loc) gs_nil rfl) rfl) rfl rfl) Wk.rfl' (fun i d hd => ?_) (sd_nil rfl) (fun _ => rfl)
  obtain ⟨p, hp, rfl⟩ := map_get hd
  refine ⟨_, rfl, ?_⟩
  refine sd_expr (ed_call c Fneed_office (by decide) rfl (ad_cons (ed_var c 0 rfl (.inl rfl) rfl rfl rfl) (ad_cons (ed_var c 2 rfl (.inl rfl) rfl rfl rfl) ad_nil rfl) rfl) ⟨B, _, rfl, (g p (List.mem_of_getElem? hp)).1, rfl⟩ rfl rfl rfl) rfl ?_
  exact sd_nil ⟨.inr rfl, .inr rfl, .inl rfl, .inl rfl, trivial⟩
end
end K
namespace K
open PySem L2 Z
section
variable {P : Program} {w : World} {K : PySem.W.Frag} {mg : Str → Option Value} {base : Heap} [LamC]
def R_posted (ds : List PyData) (es : List PyData) : Prop := ∃ ps : Posting, ds = [ePost ps] ∧ ps.length ≤ 1000 ∧ es = (rowsOf ps).map eR3
theorem ok_posted (M : Md K mg) : FnG P w K mg base "posted" ["posting"] 1 (spL K R_posted) := by
  refine fn_sdL (N := ["posting", "found", "bird", "place"]) M.d_posted ⟨rfl, rfl, rfl, by decide +kernel, rfl, by decide +kernel, by decide +kernel⟩ (fun ds d ⟨_, e, _⟩ => by rw [e]; rfl) (by decide) (fun X c ds d hR => ?_)
  obtain ⟨ps, rfl, hl, rfl⟩ := hR
  show SD X [.dat (ePost ps), .no, .no, .no] _ _
  refine sd_asgL c 1 rfl (.inl rfl) (.inl rfl) (Nat.le_of_ble_eq_true rfl) (el_lst ad_nil (Nat.le_of_ble_eq_true rfl)) rfl ?_
  refine sd_for c (fun i => [.dat (ePost ps), .own ((posts ps i).map eR3), .no, .no]) (id_enumT c rfl M.b_enumerate (ed_var c 0 rfl (.inl rfl) rfl rfl rfl) rfl) (gd_tup c (gs_cons c 2 rfl (by kspl_open loc) (by kspl_open loc) (gs_cons c 3 rfl (by kspl_open loc) (by kspl_open loc) gs_nil rfl) rfl) rfl rfl) Wk.rfl' (fun i d hd => ?_) ?_ (fun _ => rfl)
  · obtain ⟨d', hd', rfl⟩ := enumD_inv hd
    obtain ⟨p, hp, rfl⟩ := map_get hd'
    refine ⟨_, rfl, ?_⟩
    have hi := (List.getElem?_eq_some_iff.mp hp).1
    have hg : ps.getD i none = p := by rw [List.getD_eq_getElem?_getD, hp]; rfl
    cases p with
    | none =>
      refine SD.nxW (L' := [.dat (ePost ps), .own ((posts ps i).map eR3), .no, .no]) ?_ ?_
      · show [_, SK.own ((posts ps i ++ _).map eR3), _, _] = _
        rw [hg, List.append_nil]
      · exact sd_ifF (td_cmp (ed_var c 3 rfl (.inl rfl) rfl rfl rfl) ed_non cd_notN (nomark _)) (sd_nil (sd_nil ⟨.inr rfl, .inr rfl, .inl rfl, .inl rfl, trivial⟩))
    | some ot =>
      obtain ⟨o, t⟩ := ot
      refine SD.nxW (L' := [.dat (ePost ps), .own ((posts ps i).map eR3 ++ [eR3 ((i : Int), o, t)]), .no, .no]) ?_ ?_
      · show [_, SK.own ((posts ps i ++ _).map eR3), _, _] = _
        rw [hg, List.map_append]
        rfl
      · refine sd_ifT (td_cmp (ed_var c 3 rfl (.inl rfl) rfl rfl rfl) ed_non cd_notN (nomark _)) ?_
        refine sd_append c 1 rfl (.inl rfl) (ed_tup (ad_cons (ed_var c 2 rfl (.inl rfl) rfl rfl rfl) (ad_cons (ed_ix (ed_var c 3 rfl (.inl rfl) rfl rfl rfl) ed_int rfl (fun _ _ => rfl)) (ad_cons (ed_ix (ed_var c 3 rfl (.inl rfl) rfl rfl rfl) ed_int rfl (fun _ _ => rfl)) ad_nil rfl) rfl) rfl) (Nat.le_of_ble_eq_true rfl)) rfl rfl ?hz ?_ rfl rfl rfl rfl rfl rfl
        · rw [List.length_map]
          exact Nat.lt_of_lt_of_le (show (posts ps i).length < 10000 by have := posts_len (ps := ps) i; omega) (Nat.le_of_ble_eq_true rfl)
        · exact sd_nil (sd_nil ⟨.inr rfl, .inr rfl, .inl rfl, .inl rfl, trivial⟩)
  · rw [enumD_len, List.length_map]
    exact sd_retOwn c 1 rfl (.inl rfl) rfl rfl rfl rfl
end
end K
namespace K
open PySem L2 Z
section
variable {P : Program} {w : World} {K : PySem.W.Frag} {mg : Str → Option Value} {base : Heap} [LamC]
/-! ### spreading: plain -/
theorem goAt_ge {B : Book} {o h : Int} : ∀ (n : Nat) (t : Int), t ≤ goAt B o h n t
  | 0, t => Int.le_refl t
  | n + 1, t => by
    unfold goAt
    split
    · have := goAt_ge (B := B) (o := o) (h := h) n (t + 1); omega
    · exact Int.le_refl t
theorem letGo_ge {B : Book} {o h t : Int} : t ≤ letGo B o h t := goAt_ge _ _
theorem goAt_free {B : Book} (g : Good B) {o h : Int} : ∀ (n : Nat) (t : Int), 99 ≤ t + (n : Int) → barred B o h (goAt B o h n t) = false
  | 0, t, l => barred_late (t := t) g (by omega)
  | n + 1, t, l => by
    unfold goAt
    split
    · exact goAt_free g n (t + 1) (by omega)
    · rename_i q; simpa using q
theorem letGo_free {B : Book} (g : Good B) {o h t : Int} : barred B o h (letGo B o h t) = false := goAt_free g _ _ (by omega)
theorem goAt_bar {B : Book} {o h : Int} : ∀ (n : Nat) (t u : Int), t ≤ u → u < goAt B o h n t → barred B o h u = true
  | 0, t, u, l, l' => by
    have l' : u < t := l'
    omega
  | n + 1, t, u, l, l' => by
    unfold goAt at l'
    split at l'
    · rename_i q
      by_cases e : u = t
      · subst e; exact q
      · exact goAt_bar n (t + 1) u (by omega) l'
    · omega
theorem letGo_bar {B : Book} {o h t u : Int} (l : t ≤ u) (l' : u < letGo B o h t) : barred B o h u = true := goAt_bar _ _ _ l l'
theorem letGo_mono {B : Book} (g : Good B) {o h t t' : Int} (l : t ≤ t') : letGo B o h t ≤ letGo B o h t' := by
  rcases Int.lt_or_le (letGo B o h t') (letGo B o h t) with z | z
  · have := letGo_bar (Int.le_trans l (letGo_ge (B := B) (o := o) (h := h))) z
    rw [letGo_free g] at this
    cases this
  · exact z
theorem f_pos {B : Book} (g : Good B) {o h : Int} (ho : B.off o) (hh : B.off h) (n : h ≠ o) : 1 ≤ B.f o h ∧ B.f o h ≤ 9 := by
  have := g.vals o h ho hh
  rw [if_neg n] at this
  exact this
theorem comesAt_mono {B : Book} (g : Good B) {o h t t' : Int} (l : t ≤ t') : comesAt B o h t ≤ comesAt B o h t' := by
  unfold comesAt
  have := letGo_mono (o := o) (h := h) g l
  split <;> omega
theorem comesAt_late {B : Book} (g : Good B) {o h t : Int} (ho : B.off o) (hh : B.off h) (n : h ≠ o) : t < comesAt B o h t := by
  unfold comesAt
  rw [if_neg fun z => n z.symm]
  have := letGo_ge (B := B) (o := o) (h := h) (t := t)
  have := (f_pos g ho hh n).1
  omega
def rowE (B : Book) (r : R3) : Edge := ⟨r.2.1, B.home r.1, fun v => some (comesAt B r.2.1 (B.home r.1) (max v r.2.2))⟩
theorem rowE_ok {B : Book} (g : Good B) {rows : List R3} (gr : GoodRows B rows) : ∀ e, e ∈ rows.map (rowE B) → e.Ok := fun e he => by
  obtain ⟨r, hr, rfl⟩ := List.mem_map.mp he
  obtain ⟨hb, ho, hn, ht⟩ := gr.at_ r hr
  refine ⟨fun v v' t' l q => ?_, fun v t q => ?_⟩
  · cases q
    exact ⟨_, rfl, comesAt_mono g (by omega)⟩
  · cases q
    have := comesAt_late g (t := max v r.2.2) ho (home_off g hb) hn
    omega
noncomputable def spread (B : Book) (rows : List R3) (bs : List (Int × Int)) : Dt := Sp (fun e => e ∈ rows.map (rowE B)) (fun p => p ∈ bs)
def D0 (bs : List (Int × Int)) : Dt := bs.foldl (fun D p => low D p.1 p.2) (fun _ => none)
theorem fold_low_le : ∀ (bs : List (Int × Int)) (D : Dt), NL (bs.foldl (fun D p => low D p.1 p.2) D) D
  | [], D => NL.rfl
  | p :: bs, D => (fold_low_le bs _).trans low_le
theorem fold_low_beg : ∀ (bs : List (Int × Int)) (D : Dt) (o t : Int), (o, t) ∈ bs → ∃ u, bs.foldl (fun D p => low D p.1 p.2) D o = some u ∧ u ≤ t
  | p :: bs, D, o, t, h => by
    rcases List.mem_cons.mp h with e | e
    · subst e
      obtain ⟨u, h1, h2⟩ := low_at (D := D) (o := o) (t := t)
      obtain ⟨u', h3, h4⟩ := fold_low_le bs (low D o t) o u h1
      exact ⟨u', h3, by omega⟩
    · exact fold_low_beg bs _ o t e
theorem D0_beg {bs : List (Int × Int)} {o t : Int} (h : (o, t) ∈ bs) : ∃ u, D0 bs o = some u ∧ u ≤ t := fold_low_beg bs _ o t h
theorem fold_low_snd {E : Edge → Prop} {bp : Int × Int → Prop} (hE : ∀ e, E e → e.Ok) : ∀ (bs : List (Int × Int)) (D : Dt), (∀ p ∈ bs, bp p ∧ 0 ≤ p.2) → Sound E bp D → Sound E bp (bs.foldl (fun D p => low D p.1 p.2) D)
  | [], D, _, S => S
  | p :: bs, D, h, S => fold_low_snd hE bs _ (fun q hq => h q (List.mem_cons_of_mem _ hq)) (S.low hE (h p List.mem_cons_self).2 (.inl (h p List.mem_cons_self).1))
theorem Sound.none {E : Edge → Prop} {bp : Int × Int → Prop} : Sound E bp (fun _ => none) := ⟨fun _ _ h => (by cases h), fun _ _ h => (by cases h)⟩
section
variable {B : Book} {rows : List R3} {bs : List (Int × Int)}
theorem D0_snd (g : Good B) (gr : GoodRows B rows) (gb : GoodBeg B bs) : Sound (fun e => e ∈ rows.map (rowE B)) (fun p => p ∈ bs) (D0 bs) := fold_low_snd (rowE_ok g gr) bs _ (fun p hp => ⟨hp, (gb p hp).2⟩) Sound.none
theorem spread_spec (g : Good B) (gr : GoodRows B rows) (gb : GoodBeg B bs) : Sound (fun e => e ∈ rows.map (rowE B)) (fun p => p ∈ bs) (spread B rows bs) ∧ Stable (fun e => e ∈ rows.map (rowE B)) (fun p => p ∈ bs) (spread B rows bs) :=
  sp_spec (rowE_ok g gr) (fun o t h => (gb _ h).2)
theorem spread_is (g : Good B) (gr : GoodRows B rows) (gb : GoodBeg B bs) {D : Dt} (S : Sound (fun e => e ∈ rows.map (rowE B)) (fun p => p ∈ bs) D) (T : Stable (fun e => e ∈ rows.map (rowE B)) (fun p => p ∈ bs) D) : D = spread B rows bs :=
  sp_is (rowE_ok g gr) (fun o t h => (gb _ h).2) S T
theorem spread_its (g : Good B) (gr : GoodRows B rows) (gb : GoodBeg B bs) {k : Nat} (hk : rows.length ≤ k) : its (rows.map (rowE B)) k (D0 bs) = spread B rows bs :=
  rounds_do (rowE_ok g gr) (fun e => Iff.rfl) (spread_spec g gr gb).1 (spread_spec g gr gb).2 (D0_snd g gr gb) (fun o t h => D0_beg h) (rows.map fun r => B.home r.1) (fun e he => by
    obtain ⟨r, hr, rfl⟩ := List.mem_map.mp he
    exact List.mem_map.mpr ⟨r, hr, rfl⟩) (by rw [List.length_map]; exact hk)
theorem spread_fix (g : Good B) (gr : GoodRows B rows) (gb : GoodBeg B bs) {k : Nat} (h : rnd (rows.map (rowE B)) (its (rows.map (rowE B)) k (D0 bs)) = its (rows.map (rowE B)) k (D0 bs)) : its (rows.map (rowE B)) k (D0 bs) = spread B rows bs :=
  spread_is g gr gb (Sound.its (rowE_ok g gr) (fun e he => he) (D0_snd g gr gb) k) (stable_of_rnd (rowE_ok g gr) (fun e => Iff.rfl) (fun o t hb => by
    obtain ⟨u, h1, h2⟩ := D0_beg hb
    have : NL (its (rows.map (rowE B)) k (D0 bs)) (D0 bs) := by
      clear h
      induction k with
      | zero => exact NL.rfl
      | succ k ih => exact (rnd_le _ _).trans ih
    obtain ⟨u', h3, h4⟩ := this o u h1
    exact ⟨u', h3, by omega⟩) h)
end
theorem rel_none {D : Dt} {e : Edge} (h : D e.a = none) : rel D e = D := by unfold rel; rw [h]
theorem rel_row {B : Book} {D : Dt} {r : R3} {v : Int} (h : D r.2.1 = some v) : rel D (rowE B r) = low D (B.home r.1) (comesAt B r.2.1 (B.home r.1) (max v r.2.2)) := by
  unfold rel rowE
  dsimp only
  rw [h]
theorem fold_take {α : Type} {es : List α} {i : Nat} {e : α} {D : Dt} {F : Dt → α → Dt} (h : es[i]? = some e) : (es.take (i + 1)).foldl F D = F ((es.take i).foldl F D) e := by
  have ht : es.take (i + 1) = es.take i ++ [e] := by rw [List.take_succ, h]; rfl
  rw [ht, List.foldl_append]
  rfl
theorem fold_all {α : Type} {es : List α} {D : Dt} {F : Dt → α → Dt} : (es.take es.length).foldl F D = es.foldl F D := by rw [List.take_length]
end
end K
namespace K
open PySem L2 Z
section
variable {P : Program} {w : World} {K : PySem.W.Frag} {mg : Str → Option Value} {base : Heap} [LamC]
/-! ### spreading: the walk -/
def R_spread (ds : List PyData) (es : List PyData) : Prop := ∃ B rows bs db, ds = [eBook B, .list (List.map eR3 rows), db] ∧ seqD db = some (List.map eP2 bs) ∧ Good B ∧ GoodRows B rows ∧ GoodBeg B bs ∧ es = fl B.n (spread B rows bs)
theorem ok_spread (M : Md K mg) : FnG P w K mg base "spread" ["book", "rows", "begins"] 4 (spL K R_spread) := by
  have Fc := ok_comes (P := P) (w := w) (base := base) M
  refine fn_sdL (N := ["book", "rows", "begins", "found", "office", "hour", "moved", "bird", "place", "ready", "home", "come", "one"]) M.d_spread ⟨rfl, rfl, rfl, by decide +kernel, rfl, by decide +kernel, by decide +kernel⟩ (fun ds d ⟨_, _, _, _, e, _⟩ => by rw [e]; rfl) (by decide) (fun X c ds d hR => ?_)
  obtain ⟨B, rows, bs, db, rfl, hq, g, gr, gb, rfl⟩ := hR
  show SD X [.dat (eBook B), .dat (.list (rows.map eR3)), .dat db, .no, .no, .no, .no, .no, .no, .no, .no, .no, .no] _ _
  have hn : B.n < 10 := by have := g.n6; omega
  refine sd_asgC c 3 rfl rfl (Nat.le_of_ble_eq_true rfl) rfl rfl rfl (lc_map c [("one", 12)] (xs := B.fl) (enc := eInts) (fun _ => .none) (by decide +kernel) rfl (id_seq (ed_ix (ed_var c 0 rfl (.inl rfl) rfl rfl rfl) (ed_gint c rfl M.c_FLIGHTS rfl) rfl (fun _ _ => rfl)) rfl) (all1 ⟨_, rfl, .inl rfl⟩) (fun X' c2 => gd_name c2 12 rfl (by kspl_open loc) (by kspl_open loc)) (Nat.lt_of_lt_of_le hn (Nat.le_of_ble_eq_true rfl)) (fun x hx => ⟨_, rfl, fun X' c2 => ed_non, ⟨.inr rfl, .inr rfl, .inr rfl, .inr rfl, .inr rfl, .inr rfl, .inr rfl, .inr rfl, .inr rfl, .inr rfl, .inr rfl, .inr rfl, .inl rfl, trivial⟩⟩) (fun _ => rfl)) ?_
  refine SD.to (ls := [.dat (eBook B), .dat (.list (rows.map eR3)), .dat db, .own (fl B.n (fun _ => none)), .no, .no, .no, .no, .no, .no, .no, .no, .no]) ?_ ?_
  · show [_, _, _, SK.own (B.fl.map fun _ => .none), _, _, _, _, _, _, _, _, _] = _
    rw [fl_none, List.map_const']
  -- for office, hour in begins
  refine sd_for c (fun i => [.dat (eBook B), .dat (.list (rows.map eR3)), .dat db, .own (fl B.n ((bs.take i).foldl (fun D p => low D p.1 p.2) (fun _ => none))), .no, .no, .no, .no, .no, .no, .no, .no, .no]) (id_seq (ed_var c 2 rfl (.inl rfl) rfl rfl rfl) hq) (gd_tup c (gs_cons c 4 rfl (by kspl_open loc) (by kspl_open loc) (gs_cons c 5 rfl (by kspl_open loc) (by kspl_open loc) gs_nil rfl) rfl) rfl rfl) Wk.rfl' (fun i d hd => ?_) ?_ (fun _ => rfl)
  · obtain ⟨p, hp, rfl⟩ := map_get hd
    obtain ⟨ho, ht⟩ := gb p (List.mem_of_getElem? hp)
    obtain ⟨o, t⟩ := p
    refine ⟨_, rfl, ?_⟩
    rw [fold_take hp]
    generalize (bs.take i).foldl (fun D p => low D p.1 p.2) (fun _ => none) = D
    refine sd_if (td_low c 3 rfl (.inl rfl) rfl (ed_var c 4 rfl (.inl rfl) rfl rfl rfl) (ed_var c 4 rfl (.inl rfl) rfl rfl rfl) (ed_var c 5 rfl (.inl rfl) rfl rfl rfl) ho (fun _ _ => rfl) (fun _ _ => rfl) rfl rfl (nomark _)) (fun hb => ?_) (fun hb => ?_)
    · refine sd_setitem c 3 rfl (.inl rfl) (ed_var c 5 rfl (.inl rfl) rfl rfl rfl) (ed_var c 4 rfl (.inl rfl) rfl rfl rfl) rfl rfl (fl_ixN ho) ?_ rfl rfl (fun _ => rfl) rfl rfl rfl
      refine sd_nil (sd_nil ?_)
      rw [low_t hb, ← fl_set ho]
      exact ⟨.inr rfl, .inr rfl, .inr rfl, .inr rfl, .inl rfl, .inl rfl, .inl rfl, .inl rfl, .inl rfl, .inl rfl, .inl rfl, .inl rfl, .inl rfl, trivial⟩
    · refine sd_nil (sd_nil ?_)
      rw [low_f hb]
      exact ⟨.inr rfl, .inr rfl, .inr rfl, .inr rfl, .inl rfl, .inl rfl, .inl rfl, .inl rfl, .inl rfl, .inl rfl, .inl rfl, .inl rfl, .inl rfl, trivial⟩
  rw [List.length_map, fold_all]
  show SD X [.dat (eBook B), .dat (.list (rows.map eR3)), .dat db, .own (fl B.n (its (rows.map (rowE B)) 0 (D0 bs))), .no, .no, .no, .no, .no, .no, .no, .no, .no] _ _
  refine sd_asg c 6 rfl (.inl rfl) (.inl rfl) (Nat.le_of_ble_eq_true rfl) ed_bl rfl ?_
  -- while moved
  refine sd_while c (fun m ls => ∃ k mv, ls = [.dat (eBook B), .dat (.list (rows.map eR3)), .dat db, .own (fl B.n (its (rows.map (rowE B)) k (D0 bs))), .no, .no, .dat (.bool mv), .no, .no, .no, .no, .no, .no] ∧ (mv = true → k ≤ rows.length ∧ m = rows.length + 1 - k) ∧ (mv = false → m = 0 ∧ its (rows.map (rowE B)) k (D0 bs) = spread B rows bs)) (rows.length + 1) ⟨0, true, rfl, fun _ => ⟨Nat.zero_le _, rfl⟩, fun z => by cases z⟩ (fun m ls hF => ?_)
  obtain ⟨k, mv, rfl, ht, hf⟩ := hF
  refine ⟨_, _, (td_val (ed_var c 6 rfl (.inl rfl) rfl rfl rfl) (fun _ => rfl)), fun hb => ?_, fun hb => ?_⟩
  · subst hb
    obtain ⟨hk, rfl⟩ := ht rfl
    clear ht hf
    have gone : rows.length ≤ k → rnd (rows.map (rowE B)) (its (rows.map (rowE B)) k (D0 bs)) = its (rows.map (rowE B)) k (D0 bs) := fun l => by
      have h1 := spread_its g gr gb l
      have h2 := spread_its g gr gb (show rows.length ≤ k + 1 by omega)
      rw [h1]
      have h2 : rnd (rows.map (rowE B)) (its (rows.map (rowE B)) k (D0 bs)) = spread B rows bs := h2
      rw [h1] at h2
      exact h2
    have fix := spread_fix g gr gb (k := k)
    have step : its (rows.map (rowE B)) (k + 1) (D0 bs) = rnd (rows.map (rowE B)) (its (rows.map (rowE B)) k (D0 bs)) := rfl
    generalize eD : its (rows.map (rowE B)) k (D0 bs) = D at gone fix step
    refine sd_asg c 6 rfl (.inl rfl) (.inl rfl) (Nat.le_of_ble_eq_true rfl) ed_bl rfl ?_
    refine sd_forP c (fun i ls => ∃ mv, ls = [.dat (eBook B), .dat (.list (rows.map eR3)), .dat db, .own (fl B.n ((rows.take i).foldl (fun D r => rel D (rowE B r)) D)), .no, .no, .dat (.bool mv), .no, .no, .no, .no, .no, .no] ∧ (mv = false → (rows.take i).foldl (fun D r => rel D (rowE B r)) D = D) ∧ (mv = true → (rows.take i).foldl (fun D r => rel D (rowE B r)) D ≠ D) ∧ NL ((rows.take i).foldl (fun D r => rel D (rowE B r)) D) D) (id_seq (ed_var c 1 rfl (.inl rfl) rfl rfl rfl) rfl) (gd_tup c (gs_cons c 7 rfl (by kspl_open loc) (by kspl_open loc) (gs_cons c 8 rfl (by kspl_open loc) (by kspl_open loc) (gs_cons c 9 rfl (by kspl_open loc) (by kspl_open loc) gs_nil rfl) rfl) rfl) rfl rfl) ⟨false, rfl, fun _ => rfl, fun z => (by cases z), NL.rfl⟩ (fun i d ls hd hF => ?_) (fun ls hF => ?_) (fun _ => rfl)
    · obtain ⟨mv, rfl, f0, f1, f2⟩ := hF
      obtain ⟨r, hr, rfl⟩ := map_get hd
      obtain ⟨hbi, ho, hne, hpos⟩ := gr.at_ r (List.mem_of_getElem? hr)
      have hho := home_off g hbi
      obtain ⟨b, o, t⟩ := r
      refine ⟨_, rfl, ?_⟩
      rw [fold_take hr]
      generalize (rows.take i).foldl (fun D r => rel D (rowE B r)) D = C at f0 f1 f2
      have ho' : 0 ≤ o ∧ o < (B.n : Int) := ho
      have hh' : 0 ≤ B.home b ∧ B.home b < (B.n : Int) := hho
      have hx : L2.atI (fl B.n C) o = some (oD (C o)) := fl_at ho'
      refine sd_ifJ (fun ls => ∃ mv, ls = [.dat (eBook B), .dat (.list (rows.map eR3)), .dat db, .own (fl B.n (rel C (rowE B (b, o, t)))), .no, .no, .dat (.bool mv), .no, .no, .no, .no, .no, .no] ∧ (mv = false → rel C (rowE B (b, o, t)) = D) ∧ (mv = true → rel C (rowE B (b, o, t)) ≠ D) ∧ NL (rel C (rowE B (b, o, t))) D) (td_cmp (own_ix c 3 rfl (.inl rfl) (ed_var c 8 rfl (.inl rfl) rfl rfl rfl) rfl hx (fun _ _ => rfl) rfl rfl rfl) ed_non cd_notN (nomark _)) (fun hb => ?_) (fun hb => ?_) (fun k h => sd_nil h)
      · cases e : C o with
        | none => rw [e] at hb; cases hb
        | some v =>
          rw [e] at hx
          refine sd_asg c 10 rfl (.inl rfl) (.inl rfl) (Nat.le_of_ble_eq_true rfl) (ed_ix (ed_ix (ed_var c 0 rfl (.inl rfl) rfl rfl rfl) (ed_gint c rfl M.c_BIRDS rfl) rfl (fun _ _ => rfl)) (ed_var c 7 rfl (.inl rfl) rfl rfl rfl) (ix_home hbi) (fun _ _ => rfl)) rfl ?_
          refine sd_asg c 11 rfl (.inl rfl) (.inl rfl) (Nat.le_of_ble_eq_true rfl) (ed_call c Fc (by decide) rfl (ad_cons (ed_var c 0 rfl (.inl rfl) rfl rfl rfl) (ad_cons (ed_var c 8 rfl (.inl rfl) rfl rfl rfl) (ad_cons (ed_var c 10 rfl (.inl rfl) rfl rfl rfl) (ad_cons (ed_callB c rfl M.b_max PyProof.Rows.boot_max (ad_cons (own_ix c 3 rfl (.inl rfl) (ed_var c 8 rfl (.inl rfl) rfl rfl rfl) rfl hx (fun _ _ => rfl) rfl rfl rfl) (ad_cons (ed_var c 9 rfl (.inl rfl) rfl rfl rfl) ad_nil rfl) rfl) (cl_max2 c.calm) (by decide) rfl rfl rfl) ad_nil rfl) rfl) rfl) rfl) ⟨B, o, _, _, rfl, g, ho, hho, rfl⟩ rfl rfl rfl) rfl ?_
          have er : rel C (rowE B (b, o, t)) = low C (B.home b) (comesAt B o (B.home b) (max v t)) := rel_row e
          rw [er]
          refine sd_if (td_low c 3 rfl (.inl rfl) rfl (ed_var c 10 rfl (.inl rfl) rfl rfl rfl) (ed_var c 10 rfl (.inl rfl) rfl rfl rfl) (ed_var c 11 rfl (.inl rfl) rfl rfl rfl) hh' (fun _ _ => rfl) (fun _ _ => rfl) rfl rfl (nomark _)) (fun hbt => ?_) (fun hbt => ?_)
          · refine sd_setitem c 3 rfl (.inl rfl) (ed_var c 11 rfl (.inl rfl) rfl rfl rfl) (ed_var c 10 rfl (.inl rfl) rfl rfl rfl) rfl rfl (fl_ixN hh') ?_ rfl rfl (fun _ => rfl) rfl rfl rfl
            refine sd_asg c 6 rfl (.inl rfl) (.inl rfl) (Nat.le_of_ble_eq_true rfl) ed_bl rfl ?_
            have hfx := low_fix hbt
            have hle : NL (low C (B.home b) (comesAt B o (B.home b) (max v t))) C := low_le
            rw [low_t hbt] at hfx hle ⊢
            rw [← fl_set hh']
            refine sd_nil (sd_weak (ls := [_, _, _, _, .no, .no, _, .no, .no, .no, .no, .no, .no]) ⟨.inr rfl, .inr rfl, .inr rfl, .inr rfl, .inl rfl, .inl rfl, .inr rfl, .inl rfl, .inl rfl, .inl rfl, .inl rfl, .inl rfl, .inl rfl, trivial⟩ (sd_nil ⟨true, rfl, fun z => (by cases z), fun _ z => ?_, hle.trans f2⟩))
            have e1 : C = D := NL.anti f2 (z ▸ hle)
            exact hfx (z.trans e1.symm)
          · rw [low_f hbt]
            exact sd_nil (sd_weak (ls := [_, _, _, _, .no, .no, _, .no, .no, .no, .no, .no, .no]) ⟨.inr rfl, .inr rfl, .inr rfl, .inr rfl, .inl rfl, .inl rfl, .inr rfl, .inl rfl, .inl rfl, .inl rfl, .inl rfl, .inl rfl, .inl rfl, trivial⟩ (sd_nil ⟨mv, rfl, f0, f1, f2⟩))
      · cases e : C o with
        | some v => rw [e] at hb; cases hb
        | none =>
          have er : rel C (rowE B (b, o, t)) = C := rel_none e
          rw [er]
          exact sd_weak (ls := [_, _, _, _, .no, .no, _, .no, .no, .no, .no, .no, .no]) ⟨.inr rfl, .inr rfl, .inr rfl, .inr rfl, .inl rfl, .inl rfl, .inr rfl, .inl rfl, .inl rfl, .inl rfl, .inl rfl, .inl rfl, .inl rfl, trivial⟩ (sd_nil ⟨mv, rfl, f0, f1, f2⟩)
    · obtain ⟨mv, rfl, f0, f1, f2⟩ := hF
      rw [List.length_map, fold_all] at f0 f1
      refine sd_nil ?_
      have er : rows.foldl (fun D r => rel D (rowE B r)) D = rnd (rows.map (rowE B)) D := by unfold rnd; rw [List.foldl_map]
      rw [List.length_map, fold_all, er]
      rw [er] at f0 f1
      refine ⟨if mv = true then rows.length + 1 - (k + 1) else 0, ?_, k + 1, mv, by rw [step], fun z => ?_, fun z => ?_⟩
      · split <;> omega
      · subst z
        have : ¬ rows.length ≤ k := fun l => f1 rfl (gone l)
        exact ⟨by omega, rfl⟩
      · subst z
        refine ⟨rfl, ?_⟩
        rw [step, f0 rfl]
        exact eD ▸ fix (by rw [← eD] at f0 ⊢; exact f0 rfl)
  · subst hb
    rw [(hf rfl).2]
    exact sd_retOwn c 3 rfl (.inl rfl) rfl rfl rfl rfl
end
end K
namespace K
open PySem L2 Z
section
variable {P : Program} {w : World} {K : PySem.W.Frag} {mg : Str → Option Value} {base : Heap} [LamC]
/-! ### the law's postings and begins -/
def postStep (B : Book) (i : Nat) (r : Rg) : Option (Int × Int) × Rg :=
  (if nxV (nxR (nxR (nxR r ((B.n : Int) - 1)) 3) (pick3 1 30 95 (nxV (nxR r ((B.n : Int) - 1)) 3))) 4 = 0 then none else some ((B.home (i : Int) + 1 + nxV r ((B.n : Int) - 1)) % (B.n : Int), nxV (nxR (nxR r ((B.n : Int) - 1)) 3) (pick3 1 30 95 (nxV (nxR r ((B.n : Int) - 1)) 3))),
    nxR (nxR (nxR (nxR r ((B.n : Int) - 1)) 3) (pick3 1 30 95 (nxV (nxR r ((B.n : Int) - 1)) 3))) 4)
def lawPost (B : Book) (r : Rg) : Posting × Rg := iterI (postStep B) B.bi.length r
theorem off_ne {n b v : Int} (h0 : 0 ≤ b) (h1 : b < n) (v0 : 0 ≤ v) (v1 : v < n - 1) : (0 ≤ (b + 1 + v) % n ∧ (b + 1 + v) % n < n) ∧ (b + 1 + v) % n ≠ b := by
  refine ⟨⟨Int.emod_nonneg _ (by omega), Int.emod_lt_of_pos _ (by omega)⟩, fun e => ?_⟩
  by_cases q : b + 1 + v < n
  · rw [Int.emod_eq_of_lt (by omega) q] at e
    omega
  · have : (b + 1 + v) % n = b + 1 + v - n := by
      rw [← Int.sub_emod_right, Int.emod_eq_of_lt (by omega) (by omega)]
    omega
theorem lawPost_at {B : Book} (g : Good B) {r : Rg} : ∀ (i : Nat) x, i < B.bi.length → (lawPost B r).1[i]? = some x → ∀ o t, x = some (o, t) → B.off o ∧ o ≠ B.home (i : Int) ∧ 0 ≤ t ∧ t ≤ 94 := fun i x hi e => by
  refine iterI_all (f := postStep B) (p := fun i x => i < B.bi.length → ∀ o t, x = some (o, t) → B.off o ∧ o ≠ B.home (i : Int) ∧ 0 ≤ t ∧ t ≤ 94) (fun i r hi o t ho => ?_) _ _ i x e hi
  unfold postStep at ho
  dsimp only at ho
  split at ho
  · cases ho
  · simp only [Option.some.injEq, Prod.mk.injEq] at ho
    have hh := home_off g (b := (i : Int)) ⟨by omega, by omega⟩
    have n2 := g.n2
    have := off_ne hh.1 hh.2 (nxV_0 (r := r) (m := (B.n : Int) - 1) (by omega)) (nxV_1 (by omega))
    have p := pick3_in (i := nxV (nxR r ((B.n : Int) - 1)) 3) (p := fun z => 0 < z ∧ z ≤ 95) (a := 1) (b := 30) (c := 95) (by decide) (by decide) (by decide)
    rw [← ho.1, ← ho.2]
    refine ⟨this.1, this.2, nxV_0 p.1, ?_⟩
    have := nxV_1 (r := nxR (nxR r ((B.n : Int) - 1)) 3) p.1
    omega
theorem lawPost_len {B : Book} {r : Rg} : (lawPost B r).1.length = B.bi.length := iterI_len _ _ _
theorem lawPost_good {B : Book} (g : Good B) {r : Rg} : GoodPost B (lawPost B r).1 := ⟨lawPost_len, fun i o t h => by
  have hi := (List.getElem?_eq_some_iff.mp h).1
  rw [lawPost_len] at hi
  obtain ⟨a, b, c, _⟩ := lawPost_at g i _ hi h o t rfl
  exact ⟨a, b, c⟩⟩
def R_law_posting (r : Rg) (ds : List PyData) (r2 : Rg) (d : PyData) : Prop := ∃ B, ds = [eBook B] ∧ Good B ∧ r2 = (lawPost B r).2 ∧ d = ePost (lawPost B r).1
theorem ok_law_posting (M : Md K mg) : FnG P w K mg base "_law_posting" ["_law_h", "_law_book_here"] 2 (spR K R_law_posting) := by
  have Fn := ok_next (P := P) (w := w) (base := base) M
  refine fn_sdR (N := ["_law_h", "_law_book_here", "_law_many", "_law_found", "_law_home", "_law_place"]) M.d__law_posting ⟨rfl, rfl, rfl, by decide +kernel, rfl, by decide +kernel, by decide +kernel⟩ (fun r ds r2 d ⟨_, e, _⟩ => by rw [e]; rfl) (by decide) (fun X c A A' r ds r2 d hR => ?_)
  obtain ⟨B, rfl, g, rfl, rfl⟩ := hR
  show SD X [.rng A A' r, .dat (eBook B), .no, .no, .no, .no] _ _
  have n2 := g.n2
  have n6 := g.n6
  refine sd_asg c 2 rfl (.inl rfl) (.inl rfl) (Nat.le_of_ble_eq_true rfl) (ed_to (ed_callB c rfl M.b_len PySem.boot_len (ad_cons (ed_ix (ed_var c 1 rfl (.inl rfl) rfl rfl rfl) ed_int rfl (fun _ _ => rfl)) ad_nil rfl) cl_lenT (by decide) rfl rfl rfl) (d' := .int (B.n : Int)) (by rw [List.length_map])) rfl ?_
  refine sd_asgL c 3 rfl (.inl rfl) (.inl rfl) (Nat.le_of_ble_eq_true rfl) (el_lst ad_nil (Nat.le_of_ble_eq_true rfl)) rfl ?_
  refine sd_for c (fun i => [.rng A A' (iterI (postStep B) i r).2, .dat (eBook B), .dat (.int (B.n : Int)), .own ((iterI (postStep B) i r).1.map oP), .no, .no]) (id_seq (ed_ix (ed_var c 1 rfl (.inl rfl) rfl rfl rfl) ed_int rfl (fun _ _ => rfl)) rfl) (gd_name c 4 rfl (by kspl_open loc) (by kspl_open loc)) Wk.rfl' (fun i d hd => ?_) ?_ (fun _ => rfl)
  · obtain ⟨h, hh, rfl⟩ := map_get hd
    have hi := (List.getElem?_eq_some_iff.mp hh).1
    have eh : h = B.home (i : Int) := by
      unfold Z.Book.home
      rw [Int.toNat_natCast, List.getD_eq_getElem?_getD, hh]; rfl
    subst eh
    refine ⟨_, rfl, ?_⟩
    have hl := iterI_len (postStep B) i r
    refine SD.nxW (L' := [.rng A A' (postStep B i (iterI (postStep B) i r).2).2, .dat (eBook B), .dat (.int (B.n : Int)), .own ((iterI (postStep B) i r).1.map oP ++ [oP (postStep B i (iterI (postStep B) i r).2).1]), .no, .no]) ?_ ?_
    · show [_, _, _, SK.own (((iterI (postStep B) i r).1 ++ [(postStep B i (iterI (postStep B) i r).2).1]).map oP), _, _] = _
      rw [List.map_append]
      rfl
    show SD X [.rng A A' (iterI (postStep B) i r).2, .dat (eBook B), .dat (.int (B.n : Int)), .own ((iterI (postStep B) i r).1.map oP), .dat (.int (B.home (i : Int))), .no] _ _
    generalize (iterI (postStep B) i r).2 = s at *
    generalize (iterI (postStep B) i r).1 = xs at *
    have p1 := p3_pos (a := 1) (b := 30) (c := 95) (i := nxV (nxR s ((B.n : Int) - 1)) 3) (by decide) (by decide) (by decide)
    refine sd_asg c 5 rfl (.inl rfl) (.inl rfl) (Nat.le_of_ble_eq_true rfl) (ed_tup (ad_cons (ed_bin (ed_bin (ed_bin (ed_var c 4 rfl (.inl rfl) rfl rfl rfl) ed_int bd_add) (ed_callR c Fn (by decide) rfl 0 rfl (.inl rfl) rfl (ad_cons (ed_bin (ed_var c 2 rfl (.inl rfl) rfl rfl rfl) ed_int bd_sub) ad_nil rfl) rfl ⟨_, rfl, by omega, by omega, rfl, rfl⟩ rfl rfl rfl rfl rfl) bd_add) (ed_var c 2 rfl (.inl rfl) rfl rfl rfl) (bd_mod (by omega))) (ad_cons (ed_callR c Fn (by decide) rfl 0 rfl (.inl rfl) rfl (ad_cons (ed_ix (ed_el (el_lst (ad_cons ed_int (ad_cons ed_int (ad_cons ed_int ad_nil rfl) rfl) rfl) (Nat.le_of_ble_eq_true rfl))) (ed_callR c Fn (by decide) rfl 0 rfl (.inl rfl) rfl (ad_cons ed_int ad_nil rfl) rfl ⟨3, rfl, by decide, by decide, rfl, rfl⟩ rfl rfl rfl rfl rfl) (ix_pick3 (nxV_0 (by decide)) (nxV_1 (by decide))) (fun _ _ => rfl)) ad_nil rfl) rfl ⟨_, rfl, p1.1, by have := p1.2; omega, rfl, rfl⟩ rfl rfl rfl rfl rfl) ad_nil rfl) rfl) (Nat.le_of_ble_eq_true rfl)) rfl ?_
    unfold postStep
    dsimp only
    generalize (B.home (i : Int) + 1 + nxV s ((B.n : Int) - 1)) % (B.n : Int) = o
    generalize nxV (nxR (nxR s ((B.n : Int) - 1)) 3) (pick3 1 30 95 (nxV (nxR s ((B.n : Int) - 1)) 3)) = t
    show SD X [.rng A A' (nxR (nxR (nxR s ((B.n : Int) - 1)) 3) (pick3 1 30 95 (nxV (nxR s ((B.n : Int) - 1)) 3))), .dat (eBook B), .dat (.int (B.n : Int)), .own (xs.map oP), .dat (.int (B.home (i : Int))), .dat (eP2 (o, t))] _ _
    generalize nxR (nxR (nxR s ((B.n : Int) - 1)) 3) (pick3 1 30 95 (nxV (nxR s ((B.n : Int) - 1)) 3)) = s3
    refine sd_append c 3 rfl (.inl rfl) (ed_if (d := oP (if nxV s3 4 = 0 then none else some (o, t))) (td_cmp (ed_callR c Fn (by decide) rfl 0 rfl (.inl rfl) rfl (ad_cons ed_int ad_nil rfl) rfl ⟨4, rfl, by decide, by decide, rfl, rfl⟩ rfl rfl rfl rfl rfl) ed_int cd_eqI (nomark _)) (fun hb => ed_to ed_non (by rw [if_pos (of_decide_eq_true hb)]; rfl)) (fun hb => ed_to (ed_var c 5 rfl (.inl rfl) rfl rfl rfl) (by rw [if_neg (of_decide_eq_false hb)]; rfl))) rfl rfl ?hz ?_ rfl rfl rfl rfl rfl rfl
    · rw [List.length_map, hl]
      exact Nat.lt_of_lt_of_le (show i < 1000 by have := g.bil; omega) (Nat.le_of_ble_eq_true rfl)
    · exact sd_nil ⟨.inr rfl, .inr rfl, .inr rfl, .inr rfl, .inl rfl, .inl rfl, trivial⟩
  · rw [List.length_map]
    refine sd_freeze 3 rfl ?_
    exact sd_ret (ed_callT c rfl M.b_tuple PyProof.Rows.boot_tuple (ad_cons (ed_var c 3 rfl (.inl rfl) rfl rfl rfl) ad_nil rfl) cl_tupL (by decide) rfl rfl rfl) ⟨rfl, rfl⟩
end
end K
namespace K
open PySem L2 Z
section
variable {P : Program} {w : World} {K : PySem.W.Frag} {mg : Str → Option Value} {base : Heap} [LamC]
def begStep (n : Int) (_ : Nat) (r : Rg) : (Int × Int) × Rg :=
  ((nxV r n, nxV (nxR (nxR r n) 3) (pick3 1 40 95 (nxV (nxR r n) 3))), nxR (nxR (nxR r n) 3) (pick3 1 40 95 (nxV (nxR r n) 3)))
def begN (r : Rg) : Int := 1 + nxV r 3 * (if decide (nxV (nxR r 3) 3 = 0) = true then 1 else 0)
def lawBeg (B : Book) (r : Rg) : List (Int × Int) × Rg := iterI (begStep (B.n : Int)) (begN r).toNat (nxR (nxR r 3) 3)
theorem begN_in {r : Rg} : 1 ≤ begN r ∧ begN r ≤ 3 := by
  unfold begN
  have h0 := nxV_0 (r := r) (m := 3) (by decide)
  have h1 := nxV_1 (r := r) (m := 3) (by decide)
  split <;> omega
theorem lawBeg_at {B : Book} (g : Good B) {r : Rg} : ∀ p ∈ (lawBeg B r).1, B.off p.1 ∧ 0 ≤ p.2 ∧ p.2 ≤ 94 := iterI_mem (fun i r => by
  have n2 := g.n2
  have p := pick3_in (i := nxV (nxR r (B.n : Int)) 3) (p := fun z => 0 < z ∧ z ≤ 95) (a := 1) (b := 40) (c := 95) (by decide) (by decide) (by decide)
  refine ⟨nxV_off rfl (by omega), nxV_0 p.1, ?_⟩
  have := nxV_1 (r := nxR (nxR r (B.n : Int)) 3) p.1
  show nxV _ _ ≤ 94
  omega) _ _
theorem lawBeg_good {B : Book} (g : Good B) {r : Rg} : GoodBeg B (lawBeg B r).1 := fun p hp => ⟨(lawBeg_at g p hp).1, (lawBeg_at g p hp).2.1⟩
theorem lawBeg_len {B : Book} {r : Rg} : (lawBeg B r).1.length = (begN r).toNat := iterI_len _ _ _
def R_law_begins (r : Rg) (ds : List PyData) (r2 : Rg) (d : PyData) : Prop := ∃ B, ds = [eBook B] ∧ Good B ∧ r2 = (lawBeg B r).2 ∧ d = .tuple ((lawBeg B r).1.map eP2)
theorem ok_law_begins (M : Md K mg) : FnG P w K mg base "_law_begins" ["_law_h", "_law_book_here"] 2 (spR K R_law_begins) := by
  have Fn := ok_next (P := P) (w := w) (base := base) M
  refine fn_sdR (N := ["_law_h", "_law_book_here", "_law_many", "_law_k"]) M.d__law_begins ⟨rfl, rfl, rfl, by decide +kernel, rfl, by decide +kernel, by decide +kernel⟩ (fun r ds r2 d ⟨_, e, _⟩ => by rw [e]; rfl) (by decide) (fun X c A A' r ds r2 d hR => ?_)
  obtain ⟨B, rfl, g, rfl, rfl⟩ := hR
  show SD X [.rng A A' r, .dat (eBook B), .no, .no] _ _
  have n2 := g.n2
  have n6 := g.n6
  have bn := begN_in (r := r)
  refine sd_asg c 2 rfl (.inl rfl) (.inl rfl) (Nat.le_of_ble_eq_true rfl) (ed_bin ed_int (ed_bin (ed_callR c Fn (by decide) rfl 0 rfl (.inr (.inl rfl)) rfl (ad_cons ed_int ad_nil rfl) rfl ⟨3, rfl, by decide, by decide, rfl, rfl⟩ rfl rfl rfl rfl rfl) (ed_callT c rfl M.b_int PyProof.Rows.boot_int (ad_cons (ed_cmp (ed_callR c Fn (by decide) rfl 0 rfl (.inr (.inl rfl)) rfl (ad_cons ed_int ad_nil rfl) rfl ⟨3, rfl, by decide, by decide, rfl, rfl⟩ rfl rfl rfl rfl rfl) ed_int cd_eqI (nomark _)) ad_nil rfl) cl_intB (by decide) rfl rfl rfl) (bd_mul (.inr (by split <;> decide)))) bd_add) rfl ?_
  show SD X [.rng A A' (nxR (nxR r 3) 3), .dat (eBook B), .dat (.int (begN r)), .no] _ _
  refine sd_ret (ed_callT c rfl M.b_tuple PyProof.Rows.boot_tuple (ad_cons (ed_el (el_draw (A := A) (B := A') (r := nxR (nxR r 3) 3) c [("_law_k", 3)] 0 (begStep (B.n : Int)) eP2 (by decide +kernel) rfl (id_range c rfl M.b_range (ed_var c 2 rfl (.inl rfl) rfl rfl rfl) (n := begN r) ⟨by omega, by omega⟩ rfl) rfl (by decide) (all1 ⟨_, rfl, .inl rfl⟩) (fun X' c2 => gd_name c2 3 rfl (by kspl_open loc) (by kspl_open loc)) (Nat.lt_of_lt_of_le (show (begN r).toNat < 1000 by omega) (Nat.le_of_ble_eq_true rfl)) (fun j r' hj => ?turn) (fun _ => rfl))) ad_nil rfl) cl_tupL (by decide) rfl rfl rfl) ⟨rfl, rfl⟩
  have p1 := p3_pos (a := 1) (b := 40) (c := 95) (i := nxV (nxR r' (B.n : Int)) 3) (by decide) (by decide) (by decide)
  have hn : ((B.fl.map eInts).length : Int) = (B.n : Int) := by rw [List.length_map]
  refine ⟨_, _, rfl, fun X' c2 => ed_tup (ad_cons (ed_callR c2 Fn (by decide) rfl 0 rfl (by kspl_open vis) rfl (ad_cons (ed_callB c2 rfl M.b_len PySem.boot_len (ad_cons (ed_ix (ed_var c2 1 rfl (by kspl_open vis) rfl rfl rfl) ed_int rfl (fun _ _ => rfl)) ad_nil rfl) cl_lenT (by decide) rfl rfl rfl) ad_nil rfl) rfl ⟨(B.n : Int), by rw [hn], by omega, by omega, rfl, rfl⟩ rfl rfl rfl rfl rfl) (ad_cons (ed_callR c2 Fn (by decide) rfl 0 rfl (by kspl_open vis) rfl (ad_cons (ed_ix (ed_el (el_lst (ad_cons ed_int (ad_cons ed_int (ad_cons ed_int ad_nil rfl) rfl) rfl) (Nat.le_of_ble_eq_true rfl))) (ed_callR c2 Fn (by decide) rfl 0 rfl (by kspl_open vis) rfl (ad_cons ed_int ad_nil rfl) rfl ⟨3, rfl, by decide, by decide, rfl, rfl⟩ rfl rfl rfl rfl rfl) (ix_pick3 (nxV_0 (by decide)) (nxV_1 (by decide))) (fun _ _ => rfl)) ad_nil rfl) rfl ⟨_, rfl, p1.1, by have := p1.2; omega, rfl, rfl⟩ rfl rfl rfl rfl rfl) ad_nil rfl) rfl) (Nat.le_of_ble_eq_true rfl), ⟨.inr rfl, .inr rfl, .inr rfl, .inl rfl, trivial⟩⟩
end
end K
namespace K
open PySem L2 Z
section
variable {P : Program} {w : World} {K : PySem.W.Frag} {mg : Str → Option Value} {base : Heap} [LamC]
/-! ### the law's rows -/
theorem posts_filter {ps : Posting} : ∀ n, n ≤ ps.length → (posts ps n).map eR3 = ((List.range n).filter fun i => (ps.getD i none).isSome).map fun (i : Nat) => .tuple [.int (i : Int), .int ((ps.getD i none).getD (0, 0)).1, .int ((ps.getD i none).getD (0, 0)).2]
  | 0, _ => rfl
  | n + 1, h => by
    rw [List.range_succ, List.filter_append, List.map_append, ← posts_filter n (by omega)]
    show (posts ps n ++ (match ps.getD n none with
      | none => []
      | some p => [((n : Int), p.1, p.2)])).map eR3 = _
    rw [List.map_append]
    congr 1
    cases e : ps.getD n none with
    | none => rw [List.filter_cons_of_neg (by rw [e]; decide)]; rfl
    | some p =>
      rw [List.filter_cons_of_pos (by rw [e]; rfl)]
      simp only [List.filter_nil, List.map_cons, List.map_nil, e]
      rfl
def R_law_rows (ds : List PyData) (es : List PyData) : Prop := ∃ ps : Posting, ds = [ePost ps] ∧ ps.length ≤ 1000 ∧ es = (rowsOf ps).map eR3
theorem ok_law_rows (M : Md K mg) : FnG P w K mg base "_law_rows" ["_law_posting_here"] 1 (spL K R_law_rows) := by
  refine fn_sdL (N := ["_law_posting_here", "_law_bird"]) M.d__law_rows ⟨rfl, rfl, rfl, by decide +kernel, rfl, by decide +kernel, by decide +kernel⟩ (fun ds d ⟨_, e, _⟩ => by rw [e]; rfl) (by decide) (fun X c ds d hR => ?_)
  obtain ⟨ps, rfl, hl, rfl⟩ := hR
  show SD X [.dat (ePost ps), .no] _ _
  unfold rowsOf
  rw [posts_filter ps.length (Nat.le_refl _)]
  have hn : (((ps.map oP).length : Nat) : Int).toNat = ps.length := by rw [List.length_map]; omega
  have hix : ∀ i : Nat, i < ps.length → ixD (ePost ps) (i : Int) = some (oP (ps.getD i none)) := fun i hi => by
    show L2.atI _ _ = _
    rw [atI_map, atI_of (by omega) (by omega) none]
    rfl
  refine sd_retL (el_filter (k1 := [.dat (ePost ps), .no]) c [("_law_bird", 1)] (xs := List.range ps.length) (enc := fun (i : Nat) => .int (i : Int)) (fun i => (ps.getD i none).isSome) _ (by decide +kernel) rfl ?id (all1 ⟨_, rfl, .inl rfl⟩) (fun X' c2 => gd_name c2 1 rfl (by kspl_open loc) (by kspl_open loc)) (by rw [List.length_range]; exact Nat.lt_of_lt_of_le (show ps.length < 10000 by omega) (Nat.le_of_ble_eq_true rfl)) (fun i hi => ?turn) (fun _ => rfl)) rfl
  · exact id_to (id_range c (n := ((ps.map oP).length : Int)) rfl M.b_range (ed_callB c rfl M.b_len PySem.boot_len (ad_cons (ed_var c 0 rfl (.inr (.inl rfl)) rfl rfl rfl) ad_nil rfl) cl_lenT (by decide) rfl rfl rfl) ⟨by rw [List.length_map]; omega, by omega⟩ rfl) (by rw [hn]; rfl)
  · have hi := List.mem_range.mp hi
    have hx := hix i hi
    refine ⟨_, rfl, fun X' c2 => ts_one (td_to (td_cmp (ed_ix (ed_var c2 0 rfl (by kspl_open vis) rfl rfl rfl) (ed_var c2 1 rfl (by kspl_open vis) rfl rfl rfl) hx (fun _ _ => rfl)) ed_non cd_notN (nomark _)) ?_), ⟨.inr rfl, .inl rfl, trivial⟩, fun hs X' c2 => ?_⟩
    · cases ps.getD i none <;> rfl
    · cases e : ps.getD i none with
      | none => rw [e] at hs; cases hs
      | some p =>
        rw [e] at hx
        exact ed_tup (ad_cons (ed_var c2 1 rfl (by kspl_open vis) rfl rfl rfl) (ad_cons (ed_ix (ed_ix (ed_var c2 0 rfl (by kspl_open vis) rfl rfl rfl) (ed_var c2 1 rfl (by kspl_open vis) rfl rfl rfl) hx (fun _ _ => rfl)) ed_int rfl (fun _ _ => rfl)) (ad_cons (ed_ix (ed_ix (ed_var c2 0 rfl (by kspl_open vis) rfl rfl rfl) (ed_var c2 1 rfl (by kspl_open vis) rfl rfl rfl) hx (fun _ _ => rfl)) ed_int rfl (fun _ _ => rfl)) ad_nil rfl) rfl) rfl) (Nat.le_of_ble_eq_true rfl)
end
end K
namespace K
open PySem L2 Z
section
variable {P : Program} {w : World} {K : PySem.W.Frag} {mg : Str → Option Value} {base : Heap} [LamC]
/-! ### how late at most -/
theorem goAt_le {B : Book} {o h : Int} : ∀ (n : Nat) (t : Int), goAt B o h n t ≤ t + (n : Int)
  | 0, t => by show t ≤ t + 0; omega
  | n + 1, t => by
    unfold goAt
    split
    · have := goAt_le (B := B) (o := o) (h := h) n (t + 1); omega
    · omega
theorem letGo_le {B : Book} (g : Good B) {o h t : Int} : letGo B o h t ≤ max t 99 := by
  rcases Int.lt_or_le t 99 with z | z
  · have := goAt_le (B := B) (o := o) (h := h) (99 - t).toNat t
    unfold letGo
    omega
  · rw [letGo_no (barred_late g z)]; omega
structure Small (B : Book) (rows : List R3) (bs : List (Int × Int)) : Prop where
  rl : rows.length ≤ 6
  rt : ∀ r ∈ rows, r.2.2 ≤ 110
  bt : ∀ p ∈ bs, p.2 ≤ 110
section
variable {B : Book} {rows : List R3} {bs : List (Int × Int)}
theorem comesAt_le (g : Good B) {o h t : Int} (ho : B.off o) (hh : B.off h) (n : h ≠ o) : comesAt B o h t ≤ max t 99 + 9 := by
  unfold comesAt
  rw [if_neg fun z => n z.symm]
  have := letGo_le (o := o) (h := h) (t := t) g
  have := (f_pos g ho hh n).2
  omega
theorem spread_bound (g : Good B) (gr : GoodRows B rows) (gb : GoodBeg B bs) (sm : Small B rows bs) : ∀ (n : Nat) o t, spread B rows bs o = some t → rank (rows.map fun r => B.home r.1) (spread B rows bs) o < n → t ≤ 110 + 9 * (rank (rows.map fun r => B.home r.1) (spread B rows bs) o : Int) := by
  obtain ⟨SQ, TQ⟩ := spread_spec g gr gb
  intro n
  induction n with
  | zero => intro o t _ h; exact absurd h (Nat.not_lt_zero _)
  | succ n ih =>
    intro o t ht hr
    rcases SQ.from_ o t ht with z | ⟨e, he, hb, v, u, h1, h2, h3⟩
    · have := sm.bt _ z
      have : t ≤ 110 := this
      omega
    · obtain ⟨r, hr', rfl⟩ := List.mem_map.mp he
      obtain ⟨hbi, ho, hne, hpos⟩ := gr.at_ r hr'
      have hh := home_off g hbi
      have hb : B.home r.1 = o := hb
      subst hb
      obtain ⟨u', h4, h5⟩ := TQ.ed _ he v u h1 h2
      have h4 : spread B rows bs (B.home r.1) = some u' := h4
      rw [ht] at h4
      cases h4
      have lv := (rowE_ok g gr _ he).late v u h2
      have rk := rank_lt (T := rows.map fun r => B.home r.1) (List.mem_map.mpr ⟨r, hr', rfl⟩) h1 ht (show v < t by omega)
      have iv := ih _ _ h1 (by omega)
      have hc := comesAt_le (t := max v r.2.2) g ho hh hne
      have hu : comesAt B r.2.1 (B.home r.1) (max v r.2.2) = u := Option.some.inj h2
      have := sm.rt r hr'
      omega
theorem spread_le (g : Good B) (gr : GoodRows B rows) (gb : GoodBeg B bs) (sm : Small B rows bs) {o t : Int} (h : spread B rows bs o = some t) : t ≤ 164 := by
  have h1 := spread_bound g gr gb sm _ o t h (Nat.lt_succ_self _)
  have h2 := rank_le (T := rows.map fun r => B.home r.1) (D := spread B rows bs) (o := o)
  rw [List.length_map] at h2
  have := sm.rl
  omega
end
theorem posts_rt {ps : Posting} {m : Int} (h : ∀ (i : Nat) o t, ps[i]? = some (some (o, t)) → t ≤ m) : ∀ r ∈ rowsOf ps, r.2.2 ≤ m := fun r hr => by
  obtain ⟨i, o, t, h1, h2, rfl⟩ := posts_mem.mp hr
  refine h i o t ?_
  rw [List.getD_eq_getElem?_getD, List.getElem?_eq_getElem h1] at h2
  rw [List.getElem?_eq_getElem h1]
  simpa using h2
theorem lawPost_rt {B : Book} (g : Good B) {r : Rg} : ∀ x ∈ rowsOf (lawPost B r).1, x.2.2 ≤ 110 := fun x hx => by
  have := posts_rt (ps := (lawPost B r).1) (m := 94) (fun i o t h => by
    have hi := (List.getElem?_eq_some_iff.mp h).1
    rw [lawPost_len] at hi
    exact (lawPost_at g i _ hi h o t rfl).2.2.2) x hx
  omega
theorem lawPost_rl {B : Book} (g : Good B) {r : Rg} : (rowsOf (lawPost B r).1).length ≤ 6 := by
  have := posts_len (ps := (lawPost B r).1) (lawPost B r).1.length
  rw [lawPost_len] at this
  have := g.bil
  unfold rowsOf
  rw [lawPost_len]
  omega
end
end K
namespace K
open PySem L2 Z
section
variable {P : Program} {w : World} {K : PySem.W.Frag} {mg : Str → Option Value} {base : Heap} [LamC]
/-! ### the law's own look at storms -/
theorem filter_any {α : Type} (p : α → Bool) (g : α → PyData) (xs : List α) : (!PyData.eqv (.list ((xs.filter p).map g)) (.list [])) = xs.any p := by
  induction xs with
  | nil => rfl
  | cons x xs ih =>
    cases h : p x with
    | true => rw [List.filter_cons_of_pos h, List.any_cons, h]; rfl
    | false => rw [List.filter_cons_of_neg (by rw [h]; decide), List.any_cons, h]; exact ih
theorem eqv_pair {a b o h : Int} : PyData.eqv (.tuple [.int a, .int b]) (.tuple [.int o, .int h]) = (decide (a = o) && decide (b = h)) := by
  rw [eqv_dec (p := a = o ∧ b = h) rfl rfl ⟨fun e => by simp at e; exact e, fun e => by rw [e.1, e.2]⟩]
  by_cases q : a = o <;> by_cases q' : b = h <;> simp [q, q']
def R_law_barred (ds : List PyData) (d : PyData) : Prop := ∃ B o h t, ds = [eBook B, .int o, .int h, .int t] ∧ Good B ∧ B.off o ∧ B.off h ∧ d = .bool (barred B o h t)
theorem ok_law_barred (M : Md K mg) : FnG P w K mg base "_law_barred" ["_law_book_here", "_law_office", "_law_home", "_law_hour"] 1 (spP K R_law_barred) := by
  refine fn_sd (N := ["_law_book_here", "_law_office", "_law_home", "_law_hour", "_law_come", "_law_row"]) M.d__law_barred ⟨rfl, rfl, rfl, by decide +kernel, rfl, by decide +kernel, by decide +kernel⟩ (fun ds d ⟨_, _, _, _, e, _⟩ => by rw [e]; rfl) (by decide) (fun X c ds d hR => ?_)
  obtain ⟨B, o, h, t, rfl, g, ho, hh, rfl⟩ := hR
  show SD X [.dat (eBook B), .dat (.int o), .dat (.int h), .dat (.int t), .no, .no] _ _
  refine sd_asg c 4 rfl (.inr rfl) (.inl rfl) (Nat.le_of_ble_eq_true rfl) (ed_bin (ed_var c 3 rfl (.inr (.inl rfl)) rfl rfl rfl) (ed_ix (ed_ix (ed_ix (ed_var c 0 rfl (.inl rfl) rfl rfl rfl) ed_int (by kspl_open ix) (fun _ _ => rfl)) (ed_var c 1 rfl (.inr (.inl rfl)) rfl rfl rfl) (by kspl_open ix) (fun _ _ => rfl)) (ed_var c 2 rfl (.inr (.inl rfl)) rfl rfl rfl) (by kspl_open ix) (fun _ _ => rfl)) bd_add) rfl ?_
  have hz : B.st.length < sizeLine := Nat.lt_of_lt_of_le (show B.st.length < 1000 by have := g.stl; omega) (Nat.le_of_ble_eq_true rfl)
  have hsh : SeqAt.shaped (.list ((B.st.filter (stormIn B o h t)).map fun _ => .int 1)) = true := Shp.ok (n := 1) (.list (allM fun a _ => .int _)) (by decide)
  refine sd_ret (ed_cmp (ed_el (el_filter c [("_law_row", 5)] (xs := B.st) (enc := eRow) (stormIn B o h t) (fun _ => .int 1) (by decide +kernel) rfl (id_seq (ed_ix (ed_var c 0 rfl (.inl rfl) rfl rfl rfl) ed_int (by kspl_open ix) (fun _ _ => rfl)) rfl) (all1 ⟨_, rfl, .inl rfl⟩) (fun X' c2 => gd_name c2 5 rfl (by kspl_open loc) (by kspl_open loc)) hz (fun r hr => ⟨_, rfl, fun X' c2 => ts_one (td_to (td_w (wd_and (td_cmp (ed_slT (ed_var c2 5 rfl (by kspl_open vis) rfl rfl rfl) po_no (po_yes ed_int)) (ed_tup (ad_cons (ed_var c2 1 rfl (by kspl_open vis) rfl rfl rfl) (ad_cons (ed_var c2 2 rfl (by kspl_open vis) rfl rfl rfl) ad_nil rfl) rfl) (Nat.le_of_ble_eq_true rfl)) (cd_eqD c2 (Shp.ok (n := 1) (.tuple (allC (.int r.1) (allC (.int r.2.1) allN))) (by decide)) (Shp.ok (n := 1) (.tuple (allC (.int _) (allC (.int _) allN))) (by decide))) (nomark _)) (fun _ => (wd_and (td_cmp (ed_ix (ed_var c2 5 rfl (by kspl_open vis) rfl rfl rfl) ed_int rfl (fun _ _ => rfl)) (ed_var c2 4 rfl (by kspl_open vis) rfl rfl rfl) cd_lt (nomark _)) (fun _ => (wd_and1 (td_cmp (ed_var c2 3 rfl (by kspl_open vis) rfl rfl rfl) (ed_ix (ed_var c2 5 rfl (by kspl_open vis) rfl rfl rfl) ed_int rfl (fun _ _ => rfl)) cd_lt (nomark _)))))))) ?tt), ?wk, fun _ X' c2 => ed_int⟩) (fun _ => rfl))) (ed_el (el_lst ad_nil (Nat.le_of_ble_eq_true rfl))) (cd_neD c hsh rfl) (nomark _)) ?_
  · show (PyData.eqv (.tuple [.int r.1, .int r.2.1]) (.tuple [.int o, .int h]) && (decide (r.2.2.1 < t + B.f o h) && decide (t < r.2.2.2))) = stormIn B o h t r
    rw [eqv_pair, stormIn]
    cases decide (r.1 = o) <;> rfl
  · exact ⟨.inr rfl, .inr rfl, .inr rfl, .inr rfl, .inr rfl, .inl rfl, trivial⟩
  · show PyData.bool (!PyData.eqv (.list ((B.st.filter (stormIn B o h t)).map fun _ => .int 1)) (.list [])) = .bool (barred B o h t)
    rw [filter_any]
    rfl
end
end K
namespace K
open PySem L2 Z
section
variable {P : Program} {w : World} {K : PySem.W.Frag} {mg : Str → Option Value} {base : Heap} [LamC]
/-! ### days let go by: plain -/
structure DaySt where
  there : Dt
  coming : List (Int × Int)
  fls : List R3
def ph1s (h : Int) (D : Dt) (c : Int × Int) : Dt := if c.1 = h ∧ D c.2 = none then upD D c.2 (some h) else D
def ph1 (h : Int) (cs : List (Int × Int)) (D : Dt) : Dt := cs.foldl (ph1s h) D
def starts (B : Book) (h : Int) (D : Dt) (fs : List R3) (r : R3) : Bool := (D r.2.1).isSome && (decide (r.2.2 ≤ h) && (!(fs.map (·.1)).contains r.1 && !barred B r.2.1 (B.home r.1) h))
def ph2s (B : Book) (h : Int) (D : Dt) (s : List (Int × Int) × List R3) (r : R3) : List (Int × Int) × List R3 :=
  if starts B h D s.2 r = true then (s.1 ++ [(h + B.f r.2.1 (B.home r.1), B.home r.1)], s.2 ++ [(r.1, h, h + B.f r.2.1 (B.home r.1))]) else s
def dayStep (B : Book) (rows : List R3) (s : DaySt) (h : Int) : DaySt :=
  ⟨ph1 h s.coming s.there, (rows.foldl (ph2s B h (ph1 h s.coming s.there)) (s.coming, s.fls)).1, (rows.foldl (ph2s B h (ph1 h s.coming s.there)) (s.coming, s.fls)).2⟩
def days (B : Book) (rows : List R3) (bs : List (Int × Int)) : Nat → DaySt
  | 0 => ⟨fun _ => none, bs.map fun p => (p.2, p.1), []⟩
  | h + 1 => dayStep B rows (days B rows bs h) (h : Int)
theorem ph1_at {h : Int} : ∀ (cs : List (Int × Int)) (D : Dt) (o : Int), ph1 h cs D o = match D o with
    | some t => some t
    | none => if (h, o) ∈ cs then some h else none
  | [], D, o => by
    show D o = _
    cases D o <;> simp
  | c :: cs, D, o => by
    show ph1 h cs (ph1s h D c) o = _
    rw [ph1_at cs]
    unfold ph1s
    by_cases q : c.1 = h ∧ D c.2 = none
    · rw [if_pos q]
      by_cases qo : o = c.2
      · subst qo
        rw [upD_at, q.2]
        have : (h, c.2) ∈ c :: cs := by rw [← q.1]; exact List.mem_cons_self
        simp only
        rw [if_pos this]
      · rw [upD_ne qo]
        cases e : D o with
        | some t => rfl
        | none =>
          simp only
          have : ((h, o) ∈ c :: cs) ↔ ((h, o) ∈ cs) := by
            rw [List.mem_cons]
            constructor
            · rintro (z | z)
              · exact absurd (congrArg Prod.snd z) qo
              · exact z
            · exact .inr
          simp only [this]
    · rw [if_neg q]
      cases e : D o with
      | some t => rfl
      | none =>
        simp only
        have : ((h, o) ∈ c :: cs) ↔ ((h, o) ∈ cs) := by
          rw [List.mem_cons]
          constructor
          · rintro (z | z)
            · exact absurd ⟨(congrArg Prod.fst z).symm, by rw [← congrArg Prod.snd z]; exact e⟩ q
            · exact z
          · exact .inr
        simp only [this]
/-- when a row's bird is let go, by the earliest hours S -/
def goes (B : Book) (S : Dt) (r : R3) (t : Int) : Prop := ∃ v, S r.2.1 = some v ∧ letGo B r.2.1 (B.home r.1) (max v r.2.2) = t
theorem goes_fn {B : Book} {S : Dt} {r : R3} {t u : Int} (h : goes B S r t) (h' : goes B S r u) : t = u := by
  obtain ⟨v, e, rfl⟩ := h
  obtain ⟨v', e', rfl⟩ := h'
  rw [e] at e'
  cases e'
  rfl
def flOf (B : Book) (r : R3) (t : Int) : R3 := (r.1, t, t + B.f r.2.1 (B.home r.1))
structure DayOk (B : Book) (rows : List R3) (bs : List (Int × Int)) (S : Dt) (H : Int) (s : DaySt) : Prop where
  th : ∀ o, s.there o = match S o with
    | some t => if t < H then some t else none
    | none => none
  co : ∀ c o, (c, o) ∈ s.coming ↔ (o, c) ∈ bs ∨ ∃ r ∈ rows, ∃ t, goes B S r t ∧ t < H ∧ B.home r.1 = o ∧ c = t + B.f r.2.1 (B.home r.1)
  fs : ∀ x, x ∈ s.fls ↔ ∃ r ∈ rows, ∃ t, goes B S r t ∧ t < H ∧ x = flOf B r t
section
variable {B : Book} {rows : List R3} {bs : List (Int × Int)}
theorem ph2_fold (g : Good B) {S D : Dt} {H : Int} (hD : ∀ o, D o = match S o with
      | some t => if t < H + 1 then some t else none
      | none => none) : ∀ (l : List R3) (s : List (Int × Int) × List R3), (l.map (·.1)).Nodup → (∀ r ∈ l, r.1 ∈ s.2.map (·.1) ↔ ∃ t, goes B S r t ∧ t < H) →
    (∀ x, x ∈ (l.foldl (ph2s B H D) s).1 ↔ x ∈ s.1 ∨ ∃ r ∈ l, goes B S r H ∧ x = (H + B.f r.2.1 (B.home r.1), B.home r.1)) ∧ (∀ x, x ∈ (l.foldl (ph2s B H D) s).2 ↔ x ∈ s.2 ∨ ∃ r ∈ l, goes B S r H ∧ x = flOf B r H)
  | [], s, _, _ => ⟨fun x => by simp, fun x => by simp⟩
  | r :: l, s, nd, hb => by
    have nd' := (List.nodup_cons.mp nd)
    have key : starts B H D s.2 r = true ↔ goes B S r H := by
      unfold starts
      rw [Bool.and_eq_true, Bool.and_eq_true, Bool.and_eq_true]
      have hbr := hb r List.mem_cons_self
      constructor
      · rintro ⟨h1, h2, h3, h4⟩
        have h2 : r.2.2 ≤ H := of_decide_eq_true h2
        have h4 : barred B r.2.1 (B.home r.1) H = false := by simpa using h4
        rw [hD] at h1
        cases e : S r.2.1 with
        | none => rw [e] at h1; cases h1
        | some v =>
          rw [e] at h1
          dsimp only at h1
          have hv : v < H + 1 := by
            by_cases z : v < H + 1
            · exact z
            · rw [if_neg z] at h1; cases h1
          refine ⟨v, e, ?_⟩
          have ge := letGo_ge (B := B) (o := r.2.1) (h := B.home r.1) (t := max v r.2.2)
          have le : letGo B r.2.1 (B.home r.1) (max v r.2.2) ≤ H := by
            rcases Int.lt_or_le H (letGo B r.2.1 (B.home r.1) (max v r.2.2)) with z | z
            · have := letGo_bar (B := B) (o := r.2.1) (h := B.home r.1) (t := max v r.2.2) (u := H) (by omega) z
              rw [h4] at this; cases this
            · exact z
          have nlt : ¬ letGo B r.2.1 (B.home r.1) (max v r.2.2) < H := fun z => by
            have := hbr.mpr ⟨_, ⟨v, e, rfl⟩, z⟩
            have h3 : r.1 ∉ s.2.map (·.1) := by simpa using h3
            exact h3 this
          omega
      · rintro ⟨v, e, hg⟩
        have ge := letGo_ge (B := B) (o := r.2.1) (h := B.home r.1) (t := max v r.2.2)
        refine ⟨?_, decide_eq_true (by omega), ?_, ?_⟩
        · rw [hD, e]
          dsimp only
          rw [if_pos (by omega)]; rfl
        · have : r.1 ∉ s.2.map (·.1) := fun z => by
            obtain ⟨t, h1, h2⟩ := hbr.mp z
            have := goes_fn h1 ⟨v, e, hg⟩
            omega
          simpa using this
        · have := letGo_free g (o := r.2.1) (h := B.home r.1) (t := max v r.2.2)
          rw [hg] at this
          rw [this]; rfl
    show (∀ x, x ∈ (l.foldl (ph2s B H D) (ph2s B H D s r)).1 ↔ _) ∧ (∀ x, x ∈ (l.foldl (ph2s B H D) (ph2s B H D s r)).2 ↔ _)
    by_cases q : goes B S r H
    · have e : ph2s B H D s r = (s.1 ++ [(H + B.f r.2.1 (B.home r.1), B.home r.1)], s.2 ++ [flOf B r H]) := if_pos (key.mpr q)
      rw [e]
      obtain ⟨i1, i2⟩ := ph2_fold g hD l (s.1 ++ [(H + B.f r.2.1 (B.home r.1), B.home r.1)], s.2 ++ [flOf B r H]) nd'.2 (fun r' hr' => by
        show r'.1 ∈ (s.2 ++ [flOf B r H]).map (·.1) ↔ _
        rw [List.map_append, List.mem_append]
        have := hb r' (List.mem_cons_of_mem _ hr')
        rw [this]
        constructor
        · rintro (z | z)
          · exact z
          · have z : r'.1 = r.1 := by simpa [flOf] using z
            exact absurd (List.mem_map.mpr ⟨r', hr', z⟩) nd'.1
        · exact .inl)
      refine ⟨fun x => ?_, fun x => ?_⟩
      · rw [i1 x, List.mem_append]
        constructor
        · rintro ((z | z) | ⟨r', a, b, c⟩)
          · exact .inl z
          · exact .inr ⟨r, List.mem_cons_self, q, by simpa using z⟩
          · exact .inr ⟨r', List.mem_cons_of_mem _ a, b, c⟩
        · rintro (z | ⟨r', a, b, c⟩)
          · exact .inl (.inl z)
          · rcases List.mem_cons.mp a with y | y
            · subst y; exact .inl (.inr (by simpa using c))
            · exact .inr ⟨r', y, b, c⟩
      · rw [i2 x, List.mem_append]
        constructor
        · rintro ((z | z) | ⟨r', a, b, c⟩)
          · exact .inl z
          · exact .inr ⟨r, List.mem_cons_self, q, by simpa using z⟩
          · exact .inr ⟨r', List.mem_cons_of_mem _ a, b, c⟩
        · rintro (z | ⟨r', a, b, c⟩)
          · exact .inl (.inl z)
          · rcases List.mem_cons.mp a with y | y
            · subst y; exact .inl (.inr (by simpa using c))
            · exact .inr ⟨r', y, b, c⟩
    · have e : ph2s B H D s r = s := if_neg fun z => q (key.mp z)
      rw [e]
      obtain ⟨i1, i2⟩ := ph2_fold g hD l s nd'.2 (fun r' hr' => hb r' (List.mem_cons_of_mem _ hr'))
      refine ⟨fun x => ?_, fun x => ?_⟩
      · rw [i1 x]
        constructor
        · rintro (z | ⟨r', a, b, c⟩)
          · exact .inl z
          · exact .inr ⟨r', List.mem_cons_of_mem _ a, b, c⟩
        · rintro (z | ⟨r', a, b, c⟩)
          · exact .inl z
          · rcases List.mem_cons.mp a with y | y
            · subst y; exact absurd b q
            · exact .inr ⟨r', y, b, c⟩
      · rw [i2 x]
        constructor
        · rintro (z | ⟨r', a, b, c⟩)
          · exact .inl z
          · exact .inr ⟨r', List.mem_cons_of_mem _ a, b, c⟩
        · rintro (z | ⟨r', a, b, c⟩)
          · exact .inl z
          · rcases List.mem_cons.mp a with y | y
            · subst y; exact absurd b q
            · exact .inr ⟨r', y, b, c⟩
theorem goes_comes {S : Dt} {r : R3} {t v : Int} (hn : B.home r.1 ≠ r.2.1) (e : S r.2.1 = some v) (h : goes B S r t) : comesAt B r.2.1 (B.home r.1) (max v r.2.2) = t + B.f r.2.1 (B.home r.1) := by
  obtain ⟨v', e', rfl⟩ := h
  rw [e] at e'
  cases e'
  unfold comesAt
  rw [if_neg fun z => hn z.symm]
theorem day_ok (g : Good B) (gr : GoodRows B rows) (gb : GoodBeg B bs) (nd : (rows.map (·.1)).Nodup) : ∀ H : Nat, DayOk B rows bs (spread B rows bs) (H : Int) (days B rows bs H) := by
  obtain ⟨SQ, TQ⟩ := spread_spec g gr gb
  have gpos : ∀ r ∈ rows, ∀ t, goes B (spread B rows bs) r t → 0 ≤ t := fun r hr t ⟨v, e, h⟩ => by
    have := letGo_ge (B := B) (o := r.2.1) (h := B.home r.1) (t := max v r.2.2)
    have := SQ.pos _ _ e
    omega
  intro H
  induction H with
  | zero =>
    refine ⟨fun o => ?_, fun c o => ?_, fun x => ?_⟩
    · show none = _
      cases e : spread B rows bs o with
      | none => rfl
      | some t =>
        have := SQ.pos _ _ e
        dsimp only
        rw [if_neg (by omega)]
    · show (c, o) ∈ bs.map (fun p => (p.2, p.1)) ↔ _
      rw [List.mem_map]
      constructor
      · rintro ⟨p, hp, e⟩
        cases e
        exact .inl hp
      · rintro (z | ⟨r, hr, t, h1, h2, _⟩)
        · exact ⟨_, z, rfl⟩
        · have := gpos r hr t h1
          omega
    · show x ∈ [] ↔ _
      constructor
      · intro z; cases z
      · rintro ⟨r, hr, t, h1, h2, _⟩
        have := gpos r hr t h1
        omega
  | succ H ih =>
    generalize hs : days B rows bs H = s at ih
    have hd : days B rows bs (H + 1) = dayStep B rows s (H : Int) := by show dayStep B rows (days B rows bs H) (H : Int) = _; rw [hs]
    rw [hd]
    have hD : ∀ o, ph1 (H : Int) s.coming s.there o = match spread B rows bs o with
        | some t => if t < (H : Int) + 1 then some t else none
        | none => none := fun o => by
      rw [ph1_at, ih.th o]
      have low : ((H : Int), o) ∈ s.coming → ∃ u, spread B rows bs o = some u ∧ u ≤ (H : Int) := fun z => by
        rcases (ih.co _ _).mp z with y | ⟨r, hr, t, h1, h2, h3, h4⟩
        · exact TQ.beg o _ y
        · obtain ⟨v, e, hg⟩ := id h1
          have hc := goes_comes (gr.at_ r hr).2.2.1 e h1
          obtain ⟨u, h5, h6⟩ := TQ.ed (rowE B r) (List.mem_map.mpr ⟨r, hr, rfl⟩) v _ e rfl
          have h5 : spread B rows bs (B.home r.1) = some u := h5
          have h6 : u ≤ comesAt B r.2.1 (B.home r.1) (max v r.2.2) := h6
          rw [h3] at h5
          exact ⟨u, h5, by omega⟩
      cases e : spread B rows bs o with
      | none =>
        dsimp only
        have : ((H : Int), o) ∉ s.coming := fun z => by
          obtain ⟨u, h1, _⟩ := low z
          rw [e] at h1; cases h1
        rw [if_neg this]
      | some t =>
        dsimp only
        by_cases q : t < (H : Int)
        · rw [if_pos q]
          dsimp only
          rw [if_pos (by omega)]
        · rw [if_neg q]
          dsimp only
          by_cases q2 : t = (H : Int)
          · have : ((H : Int), o) ∈ s.coming := by
              rw [ih.co]
              rcases SQ.from_ o t e with z | ⟨ed, he, hb, v, u, h1, h2, h3⟩
              · rw [← q2]; exact .inl z
              · obtain ⟨r, hr, rfl⟩ := List.mem_map.mp he
                obtain ⟨hbi, ho, hne, hpos⟩ := gr.at_ r hr
                have hb : B.home r.1 = o := hb
                obtain ⟨u', h4, h5⟩ := TQ.ed _ he v u h1 h2
                have h4 : spread B rows bs (B.home r.1) = some u' := h4
                rw [hb, e] at h4
                cases h4
                have h2 : comesAt B r.2.1 (B.home r.1) (max v r.2.2) = u := Option.some.inj h2
                have hg : goes B (spread B rows bs) r (letGo B r.2.1 (B.home r.1) (max v r.2.2)) := ⟨v, h1, rfl⟩
                have hc := goes_comes hne h1 hg
                have fp := (f_pos g ho (home_off g hbi) hne).1
                exact .inr ⟨r, hr, _, hg, by omega, hb, by omega⟩
            rw [if_pos this, if_pos (by omega), q2]
          · have : ((H : Int), o) ∉ s.coming := fun z => by
              obtain ⟨u, h1, h2⟩ := low z
              rw [e] at h1; cases h1
              omega
            rw [if_neg this, if_neg (by omega)]
    have hb : ∀ r ∈ rows, r.1 ∈ s.fls.map (·.1) ↔ ∃ t, goes B (spread B rows bs) r t ∧ t < (H : Int) := fun r hr => by
      rw [List.mem_map]
      constructor
      · rintro ⟨x, hx, e⟩
        obtain ⟨r', hr', t, h1, h2, rfl⟩ := (ih.fs x).mp hx
        have e : r'.1 = r.1 := e
        have : r' = r := by
          obtain ⟨i, hi, ei⟩ := List.mem_iff_getElem.mp hr'
          obtain ⟨j, hj, ej⟩ := List.mem_iff_getElem.mp hr
          have : i = j := by
            have h3 : (rows.map (·.1))[i]'(by simpa using hi) = (rows.map (·.1))[j]'(by simpa using hj) := by simp [ei, ej, e]
            exact (List.getElem_inj nd).mp h3
          subst this
          rw [← ei, ← ej]
        subst this
        exact ⟨t, h1, h2⟩
      · rintro ⟨t, h1, h2⟩
        exact ⟨_, (ih.fs _).mpr ⟨r, hr, t, h1, h2, rfl⟩, rfl⟩
    obtain ⟨i1, i2⟩ := ph2_fold g hD rows (s.coming, s.fls) nd hb
    refine ⟨fun o => ?_, fun c o => ?_, fun x => ?_⟩
    · rw [show (((H + 1 : Nat) : Int)) = (H : Int) + 1 by omega]; exact hD o
    · rw [show (((H + 1 : Nat) : Int)) = (H : Int) + 1 by omega]
      show (c, o) ∈ (rows.foldl (ph2s B (H : Int) (ph1 (H : Int) s.coming s.there)) (s.coming, s.fls)).1 ↔ _
      rw [i1]
      have := ih.co c o
      constructor
      · rintro (z | ⟨r, hr, h1, h2⟩)
        · rcases this.mp z with y | ⟨r, hr, t, h1, h2, h3⟩
          · exact .inl y
          · exact .inr ⟨r, hr, t, h1, by omega, h3⟩
        · cases h2
          exact .inr ⟨r, hr, _, h1, by omega, rfl, rfl⟩
      · rintro (z | ⟨r, hr, t, h1, h2, h3, h4⟩)
        · exact .inl (this.mpr (.inl z))
        · by_cases q : t < (H : Int)
          · exact .inl (this.mpr (.inr ⟨r, hr, t, h1, q, h3, h4⟩))
          · have : t = (H : Int) := by omega
            subst this
            exact .inr ⟨r, hr, h1, by rw [h4, ← h3]⟩
    · rw [show (((H + 1 : Nat) : Int)) = (H : Int) + 1 by omega]
      show x ∈ (rows.foldl (ph2s B (H : Int) (ph1 (H : Int) s.coming s.there)) (s.coming, s.fls)).2 ↔ _
      rw [i2]
      have := ih.fs x
      constructor
      · rintro (z | ⟨r, hr, h1, h2⟩)
        · obtain ⟨r, hr, t, h1, h2, h3⟩ := this.mp z
          exact ⟨r, hr, t, h1, by omega, h3⟩
        · exact ⟨r, hr, _, h1, by omega, h2⟩
      · rintro ⟨r, hr, t, h1, h2, h3⟩
        by_cases q : t < (H : Int)
        · exact .inl (this.mpr ⟨r, hr, t, h1, q, h3⟩)
        · have : t = (H : Int) := by omega
          subst this
          exact .inr ⟨r, hr, h1, h3⟩
theorem days_there (g : Good B) (gr : GoodRows B rows) (gb : GoodBeg B bs) (nd : (rows.map (·.1)).Nodup) (sm : Small B rows bs) : (days B rows bs 260).there = spread B rows bs := by
  funext o
  rw [(day_ok g gr gb nd 260).th o]
  cases e : spread B rows bs o with
  | none => rfl
  | some t =>
    have := spread_le g gr gb sm e
    dsimp only
    rw [if_pos (by omega)]
theorem days_fls (g : Good B) (gr : GoodRows B rows) (gb : GoodBeg B bs) (nd : (rows.map (·.1)).Nodup) (sm : Small B rows bs) (x : R3) : x ∈ (days B rows bs 260).fls ↔ ∃ r ∈ rows, ∃ t, goes B (spread B rows bs) r t ∧ x = flOf B r t := by
  rw [(day_ok g gr gb nd 260).fs x]
  constructor
  · rintro ⟨r, hr, t, h1, _, h2⟩; exact ⟨r, hr, t, h1, h2⟩
  · rintro ⟨r, hr, t, h1, h2⟩
    refine ⟨r, hr, t, h1, ?_, h2⟩
    obtain ⟨v, e, rfl⟩ := h1
    have := spread_le g gr gb sm e
    have := sm.rt r hr
    have := letGo_le (o := r.2.1) (h := B.home r.1) (t := max v r.2.2) g
    omega
/-- there are never more flights than rows, never more comings than begins and rows -/
theorem ph2_len {h : Int} {D : Dt} : ∀ (l : List R3) (s : List (Int × Int) × List R3), (l.foldl (ph2s B h D) s).2.length ≤ s.2.length + l.length ∧ (l.foldl (ph2s B h D) s).1.length ≤ s.1.length + l.length
  | [], s => ⟨Nat.le_refl _, Nat.le_refl _⟩
  | r :: l, s => by
    obtain ⟨a, b⟩ := ph2_len (h := h) (D := D) l (ph2s B h D s r)
    have : (ph2s B h D s r).2.length ≤ s.2.length + 1 ∧ (ph2s B h D s r).1.length ≤ s.1.length + 1 := by
      unfold ph2s
      split
      · simp
      · exact ⟨by omega, by omega⟩
    show (l.foldl (ph2s B h D) (ph2s B h D s r)).2.length ≤ s.2.length + (l.length + 1) ∧ (l.foldl (ph2s B h D) (ph2s B h D s r)).1.length ≤ s.1.length + (l.length + 1)
    omega
theorem days_len : ∀ H : Nat, (days B rows bs H).fls.length ≤ H * rows.length ∧ (days B rows bs H).coming.length ≤ bs.length + H * rows.length
  | 0 => by simp [days]
  | H + 1 => by
    obtain ⟨a, b⟩ := days_len H
    obtain ⟨c, d⟩ := ph2_len (B := B) (h := (H : Int)) (D := ph1 (H : Int) (days B rows bs H).coming (days B rows bs H).there) rows ((days B rows bs H).coming, (days B rows bs H).fls)
    have e : (H + 1) * rows.length = H * rows.length + rows.length := Nat.succ_mul _ _
    show (rows.foldl (ph2s B (H : Int) (ph1 (H : Int) (days B rows bs H).coming (days B rows bs H).there)) ((days B rows bs H).coming, (days B rows bs H).fls)).2.length ≤ _ ∧ (rows.foldl (ph2s B (H : Int) (ph1 (H : Int) (days B rows bs H).coming (days B rows bs H).there)) ((days B rows bs H).coming, (days B rows bs H).fls)).1.length ≤ _
    dsimp only at c d
    omega
end
theorem posts_nd {ps : Posting} : ∀ n, ((posts ps n).map (·.1)).Nodup
  | 0 => by simp [posts]
  | n + 1 => by
    show ((posts ps n ++ (match ps.getD n none with
      | none => []
      | some p => [((n : Int), p.1, p.2)])).map (·.1)).Nodup
    rw [List.map_append]
    cases e : ps.getD n none with
    | none => simpa using posts_nd n
    | some p =>
      refine List.nodup_append.mpr ⟨posts_nd n, by simp, fun a ha b hb => ?_⟩
      have hb : b = (n : Int) := by simpa using hb
      obtain ⟨r, hr, rfl⟩ := List.mem_map.mp ha
      obtain ⟨i, o, t, h1, h2, rfl⟩ := posts_mem.mp hr
      rw [hb]
      show (i : Int) ≠ (n : Int)
      omega
theorem rowsOf_nd {ps : Posting} : ((rowsOf ps).map (·.1)).Nodup := posts_nd _
end
end K
namespace K
open PySem L2 Z
section
variable {P : Program} {w : World} {K : PySem.W.Frag} {mg : Str → Option Value} {base : Heap} [LamC]
/-! ### days let go by: the walk -/
theorem any_contains {l : List R3} {b : Int} : ((l.map fun x => PyData.int x.1).any fun z => PyData.eqv z (.int b)) = (l.map (·.1)).contains b := by
  induction l with
  | nil => rfl
  | cons x l ih =>
    rw [List.map_cons, List.any_cons, ih, List.map_cons, List.contains_cons]
    congr 1
    rw [eqv_dec (p := x.1 = b) rfl rfl ⟨fun e => by cases e; rfl, fun e => by rw [e]⟩]
    by_cases q : x.1 = b
    · rw [decide_eq_true q]; simp [q]
    · rw [decide_eq_false q]; simp; exact fun e => q e.symm
theorem flat_none {n : Nat} : (List.replicate n [PyData.none]).flatten = fl n (fun _ => none) := by
  rw [fl_none]
  induction n with
  | zero => rfl
  | succ n ih => rw [List.replicate_succ, List.flatten_cons, ih, List.replicate_succ]; rfl
theorem ph1s_t {h c o : Int} {D : Dt} (e : c = h) (e' : D o = none) : ph1s h D (c, o) = upD D o (some h) := if_pos ⟨e, e'⟩
theorem ph1s_f {h c o : Int} {D : Dt} (e : ¬ (c = h ∧ D o = none)) : ph1s h D (c, o) = D := if_neg e
def R_law_days (ds : List PyData) (d : PyData) : Prop := ∃ B rows bs db, ds = [eBook B, .list (List.map eR3 rows), db] ∧ seqD db = some (List.map eP2 bs) ∧ Good B ∧ GoodRows B rows ∧ GoodBeg B bs ∧ (rows.map (·.1)).Nodup ∧ bs.length ≤ 1000 ∧ d = .tuple [.list (fl B.n (days B rows bs 260).there), .list ((days B rows bs 260).fls.map eR3)]
theorem ok_law_days (M : Md K mg) : FnG P w K mg base "_law_days" ["_law_book_here", "_law_rows_here", "_law_begins_here"] 2 (spP K R_law_days) := by
  have Fl := ok_law_barred (P := P) (w := w) (base := base) M
  refine fn_sd (N := ["_law_book_here", "_law_rows_here", "_law_begins_here", "_law_there", "_law_coming", "_law_flights", "_law_hour", "_law_come", "_law_office", "_law_bird", "_law_ready", "_law_home", "_law_one"]) M.d__law_days ⟨rfl, rfl, rfl, by decide +kernel, rfl, by decide +kernel, by decide +kernel⟩ (fun ds d ⟨_, _, _, _, e, _⟩ => by rw [e]; rfl) (by decide) (fun X c ds d hR => ?_)
  obtain ⟨B, rows, bs, db, rfl, hq, g, gr, gb, nd, hbl, rfl⟩ := hR
  show SD X [.dat (eBook B), .dat (.list (rows.map eR3)), .dat db, .no, .no, .no, .no, .no, .no, .no, .no, .no, .no] _ _
  have n6 := g.n6
  have rl := gr.len
  have hn' : B.fl.length ≤ 6 := n6
  have hnn : (((B.fl.map eInts).length : Nat) : Int).toNat = B.n := by rw [List.length_map]; exact Int.toNat_natCast _
  refine sd_asgL c 3 rfl (.inl rfl) (.inl rfl) (Nat.le_of_ble_eq_true rfl) (el_rep (el_lst (ad_cons ed_non ad_nil rfl) (Nat.le_of_ble_eq_true rfl)) (ed_callB c rfl M.b_len PySem.boot_len (ad_cons (ed_ix (ed_var c 0 rfl (.inl rfl) rfl rfl rfl) ed_int rfl (fun _ _ => rfl)) ad_nil rfl) cl_lenT (by decide) rfl rfl rfl) (by omega) (by rw [List.length_map]; omega) (by rw [hnn]; simp only [List.length_cons, List.length_nil]; exact Nat.le_trans (show 1 * B.n ≤ 1000 by have : B.n ≤ 6 := n6; omega) (Nat.le_of_ble_eq_true rfl))) rfl ?_
  rw [hnn, flat_none]
  refine sd_asgC c 4 rfl rfl (Nat.le_of_ble_eq_true rfl) rfl rfl rfl (lc_map c [("_law_hour", 6), ("_law_office", 8)] (xs := bs) (enc := eP2) (fun p => eP2 (p.2, p.1)) (by decide +kernel) rfl (id_seq (ed_var c 2 rfl (.inl rfl) rfl rfl rfl) hq) (allC ⟨_, rfl, .inl rfl⟩ (all1 ⟨_, rfl, .inl rfl⟩)) (fun X' c2 => gd_tup c2 (gs_cons c2 8 rfl (by kspl_open loc) (by kspl_open loc) (gs_cons c2 6 rfl (by kspl_open loc) (by kspl_open loc) gs_nil rfl) rfl) rfl rfl) (Nat.lt_of_lt_of_le (show bs.length < 10000 by omega) (Nat.le_of_ble_eq_true rfl)) (fun p hp => ⟨_, rfl, fun X' c2 => ed_tup (ad_cons (ed_var c2 6 rfl (by kspl_open vis) rfl rfl rfl) (ad_cons (ed_var c2 8 rfl (by kspl_open vis) rfl rfl rfl) ad_nil rfl) rfl) (Nat.le_of_ble_eq_true rfl), ⟨.inr rfl, .inr rfl, .inr rfl, .inr rfl, .inr rfl, .inr rfl, .inl rfl, .inr rfl, .inl rfl, .inr rfl, .inr rfl, .inr rfl, .inr rfl, trivial⟩⟩) (fun _ => rfl)) ?_
  refine sd_asgL c 5 rfl (.inl rfl) (.inl rfl) (Nat.le_of_ble_eq_true rfl) (el_lst ad_nil (Nat.le_of_ble_eq_true rfl)) rfl ?_
  refine SD.to (ls := [.dat (eBook B), .dat (.list (rows.map eR3)), .dat db, .own (fl B.n (days B rows bs 0).there), .own ((days B rows bs 0).coming.map eP2), .own ((days B rows bs 0).fls.map eR3), .no, .no, .no, .no, .no, .no, .no]) ?_ ?_
  · show [_, _, _, _, SK.own (bs.map fun p => eP2 (p.2, p.1)), _, _, _, _, _, _, _, _] = [_, _, _, _, SK.own ((bs.map fun p => (p.2, p.1)).map eP2), _, _, _, _, _, _, _, _]
    rw [List.map_map]
    rfl
  refine sd_for c (fun h => [.dat (eBook B), .dat (.list (rows.map eR3)), .dat db, .own (fl B.n (days B rows bs h).there), .own ((days B rows bs h).coming.map eP2), .own ((days B rows bs h).fls.map eR3), .no, .no, .no, .no, .no, .no, .no]) (id_range c rfl M.b_range ed_int (by decide) rfl) (gd_name c 6 rfl (by kspl_open loc) (by kspl_open loc)) Wk.rfl' (fun h d hd => ?_) ?_ (fun _ => rfl)
  · obtain ⟨hh, rfl⟩ := rngD_inv hd
    have hh : h < 260 := hh
    refine ⟨_, rfl, ?_⟩
    obtain ⟨bl1, bl2⟩ := days_len (B := B) (rows := rows) (bs := bs) h
    have ok := day_ok g gr gb nd h
    have co : ∀ p ∈ (days B rows bs h).coming, B.off p.2 := fun p hp => by
      rcases (ok.co p.1 p.2).mp hp with z | ⟨r, hr, t, _, _, h3, _⟩
      · exact (gb _ z).1
      · rw [← h3]; exact home_off g (gr.at_ r hr).1
    have step : days B rows bs (h + 1) = dayStep B rows (days B rows bs h) (h : Int) := rfl
    have bl3 : (days B rows bs h).fls.length ≤ 300000 := Nat.le_trans bl1 (Nat.le_trans (Nat.mul_le_mul (Nat.le_of_lt hh) rl) (by decide))
    have bl4 : (days B rows bs h).coming.length ≤ 301000 := by
      have : h * rows.length ≤ 300000 := Nat.le_trans (Nat.mul_le_mul (Nat.le_of_lt hh) rl) (by decide)
      omega
    clear bl1 bl2 ok
    refine SD.nxW (L' := [.dat (eBook B), .dat (.list (rows.map eR3)), .dat db, .own (fl B.n (dayStep B rows (days B rows bs h) (h : Int)).there), .own ((dayStep B rows (days B rows bs h) (h : Int)).coming.map eP2), .own ((dayStep B rows (days B rows bs h) (h : Int)).fls.map eR3), .no, .no, .no, .no, .no, .no, .no]) (by show [_, _, _, SK.own (fl B.n (days B rows bs (h + 1)).there), SK.own ((days B rows bs (h + 1)).coming.map eP2), SK.own ((days B rows bs (h + 1)).fls.map eR3), _, _, _, _, _, _, _] = _; rw [step]) ?_
    clear step
    show SD X [.dat (eBook B), .dat (.list (rows.map eR3)), .dat db, .own (fl B.n (days B rows bs h).there), .own ((days B rows bs h).coming.map eP2), .own ((days B rows bs h).fls.map eR3), .dat (.int (h : Int)), .no, .no, .no, .no, .no, .no] _ _
    unfold dayStep
    dsimp only
    generalize (days B rows bs h).there = D at *
    generalize (days B rows bs h).coming = cs at *
    generalize (days B rows bs h).fls = fs at *
    -- what comes this hour
    refine sd_forO c 4 (fun a i ls => ls = [.dat (eBook B), .dat (.list (rows.map eR3)), .dat db, .own (fl B.n ((cs.take i).foldl (ph1s (h : Int)) D)), .ptr a, .own (fs.map eR3), .dat (.int (h : Int)), .no, .no, .no, .no, .no, .no]) rfl (.inl rfl) rfl rfl rfl (gd_tup c (gs_cons c 7 rfl (by kspl_open loc) (by kspl_open loc) (gs_cons c 8 rfl (by kspl_open loc) (by kspl_open loc) gs_nil rfl) rfl) rfl rfl) (fun a => rfl) (fun a i d ls hd hF => ?_) (fun a ls hF => ?_) (fun _ => rfl)
    · subst hF
      obtain ⟨p, hp, rfl⟩ := map_get hd
      have ho := co p (List.mem_of_getElem? hp)
      obtain ⟨t, o⟩ := p
      refine ⟨_, rfl, ?_⟩
      rw [fold_take hp]
      generalize (cs.take i).foldl (ph1s (h : Int)) D = C
      have ho' : 0 ≤ o ∧ o < (B.n : Int) := ho
      have hx : L2.atI (fl B.n C) o = some (oD (C o)) := fl_at ho'
      have wk : ∀ L, Wk [.dat (eBook B), .dat (.list (rows.map eR3)), .dat db, .own L, .ptr a, .own (fs.map eR3), .dat (.int (h : Int)), .dat (.int t), .dat (.int o), .no, .no, .no, .no] [.dat (eBook B), .dat (.list (rows.map eR3)), .dat db, .own L, .ptr a, .own (fs.map eR3), .dat (.int (h : Int)), .no, .no, .no, .no, .no, .no] := fun _ => ⟨.inr rfl, .inr rfl, .inr rfl, .inr rfl, .inr rfl, .inr rfl, .inr rfl, .inl rfl, .inl rfl, .inl rfl, .inl rfl, .inl rfl, .inl rfl, trivial⟩
      refine sd_if (td_w (wd_and (td_cmp (ed_var c 7 rfl (.inl rfl) rfl rfl rfl) (ed_var c 6 rfl (.inl rfl) rfl rfl rfl) cd_eqI (nomark _)) (fun _ => (wd_and1 (td_cmp (own_ix c 3 rfl (.inl rfl) (ed_var c 8 rfl (.inl rfl) rfl rfl rfl) rfl hx (fun _ _ => rfl) rfl rfl rfl) ed_non cd_isN (nomark _)))))) (fun hb => ?_) (fun hb => ?_)
      · rw [Bool.and_eq_true] at hb
        have h1 : t = (h : Int) := of_decide_eq_true hb.1
        have h2 : C o = none := by
          cases e : C o with
          | none => rfl
          | some u => rw [e] at hb; cases hb.2
        refine sd_setitem c 3 rfl (.inl rfl) (ed_var c 6 rfl (.inl rfl) rfl rfl rfl) (ed_var c 8 rfl (.inl rfl) rfl rfl rfl) rfl rfl (fl_ixN ho') ?_ rfl rfl (fun _ => rfl) rfl rfl rfl
        rw [ph1s_t h1 h2, ← fl_set ho']
        exact sd_nil (sd_weak (wk _) (sd_nil rfl))
      · have : ¬ (t = (h : Int) ∧ C o = none) := fun z => by
          rw [decide_eq_true z.1, z.2] at hb
          cases hb
        rw [ph1s_f this]
        exact sd_nil (sd_weak (wk _) (sd_nil rfl))
    · subst hF
      refine ⟨rfl, ?_⟩
      rw [List.length_map, List.take_length]
      show SD X [.dat (eBook B), .dat (.list (rows.map eR3)), .dat db, .own (fl B.n (ph1 (h : Int) cs D)), .own (cs.map eP2), .own (fs.map eR3), .dat (.int (h : Int)), .no, .no, .no, .no, .no, .no] _ _
      generalize ph1 (h : Int) cs D = D1
      refine sd_for c (fun i => [.dat (eBook B), .dat (.list (rows.map eR3)), .dat db, .own (fl B.n D1), .own (((rows.take i).foldl (ph2s B (h : Int) D1) (cs, fs)).1.map eP2), .own (((rows.take i).foldl (ph2s B (h : Int) D1) (cs, fs)).2.map eR3), .dat (.int (h : Int)), .no, .no, .no, .no, .no, .no]) (id_seq (ed_var c 1 rfl (.inl rfl) rfl rfl rfl) rfl) (gd_tup c (gs_cons c 9 rfl (by kspl_open loc) (by kspl_open loc) (gs_cons c 8 rfl (by kspl_open loc) (by kspl_open loc) (gs_cons c 10 rfl (by kspl_open loc) (by kspl_open loc) gs_nil rfl) rfl) rfl) rfl rfl) Wk.rfl' (fun i d hd => ?_) ?_ (fun _ => rfl)
      · obtain ⟨r, hr, rfl⟩ := map_get hd
        obtain ⟨hbi, ho, hne, hpos⟩ := gr.at_ r (List.mem_of_getElem? hr)
        have hho := home_off g hbi
        refine ⟨_, rfl, ?_⟩
        have hi := (List.getElem?_eq_some_iff.mp hr).1
        have ht : (rows.take (i + 1)).foldl (ph2s B (h : Int) D1) (cs, fs) = ph2s B (h : Int) D1 ((rows.take i).foldl (ph2s B (h : Int) D1) (cs, fs)) r := by
          have e : rows.take (i + 1) = rows.take i ++ [r] := by rw [List.take_succ, hr]; rfl
          rw [e, List.foldl_append]; rfl
        obtain ⟨l2, l1⟩ := ph2_len (B := B) (h := (h : Int)) (D := D1) (rows.take i) (cs, fs)
        have l0 : (rows.take i).length ≤ 1000 := by rw [List.length_take]; omega
        rw [ht]
        generalize (rows.take i).foldl (ph2s B (h : Int) D1) (cs, fs) = q at l1 l2
        obtain ⟨c1, f1⟩ := q
        obtain ⟨b, o, t⟩ := r
        dsimp only at l1 l2
        show SD X [.dat (eBook B), .dat (.list (rows.map eR3)), .dat db, .own (fl B.n D1), .own (c1.map eP2), .own (f1.map eR3), .dat (.int (h : Int)), .no, .dat (.int o), .dat (.int b), .dat (.int t), .no, .no] _ _
        have ho' : 0 ≤ o ∧ o < (B.n : Int) := ho
        have hx : L2.atI (fl B.n D1) o = some (oD (D1 o)) := fl_at ho'
        have s1 : (c1.map eP2).length < sizeLine := by rw [List.length_map]; exact Nat.lt_of_lt_of_le (show c1.length < 1000000 by omega) (Nat.le_of_ble_eq_true rfl)
        have s2 : (f1.map eR3).length < sizeLine := by rw [List.length_map]; exact Nat.lt_of_lt_of_le (show f1.length < 1000000 by omega) (Nat.le_of_ble_eq_true rfl)
        have s3 : f1.length < sizeLine := by rw [List.length_map] at s2; exact s2
        refine sd_asg c 11 rfl (.inl rfl) (.inl rfl) (Nat.le_of_ble_eq_true rfl) (ed_ix (ed_ix (ed_var c 0 rfl (.inl rfl) rfl rfl rfl) ed_int rfl (fun _ _ => rfl)) (ed_var c 9 rfl (.inl rfl) rfl rfl rfl) (ix_home hbi) (fun _ _ => rfl)) rfl ?_
        have hshp : SeqAt.shaped (.list (f1.map fun x => .int x.1)) = true := Shp.ok (n := 1) (.list (allM fun a _ => .int _)) (by decide)
        have wk : ∀ L1 L2, Wk [.dat (eBook B), .dat (.list (rows.map eR3)), .dat db, .own (fl B.n D1), .own L1, .own L2, .dat (.int (h : Int)), .no, .dat (.int o), .dat (.int b), .dat (.int t), .dat (.int (B.home b)), .no] [.dat (eBook B), .dat (.list (rows.map eR3)), .dat db, .own (fl B.n D1), .own L1, .own L2, .dat (.int (h : Int)), .no, .no, .no, .no, .no, .no] := fun _ _ => ⟨.inr rfl, .inr rfl, .inr rfl, .inr rfl, .inr rfl, .inr rfl, .inr rfl, .inr rfl, .inl rfl, .inl rfl, .inl rfl, .inl rfl, .inr rfl, trivial⟩
        refine sd_if (td_w (wd_and (td_cmp (own_ix c 3 rfl (.inl rfl) (ed_var c 8 rfl (.inl rfl) rfl rfl rfl) rfl hx (fun _ _ => rfl) rfl rfl rfl) ed_non cd_notN (nomark _)) (fun _ => (wd_and (td_cmp (ed_var c 10 rfl (.inl rfl) rfl rfl rfl) (ed_var c 6 rfl (.inl rfl) rfl rfl rfl) cd_le (nomark _)) (fun _ => (wd_and1 (td_thaw 5 rfl (td_cmp (ed_var c 9 rfl (.inl rfl) rfl rfl rfl) (ed_el (el_map c [("_law_one", 12)] (xs := f1) (enc := eR3) (fun x => .int x.1) (by decide +kernel) rfl (id_seq (ed_var c 5 rfl (.inl rfl) rfl rfl rfl) rfl) (all1 ⟨_, rfl, .inl rfl⟩) (fun X' c2 => gd_name c2 12 rfl (by kspl_open loc) (by kspl_open loc)) s3 (fun x hx => ⟨_, rfl, fun X' c2 => ed_ix (ed_var c2 12 rfl (by kspl_open vis) rfl rfl rfl) ed_int rfl (fun _ _ => rfl), ⟨.inr rfl, .inr rfl, .inr rfl, .inr rfl, .inr rfl, .inr rfl, .inr rfl, .inr rfl, .inr rfl, .inr rfl, .inr rfl, .inr rfl, .inl rfl, trivial⟩⟩) (fun _ => rfl))) (cd_niL c rfl hshp) (by with_unfolding_all rfl))))))))) (fun hb => ?_) (fun hb => ?_)
        · rw [any_contains] at hb
          refine sd_if (td_not (td_val (ed_call c Fl (by decide) rfl (ad_cons (ed_var c 0 rfl (.inl rfl) rfl rfl rfl) (ad_cons (ed_var c 8 rfl (.inl rfl) rfl rfl rfl) (ad_cons (ed_var c 11 rfl (.inl rfl) rfl rfl rfl) (ad_cons (ed_var c 6 rfl (.inl rfl) rfl rfl rfl) ad_nil rfl) rfl) rfl) rfl) ⟨B, o, _, (h : Int), rfl, g, ho, hho, rfl⟩ rfl rfl rfl) (fun _ => rfl))) (fun hb2 => ?_) (fun hb2 => ?_)
          · have hs : starts B (h : Int) D1 f1 (b, o, t) = true := by
              unfold starts
              dsimp only
              rw [show (D1 o).isSome = !isNoneD (oD (D1 o)) by cases D1 o <;> rfl]
              rw [hb2]
              simpa using hb
            have e2 : ph2s B (h : Int) D1 (c1, f1) (b, o, t) = (c1 ++ [((h : Int) + B.f o (B.home b), B.home b)], f1 ++ [(b, (h : Int), (h : Int) + B.f o (B.home b))]) := if_pos hs
            rw [e2]
            dsimp only
            refine sd_append c 5 rfl (.inl rfl) (ed_tup (ad_cons (ed_var c 9 rfl (.inl rfl) rfl rfl rfl) (ad_cons (ed_var c 6 rfl (.inl rfl) rfl rfl rfl) (ad_cons (ed_bin (ed_var c 6 rfl (.inl rfl) rfl rfl rfl) (ed_ix (ed_ix (ed_ix (ed_var c 0 rfl (.inl rfl) rfl rfl rfl) ed_int rfl (fun _ _ => rfl)) (ed_var c 8 rfl (.inl rfl) rfl rfl rfl) (ix_fl ho) (fun _ _ => rfl)) (ed_var c 11 rfl (.inl rfl) rfl rfl rfl) (ix_row g ho hho) (fun _ _ => rfl)) bd_add) ad_nil rfl) rfl) rfl) (Nat.le_of_ble_eq_true rfl)) rfl rfl s2 ?_ rfl rfl rfl rfl rfl rfl
            refine sd_append c 4 rfl (.inl rfl) (ed_tup (ad_cons (ed_bin (ed_var c 6 rfl (.inl rfl) rfl rfl rfl) (ed_ix (ed_ix (ed_ix (ed_var c 0 rfl (.inl rfl) rfl rfl rfl) ed_int rfl (fun _ _ => rfl)) (ed_var c 8 rfl (.inl rfl) rfl rfl rfl) (ix_fl ho) (fun _ _ => rfl)) (ed_var c 11 rfl (.inl rfl) rfl rfl rfl) (ix_row g ho hho) (fun _ _ => rfl)) bd_add) (ad_cons (ed_var c 11 rfl (.inl rfl) rfl rfl rfl) ad_nil rfl) rfl) (Nat.le_of_ble_eq_true rfl)) rfl rfl s1 ?_ rfl rfl rfl rfl rfl rfl
            rw [List.map_append, List.map_append]
            exact sd_nil (sd_nil (sd_nil (wk _ _)))
          · have hs : starts B (h : Int) D1 f1 (b, o, t) = false := by
              unfold starts
              dsimp only
              have : barred B o (B.home b) (h : Int) = true := by simpa using hb2
              rw [this]
              simp
            have e2 : ph2s B (h : Int) D1 (c1, f1) (b, o, t) = (c1, f1) := if_neg (by rw [hs]; decide)
            rw [e2]
            exact sd_nil (sd_nil (sd_nil (wk _ _)))
        · rw [any_contains] at hb
          have hs : starts B (h : Int) D1 f1 (b, o, t) = false := by
            unfold starts
            dsimp only
            rw [show (D1 o).isSome = !isNoneD (oD (D1 o)) by cases D1 o <;> rfl]
            generalize (!isNoneD (oD (D1 o))) = x at hb ⊢
            generalize decide (t ≤ (h : Int)) = y at hb ⊢
            generalize (!(f1.map (·.1)).contains b) = z at hb ⊢
            generalize (!barred B o (B.home b) (h : Int)) = u
            cases x <;> cases y <;> cases z <;> simp_all
          have e2 : ph2s B (h : Int) D1 (c1, f1) (b, o, t) = (c1, f1) := if_neg (by rw [hs]; decide)
          rw [e2]
          exact sd_nil (sd_nil (wk _ _))
      · rw [List.length_map, List.take_length]
        exact sd_nil ⟨.inr rfl, .inr rfl, .inr rfl, .inr rfl, .inr rfl, .inr rfl, .inl rfl, .inr rfl, .inr rfl, .inr rfl, .inr rfl, .inr rfl, .inr rfl, trivial⟩
  · refine sd_freeze 3 rfl ?_
    refine sd_freeze 5 rfl ?_
    exact sd_ret (ed_tup (ad_cons (ed_var c 3 rfl (.inl rfl) rfl rfl rfl) (ad_cons (ed_var c 5 rfl (.inl rfl) rfl rfl rfl) ad_nil rfl) rfl) (Nat.le_of_ble_eq_true rfl)) rfl
end
end K
namespace K
open PySem L2 Z
section
variable {P : Program} {w : World} {K : PySem.W.Frag} {mg : Str → Option Value} {base : Heap} [LamC]
/-! ### flights -/
def flOne (B : Book) (S : Dt) (r : R3) : Option T3 := (S r.2.1).map fun v => (letGo B r.2.1 (B.home r.1) (max v r.2.2), r.1, letGo B r.2.1 (B.home r.1) (max v r.2.2) + B.f r.2.1 (B.home r.1))
def flPre (B : Book) (S : Dt) (rows : List R3) : List T3 := rows.filterMap (flOne B S)
noncomputable def flightsF (B : Book) (rows : List R3) (bs : List (Int × Int)) : List R3 := (sort3 (flPre B (spread B rows bs) rows)).map fun t => (t.2.1, t.1, t.2.2)
section
variable {B : Book} {rows : List R3} {bs : List (Int × Int)}
theorem flPre_mem {S : Dt} {x : T3} : x ∈ flPre B S rows ↔ ∃ r ∈ rows, ∃ t, goes B S r t ∧ x = (t, r.1, t + B.f r.2.1 (B.home r.1)) := by
  unfold flPre
  rw [List.mem_filterMap]
  constructor
  · rintro ⟨r, hr, e⟩
    unfold flOne at e
    cases e' : S r.2.1 with
    | none => rw [e'] at e; cases e
    | some v =>
      rw [e'] at e
      exact ⟨r, hr, _, ⟨v, e', rfl⟩, (Option.some.inj e).symm⟩
  · rintro ⟨r, hr, t, ⟨v, e, rfl⟩, rfl⟩
    refine ⟨r, hr, ?_⟩
    unfold flOne
    rw [e]
    rfl
theorem flightsF_mem {x : R3} : x ∈ flightsF B rows bs ↔ ∃ r ∈ rows, ∃ t, goes B (spread B rows bs) r t ∧ x = flOf B r t := by
  unfold flightsF
  rw [List.mem_map]
  constructor
  · rintro ⟨y, hy, rfl⟩
    obtain ⟨r, hr, t, h1, rfl⟩ := flPre_mem.mp (sort3_mem.mp hy)
    exact ⟨r, hr, t, h1, rfl⟩
  · rintro ⟨r, hr, t, h1, rfl⟩
    exact ⟨(t, r.1, t + B.f r.2.1 (B.home r.1)), sort3_mem.mpr (flPre_mem.mpr ⟨r, hr, t, h1, rfl⟩), rfl⟩
theorem goes_in (g : Good B) (gr : GoodRows B rows) (gb : GoodBeg B bs) (sm : Small B rows bs) {r : R3} (hr : r ∈ rows) {t : Int} (h : goes B (spread B rows bs) r t) : 0 ≤ t ∧ t ≤ 164 := by
  obtain ⟨v, e, rfl⟩ := h
  have h1 := spread_le g gr gb sm e
  have h2 := (spread_spec g gr gb).1.pos _ _ e
  have h3 := sm.rt r hr
  have h4 := letGo_le (o := r.2.1) (h := B.home r.1) (t := max v r.2.2) g
  have h5 := letGo_ge (B := B) (o := r.2.1) (h := B.home r.1) (t := max v r.2.2)
  omega
theorem flPre_bd (g : Good B) (gr : GoodRows B rows) (gb : GoodBeg B bs) (sm : Small B rows bs) : ∀ x ∈ flPre B (spread B rows bs) rows, Bd3 x := fun x hx => by
  obtain ⟨r, hr, t, h1, rfl⟩ := flPre_mem.mp hx
  obtain ⟨a, b⟩ := goes_in g gr gb sm hr h1
  obtain ⟨hb, ho, hn, _⟩ := gr.at_ r hr
  have hf := f_pos g ho (home_off g hb) hn
  have bl := g.bil
  exact ⟨⟨a, by show t < 1000; omega⟩, ⟨hb.1, by show r.1 < 1000; omega⟩, ⟨by show 0 ≤ t + B.f r.2.1 (B.home r.1); omega, by show t + B.f r.2.1 (B.home r.1) < 1000; omega⟩⟩
theorem flPre_len {S : Dt} : (flPre B S rows).length ≤ rows.length := List.length_filterMap_le _ _
end
def R_flights_of (ds : List PyData) (es : List PyData) : Prop := ∃ B rows bs db, ds = [eBook B, .list (List.map eR3 rows), db] ∧ seqD db = some (List.map eP2 bs) ∧ Good B ∧ GoodRows B rows ∧ GoodBeg B bs ∧ Small B rows bs ∧ es = (flightsF B rows bs).map eR3
theorem ok_flights_of (M : Md K mg) : FnG P w K mg base "flights_of" ["book", "rows", "begins"] 5 (spL K R_flights_of) := by
  have Fs := ok_spread (P := P) (w := w) (base := base) M
  have Fl := ok_let_go (P := P) (w := w) (base := base) M
  refine fn_sdL (N := ["book", "rows", "begins", "found", "there", "bird", "place", "ready", "home", "begin", "come"]) M.d_flights_of ⟨rfl, rfl, rfl, by decide +kernel, rfl, by decide +kernel, by decide +kernel⟩ (fun ds d ⟨_, _, _, _, e, _⟩ => by rw [e]; rfl) (by decide) (fun X c ds d hR => ?_)
  obtain ⟨B, rows, bs, db, rfl, hq, g, gr, gb, sm, rfl⟩ := hR
  show SD X [.dat (eBook B), .dat (.list (rows.map eR3)), .dat db, .no, .no, .no, .no, .no, .no, .no, .no] _ _
  have rl := sm.rl
  refine sd_asgL c 3 rfl (.inl rfl) (.inl rfl) (Nat.le_of_ble_eq_true rfl) (el_lst ad_nil (Nat.le_of_ble_eq_true rfl)) rfl ?_
  refine sd_asg c 4 rfl (.inl rfl) (.inl rfl) (Nat.le_of_ble_eq_true rfl) (ed_el (el_call c Fs (by decide) rfl (ad_cons (ed_var c 0 rfl (.inl rfl) rfl rfl rfl) (ad_cons (ed_var c 1 rfl (.inl rfl) rfl rfl rfl) (ad_cons (ed_var c 2 rfl (.inl rfl) rfl rfl rfl) ad_nil rfl) rfl) rfl) ⟨B, rows, bs, db, rfl, hq, g, gr, gb, rfl⟩ rfl rfl rfl)) rfl ?_
  have hbd := flPre_bd g gr gb sm
  unfold flightsF
  show SD X [.dat (eBook B), .dat (.list (rows.map eR3)), .dat db, .own ((flPre B (spread B rows bs) []).map eT3), .dat (.list (fl B.n (spread B rows bs))), .no, .no, .no, .no, .no, .no] _ _
  generalize spread B rows bs = S at hbd ⊢
  refine sd_for c (fun i => [.dat (eBook B), .dat (.list (rows.map eR3)), .dat db, .own ((flPre B S (rows.take i)).map eT3), .dat (.list (fl B.n S)), .no, .no, .no, .no, .no, .no]) (id_seq (ed_var c 1 rfl (.inl rfl) rfl rfl rfl) rfl) (gd_tup c (gs_cons c 5 rfl (by kspl_open loc) (by kspl_open loc) (gs_cons c 6 rfl (by kspl_open loc) (by kspl_open loc) (gs_cons c 7 rfl (by kspl_open loc) (by kspl_open loc) gs_nil rfl) rfl) rfl) rfl rfl) Wk.rfl' (fun i d hd => ?_) ?_ (fun _ => rfl)
  · obtain ⟨r, hr, rfl⟩ := map_get hd
    obtain ⟨hbi, ho, hne, hpos⟩ := gr.at_ r (List.mem_of_getElem? hr)
    have hho := home_off g hbi
    refine ⟨_, rfl, ?_⟩
    have ht : flPre B S (rows.take (i + 1)) = flPre B S (rows.take i) ++ (flOne B S r).toList := by
      have e : rows.take (i + 1) = rows.take i ++ [r] := by rw [List.take_succ, hr]; rfl
      rw [e]
      unfold flPre
      rw [List.filterMap_append]
      cases h : flOne B S r with
      | none => rw [List.filterMap_cons_none h]; rfl
      | some x => rw [List.filterMap_cons_some h]; rfl
    have hlen : (flPre B S (rows.take i)).length ≤ 6 := Nat.le_trans flPre_len (by rw [List.length_take]; omega)
    refine SD.nxW (L' := [.dat (eBook B), .dat (.list (rows.map eR3)), .dat db, .own ((flPre B S (rows.take i) ++ (flOne B S r).toList).map eT3), .dat (.list (fl B.n S)), .no, .no, .no, .no, .no, .no]) (by rw [ht]) ?_
    show SD X [.dat (eBook B), .dat (.list (rows.map eR3)), .dat db, .own ((flPre B S (rows.take i)).map eT3), .dat (.list (fl B.n S)), .dat (.int r.1), .dat (.int r.2.1), .dat (.int r.2.2), .no, .no, .no] _ _
    generalize flPre B S (rows.take i) = q at hlen
    obtain ⟨b, o, t⟩ := r
    have hx : ixD (.list (fl B.n S)) o = some (oD (S o)) := fl_ix ho
    cases e : S o with
    | none =>
      rw [e] at hx
      have e1 : flOne B S (b, o, t) = none := by unfold flOne; rw [e]; rfl
      rw [e1]
      refine sd_ifF (td_cmp (ed_ix (ed_var c 4 rfl (.inl rfl) rfl rfl rfl) (ed_var c 6 rfl (.inl rfl) rfl rfl rfl) hx (fun _ _ => rfl)) ed_non cd_notN (nomark _)) (sd_nil (sd_nil ?_))
      show Wk _ [_, _, _, SK.own ((q ++ []).map eT3), _, _, _, _, _, _, _]
      rw [List.append_nil]
      exact ⟨.inr rfl, .inr rfl, .inr rfl, .inr rfl, .inr rfl, .inl rfl, .inl rfl, .inl rfl, .inl rfl, .inl rfl, .inl rfl, trivial⟩
    | some v =>
      rw [e] at hx
      have e1 : flOne B S (b, o, t) = some (letGo B o (B.home b) (max v t), b, letGo B o (B.home b) (max v t) + B.f o (B.home b)) := by unfold flOne; rw [e]; rfl
      rw [e1]
      refine sd_ifT (td_cmp (ed_ix (ed_var c 4 rfl (.inl rfl) rfl rfl rfl) (ed_var c 6 rfl (.inl rfl) rfl rfl rfl) hx (fun _ _ => rfl)) ed_non cd_notN (nomark _)) ?_
      refine sd_asg c 8 rfl (.inl rfl) (.inl rfl) (Nat.le_of_ble_eq_true rfl) (ed_ix (ed_ix (ed_var c 0 rfl (.inl rfl) rfl rfl rfl) (ed_gint c rfl M.c_BIRDS rfl) rfl (fun _ _ => rfl)) (ed_var c 5 rfl (.inl rfl) rfl rfl rfl) (ix_home hbi) (fun _ _ => rfl)) rfl ?_
      refine sd_asg c 9 rfl (.inl rfl) (.inl rfl) (Nat.le_of_ble_eq_true rfl) (ed_call c Fl (by decide) rfl (ad_cons (ed_var c 0 rfl (.inl rfl) rfl rfl rfl) (ad_cons (ed_var c 6 rfl (.inl rfl) rfl rfl rfl) (ad_cons (ed_var c 8 rfl (.inl rfl) rfl rfl rfl) (ad_cons (ed_callB c rfl M.b_max PyProof.Rows.boot_max (ad_cons (ed_ix (ed_var c 4 rfl (.inl rfl) rfl rfl rfl) (ed_var c 6 rfl (.inl rfl) rfl rfl rfl) hx (fun _ _ => rfl)) (ad_cons (ed_var c 7 rfl (.inl rfl) rfl rfl rfl) ad_nil rfl) rfl) (cl_max2 c.calm) (by decide) rfl rfl rfl) ad_nil rfl) rfl) rfl) rfl) ⟨B, o, _, _, rfl, g, ho, hho, rfl⟩ rfl rfl rfl) rfl ?_
      refine sd_append c 3 rfl (.inl rfl) (ed_tup (ad_cons (ed_var c 9 rfl (.inl rfl) rfl rfl rfl) (ad_cons (ed_var c 5 rfl (.inl rfl) rfl rfl rfl) (ad_cons (ed_bin (ed_var c 9 rfl (.inl rfl) rfl rfl rfl) (ed_ix (ed_ix (ed_ix (ed_var c 0 rfl (.inl rfl) rfl rfl rfl) (ed_gint c rfl M.c_FLIGHTS rfl) rfl (fun _ _ => rfl)) (ed_var c 6 rfl (.inl rfl) rfl rfl rfl) (ix_fl ho) (fun _ _ => rfl)) (ed_var c 8 rfl (.inl rfl) rfl rfl rfl) (ix_row g ho hho) (fun _ _ => rfl)) bd_add) ad_nil rfl) rfl) rfl) (Nat.le_of_ble_eq_true rfl)) rfl rfl ?hz ?_ rfl rfl rfl rfl rfl rfl
      · rw [List.length_map]
        exact Nat.lt_of_lt_of_le (show q.length < 1000 by omega) (Nat.le_of_ble_eq_true rfl)
      · refine sd_nil (sd_nil ?_)
        rw [Option.toList_some, List.map_append]
        exact ⟨.inr rfl, .inr rfl, .inr rfl, .inr rfl, .inr rfl, .inl rfl, .inl rfl, .inl rfl, .inl rfl, .inl rfl, .inl rfl, trivial⟩
  · rw [List.length_map, List.take_length]
    have hlen : (flPre B S rows).length ≤ 6 := Nat.le_trans flPre_len rl
    have hlen2 : (sort3 (flPre B S rows)).length ≤ 6 := by rw [(sort3_perm _).length_eq]; exact hlen
    refine sd_freeze 3 rfl ?_
    refine sd_retL (el_map c [("bird", 5), ("begin", 9), ("come", 10)] (xs := sort3 (flPre B S rows)) (enc := eT3) (fun t => eR3 (t.2.1, t.1, t.2.2)) (by decide +kernel) rfl (id_seq (ed_el (el_callB c rfl M.b_sorted PyProof.Rows.boot_sorted (ad_cons (ed_var c 3 rfl (.inl rfl) rfl rfl rfl) ad_nil rfl) (cl_sort3 hbd (by omega)) (by decide) rfl rfl rfl)) rfl) (allC ⟨_, rfl, .inl rfl⟩ (allC ⟨_, rfl, .inl rfl⟩ (all1 ⟨_, rfl, .inl rfl⟩))) (fun X' c2 => gd_tup c2 (gs_cons c2 9 rfl (by kspl_open loc) (by kspl_open loc) (gs_cons c2 5 rfl (by kspl_open loc) (by kspl_open loc) (gs_cons c2 10 rfl (by kspl_open loc) (by kspl_open loc) gs_nil rfl) rfl) rfl) rfl rfl) (Nat.lt_of_lt_of_le (show (sort3 (flPre B S rows)).length < 1000 by omega) (Nat.le_of_ble_eq_true rfl)) (fun x hx => ⟨_, rfl, fun X' c2 => ed_tup (ad_cons (ed_var c2 5 rfl (by kspl_open vis) rfl rfl rfl) (ad_cons (ed_var c2 9 rfl (by kspl_open vis) rfl rfl rfl) (ad_cons (ed_var c2 10 rfl (by kspl_open vis) rfl rfl rfl) ad_nil rfl) rfl) rfl) (Nat.le_of_ble_eq_true rfl), ⟨.inr rfl, .inr rfl, .inr rfl, .inr rfl, .inr rfl, .inl rfl, .inr rfl, .inr rfl, .inr rfl, .inl rfl, .inl rfl, trivial⟩⟩) (fun _ => rfl)) ?_
    show _ = ((sort3 (flPre B S rows)).map fun t => (t.2.1, t.1, t.2.2)).map eR3
    rw [List.map_map]
    rfl
end
end K
namespace K
open PySem L2 Z
section
variable {P : Program} {w : World} {K : PySem.W.Frag} {mg : Str → Option Value} {base : Heap} [LamC]
def R_flown (ds : List PyData) (es : List PyData) : Prop := ∃ B ps bs db, ds = [eBook B, ePost ps, db] ∧ seqD db = some (List.map eP2 bs) ∧ Good B ∧ GoodPost B ps ∧ GoodBeg B bs ∧ Small B (rowsOf ps) bs ∧ es = (flightsF B (rowsOf ps) bs).map eR3
theorem ok_flown (M : Md K mg) : FnG P w K mg base "flown" ["book", "posting", "begins"] 6 (spL K R_flown) := by
  have Fp := ok_need_posting (P := P) (w := w) (base := base) M
  have Fg := ok_need_begins (P := P) (w := w) (base := base) M
  have Fr := ok_posted (P := P) (w := w) (base := base) M
  have Fs := ok_flights_of (P := P) (w := w) (base := base) M
  refine fn_sdL (N := ["book", "posting", "begins"]) M.d_flown ⟨rfl, rfl, rfl, by decide +kernel, rfl, by decide +kernel, by decide +kernel⟩ (fun ds d ⟨_, _, _, _, e, _⟩ => by rw [e]; rfl) (by decide) (fun X c ds d hR => ?_)
  obtain ⟨B, ps, bs, db, rfl, hq, g, gp, gb, sm, rfl⟩ := hR
  show SD X [.dat (eBook B), .dat (ePost ps), .dat db] _ _
  have pl := gp.len
  have bl := g.bil
  refine sd_expr (ed_call c Fp (by decide) rfl (ad_cons (ed_var c 0 rfl (.inl rfl) rfl rfl rfl) (ad_cons (ed_var c 1 rfl (.inl rfl) rfl rfl rfl) ad_nil rfl) rfl) ⟨B, ps, rfl, g, gp, rfl⟩ rfl rfl rfl) rfl ?_
  refine sd_expr (ed_call c Fg (by decide) rfl (ad_cons (ed_var c 0 rfl (.inl rfl) rfl rfl rfl) (ad_cons (ed_var c 2 rfl (.inl rfl) rfl rfl rfl) ad_nil rfl) rfl) ⟨B, bs, db, rfl, hq, gb, rfl⟩ rfl rfl rfl) rfl ?_
  exact sd_retL (el_call c Fs (by decide) rfl (ad_cons (ed_var c 0 rfl (.inl rfl) rfl rfl rfl) (ad_cons (ed_el (el_call c Fr (by decide) rfl (ad_cons (ed_var c 1 rfl (.inl rfl) rfl rfl rfl) ad_nil rfl) ⟨ps, rfl, by omega, rfl⟩ rfl rfl rfl)) (ad_cons (ed_var c 2 rfl (.inl rfl) rfl rfl rfl) ad_nil rfl) rfl) rfl) ⟨B, rowsOf ps, bs, db, rfl, hq, g, good_rows g gp, gb, sm, rfl⟩ rfl rfl rfl) rfl
end
end K
namespace K
open PySem L2 Z
section
variable {P : Program} {w : World} {K : PySem.W.Frag} {mg : Str → Option Value} {base : Heap} [LamC]
/-! ### the flights of the days are the flights -/
theorem nd_of_map {α β : Type} {f : α → β} {l : List α} (h : (l.map f).Nodup) : l.Nodup := (List.pairwise_map.mp h).imp fun h e => h (by rw [e])
section
variable {B : Book} {rows : List R3} {bs : List (Int × Int)}
theorem ph2_nd {h : Int} {D : Dt} : ∀ (l : List R3) (s : List (Int × Int) × List R3), (s.2.map (·.1)).Nodup → ((l.foldl (ph2s B h D) s).2.map (·.1)).Nodup
  | [], s, n => n
  | r :: l, s, n => by
    refine ph2_nd l (ph2s B h D s r) ?_
    unfold ph2s
    by_cases q : starts B h D s.2 r = true
    · rw [if_pos q]
      show ((s.2 ++ [(r.1, h, h + B.f r.2.1 (B.home r.1))]).map (·.1)).Nodup
      rw [List.map_append]
      refine List.nodup_append.mpr ⟨n, by simp, fun a ha b hb => ?_⟩
      have hb : b = r.1 := by simpa using hb
      rintro rfl
      unfold starts at q
      simp only [Bool.and_eq_true, Bool.not_eq_true'] at q
      have q := q.2.2.1
      rw [← hb] at q
      have : (s.2.map (·.1)).contains a = true := List.contains_iff_mem.mpr ha
      rw [this] at q
      cases q
    · rw [if_neg q]; exact n
theorem fls_nd : ∀ H : Nat, ((days B rows bs H).fls.map (·.1)).Nodup
  | 0 => List.Pairwise.nil
  | H + 1 => ph2_nd rows _ (fls_nd H)
theorem flPre_nd {S : Dt} : ∀ {rows : List R3}, (rows.map (·.1)).Nodup → ((flPre B S rows).map (·.2.1)).Nodup
  | [], _ => List.Pairwise.nil
  | r :: rows, h => by
    rw [List.map_cons] at h
    obtain ⟨h1, h2⟩ := List.nodup_cons.mp h
    have ih := flPre_nd (S := S) h2
    unfold flPre at ih ⊢
    cases e : flOne B S r with
    | none => rw [List.filterMap_cons_none e]; exact ih
    | some x =>
      rw [List.filterMap_cons_some e, List.map_cons]
      refine List.nodup_cons.mpr ⟨fun hm => ?_, ih⟩
      obtain ⟨y, hy, e2⟩ := List.mem_map.mp hm
      obtain ⟨r', hr', t, _, rfl⟩ := flPre_mem.mp (show y ∈ flPre B S rows from hy)
      have e3 : x.2.1 = r.1 := by
        unfold flOne at e
        cases e' : S r.2.1 with
        | none => rw [e'] at e; cases e
        | some v => rw [e'] at e; cases e; rfl
      rw [e3] at e2
      exact h1 (by rw [← e2]; exact List.mem_map.mpr ⟨r', hr', rfl⟩)
theorem flightsF_nd (nd : (rows.map (·.1)).Nodup) : ((flightsF B rows bs).map (·.1)).Nodup := by
  unfold flightsF
  rw [List.map_map]
  exact (((sort3_perm _).map _).nodup_iff).mpr (flPre_nd nd)
theorem days_perm (g : Good B) (gr : GoodRows B rows) (gb : GoodBeg B bs) (nd : (rows.map (·.1)).Nodup) (sm : Small B rows bs) : ((days B rows bs 260).fls).Perm (flightsF B rows bs) := by
  refine (List.perm_ext_iff_of_nodup (nd_of_map (fls_nd 260)) (nd_of_map (flightsF_nd nd))).mpr fun x => ?_
  rw [days_fls g gr gb nd sm x, flightsF_mem]
end
end
end K
namespace K
open PySem L2 Z
section
variable {P : Program} {w : World} {K : PySem.W.Frag} {mg : Str → Option Value} {base : Heap} [LamC]
def R_reach (ds : List PyData) (es : List PyData) : Prop := ∃ B ps bs db, ds = [eBook B, ePost ps, db] ∧ seqD db = some (List.map eP2 bs) ∧ Good B ∧ GoodPost B ps ∧ GoodBeg B bs ∧ es = fl B.n (spread B (rowsOf ps) bs)
theorem ok_reach (M : Md K mg) : FnG P w K mg base "reach" ["book", "posting", "begins"] 5 (spL K R_reach) := by
  have Fp := ok_need_posting (P := P) (w := w) (base := base) M
  have Fg := ok_need_begins (P := P) (w := w) (base := base) M
  have Fr := ok_posted (P := P) (w := w) (base := base) M
  have Fs := ok_spread (P := P) (w := w) (base := base) M
  refine fn_sdL (N := ["book", "posting", "begins"]) M.d_reach ⟨rfl, rfl, rfl, by decide +kernel, rfl, by decide +kernel, by decide +kernel⟩ (fun ds d ⟨_, _, _, _, e, _⟩ => by rw [e]; rfl) (by decide) (fun X c ds d hR => ?_)
  obtain ⟨B, ps, bs, db, rfl, hq, g, gp, gb, rfl⟩ := hR
  show SD X [.dat (eBook B), .dat (ePost ps), .dat db] _ _
  have pl := gp.len
  have bl := g.bil
  refine sd_expr (ed_call c Fp (by decide) rfl (ad_cons (ed_var c 0 rfl (.inl rfl) rfl rfl rfl) (ad_cons (ed_var c 1 rfl (.inl rfl) rfl rfl rfl) ad_nil rfl) rfl) ⟨B, ps, rfl, g, gp, rfl⟩ rfl rfl rfl) rfl ?_
  refine sd_expr (ed_call c Fg (by decide) rfl (ad_cons (ed_var c 0 rfl (.inl rfl) rfl rfl rfl) (ad_cons (ed_var c 2 rfl (.inl rfl) rfl rfl rfl) ad_nil rfl) rfl) ⟨B, bs, db, rfl, hq, gb, rfl⟩ rfl rfl rfl) rfl ?_
  exact sd_retL (el_call c Fs (by decide) rfl (ad_cons (ed_var c 0 rfl (.inl rfl) rfl rfl rfl) (ad_cons (ed_el (el_call c Fr (by decide) rfl (ad_cons (ed_var c 1 rfl (.inl rfl) rfl rfl rfl) ad_nil rfl) ⟨ps, rfl, by omega, rfl⟩ rfl rfl rfl)) (ad_cons (ed_var c 2 rfl (.inl rfl) rfl rfl rfl) ad_nil rfl) rfl) rfl) ⟨B, rowsOf ps, bs, db, rfl, hq, g, good_rows g gp, gb, rfl⟩ rfl rfl rfl) rfl
end
end K
namespace K
open PySem L2 Z
section
variable {P : Program} {w : World} {K : PySem.W.Frag} {mg : Str → Option Value} {base : Heap} [LamC]
/-! ### the days' flights by their hours -/
def kle (a b : R3) : Bool := decide (a.2.1 < b.2.1 ∨ (a.2.1 = b.2.1 ∧ a.1 ≤ b.1))
theorem kle_trans (a b c : R3) (h1 : kle a b = true) (h2 : kle b c = true) : kle a c = true := by
  unfold kle at *
  have h1 := of_decide_eq_true h1
  have h2 := of_decide_eq_true h2
  exact decide_eq_true (by omega)
theorem kle_total (a b : R3) : (kle a b || kle b a) = true := by
  unfold kle
  by_cases h : a.2.1 < b.2.1 ∨ (a.2.1 = b.2.1 ∧ a.1 ≤ b.1)
  · rw [decide_eq_true h]; rfl
  · rw [decide_eq_false h, decide_eq_true (show b.2.1 < a.2.1 ∨ (b.2.1 = a.2.1 ∧ b.1 ≤ a.1) by omega)]; rfl
theorem nd_key {l : List R3} (n : (l.map (·.1)).Nodup) : ∀ {a b : R3}, a ∈ l → b ∈ l → a.1 = b.1 → a = b := by
  induction l with
  | nil => intro a b h; cases h
  | cons x l ih =>
    intro a b ha hb e
    rw [List.map_cons] at n
    obtain ⟨n1, n2⟩ := List.nodup_cons.mp n
    rcases List.mem_cons.mp ha with h1 | h1 <;> rcases List.mem_cons.mp hb with h2 | h2
    · rw [h1, h2]
    · subst h1; exact (n1 (by rw [e]; exact List.mem_map.mpr ⟨b, h2, rfl⟩)).elim
    · subst h2; exact (n1 (by rw [← e]; exact List.mem_map.mpr ⟨a, h1, rfl⟩)).elim
    · exact ih n2 h1 h2 e
section
variable {B : Book} {rows : List R3} {bs : List (Int × Int)}
theorem flights_sorted (g : Good B) (gr : GoodRows B rows) (gb : GoodBeg B bs) (sm : Small B rows bs) : (flightsF B rows bs).Pairwise fun a b => kle a b = true := by
  unfold flightsF
  rw [List.pairwise_map]
  refine (List.Pairwise.and_mem.mp (sort3_sorted (flPre B (spread B rows bs) rows))).imp ?_
  intro a b h
  obtain ⟨ha, hb, h⟩ := h
  obtain ⟨h1, h2, h3⟩ := flPre_bd g gr gb sm a (sort3_mem.mp ha)
  obtain ⟨g1, g2, g3⟩ := flPre_bd g gr gb sm b (sort3_mem.mp hb)
  rw [cd3_eq, cd3_eq] at h
  unfold kle
  refine decide_eq_true ?_
  dsimp only
  omega
theorem sorted_fls (g : Good B) (gr : GoodRows B rows) (gb : GoodBeg B bs) (nd : (rows.map (·.1)).Nodup) (sm : Small B rows bs) : ((days B rows bs 260).fls.mergeSort kle) = flightsF B rows bs := by
  have p := days_perm g gr gb nd sm
  refine List.Perm.eq_of_pairwise (le := fun a b => kle a b = true) (fun a b ha hb h1 h2 => ?_) (List.pairwise_mergeSort kle_trans kle_total _) (flights_sorted g gr gb sm) ((List.mergeSort_perm _ _).trans p)
  refine nd_key (flightsF_nd nd) (p.mem_iff.mp ((List.mergeSort_perm _ _).mem_iff.mp ha)) hb ?_
  unfold kle at h1 h2
  have h1 := of_decide_eq_true h1
  have h2 := of_decide_eq_true h2
  omega
end
theorem nb_R3 (r : R3) : nb (eR3 r) = true := rfl
theorem shp_R3s (l : List R3) : SeqAt.shaped (.list (l.map eR3)) = true := Shp.ok (n := 2) (.list (allM fun a _ => (.tuple (allC (.int _) (allC (.int _) (allC (.int _) allN))) : Shp 1 (eR3 a)))) (by decide)
theorem flightsF_len {B : Book} {rows : List R3} {bs : List (Int × Int)} : (flightsF B rows bs).length ≤ rows.length := by
  unfold flightsF
  rw [List.length_map, (sort3_perm _).length_eq]
  exact flPre_len
/-! ### the law -/
def R_law (ds : List PyData) (d : PyData) : Prop := ∃ ns : List Int, ds = [.list (ns.map .int)] ∧ ns.length ≤ 63 ∧ d = .bool true
theorem ok_law (M : Md K mg) {f : Addr} {fd : FuncData} (F : FunC K "law" s_law f fd LamC.cc) (TB : LamX.TabB base mg LamC.cc LamC.tt) : L2.FnOk P w K mg base L2.CX0 9 f fd ["_law_script"] (spP K R_law) := by
  have Fb := ok_book (P := P) (w := w) (base := base) M
  have Fp := ok_law_posting (P := P) (w := w) (base := base) M
  have Fg := ok_law_begins (P := P) (w := w) (base := base) M
  have Fr := ok_law_rows (P := P) (w := w) (base := base) M
  have Fd := ok_law_days (P := P) (w := w) (base := base) M
  have Ff := ok_flown (P := P) (w := w) (base := base) M
  have Fc := ok_reach (P := P) (w := w) (base := base) M
  refine ok_sdC (N := ["_law_script", "_law_h", "_law_book_here", "_law_posting_here", "_law_turn", "_law_begins_here", "_law_there", "_law_flights", "_law_found", "_law_told", "_law_one"]) F TB rfl (List.mem_singleton.mpr rfl) (fun p hp _ => by rw [List.mem_singleton.mp (show p ∈ [_] from hp)]; rfl) ⟨rfl, rfl, rfl, by decide +kernel, rfl, by decide +kernel, by decide +kernel⟩ (fun ds d ⟨_, e, _⟩ => by rw [e]; rfl) (by decide) (fun X c L ds d hR => ?_)
  obtain ⟨ns, rfl, hl, rfl⟩ := hR
  show SD X [.dat (.list (ns.map .int)), .no, .no, .no, .no, .no, .no, .no, .no, .no, .no] _ _
  refine sd_rngNew c 1 rfl (.inl rfl) (.inl rfl) (Nat.le_of_ble_eq_true rfl) rfl M.b_list (ed_var c 0 rfl (.inl rfl) rfl rfl rfl) rfl rfl (fun A A' => ?_)
  refine sd_asg c 2 rfl (.inl rfl) (.inl rfl) (Nat.le_of_ble_eq_true rfl) (ed_callR c Fb (by decide) rfl 1 rfl (.inl rfl) rfl (ad_cons ed_int (ad_cons ed_int ad_nil rfl) rfl) rfl ⟨6, 6, rfl, by decide, by decide, by decide, by decide, rfl, rfl⟩ rfl rfl rfl rfl rfl) rfl ?_
  have g := lawBook_good (n := 6) (b := 6) (r := ⟨19, ns, 0⟩) (by decide) (by decide) (by decide) (by decide)
  show SD X [.dat (.list (ns.map .int)), .rng A A' (bkB 6 6 ⟨19, ns, 0⟩).2, .dat (eBook (lawBook 6 6 ⟨19, ns, 0⟩)), .no, .no, .no, .no, .no, .no, .no, .no] _ _
  generalize lawBook 6 6 ⟨19, ns, 0⟩ = B at g ⊢
  generalize (bkB 6 6 ⟨19, ns, 0⟩).2 = r1
  have n2 := g.n2
  have n6 := g.n6
  have bil := g.bil
  refine sd_asg c 3 rfl (.inl rfl) (.inl rfl) (Nat.le_of_ble_eq_true rfl) (ed_callR c Fp (by decide) rfl 1 rfl (.inl rfl) rfl (ad_cons (ed_var c 2 rfl (.inl rfl) rfl rfl rfl) ad_nil rfl) rfl ⟨B, rfl, g, rfl, rfl⟩ rfl rfl rfl rfl rfl) rfl ?_
  have gp := lawPost_good g (r := r1)
  have srt := lawPost_rt g (r := r1)
  have srl := lawPost_rl g (r := r1)
  show SD X [.dat (.list (ns.map .int)), .rng A A' (lawPost B r1).2, .dat (eBook B), .dat (ePost (lawPost B r1).1), .no, .no, .no, .no, .no, .no, .no] _ _
  generalize (lawPost B r1).1 = ps at gp srt srl ⊢
  generalize (lawPost B r1).2 = r2
  have pl := gp.len
  have gr := good_rows g gp
  refine sd_forP c (fun _ ls => ∃ r, ls = [.dat (.list (ns.map .int)), .rng A A' r, .dat (eBook B), .dat (ePost ps), .no, .no, .no, .no, .no, .no, .no]) (id_range c rfl M.b_range ed_int (by decide) rfl) (gd_name c 4 rfl (by kspl_open loc) (by kspl_open loc)) ⟨r2, rfl⟩ (fun i d ls hd hF => ?_) (fun ls hF => ?_) (fun _ => rfl)
  · obtain ⟨hi, rfl⟩ := rngD_inv hd
    obtain ⟨r, rfl⟩ := hF
    refine ⟨_, rfl, ?_⟩
    refine sd_asg c 5 rfl (.inl rfl) (.inl rfl) (Nat.le_of_ble_eq_true rfl) (ed_callR c Fg (by decide) rfl 1 rfl (.inl rfl) rfl (ad_cons (ed_var c 2 rfl (.inl rfl) rfl rfl rfl) ad_nil rfl) rfl ⟨B, rfl, g, rfl, rfl⟩ rfl rfl rfl rfl rfl) rfl ?_
    have gb := lawBeg_good g (r := r)
    have bt : ∀ p ∈ (lawBeg B r).1, p.2 ≤ 110 := fun p hp => by
      have := (lawBeg_at g p hp).2.2
      omega
    have bl : (lawBeg B r).1.length ≤ 10 := by
      have bln := lawBeg_len (B := B) (r := r)
      have bnn := begN_in (r := r)
      omega
    show SD X [.dat (.list (ns.map .int)), .rng A A' (lawBeg B r).2, .dat (eBook B), .dat (ePost ps), .dat (.int (i : Int)), .dat (.tuple ((lawBeg B r).1.map eP2)), .no, .no, .no, .no, .no] _ _
    generalize (lawBeg B r).1 = bs at gb bt bl ⊢
    generalize (lawBeg B r).2 = r3
    have sm : Small B (rowsOf ps) bs := ⟨srl, srt, bt⟩
    have hth := days_there g gr gb rowsOf_nd sm
    have hso := sorted_fls g gr gb rowsOf_nd sm
    have hpl := (days_perm g gr gb rowsOf_nd sm).length_eq
    have hfl := flightsF_len (B := B) (rows := rowsOf ps) (bs := bs)
    have hRc : R_reach [eBook B, ePost ps, .tuple (bs.map eP2)] (fl B.n (spread B (rowsOf ps) bs)) := ⟨B, ps, bs, _, rfl, rfl, g, gp, gb, rfl⟩
    have hRf : R_flown [eBook B, ePost ps, .tuple (bs.map eP2)] ((flightsF B (rowsOf ps) bs).map eR3) := ⟨B, ps, bs, _, rfl, rfl, g, gp, gb, sm, rfl⟩
    have sfl : SeqAt.shaped (.list (fl B.n (spread B (rowsOf ps) bs))) = true := (shp_fl (k := 1)).ok (by decide)
    refine sd_unpack c (ed_call c Fd (by decide) rfl (ad_cons (ed_var c 2 rfl (.inl rfl) rfl rfl rfl) (ad_cons (ed_el (el_call c Fr (by decide) rfl (ad_cons (ed_var c 3 rfl (.inl rfl) rfl rfl rfl) ad_nil rfl) ⟨ps, rfl, by omega, rfl⟩ rfl rfl rfl)) (ad_cons (ed_var c 5 rfl (.inl rfl) rfl rfl rfl) ad_nil rfl) rfl) rfl) ⟨B, rowsOf ps, bs, _, rfl, rfl, g, gr, gb, rowsOf_nd, by omega, rfl⟩ rfl rfl rfl) (gd_tup c (gs_cons c 6 rfl (by kspl_open loc) (by kspl_open loc) (gs_cons c 7 rfl (by kspl_open loc) (by kspl_open loc) gs_nil rfl) rfl) rfl rfl) rfl rfl rfl rfl ?_
    refine sd_asgL c 8 rfl (.inl rfl) (.inl rfl) (Nat.le_of_ble_eq_true rfl) (el_call c Fc (by decide) rfl (ad_cons (ed_var c 2 rfl (.inl rfl) rfl rfl rfl) (ad_cons (ed_var c 3 rfl (.inl rfl) rfl rfl rfl) (ad_cons (ed_var c 5 rfl (.inl rfl) rfl rfl rfl) ad_nil rfl) rfl) rfl) hRc rfl rfl rfl) rfl ?_
    refine sd_asgL c 9 rfl (.inl rfl) (.inl rfl) (Nat.le_of_ble_eq_true rfl) (el_call c Ff (by decide) rfl (ad_cons (ed_var c 2 rfl (.inl rfl) rfl rfl rfl) (ad_cons (ed_var c 3 rfl (.inl rfl) rfl rfl rfl) (ad_cons (ed_var c 5 rfl (.inl rfl) rfl rfl rfl) ad_nil rfl) rfl) rfl) hRf rfl rfl rfl) rfl ?_
    rw [hth]
    show SD X [.dat (.list (ns.map .int)), .rng A A' r3, .dat (eBook B), .dat (ePost ps), .dat (.int (i : Int)), .dat (.tuple (bs.map eP2)), .dat (.list (fl B.n (spread B (rowsOf ps) bs))), .dat (.list ((days B (rowsOf ps) bs 260).fls.map eR3)), .own (fl B.n (spread B (rowsOf ps) bs)), .own ((flightsF B (rowsOf ps) bs).map eR3), .no] _ _
    generalize (days B (rowsOf ps) bs 260).fls = fls at hso hpl ⊢
    generalize flightsF B (rowsOf ps) bs = FF at hso hpl hfl hRf ⊢
    generalize spread B (rowsOf ps) bs = S at hRc sfl ⊢
    have hff : (List.range B.n).filter (fun _ => false) = [] := List.filter_eq_nil_iff.mpr (fun _ _ z => by cases z)
    refine sd_ifF (td_thaw 8 rfl (td_to (td_w (wd_or (td_not (td_val (ed_isi (b := true) c rfl M.b_isinstance (ed_var c 8 rfl (.inl rfl) rfl rfl rfl) rfl M.b_list PyProof.Rows.boot_list rfl (by decide) rfl rfl rfl rfl) (fun _ => rfl))) (fun _ => (wd_or (td_cmp (ed_var c 8 rfl (.inl rfl) rfl rfl rfl) (ed_var c 6 rfl (.inl rfl) rfl rfl rfl) (cd_neD c sfl sfl) (nomark _)) (fun _ => (wd_or1 (td_cmp (ed_el (el_filter c [("_law_one", 10)] (xs := List.range B.n) (enc := fun (i : Nat) => oD (S (i : Int))) (fun _ => false) (fun (i : Nat) => oD (S (i : Int))) (by decide +kernel) rfl (id_seq (ed_var c 8 rfl (.inl rfl) rfl rfl rfl) rfl) (all1 ⟨_, rfl, .inl rfl⟩) (fun X' c2 => gd_name c2 10 rfl (by kspl_open loc) (by kspl_open loc)) (Nat.lt_of_lt_of_le (show (List.range B.n).length < 1000 by rw [List.length_range]; omega) (Nat.le_of_ble_eq_true rfl)) (fun x hx => ⟨_, rfl, fun X' c2 => ts_one (td_val (ed_isi (b := false) c2 rfl M.b_isinstance (ed_var c2 10 rfl (by kspl_open vis) rfl rfl rfl) rfl M.b_bool PyProof.Rows.boot_bool (by cases S (x : Int) <;> rfl) (by decide) rfl rfl rfl rfl) (fun _ => rfl)), ⟨.inr rfl, .inr rfl, .inr rfl, .inr rfl, .inr rfl, .inr rfl, .inr rfl, .inr rfl, .inr rfl, .inr rfl, .inl rfl, trivial⟩, fun _ X' c2 => ed_var c2 10 rfl (by kspl_open vis) rfl rfl rfl⟩) (fun _ => rfl))) (ed_el (el_lst ad_nil (Nat.le_of_ble_eq_true rfl))) (cd_neD c (by rw [hff]; exact Shp.ok (n := 1) (.list allN) (by decide)) (Shp.ok (n := 1) (.list allN) (by decide))) (nomark _))))))))
      (show _ = false by
        rw [hff, eqv_refl nb_fl]
        rfl))) (sd_nil ?_)
    refine sd_ifF (td_thaw 9 rfl (td_to (td_w (wd_or (td_not (td_val (ed_isi (b := true) c rfl M.b_isinstance (ed_var c 9 rfl (.inl rfl) rfl rfl rfl) rfl M.b_list PyProof.Rows.boot_list rfl (by decide) rfl rfl rfl rfl) (fun _ => rfl))) (fun _ => (wd_or1 (td_cmp (ed_var c 9 rfl (.inl rfl) rfl rfl rfl) (ed_el (el_sortedKey c L rfl M.b_sorted (bs := fls) (enc := fun x => [x.1, x.2.1, x.2.2]) (fi := fun x => x.2.1) (fj := fun x => x.1) (ed_var c 7 rfl (.inl rfl) rfl rfl rfl) (.inl rfl) (fun _ _ => rfl) (fun _ _ => rfl) (fun _ _ => (by decide : 3 < 1000)) rfl (by decide +kernel) (fun _ _ _ _ _ => rfl) rfl rfl rfl (by decide +kernel) rfl rfl rfl)) (cd_neD c (shp_R3s FF) (shp_R3s _)) (nomark _))))))
      (show _ = false by
        show (!true || !PyData.eqv (.list (FF.map eR3)) (.list ((fls.mergeSort kle).map eR3))) = false
        rw [hso, eqv_refl (nb_list (allM fun a _ => nb_R3 a))]
        rfl))) (sd_nil ?_)
    refine sd_append c 8 rfl (.inl rfl) ed_int rfl rfl (by
      rw [show (fl B.n S).length = B.n by unfold fl; rw [List.length_map, List.length_range]]
      exact Nat.lt_of_lt_of_le (show B.n < 1000 by omega) (Nat.le_of_ble_eq_true rfl)) ?_ rfl rfl rfl rfl rfl rfl
    refine sd_append c 9 rfl (.inl rfl) (ed_tup ad_nil (Nat.le_of_ble_eq_true rfl)) rfl rfl (by
      rw [List.length_map]
      exact Nat.lt_of_lt_of_le (show FF.length < 1000 by omega) (Nat.le_of_ble_eq_true rfl)) ?_ rfl rfl rfl rfl rfl rfl
    refine sd_ifF (td_to (td_w (wd_or (td_cmp (ed_el (el_call c Fc (by decide) rfl (ad_cons (ed_var c 2 rfl (.inl rfl) rfl rfl rfl) (ad_cons (ed_var c 3 rfl (.inl rfl) rfl rfl rfl) (ad_cons (ed_var c 5 rfl (.inl rfl) rfl rfl rfl) ad_nil rfl) rfl) rfl) hRc rfl rfl rfl)) (ed_var c 6 rfl (.inl rfl) rfl rfl rfl) (cd_neD c sfl sfl) (nomark _)) (fun _ => (wd_or1 (td_cmp (ed_callB c rfl M.b_len PySem.boot_len (ad_cons (ed_el (el_call c Ff (by decide) rfl (ad_cons (ed_var c 2 rfl (.inl rfl) rfl rfl rfl) (ad_cons (ed_var c 3 rfl (.inl rfl) rfl rfl rfl) (ad_cons (ed_var c 5 rfl (.inl rfl) rfl rfl rfl) ad_nil rfl) rfl) rfl) hRf rfl rfl rfl)) ad_nil rfl) cl_lenL (by decide) rfl rfl rfl) (ed_callB c rfl M.b_len PySem.boot_len (ad_cons (ed_var c 7 rfl (.inl rfl) rfl rfl rfl) ad_nil rfl) cl_lenL (by decide) rfl rfl rfl) cd_neI (nomark _))))))
      (show _ = false by
        show (!PyData.eqv (.list (fl B.n S)) (.list (fl B.n S)) || !decide (((FF.map eR3).length : Int) = ((fls.map eR3).length : Int))) = false
        rw [eqv_refl nb_fl, List.length_map, List.length_map, decide_eq_true (show ((FF.length : Nat) : Int) = (fls.length : Int) by omega)]
        rfl)) (sd_nil ?_)
    exact sd_weak (ls := [_, _, _, _, .no, .no, .no, .no, .no, .no, .no]) ⟨.inr rfl, .inr rfl, .inr rfl, .inr rfl, .inl rfl, .inl rfl, .inl rfl, .inl rfl, .inl rfl, .inl rfl, .inl rfl, trivial⟩ (sd_nil ⟨r3, rfl⟩)
  · obtain ⟨r, rfl⟩ := hF
    exact sd_ret ed_bl rfl
theorem law_R (ns : List Int) (h : ns.length ≤ 63) : R_law [.list (ns.map .int)] (.bool true) := ⟨ns, rfl, h, rfl⟩
end
end K
namespace K
open PySem L2 Z
theorem walk {l : PySem.W.OpenLaw} {q : Program} {loose : List Str} {XP : (Str → Option Value) → Heap → Prop} {YP : World → Heap → Prop} {d : DefRec} {K : Params → PySem.W.Frag} {ts : List Addr} (hn : l.most = some 63) (hdf : d.params.defaults = [])
    (hY : ∀ (w : World) (h : Heap), YP w h → (K w.params).In h ∧ ∀ P ∈ ts, h.get? P = some (PySem.W.tabObj #[]))
    (F : ∀ (w : World) (mg : Str → Option Value) (fa : Addr) (h : Heap), (K w.params).In h → h.Ns mainGlobals mg → mg d.name = some (.ref fa) →
      ∃ L : LamC, L.tt ∈ ts ∧ PySem.W.codeHdIn (K w.params) L.cc L.tt = true ∧ (K w.params).lookup L.tt = none ∧ Md (K w.params) mg ∧ ∃ f fd, FunC (K w.params) "law" s_law f fd LamC.cc ∧ mg "law" = some (.ref f) ∧ (∀ (s : Shared) (v : Value), BindsTo s fd ⟨[v], []⟩ [("_law_script", v)])) (hx : d.name = "law") :
    PySem.W.WalkO q loose XP YP l.row.toRowW d [] (fun f vs => PySem.call f vs) :=
  LamX.walk_ofTs (n := 63) (k := 9) (x := "_law_script") (CX := fun _ => L2.CX0) hn (by decide) hdf ⟨rfl, by decide, by decide⟩ (fun w h Y => (hY w h Y).1) (fun w mg fa h Y X G hm => by
    obtain ⟨L, h1, h2, h3, M, f, fd, Fu, hf, hb⟩ := F w mg fa h X G hm
    rw [hx, hf] at hm
    cases hm
    have hT := (hY w h Y).2 _ h1
    exact ⟨fd, [(L.cc, L.tt)], spP (K w.params) R_law, fun p hp => by rw [List.mem_singleton.mp hp]; exact hT, fun p hp => by rw [List.mem_singleton.mp hp]; exact h3, fun p hp => by rw [List.mem_singleton.mp hp]; exact PySem.W.codeHd_of_K X h2, hb,
      fun H a ns hl _ hP hS => sp_law law_R H a ns hl (fun p hp => by rw [List.mem_singleton.mp (show p ∈ [_] from hp)]; exact LamX.TabS.nil (hP _ (List.mem_singleton.mpr rfl))) hS, fun base _ _ TB => ok_law M Fu (TB _ (List.mem_singleton.mpr rfl))⟩) fun _ _ _ _ _ z => z
section
variable {K : PySem.W.Frag}
theorem md_mk {h : Heap} {mg : Str → Option Value} (X : K.In h) (G : h.Ns mainGlobals mg)
    {f0 f1 f2 f3 f4 f5 f6 f7 f8 f9 f10 f11 f12 f13 f14 f15 f16 f17 f18 f19 f20 f21 f22 f23 f24 : Addr} {od0 an0 od1 an1 od2 an2 od3 an3 od4 an4 od5 an5 od6 an6 od7 an7 od8 an8 od9 an9 od10 an10 od11 an11 od12 an12 od13 an13 od14 an14 od15 an15 od16 an16 od17 an17 od18 an18 od19 an19 od20 an20 od21 an21 od22 an22 od23 an23 od24 an24 : Option Addr} {sl0 sl1 sl2 sl3 sl4 sl5 sl6 sl7 sl8 sl9 sl10 sl11 sl12 sl13 sl14 sl15 sl16 sl17 sl18 sl19 sl20 sl21 sl22 sl23 sl24 : Array (Option Value)} {oc0 kV0 dc0 pm0 ct0 cd0 oc1 kV1 dc1 pm1 ct1 cd1 oc2 kV2 dc2 pm2 ct2 cd2 oc3 kV3 dc3 pm3 ct3 cd3 oc4 kV4 dc4 pm4 ct4 cd4 oc5 kV5 dc5 pm5 ct5 cd5 oc6 kV6 dc6 pm6 ct6 cd6 oc7 kV7 dc7 pm7 ct7 cd7 oc8 kV8 dc8 pm8 ct8 cd8 oc9 kV9 dc9 pm9 ct9 cd9 oc10 kV10 dc10 pm10 ct10 cd10 oc11 kV11 dc11 pm11 ct11 cd11 oc12 kV12 dc12 pm12 ct12 cd12 oc13 kV13 dc13 pm13 ct13 cd13 oc14 kV14 dc14 pm14 ct14 cd14 oc15 kV15 dc15 pm15 ct15 cd15 oc16 kV16 dc16 pm16 ct16 cd16 oc17 kV17 dc17 pm17 ct17 cd17 oc18 kV18 dc18 pm18 ct18 cd18 oc19 kV19 dc19 pm19 ct19 cd19 oc20 kV20 dc20 pm20 ct20 cd20 oc21 kV21 dc21 pm21 ct21 cd21 oc22 kV22 dc22 pm22 ct22 cd22 oc23 kV23 dc23 pm23 ct23 cd23 oc24 kV24 dc24 pm24 ct24 : Value} {cc tt : Addr} {ts : List Addr}
    (a0 : PySem.W.nsIn K mainGlobals "need" = some (some (.ref f0))) (l0 : K.lookup f0 = some ⟨oc0, od0, .func (PySem.W.fnOf "need" "need" (defArgs s_need) (defBody s_need) (defScope s_need) .none kV0 dc0 pm0 an0 cd0 ct0), sl0⟩) (c0 : PySem.W.codeIn K cd0 "need" = true) (k0 : PySem.W.keepIn K (.ref f0) = true)
    (a1 : PySem.W.nsIn K mainGlobals "is_office" = some (some (.ref f1))) (l1 : K.lookup f1 = some ⟨oc1, od1, .func (PySem.W.fnOf "is_office" "is_office" (defArgs s_is_office) (defBody s_is_office) (defScope s_is_office) .none kV1 dc1 pm1 an1 cd1 ct1), sl1⟩) (c1 : PySem.W.codeIn K cd1 "is_office" = true) (k1 : PySem.W.keepIn K (.ref f1) = true)
    (a2 : PySem.W.nsIn K mainGlobals "need_flights" = some (some (.ref f2))) (l2 : K.lookup f2 = some ⟨oc2, od2, .func (PySem.W.fnOf "need_flights" "need_flights" (defArgs s_need_flights) (defBody s_need_flights) (defScope s_need_flights) .none kV2 dc2 pm2 an2 cd2 ct2), sl2⟩) (c2 : PySem.W.codeIn K cd2 "need_flights" = true) (k2 : PySem.W.keepIn K (.ref f2) = true)
    (a3 : PySem.W.nsIn K mainGlobals "need_rows" = some (some (.ref f3))) (l3 : K.lookup f3 = some ⟨oc3, od3, .func (PySem.W.fnOf "need_rows" "need_rows" (defArgs s_need_rows) (defBody s_need_rows) (defScope s_need_rows) .none kV3 dc3 pm3 an3 cd3 ct3), sl3⟩) (c3 : PySem.W.codeIn K cd3 "need_rows" = true) (k3 : PySem.W.keepIn K (.ref f3) = true)
    (a4 : PySem.W.nsIn K mainGlobals "need_book" = some (some (.ref f4))) (l4 : K.lookup f4 = some ⟨oc4, od4, .func (PySem.W.fnOf "need_book" "need_book" (defArgs s_need_book) (defBody s_need_book) (defScope s_need_book) .none kV4 dc4 pm4 an4 cd4 ct4), sl4⟩) (c4 : PySem.W.codeIn K cd4 "need_book" = true) (k4 : PySem.W.keepIn K (.ref f4) = true)
    (a5 : PySem.W.nsIn K mainGlobals "need_posting" = some (some (.ref f5))) (l5 : K.lookup f5 = some ⟨oc5, od5, .func (PySem.W.fnOf "need_posting" "need_posting" (defArgs s_need_posting) (defBody s_need_posting) (defScope s_need_posting) .none kV5 dc5 pm5 an5 cd5 ct5), sl5⟩) (c5 : PySem.W.codeIn K cd5 "need_posting" = true) (k5 : PySem.W.keepIn K (.ref f5) = true)
    (a6 : PySem.W.nsIn K mainGlobals "need_office" = some (some (.ref f6))) (l6 : K.lookup f6 = some ⟨oc6, od6, .func (PySem.W.fnOf "need_office" "need_office" (defArgs s_need_office) (defBody s_need_office) (defScope s_need_office) .none kV6 dc6 pm6 an6 cd6 ct6), sl6⟩) (c6 : PySem.W.codeIn K cd6 "need_office" = true) (k6 : PySem.W.keepIn K (.ref f6) = true)
    (a7 : PySem.W.nsIn K mainGlobals "is_barred" = some (some (.ref f7))) (l7 : K.lookup f7 = some ⟨oc7, od7, .func (PySem.W.fnOf "is_barred" "is_barred" (defArgs s_is_barred) (defBody s_is_barred) (defScope s_is_barred) .none kV7 dc7 pm7 an7 cd7 ct7), sl7⟩) (c7 : PySem.W.codeIn K cd7 "is_barred" = true) (k7 : PySem.W.keepIn K (.ref f7) = true)
    (a8 : PySem.W.nsIn K mainGlobals "let_go" = some (some (.ref f8))) (l8 : K.lookup f8 = some ⟨oc8, od8, .func (PySem.W.fnOf "let_go" "let_go" (defArgs s_let_go) (defBody s_let_go) (defScope s_let_go) .none kV8 dc8 pm8 an8 cd8 ct8), sl8⟩) (c8 : PySem.W.codeIn K cd8 "let_go" = true) (k8 : PySem.W.keepIn K (.ref f8) = true)
    (a9 : PySem.W.nsIn K mainGlobals "comes" = some (some (.ref f9))) (l9 : K.lookup f9 = some ⟨oc9, od9, .func (PySem.W.fnOf "comes" "comes" (defArgs s_comes) (defBody s_comes) (defScope s_comes) .none kV9 dc9 pm9 an9 cd9 ct9), sl9⟩) (c9 : PySem.W.codeIn K cd9 "comes" = true) (k9 : PySem.W.keepIn K (.ref f9) = true)
    (a10 : PySem.W.nsIn K mainGlobals "need_begins" = some (some (.ref f10))) (l10 : K.lookup f10 = some ⟨oc10, od10, .func (PySem.W.fnOf "need_begins" "need_begins" (defArgs s_need_begins) (defBody s_need_begins) (defScope s_need_begins) .none kV10 dc10 pm10 an10 cd10 ct10), sl10⟩) (c10 : PySem.W.codeIn K cd10 "need_begins" = true) (k10 : PySem.W.keepIn K (.ref f10) = true)
    (a11 : PySem.W.nsIn K mainGlobals "posted" = some (some (.ref f11))) (l11 : K.lookup f11 = some ⟨oc11, od11, .func (PySem.W.fnOf "posted" "posted" (defArgs s_posted) (defBody s_posted) (defScope s_posted) .none kV11 dc11 pm11 an11 cd11 ct11), sl11⟩) (c11 : PySem.W.codeIn K cd11 "posted" = true) (k11 : PySem.W.keepIn K (.ref f11) = true)
    (a12 : PySem.W.nsIn K mainGlobals "spread" = some (some (.ref f12))) (l12 : K.lookup f12 = some ⟨oc12, od12, .func (PySem.W.fnOf "spread" "spread" (defArgs s_spread) (defBody s_spread) (defScope s_spread) .none kV12 dc12 pm12 an12 cd12 ct12), sl12⟩) (c12 : PySem.W.codeIn K cd12 "spread" = true) (k12 : PySem.W.keepIn K (.ref f12) = true)
    (a13 : PySem.W.nsIn K mainGlobals "reach" = some (some (.ref f13))) (l13 : K.lookup f13 = some ⟨oc13, od13, .func (PySem.W.fnOf "reach" "reach" (defArgs s_reach) (defBody s_reach) (defScope s_reach) .none kV13 dc13 pm13 an13 cd13 ct13), sl13⟩) (c13 : PySem.W.codeIn K cd13 "reach" = true) (k13 : PySem.W.keepIn K (.ref f13) = true)
    (a14 : PySem.W.nsIn K mainGlobals "flights_of" = some (some (.ref f14))) (l14 : K.lookup f14 = some ⟨oc14, od14, .func (PySem.W.fnOf "flights_of" "flights_of" (defArgs s_flights_of) (defBody s_flights_of) (defScope s_flights_of) .none kV14 dc14 pm14 an14 cd14 ct14), sl14⟩) (c14 : PySem.W.codeIn K cd14 "flights_of" = true) (k14 : PySem.W.keepIn K (.ref f14) = true)
    (a15 : PySem.W.nsIn K mainGlobals "flown" = some (some (.ref f15))) (l15 : K.lookup f15 = some ⟨oc15, od15, .func (PySem.W.fnOf "flown" "flown" (defArgs s_flown) (defBody s_flown) (defScope s_flown) .none kV15 dc15 pm15 an15 cd15 ct15), sl15⟩) (c15 : PySem.W.codeIn K cd15 "flown" = true) (k15 : PySem.W.keepIn K (.ref f15) = true)
    (a16 : PySem.W.nsIn K mainGlobals "_law_next" = some (some (.ref f16))) (l16 : K.lookup f16 = some ⟨oc16, od16, .func (PySem.W.fnOf "_law_next" "_law_next" (defArgs s__law_next) (defBody s__law_next) (defScope s__law_next) .none kV16 dc16 pm16 an16 cd16 ct16), sl16⟩) (c16 : PySem.W.codeIn K cd16 "_law_next" = true) (k16 : PySem.W.keepIn K (.ref f16) = true)
    (a17 : PySem.W.nsIn K mainGlobals "_law_hours" = some (some (.ref f17))) (l17 : K.lookup f17 = some ⟨oc17, od17, .func (PySem.W.fnOf "_law_hours" "_law_hours" (defArgs s__law_hours) (defBody s__law_hours) (defScope s__law_hours) .none kV17 dc17 pm17 an17 cd17 ct17), sl17⟩) (c17 : PySem.W.codeIn K cd17 "_law_hours" = true) (k17 : PySem.W.keepIn K (.ref f17) = true)
    (a18 : PySem.W.nsIn K mainGlobals "_law_book" = some (some (.ref f18))) (l18 : K.lookup f18 = some ⟨oc18, od18, .func (PySem.W.fnOf "_law_book" "_law_book" (defArgs s__law_book) (defBody s__law_book) (defScope s__law_book) .none kV18 dc18 pm18 an18 cd18 ct18), sl18⟩) (c18 : PySem.W.codeIn K cd18 "_law_book" = true) (k18 : PySem.W.keepIn K (.ref f18) = true)
    (a19 : PySem.W.nsIn K mainGlobals "_law_posting" = some (some (.ref f19))) (l19 : K.lookup f19 = some ⟨oc19, od19, .func (PySem.W.fnOf "_law_posting" "_law_posting" (defArgs s__law_posting) (defBody s__law_posting) (defScope s__law_posting) .none kV19 dc19 pm19 an19 cd19 ct19), sl19⟩) (c19 : PySem.W.codeIn K cd19 "_law_posting" = true) (k19 : PySem.W.keepIn K (.ref f19) = true)
    (a20 : PySem.W.nsIn K mainGlobals "_law_begins" = some (some (.ref f20))) (l20 : K.lookup f20 = some ⟨oc20, od20, .func (PySem.W.fnOf "_law_begins" "_law_begins" (defArgs s__law_begins) (defBody s__law_begins) (defScope s__law_begins) .none kV20 dc20 pm20 an20 cd20 ct20), sl20⟩) (c20 : PySem.W.codeIn K cd20 "_law_begins" = true) (k20 : PySem.W.keepIn K (.ref f20) = true)
    (a21 : PySem.W.nsIn K mainGlobals "_law_barred" = some (some (.ref f21))) (l21 : K.lookup f21 = some ⟨oc21, od21, .func (PySem.W.fnOf "_law_barred" "_law_barred" (defArgs s__law_barred) (defBody s__law_barred) (defScope s__law_barred) .none kV21 dc21 pm21 an21 cd21 ct21), sl21⟩) (c21 : PySem.W.codeIn K cd21 "_law_barred" = true) (k21 : PySem.W.keepIn K (.ref f21) = true)
    (a22 : PySem.W.nsIn K mainGlobals "_law_days" = some (some (.ref f22))) (l22 : K.lookup f22 = some ⟨oc22, od22, .func (PySem.W.fnOf "_law_days" "_law_days" (defArgs s__law_days) (defBody s__law_days) (defScope s__law_days) .none kV22 dc22 pm22 an22 cd22 ct22), sl22⟩) (c22 : PySem.W.codeIn K cd22 "_law_days" = true) (k22 : PySem.W.keepIn K (.ref f22) = true)
    (a23 : PySem.W.nsIn K mainGlobals "_law_rows" = some (some (.ref f23))) (l23 : K.lookup f23 = some ⟨oc23, od23, .func (PySem.W.fnOf "_law_rows" "_law_rows" (defArgs s__law_rows) (defBody s__law_rows) (defScope s__law_rows) .none kV23 dc23 pm23 an23 cd23 ct23), sl23⟩) (c23 : PySem.W.codeIn K cd23 "_law_rows" = true) (k23 : PySem.W.keepIn K (.ref f23) = true)
    (a24 : PySem.W.nsIn K mainGlobals "law" = some (some (.ref f24))) (l24 : K.lookup f24 = some ⟨oc24, od24, .func (PySem.W.fnOf "law" "law" (defArgs s_law) (defBody s_law) (defScope s_law) .none kV24 dc24 pm24 an24 (.ref cc) ct24), sl24⟩) (c24 : PySem.W.codeIn K (.ref cc) "law" = true) (k24 : PySem.W.keepIn K (.ref f24) = true)
    (n0 : ∃ t, PySem.W.nsIn K mainGlobals "LEAST_OFFICES" = some (some (.int 2 t)))
    (n1 : ∃ t, PySem.W.nsIn K mainGlobals "MOST_OFFICES" = some (some (.int 6 t)))
    (n2 : ∃ t, PySem.W.nsIn K mainGlobals "MOST_FLIGHT" = some (some (.int 9 t)))
    (n3 : ∃ t, PySem.W.nsIn K mainGlobals "MOST_STORMS" = some (some (.int 8 t)))
    (n4 : ∃ t, PySem.W.nsIn K mainGlobals "MOST_CARTS" = some (some (.int 12 t)))
    (n5 : ∃ t, PySem.W.nsIn K mainGlobals "MOST_BIRDS" = some (some (.int 6 t)))
    (n6 : ∃ t, PySem.W.nsIn K mainGlobals "MOST_HOUR" = some (some (.int 99 t)))
    (n7 : ∃ t, PySem.W.nsIn K mainGlobals "FLIGHTS" = some (some (.int 0 t)))
    (n8 : ∃ t, PySem.W.nsIn K mainGlobals "STORMS" = some (some (.int 1 t)))
    (n9 : ∃ t, PySem.W.nsIn K mainGlobals "CARTS" = some (some (.int 2 t)))
    (n10 : ∃ t, PySem.W.nsIn K mainGlobals "BIRDS" = some (some (.int 3 t)))
    (z0 : PySem.W.nsIn K mainGlobals "bool" = some none)
    (z1 : PySem.W.nsIn K mainGlobals "enumerate" = some none)
    (z2 : PySem.W.nsIn K mainGlobals "int" = some none)
    (z3 : PySem.W.nsIn K mainGlobals "isinstance" = some none)
    (z4 : PySem.W.nsIn K mainGlobals "len" = some none)
    (z5 : PySem.W.nsIn K mainGlobals "list" = some none)
    (z6 : PySem.W.nsIn K mainGlobals "max" = some none)
    (z7 : PySem.W.nsIn K mainGlobals "min" = some none)
    (z8 : PySem.W.nsIn K mainGlobals "range" = some none)
    (z9 : PySem.W.nsIn K mainGlobals "sorted" = some none)
    (z10 : PySem.W.nsIn K mainGlobals "tuple" = some none)
    (hts : tt ∈ ts) (hh : PySem.W.codeHdIn K cc tt = true) (ht : K.lookup tt = none)
    : ∃ L : LamC, L.tt ∈ ts ∧ PySem.W.codeHdIn K L.cc L.tt = true ∧ K.lookup L.tt = none ∧ Md K mg ∧ ∃ f fd, FunC K "law" s_law f fd LamC.cc ∧ mg "law" = some (.ref f) ∧ (∀ (s : Shared) (v : Value), BindsTo s fd ⟨[v], []⟩ [("_law_script", v)]) := by
  letI L : LamC := ⟨cc, tt⟩
  exact ⟨L, hts, hh, ht, {
    c_LEAST_OFFICES := let ⟨t, e⟩ := n0; ⟨t, PySem.W.mg_of X G e⟩
    c_MOST_OFFICES := let ⟨t, e⟩ := n1; ⟨t, PySem.W.mg_of X G e⟩
    c_MOST_FLIGHT := let ⟨t, e⟩ := n2; ⟨t, PySem.W.mg_of X G e⟩
    c_MOST_STORMS := let ⟨t, e⟩ := n3; ⟨t, PySem.W.mg_of X G e⟩
    c_MOST_CARTS := let ⟨t, e⟩ := n4; ⟨t, PySem.W.mg_of X G e⟩
    c_MOST_BIRDS := let ⟨t, e⟩ := n5; ⟨t, PySem.W.mg_of X G e⟩
    c_MOST_HOUR := let ⟨t, e⟩ := n6; ⟨t, PySem.W.mg_of X G e⟩
    c_FLIGHTS := let ⟨t, e⟩ := n7; ⟨t, PySem.W.mg_of X G e⟩
    c_STORMS := let ⟨t, e⟩ := n8; ⟨t, PySem.W.mg_of X G e⟩
    c_CARTS := let ⟨t, e⟩ := n9; ⟨t, PySem.W.mg_of X G e⟩
    c_BIRDS := let ⟨t, e⟩ := n10; ⟨t, PySem.W.mg_of X G e⟩
    d_need := have F := L2.fun_mk (st := s_need) l0 c0 k0; ⟨_, _, F, PySem.W.mg_of X G a0, F.binds fun _ _ _ _ _ _ us hl => match us, hl with | [_, _], _ => rfl⟩
    d_is_office := have F := L2.fun_mk (st := s_is_office) l1 c1 k1; ⟨_, _, F, PySem.W.mg_of X G a1, F.binds fun _ _ _ _ _ _ us hl => match us, hl with | [_, _], _ => rfl⟩
    d_need_flights := have F := L2.fun_mk (st := s_need_flights) l2 c2 k2; ⟨_, _, F, PySem.W.mg_of X G a2, F.binds fun _ _ _ _ _ _ us hl => match us, hl with | [_], _ => rfl⟩
    d_need_rows := have F := L2.fun_mk (st := s_need_rows) l3 c3 k3; ⟨_, _, F, PySem.W.mg_of X G a3, F.binds fun _ _ _ _ _ _ us hl => match us, hl with | [_, _, _, _], _ => rfl⟩
    d_need_book := have F := L2.fun_mk (st := s_need_book) l4 c4 k4; ⟨_, _, F, PySem.W.mg_of X G a4, F.binds fun _ _ _ _ _ _ us hl => match us, hl with | [_], _ => rfl⟩
    d_need_posting := have F := L2.fun_mk (st := s_need_posting) l5 c5 k5; ⟨_, _, F, PySem.W.mg_of X G a5, F.binds fun _ _ _ _ _ _ us hl => match us, hl with | [_, _], _ => rfl⟩
    d_need_office := have F := L2.fun_mk (st := s_need_office) l6 c6 k6; ⟨_, _, F, PySem.W.mg_of X G a6, F.binds fun _ _ _ _ _ _ us hl => match us, hl with | [_, _], _ => rfl⟩
    d_is_barred := have F := L2.fun_mk (st := s_is_barred) l7 c7 k7; ⟨_, _, F, PySem.W.mg_of X G a7, F.binds fun _ _ _ _ _ _ us hl => match us, hl with | [_, _, _, _], _ => rfl⟩
    d_let_go := have F := L2.fun_mk (st := s_let_go) l8 c8 k8; ⟨_, _, F, PySem.W.mg_of X G a8, F.binds fun _ _ _ _ _ _ us hl => match us, hl with | [_, _, _, _], _ => rfl⟩
    d_comes := have F := L2.fun_mk (st := s_comes) l9 c9 k9; ⟨_, _, F, PySem.W.mg_of X G a9, F.binds fun _ _ _ _ _ _ us hl => match us, hl with | [_, _, _, _], _ => rfl⟩
    d_need_begins := have F := L2.fun_mk (st := s_need_begins) l10 c10 k10; ⟨_, _, F, PySem.W.mg_of X G a10, F.binds fun _ _ _ _ _ _ us hl => match us, hl with | [_, _], _ => rfl⟩
    d_posted := have F := L2.fun_mk (st := s_posted) l11 c11 k11; ⟨_, _, F, PySem.W.mg_of X G a11, F.binds fun _ _ _ _ _ _ us hl => match us, hl with | [_], _ => rfl⟩
    d_spread := have F := L2.fun_mk (st := s_spread) l12 c12 k12; ⟨_, _, F, PySem.W.mg_of X G a12, F.binds fun _ _ _ _ _ _ us hl => match us, hl with | [_, _, _], _ => rfl⟩
    d_reach := have F := L2.fun_mk (st := s_reach) l13 c13 k13; ⟨_, _, F, PySem.W.mg_of X G a13, F.binds fun _ _ _ _ _ _ us hl => match us, hl with | [_, _, _], _ => rfl⟩
    d_flights_of := have F := L2.fun_mk (st := s_flights_of) l14 c14 k14; ⟨_, _, F, PySem.W.mg_of X G a14, F.binds fun _ _ _ _ _ _ us hl => match us, hl with | [_, _, _], _ => rfl⟩
    d_flown := have F := L2.fun_mk (st := s_flown) l15 c15 k15; ⟨_, _, F, PySem.W.mg_of X G a15, F.binds fun _ _ _ _ _ _ us hl => match us, hl with | [_, _, _], _ => rfl⟩
    d__law_next := have F := L2.fun_mk (st := s__law_next) l16 c16 k16; ⟨_, _, F, PySem.W.mg_of X G a16, F.binds fun _ _ _ _ _ _ us hl => match us, hl with | [_, _], _ => rfl⟩
    d__law_hours := have F := L2.fun_mk (st := s__law_hours) l17 c17 k17; ⟨_, _, F, PySem.W.mg_of X G a17, F.binds fun _ _ _ _ _ _ us hl => match us, hl with | [_, _, _], _ => rfl⟩
    d__law_book := have F := L2.fun_mk (st := s__law_book) l18 c18 k18; ⟨_, _, F, PySem.W.mg_of X G a18, F.binds fun _ _ _ _ _ _ us hl => match us, hl with | [_, _, _], _ => rfl⟩
    d__law_posting := have F := L2.fun_mk (st := s__law_posting) l19 c19 k19; ⟨_, _, F, PySem.W.mg_of X G a19, F.binds fun _ _ _ _ _ _ us hl => match us, hl with | [_, _], _ => rfl⟩
    d__law_begins := have F := L2.fun_mk (st := s__law_begins) l20 c20 k20; ⟨_, _, F, PySem.W.mg_of X G a20, F.binds fun _ _ _ _ _ _ us hl => match us, hl with | [_, _], _ => rfl⟩
    d__law_barred := have F := L2.fun_mk (st := s__law_barred) l21 c21 k21; ⟨_, _, F, PySem.W.mg_of X G a21, F.binds fun _ _ _ _ _ _ us hl => match us, hl with | [_, _, _, _], _ => rfl⟩
    d__law_days := have F := L2.fun_mk (st := s__law_days) l22 c22 k22; ⟨_, _, F, PySem.W.mg_of X G a22, F.binds fun _ _ _ _ _ _ us hl => match us, hl with | [_, _, _], _ => rfl⟩
    d__law_rows := have F := L2.fun_mk (st := s__law_rows) l23 c23 k23; ⟨_, _, F, PySem.W.mg_of X G a23, F.binds fun _ _ _ _ _ _ us hl => match us, hl with | [_], _ => rfl⟩
    b_bool := PySem.W.mg_none_of X G z0
    b_enumerate := PySem.W.mg_none_of X G z1
    b_int := PySem.W.mg_none_of X G z2
    b_isinstance := PySem.W.mg_none_of X G z3
    b_len := PySem.W.mg_none_of X G z4
    b_list := PySem.W.mg_none_of X G z5
    b_max := PySem.W.mg_none_of X G z6
    b_min := PySem.W.mg_none_of X G z7
    b_range := PySem.W.mg_none_of X G z8
    b_sorted := PySem.W.mg_none_of X G z9
    b_tuple := PySem.W.mg_none_of X G z10
    }, 
  ⟨f24, _, fun_mkC (st := s_law) l24 c24 k24, PySem.W.mg_of X G a24, fun s v => .of_eq rfl⟩⟩
end
end K
open PySem PySem.W PyProof.Rows in
set_option maxRecDepth 100000 in
set_option maxHeartbeats 0 in
theorem PySem.Challenge.cw_homingpost_k04_whole_letters_spread_holds : PySem.Challenge.rw_homingpost_k04_whole_letters_spread.Holds := by
  w_on; o_law; k_head; (case hw => w_witness2)
  k_fill
  refine K.walk (l := PySem.Challenge.rw_homingpost_k04_whole_letters_spread) rfl rfl (fun w h Y => ⟨PySem.W.km_in_of Y, PySem.W.km_tabs_of Y⟩) ?F rfl
  case F =>
    intro w mg fa h KX G hmg
    refine' K.md_mk KX G ?a0 ?l0 ?c0 ?k0 ?a1 ?l1 ?c1 ?k1 ?a2 ?l2 ?c2 ?k2 ?a3 ?l3 ?c3 ?k3 ?a4 ?l4 ?c4 ?k4 ?a5 ?l5 ?c5 ?k5 ?a6 ?l6 ?c6 ?k6 ?a7 ?l7 ?c7 ?k7 ?a8 ?l8 ?c8 ?k8 ?a9 ?l9 ?c9 ?k9 ?a10 ?l10 ?c10 ?k10 ?a11 ?l11 ?c11 ?k11 ?a12 ?l12 ?c12 ?k12 ?a13 ?l13 ?c13 ?k13 ?a14 ?l14 ?c14 ?k14 ?a15 ?l15 ?c15 ?k15 ?a16 ?l16 ?c16 ?k16 ?a17 ?l17 ?c17 ?k17 ?a18 ?l18 ?c18 ?k18 ?a19 ?l19 ?c19 ?k19 ?a20 ?l20 ?c20 ?k20 ?a21 ?l21 ?c21 ?k21 ?a22 ?l22 ?c22 ?k22 ?a23 ?l23 ?c23 ?k23 ?a24 ?l24 ?c24 ?k24 ?n0 ?n1 ?n2 ?n3 ?n4 ?n5 ?n6 ?n7 ?n8 ?n9 ?n10 ?z0 ?z1 ?z2 ?z3 ?z4 ?z5 ?z6 ?z7 ?z8 ?z9 ?z10 ?hts ?hh ?ht
    (case a0 => k_is)
    (case l0 => k_is)
    (case c0 => k_is)
    (case k0 => k_is)
    (case a1 => k_is)
    (case l1 => k_is)
    (case c1 => k_is)
    (case k1 => k_is)
    (case a2 => k_is)
    (case l2 => k_is)
    (case c2 => k_is)
    (case k2 => k_is)
    (case a3 => k_is)
    (case l3 => k_is)
    (case c3 => k_is)
    (case k3 => k_is)
    (case a4 => k_is)
    (case l4 => k_is)
    (case c4 => k_is)
    (case k4 => k_is)
    (case a5 => k_is)
    (case l5 => k_is)
    (case c5 => k_is)
    (case k5 => k_is)
    (case a6 => k_is)
    (case l6 => k_is)
    (case c6 => k_is)
    (case k6 => k_is)
    (case a7 => k_is)
    (case l7 => k_is)
    (case c7 => k_is)
    (case k7 => k_is)
    (case a8 => k_is)
    (case l8 => k_is)
    (case c8 => k_is)
    (case k8 => k_is)
    (case a9 => k_is)
    (case l9 => k_is)
    (case c9 => k_is)
    (case k9 => k_is)
    (case a10 => k_is)
    (case l10 => k_is)
    (case c10 => k_is)
    (case k10 => k_is)
    (case a11 => k_is)
    (case l11 => k_is)
    (case c11 => k_is)
    (case k11 => k_is)
    (case a12 => k_is)
    (case l12 => k_is)
    (case c12 => k_is)
    (case k12 => k_is)
    (case a13 => k_is)
    (case l13 => k_is)
    (case c13 => k_is)
    (case k13 => k_is)
    (case a14 => k_is)
    (case l14 => k_is)
    (case c14 => k_is)
    (case k14 => k_is)
    (case a15 => k_is)
    (case l15 => k_is)
    (case c15 => k_is)
    (case k15 => k_is)
    (case a16 => k_is)
    (case l16 => k_is)
    (case c16 => k_is)
    (case k16 => k_is)
    (case a17 => k_is)
    (case l17 => k_is)
    (case c17 => k_is)
    (case k17 => k_is)
    (case a18 => k_is)
    (case l18 => k_is)
    (case c18 => k_is)
    (case k18 => k_is)
    (case a19 => k_is)
    (case l19 => k_is)
    (case c19 => k_is)
    (case k19 => k_is)
    (case a20 => k_is)
    (case l20 => k_is)
    (case c20 => k_is)
    (case k20 => k_is)
    (case a21 => k_is)
    (case l21 => k_is)
    (case c21 => k_is)
    (case k21 => k_is)
    (case a22 => k_is)
    (case l22 => k_is)
    (case c22 => k_is)
    (case k22 => k_is)
    (case a23 => k_is)
    (case l23 => k_is)
    (case c23 => k_is)
    (case k23 => k_is)
    (case a24 => k_is)
    (case l24 => k_is)
    (case c24 => k_is)
    (case k24 => k_is)
    (case n0 => exact ⟨_, by k_is⟩)
    (case n1 => exact ⟨_, by k_is⟩)
    (case n2 => exact ⟨_, by k_is⟩)
    (case n3 => exact ⟨_, by k_is⟩)
    (case n4 => exact ⟨_, by k_is⟩)
    (case n5 => exact ⟨_, by k_is⟩)
    (case n6 => exact ⟨_, by k_is⟩)
    (case n7 => exact ⟨_, by k_is⟩)
    (case n8 => exact ⟨_, by k_is⟩)
    (case n9 => exact ⟨_, by k_is⟩)
    (case n10 => exact ⟨_, by k_is⟩)
    (case z0 => k_is)
    (case z1 => k_is)
    (case z2 => k_is)
    (case z3 => k_is)
    (case z4 => k_is)
    (case z5 => k_is)
    (case z6 => k_is)
    (case z7 => k_is)
    (case z8 => k_is)
    (case z9 => k_is)
    (case z10 => k_is)
    (case hts => exact List.mem_cons_self)
    (case hh => kernel_rfl)
    (case ht => kernel_rfl)
