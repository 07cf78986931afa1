import PyProof.Rows.All
import Wide.All
import OpenK.AllK
import Wide.FinOn
import HandS.ForMost
import HandS.Walk
import HandS.Flow
import HandS.Style
import HandS.TupAny
import HandS.Evl
import HandS.Deep
import HandS.Dict
import HandS.DictComp
import KE.KExcSuper
import HandS.ExcSuper
import HandS.ExcField
import HandS.ExcCtx
import HandS.WordsExc
import HandS.IsInst
import HandS.Star
import HandS.DictEq
import HandS.DeepEq
import KE.KEqDict
import KE.KDictPairs
import KE.DatumOrd
import HandS.SetFor
import HandS.Strs
import HandS.Conv
import HandS.SortInts
import KE.KDictList
import Wide.Txt2
import HandS.More
import HandS.ListItems
import HandS.Steps
import HandS.SortKw
import KE.SortKeyHeap
import KE.DataCmp
import PySem.Challenge.RW_mastcalls_k20_whole_more
set_option Elab.async false
set_option linter.all false
set_option maxRecDepth 100000
set_option maxHeartbeats 2000000
/-! Sx: a state by descriptions: frozen data, owned cells; what an expression evaluates to; statements. -/
namespace Sx
open PySem L2 Evl

/-! ### the frozen part may grow, dicts in it may be locked and unlocked -/
def plainHO (_ : HO) : Bool := true
structure Fx (F F' : Hp) : Prop where
  pl : ∀ a u, F a = some u → plainHO u = true → F' a = some u
theorem Fx.refl (F : Hp) : Fx F F := ⟨fun _ _ h _ => h⟩
theorem Fx.trans {F F1 F2 : Hp} (a : Fx F F1) (b : Fx F1 F2) : Fx F F2 := ⟨fun x u h p => b.pl x u (a.pl x u h p) p⟩
theorem Fx.of {F F' : Hp} (h : Ex F F') : Fx F F' := ⟨fun a u e _ => h a u e⟩

structure VD where
  P : Hp → V → Prop
  mono : ∀ {F F' : Hp} {v : V}, Fx F F' → P F v → P F' v
structure CD where
  P : Hp → Addr → HO → Prop
  mono : ∀ {F F' : Hp} {p : Addr} {o : HO}, Fx F F' → F' p = F p → P F p o → P F' p o
abbrev Env := List (Option VD)
abbrev Cells := List (Addr × CD)
/-- what stands besides: of the frozen part, and more cells -/
structure Fr where
  N : Cells
  P : Hp → Prop
  mono : ∀ {F F' : Hp}, Fx F F' → P F → P F'

/-! ### data -/
mutual
inductive Rp (F : Hp) : V → PyData → Prop
  | non : Rp F .non .none
  | bl (b : Bool) : Rp F (.bl b) (.bool b)
  | int (i : Int) : Rp F (.int i) (.int i)
  | str (x : Str) : Rp F (.str x) (.str x)
  | lst {a : Addr} {xs : List V} {ds : List PyData} : F a = some (.lst xs) → RpL F xs ds → Rp F (.ref a) (.list ds)
  | tup {a : Addr} {xs : List V} {ds : List PyData} : F a = some (.tup xs) → RpL F xs ds → Rp F (.ref a) (.tuple ds)
inductive RpL (F : Hp) : List V → List PyData → Prop
  | nil : RpL F [] []
  | cons {v : V} {vs : List V} {d : PyData} {ds : List PyData} : Rp F v d → RpL F vs ds → RpL F (v :: vs) (d :: ds)
end
mutual
theorem Rp.mono {F F' : Hp} (e : Fx F F') : ∀ (d : PyData) {v : V}, Rp F v d → Rp F' v d
  | .none, _, h => by cases h; exact .non
  | .bool b, _, h => by cases h; exact .bl b
  | .int i, _, h => by cases h; exact .int i
  | .str x, _, h => by cases h; exact .str x
  | .list ds, _, h => by
    cases h with
    | lst h1 h2 => exact .lst (e.pl _ _ h1 rfl) (RpL.mono e ds h2)
  | .tuple ds, _, h => by
    cases h with
    | tup h1 h2 => exact .tup (e.pl _ _ h1 rfl) (RpL.mono e ds h2)
  | .dict _, _, h => by cases h
theorem RpL.mono {F F' : Hp} (e : Fx F F') : ∀ (ds : List PyData) {vs : List V}, RpL F vs ds → RpL F' vs ds
  | [], _, h => by cases h; exact .nil
  | d :: ds, _, h => by
    cases h with
    | cons h1 h2 => exact .cons (Rp.mono e d h1) (RpL.mono e ds h2)
end
mutual
theorem Rp.dp {K : PySem.W.Frag} {F H : Hp} (e : Ex F H) : ∀ (d : PyData) {v : V}, Rp F v d → Dp K H v d
  | .none, _, h => by cases h; exact .non
  | .bool b, _, h => by cases h; exact .bl b
  | .int i, _, h => by cases h; exact .int i
  | .str x, _, h => by cases h; exact .str x
  | .list ds, _, h => by
    cases h with
    | lst h1 h2 => exact .lst (.inl (.inl (e _ _ h1))) (RpL.dp e ds h2)
  | .tuple ds, _, h => by
    cases h with
    | tup h1 h2 => exact .tup (.inl (.inl (e _ _ h1))) (RpL.dp e ds h2)
  | .dict _, _, h => by cases h
theorem RpL.dp {K : PySem.W.Frag} {F H : Hp} (e : Ex F H) : ∀ (ds : List PyData) {vs : List V}, RpL F vs ds → DpAll K H vs ds
  | [], _, h => by cases h; exact .nil
  | d :: ds, _, h => by
    cases h with
    | cons h1 h2 => exact .cons (Rp.dp e d h1) (RpL.dp e ds h2)
end
theorem RpL.length {F : Hp} : ∀ {vs : List V} {ds : List PyData}, RpL F vs ds → vs.length = ds.length
  | _, _, .nil => rfl
  | _, _, .cons _ h => by simp [RpL.length h]
theorem RpL.get {F : Hp} : ∀ {vs : List V} {ds : List PyData} {i : Nat} {d : PyData}, RpL F vs ds → ds[i]? = some d → ∃ v, vs[i]? = some v ∧ Rp F v d
  | _, _, _, _, .nil, e => by simp at e
  | _, _, 0, _, .cons h _, e => by simp at e; subst e; exact ⟨_, rfl, h⟩
  | _, _, i + 1, d, .cons _ t, e => by
    obtain ⟨v, h1, h2⟩ := RpL.get (i := i) (d := d) t (by simpa using e)
    exact ⟨v, by simpa using h1, h2⟩
theorem RpL.getV {F : Hp} : ∀ {vs : List V} {ds : List PyData} {i : Nat} {v : V}, RpL F vs ds → vs[i]? = some v → ∃ d, ds[i]? = some d ∧ Rp F v d
  | _, _, _, _, .nil, e => by simp at e
  | _, _, 0, _, .cons h _, e => by simp at e; subst e; exact ⟨_, rfl, h⟩
  | _, _, i + 1, d, .cons _ t, e => by
    obtain ⟨v, h1, h2⟩ := RpL.getV (i := i) (v := d) t (by simpa using e)
    exact ⟨v, by simpa using h1, h2⟩
theorem RpL.append {F : Hp} : ∀ {vs ws : List V} {ds es : List PyData}, RpL F vs ds → RpL F ws es → RpL F (vs ++ ws) (ds ++ es)
  | _, _, _, _, .nil, s => s
  | _, _, _, _, .cons r t, s => .cons r (RpL.append t s)
theorem RpL.take {F : Hp} : ∀ {vs : List V} {ds : List PyData} (n : Nat), RpL F vs ds → RpL F (vs.take n) (ds.take n)
  | _, _, 0, _ => .nil
  | _, _, _ + 1, .nil => .nil
  | _, _, n + 1, .cons r t => .cons r (RpL.take n t)
theorem RpL.drop {F : Hp} : ∀ {vs : List V} {ds : List PyData} (n : Nat), RpL F vs ds → RpL F (vs.drop n) (ds.drop n)
  | _, _, 0, r => r
  | _, _, _ + 1, .nil => .nil
  | _, _, n + 1, .cons _ t => RpL.drop n t
theorem RpL.set {F : Hp} {v : V} {d : PyData} (r : Rp F v d) : ∀ {vs : List V} {ds : List PyData} (i : Nat), RpL F vs ds → RpL F (vs.set i v) (ds.set i d)
  | _, _, _, .nil => .nil
  | _, _, 0, .cons _ t => .cons r t
  | _, _, i + 1, .cons q t => .cons q (RpL.set r i t)
theorem RpL.reverse {F : Hp} : ∀ {vs : List V} {ds : List PyData}, RpL F vs ds → RpL F vs.reverse ds.reverse
  | _, _, .nil => .nil
  | _, _, .cons r t => by
    rw [List.reverse_cons, List.reverse_cons]
    exact RpL.append (RpL.reverse t) (.cons r .nil)
theorem RpL.ints {F : Hp} : ∀ {vs : List V} {ns : List Int}, RpL F vs (ns.map PyData.int) → vs = ns.map V.int
  | _, [], h => by cases h; rfl
  | _, n :: ns, h => by
    cases h with
    | cons h1 h2 =>
      cases h1
      rw [RpL.ints h2]
      rfl
theorem RpL.bls {F : Hp} : ∀ {vs : List V} {ns : List Bool}, RpL F vs (ns.map PyData.bool) → vs = ns.map V.bl
  | _, [], h => by cases h; rfl
  | _, n :: ns, h => by
    cases h with
    | cons h1 h2 =>
      cases h1
      rw [RpL.bls h2]
      rfl
theorem RpL.strs {F : Hp} : ∀ {vs : List V} {ns : List Str}, RpL F vs (ns.map PyData.str) → vs = ns.map V.str
  | _, [], h => by cases h; rfl
  | _, n :: ns, h => by
    cases h with
    | cons h1 h2 =>
      cases h1
      rw [RpL.strs h2]
      rfl

abbrev DA (F : Hp) (ds : List VD) (vs : List V) : Prop := Paired (fun (x : VD) (v : V) => x.P F v) ds vs
theorem DA.mono {F F' : Hp} (e : Fx F F') {ds : List VD} {vs : List V} (h : DA F ds vs) : DA F' ds vs := Paired.mapP h fun x _ q => x.mono e q
theorem DA.get {F : Hp} : ∀ {ds : List VD} {vs : List V} {i : Nat} {d : VD}, DA F ds vs → ds[i]? = some d → ∃ v, vs[i]? = some v ∧ d.P F v
  | _, _, _, _, .nil, e => by simp at e
  | _, _, 0, _, .cons h _, e => by simp at e; subst e; exact ⟨_, rfl, h⟩
  | _, _, i + 1, d, .cons _ t, e => by
    obtain ⟨v, h1, h2⟩ := DA.get (i := i) (d := d) t (by simpa using e)
    exact ⟨v, by simpa using h1, h2⟩
theorem DA.append {F : Hp} : ∀ {vs ws : List V} {ds es : List VD}, DA F ds vs → DA F es ws → DA F (ds ++ es) (vs ++ ws)
  | _, _, _, _, .nil, s => s
  | _, _, _, _, .cons r t, s => .cons r (DA.append t s)
theorem DA.set {F : Hp} {v : V} {d : VD} (r : d.P F v) : ∀ {vs : List V} {ds : List VD} (i : Nat), DA F ds vs → DA F (ds.set i d) (vs.set i v)
  | _, _, _, .nil => .nil
  | _, _, 0, .cons _ t => .cons r t
  | _, _, i + 1, .cons q t => .cons q (DA.set r i t)

/-! ### descriptions of values -/
def dat (d : PyData) : VD := ⟨fun F v => Rp F v d, fun e h => h.mono e⟩
def val (v0 : V) : VD := ⟨fun _ v => v = v0, fun _ h => h⟩
def vtup (xs : List VD) : VD := ⟨fun F v => ∃ a vs, v = .ref a ∧ F a = some (.tup vs) ∧ DA F xs vs, fun e ⟨a, vs, h1, h2, h3⟩ => ⟨a, vs, h1, e.pl _ _ h2 rfl, h3.mono e⟩⟩
def vlst (xs : List VD) : VD := ⟨fun F v => ∃ a vs, v = .ref a ∧ F a = some (.lst vs) ∧ DA F xs vs, fun e ⟨a, vs, h1, h2, h3⟩ => ⟨a, vs, h1, e.pl _ _ h2 rfl, h3.mono e⟩⟩
/-- a list of ints that is only read: the script -/
def vscr (K : PySem.W.Frag) (ns : List Int) : VD := ⟨fun F v => ∃ a, v = .ref a ∧ SqL K F a (ns.map V.int), fun {F F' v} e ⟨a, h1, h2⟩ => ⟨a, h1, by
  rcases h2 with (h | ⟨o, h⟩) | h
  · exact .inl (.inl (e.pl _ _ h rfl))
  · exact .inl (.inr ⟨o, e.pl _ _ h rfl⟩)
  · exact .inr h⟩⟩
abbrev vi (i : Int) : VD := dat (.int i)
abbrev vb (b : Bool) : VD := dat (.bool b)
abbrev vt (x : Str) : VD := dat (.str x)
abbrev vn : VD := dat .none
theorem DA.of_dat {F : Hp} : ∀ {ds : List PyData} {vs : List V}, DA F (ds.map dat) vs ↔ RpL F vs ds
  | [], vs => by
    constructor
    · intro h; cases h; exact .nil
    · intro h; cases h; exact .nil
  | d :: ds, vs => by
    constructor
    · intro h
      cases h with
      | cons h1 h2 => exact .cons h1 (DA.of_dat.mp h2)
    · intro h
      cases h with
      | cons h1 h2 => exact .cons h1 (DA.of_dat.mpr h2)
theorem vtup_dat {F : Hp} {v : V} {ds : List PyData} : (vtup (ds.map dat)).P F v ↔ (dat (.tuple ds)).P F v := by
  constructor
  · rintro ⟨a, ws, rfl, h1, h2⟩
    exact .tup h1 (DA.of_dat.mp h2)
  · intro h
    cases h with
    | tup h1 h2 => exact ⟨_, _, rfl, h1, DA.of_dat.mpr h2⟩
theorem vlst_dat {F : Hp} {v : V} {ds : List PyData} : (vlst (ds.map dat)).P F v ↔ (dat (.list ds)).P F v := by
  constructor
  · rintro ⟨a, ws, rfl, h1, h2⟩
    exact .lst h1 (DA.of_dat.mp h2)
  · intro h
    cases h with
    | lst h1 h2 => exact ⟨_, _, rfl, h1, DA.of_dat.mpr h2⟩

/-! ### descriptions of cells -/
def cL (xs : List VD) : CD := ⟨fun F p o => F p = none ∧ ∃ vs, o = .lst vs ∧ DA F xs vs, fun e q ⟨h0, vs, h1, h2⟩ => ⟨q.trans h0, vs, h1, h2.mono e⟩⟩
/-- a list of data -/
def cLd (ds : List PyData) : CD := ⟨fun F p o => F p = none ∧ ∃ vs, o = .lst vs ∧ RpL F vs ds, fun e q ⟨h0, vs, h1, h2⟩ => ⟨q.trans h0, vs, h1, h2.mono e⟩⟩
def FA (F : Hp) (ns : List Str) (xs : List VD) (fs : List (Str × V)) : Prop := fs.map (·.1) = ns ∧ DA F xs (fs.map (·.2))
def cI (C : Addr) (ns : List Str) (xs : List VD) : CD := ⟨fun F p o => F p = none ∧ ∃ dx fs, o = .ins C dx fs ∧ FA F ns xs fs, fun e q ⟨h0, dx, fs, h1, h2, h3⟩ => ⟨q.trans h0, dx, fs, h1, h2, h3.mono e⟩⟩

/-! ### frames, states -/
def Fr.and (Φ : Fr) (x : VD) (v : V) : Fr := ⟨Φ.N, fun F => Φ.P F ∧ x.P F v, fun e ⟨h1, h2⟩ => ⟨Φ.mono e h1, x.mono e h2⟩⟩
def Fr.andA (Φ : Fr) (ds : List VD) (vs : List V) : Fr := ⟨Φ.N, fun F => Φ.P F ∧ DA F ds vs, fun e ⟨h1, h2⟩ => ⟨Φ.mono e h1, h2.mono e⟩⟩
def Fr.top : Fr := ⟨[], fun _ => True, fun _ h => h⟩
def Slots (F : Hp) (σ : L2.St) (ρ : Env) : Prop := σ.length = ρ.length ∧ ∀ (i : Nat) (x : VD), ρ[i]? = some (some x) → ∃ v : V, σ[i]? = some (some v) ∧ x.P F v
theorem Slots.mono {F F' : Hp} {σ : L2.St} {ρ : Env} (e : Fx F F') (h : Slots F σ ρ) : Slots F' σ ρ := ⟨h.1, fun i x q => let ⟨v, h1, h2⟩ := h.2 i x q; ⟨v, h1, x.mono e h2⟩⟩
def Fr.slots (Φ : Fr) (σ : L2.St) (ρ : Env) : Fr := ⟨Φ.N, fun F => Φ.P F ∧ Slots F σ ρ, fun e ⟨h1, h2⟩ => ⟨Φ.mono e h1, h2.mono e⟩⟩
/-- more cells besides -/
def Fr.more (Φ : Fr) (c : Addr × CD) : Fr := ⟨c :: Φ.N, Φ.P, Φ.mono⟩
structure Le (Φ Ψ : Fr) : Prop where
  n : Ψ.N.Sublist Φ.N
  p : ∀ F, Φ.P F → Ψ.P F
theorem Le.refl (Φ : Fr) : Le Φ Φ := ⟨List.Sublist.refl _, fun _ h => h⟩
theorem Le.trans {Φ Ψ Χ : Fr} (a : Le Φ Ψ) (b : Le Ψ Χ) : Le Φ Χ := ⟨b.n.trans a.n, fun F h => b.p F (a.p F h)⟩
theorem Le.of {Φ Ψ : Fr} (e : Φ.N = Ψ.N) (h : ∀ F, Φ.P F → Ψ.P F) : Le Φ Ψ := ⟨by rw [e]; exact List.Sublist.refl _, h⟩
theorem Le.and {Φ : Fr} {x : VD} {v : V} : Le (Φ.and x v) Φ := .of rfl fun _ h => h.1
theorem Le.andA {Φ : Fr} {x : List VD} {v : List V} : Le (Φ.andA x v) Φ := .of rfl fun _ h => h.1
theorem Le.slots {Φ : Fr} {x : Env} {v : L2.St} : Le (Φ.slots v x) Φ := .of rfl fun _ h => h.1
theorem Le.more {Φ : Fr} {c : Addr × CD} : Le (Φ.more c) Φ := ⟨List.sublist_cons_self _ _, fun _ h => h⟩

structure SatF (F : Hp) (Φ : Fr) (ρ : Env) (M : Cells) (σ : L2.St) (H : Hp) : Prop where
  ex : Ex F H
  fr : Φ.P F
  sl : Slots F σ ρ
  nd : ((M ++ Φ.N).map (·.1)).Nodup
  ce : ∀ c ∈ M ++ Φ.N, ∃ o, H c.1 = some o ∧ c.2.P F c.1 o
def Sat (Φ : Fr) (ρ : Env) (M : Cells) (σ : L2.St) (H : Hp) : Prop := ∃ F, SatF F Φ ρ M σ H
theorem Sat.weak {Φ Ψ : Fr} {ρ : Env} {M : Cells} {σ : L2.St} {H : Hp} (h : Sat Φ ρ M σ H) (l : Le Φ Ψ) : Sat Ψ ρ M σ H :=
  let ⟨F, s⟩ := h; ⟨F, s.ex, l.p F s.fr, s.sl, List.Pairwise.sublist ((List.Sublist.append (List.Sublist.refl M) l.n).map _) s.nd, fun c hc => s.ce c ((List.Sublist.append (List.Sublist.refl M) l.n).subset hc)⟩
theorem Sat.weak1 {Φ : Fr} {x : VD} {v : V} {ρ : Env} {M : Cells} {σ : L2.St} {H : Hp} (h : Sat (Φ.and x v) ρ M σ H) : Sat Φ ρ M σ H := h.weak Le.and
/-- a new plain object -/
theorem SatF.new {F : Hp} {Φ : Fr} {ρ : Env} {M : Cells} {σ : L2.St} {H : Hp} {p : Addr} {o : HO} (s : SatF F Φ ρ M σ H) (hp : H p = none) : SatF (upd F p o) Φ ρ M σ (upd H p o) ∧ Fx F (upd F p o) := by
  have hF : F p = none := fresh_back s.ex hp
  have fx : Fx F (upd F p o) := Fx.of (Ex.new hF)
  refine ⟨⟨fun a u e => ?_, Φ.mono fx s.fr, s.sl.mono fx, s.nd, fun c hc => ?_⟩, fx⟩
  · by_cases h : a = p
    · subst h; rw [upd_same] at e ⊢; exact e
    · rw [upd_ne h] at e ⊢; exact s.ex a u e
  · obtain ⟨u, h1, h2⟩ := s.ce c hc
    have hne : c.1 ≠ p := ne_of_none h1 hp
    exact ⟨u, by rw [upd_ne hne]; exact h1, c.2.mono fx (upd_ne hne) h2⟩
/-- the heap alone grows -/
theorem SatF.newH {F : Hp} {Φ : Fr} {ρ : Env} {M : Cells} {σ : L2.St} {H : Hp} {p : Addr} {o : HO} (s : SatF F Φ ρ M σ H) (hp : H p = none) : SatF F Φ ρ M σ (upd H p o) := by
  refine ⟨fun a u e => ?_, s.fr, s.sl, s.nd, fun c hc => ?_⟩
  · rw [upd_ne (ne_of_none (s.ex a u e) hp)]; exact s.ex a u e
  · obtain ⟨u, h1, h2⟩ := s.ce c hc
    exact ⟨u, by rw [upd_ne (ne_of_none h1 hp)]; exact h1, h2⟩
/-- a new object, owned -/
theorem SatF.newC {F : Hp} {Φ : Fr} {ρ : Env} {M : Cells} {σ : L2.St} {H : Hp} {p : Addr} {o : HO} {c : CD} (s : SatF F Φ ρ M σ H) (hp : H p = none) (hc : F p = none → c.P F p o) : SatF F Φ ρ ((p, c) :: M) σ (upd H p o) := by
  have s' := s.newH (o := o) hp
  refine ⟨s'.ex, s'.fr, s'.sl, ?_, fun d hd => ?_⟩
  · rw [List.cons_append, List.map_cons, List.nodup_cons]
    refine ⟨fun hm => ?_, s.nd⟩
    obtain ⟨d, hd, e⟩ := List.mem_map.mp hm
    obtain ⟨u, h1, _⟩ := s.ce d hd
    rw [e, hp] at h1
    cases h1
  · rcases List.mem_cons.mp hd with rfl | hd
    · exact ⟨o, upd_same, hc (fresh_back s.ex hp)⟩
    · exact s'.ce d hd

/-! ### cells: one is found; one is put in another's place -/
inductive Put (p : Addr) (c c' : CD) : Cells → Cells → Prop
  | here {l : Cells} : Put p c c' ((p, c) :: l) ((p, c') :: l)
  | there {x : Addr × CD} {l l' : Cells} : Put p c c' l l' → Put p c c' (x :: l) (x :: l')
theorem Put.mem {p : Addr} {c c' : CD} {M M' : Cells} (h : Put p c c' M M') : (p, c) ∈ M := by
  induction h with
  | here => exact List.mem_cons_self
  | there _ ih => exact List.mem_cons_of_mem _ ih
theorem Put.addrs {p : Addr} {c c' : CD} {M M' : Cells} (h : Put p c c' M M') : M'.map (·.1) = M.map (·.1) := by
  induction h with
  | here => rfl
  | there _ ih => simp [ih]
theorem Put.mem' {p : Addr} {c c' : CD} {M M' : Cells} (h : Put p c c' M M') : ∀ d ∈ M', d = (p, c') ∨ d ∈ M := by
  induction h with
  | here =>
    intro d hd
    rcases List.mem_cons.mp hd with e | hd
    · exact .inl e
    · exact .inr (List.mem_cons_of_mem _ hd)
  | there _ ih =>
    intro d hd
    rcases List.mem_cons.mp hd with e | hd
    · exact .inr (by rw [e]; exact List.mem_cons_self)
    · exact (ih d hd).imp_right (List.mem_cons_of_mem _)
theorem Put.uniq {p : Addr} {c c' : CD} {M M' : Cells} (h : Put p c c' M M') (nd : (M.map (·.1)).Nodup) : ∀ d ∈ M', d ≠ (p, c') → d.1 ≠ p := by
  induction h with
  | @here l =>
    intro d hd hne e
    rcases List.mem_cons.mp hd with q | hd
    · exact hne q
    · have := (List.nodup_cons.mp nd).1
      exact this (List.mem_map.mpr ⟨d, hd, e⟩)
  | @there x l l' hp ih =>
    intro d hd hne e
    rcases List.mem_cons.mp hd with q | hd
    · subst q
      have := (List.nodup_cons.mp nd).1
      exact this (List.mem_map.mpr ⟨(p, c), hp.mem, e.symm⟩)
    · exact ih (List.nodup_cons.mp nd).2 d hd hne e
theorem Put.app {p : Addr} {c c' : CD} {M M' : Cells} (h : Put p c c' M M') (N : Cells) : Put p c c' (M ++ N) (M' ++ N) := by
  induction h with
  | here => exact .here
  | there _ ih => exact .there ih
theorem Put.behind {p : Addr} {c c' : CD} {N N' : Cells} (h : Put p c c' N N') : ∀ M : Cells, Put p c c' (M ++ N) (M ++ N')
  | [] => h
  | _ :: M => .there (Put.behind h M)
/-- an owned cell is written -/
theorem SatF.put {F : Hp} {Φ Φ' : Fr} {ρ : Env} {M M' : Cells} {σ : L2.St} {H : Hp} {p : Addr} {o : HO} {c c' : CD} (s : SatF F Φ ρ M σ H) (h : Put p c c' (M ++ Φ.N) (M' ++ Φ'.N)) (hΦ : Φ'.P F) (hF : F p = none) (hc : c'.P F p o) : SatF F Φ' ρ M' σ (upd H p o) := by
  refine ⟨fun a u e => ?_, hΦ, s.sl, by rw [h.addrs]; exact s.nd, fun d hd => ?_⟩
  · have : a ≠ p := ne_of_none e hF
    rw [upd_ne this]; exact s.ex a u e
  · rcases Classical.em (d = (p, c')) with e | e
    · subst e; exact ⟨o, upd_same, hc⟩
    · have hne := h.uniq s.nd d hd e
      obtain ⟨u, h1, h2⟩ := s.ce d ((h.mem' d hd).resolve_left e)
      exact ⟨u, by rw [upd_ne hne]; exact h1, h2⟩
theorem SatF.put1 {F : Hp} {Φ : Fr} {ρ : Env} {M M' : Cells} {σ : L2.St} {H : Hp} {p : Addr} {o : HO} {c c' : CD} (s : SatF F Φ ρ M σ H) (h : Put p c c' M M') (hF : F p = none) (hc : c'.P F p o) : SatF F Φ ρ M' σ (upd H p o) := s.put (h.app _) s.fr hF hc
theorem SatF.at {F : Hp} {Φ : Fr} {ρ : Env} {M : Cells} {σ : L2.St} {H : Hp} {p : Addr} {c : CD} (s : SatF F Φ ρ M σ H) (h : (p, c) ∈ M) : ∃ o, H p = some o ∧ c.P F p o := s.ce _ (List.mem_append_left _ h)
theorem Put.same {p : Addr} {c : CD} : ∀ {M : Cells}, (p, c) ∈ M → Put p c c M M
  | [], h => by cases h
  | x :: l, h => by
    by_cases e : (p, c) = x
    · subst e; exact .here
    · exact .there (Put.same ((List.mem_cons.mp h).resolve_left e))

/-! ### slots -/
inductive SetAt (x : VD) : Env → Nat → Env → Prop
  | here {a : Option VD} {l : Env} : SetAt x (a :: l) 0 (some x :: l)
  | there {a : Option VD} {l l' : Env} {i : Nat} : SetAt x l i l' → SetAt x (a :: l) (i + 1) (a :: l')
theorem SetAt.eq {x : VD} {ρ ρ' : Env} {i : Nat} (h : SetAt x ρ i ρ') : ρ' = ρ.set i (some x) := by
  induction h with
  | here => rfl
  | there _ ih => simp [ih]
theorem Slots.set {F : Hp} {σ : L2.St} {ρ : Env} (h : Slots F σ ρ) {i : Nat} {x : VD} {v : V} (hv : x.P F v) : Slots F (σ.set i (some v)) (ρ.set i (some x)) := by
  refine ⟨by simp [h.1], fun j y e => ?_⟩
  by_cases q : i = j
  · subst q
    by_cases hl : i < ρ.length
    · rw [List.getElem?_set_self hl] at e
      cases e
      exact ⟨v, by rw [List.getElem?_set_self (by rw [h.1]; exact hl)], hv⟩
    · rw [List.getElem?_eq_none (by simp; omega)] at e
      cases e
  · rw [List.getElem?_set_ne q] at e
    obtain ⟨w, h1, h2⟩ := h.2 j y e
    exact ⟨w, by rw [List.getElem?_set_ne q]; exact h1, h2⟩
theorem Slots.wipe {F : Hp} {σ : L2.St} {ρ : Env} (h : Slots F σ ρ) (i : Nat) : Slots F (σ.set i none) (ρ.set i none) := by
  refine ⟨by simp [h.1], fun j y e => ?_⟩
  by_cases q : i = j
  · subst q
    by_cases hl : i < ρ.length
    · rw [List.getElem?_set_self hl] at e
      cases e
    · rw [List.getElem?_eq_none (by simp; omega)] at e
      cases e
  · rw [List.getElem?_set_ne q] at e
    obtain ⟨w, h1, h2⟩ := h.2 j y e
    exact ⟨w, by rw [List.getElem?_set_ne q]; exact h1, h2⟩
inductive At (x : VD) : Env → Nat → Prop
  | here {l : Env} : At x (some x :: l) 0
  | there {a : Option VD} {l : Env} {i : Nat} : At x l i → At x (a :: l) (i + 1)
theorem At.get {x : VD} {ρ : Env} {i : Nat} (h : At x ρ i) : ρ[i]? = some (some x) := by
  induction h with
  | here => rfl
  | there _ ih => simpa using ih

/-! ### what evaluates to what -/
def Ev (te : TE) (ρ : Env) (M : Cells) (x : VD) (M' : Cells) : Prop := ∀ (Φ : Fr) (σ : L2.St) (H : Hp) (Q : VK), Sat Φ ρ M σ H → (∀ v H', Sat (Φ.and x v) ρ M' σ H' → Q v H') → te σ H Q
def EvA (ta : TA) (ρ : Env) (M : Cells) (ds : List VD) (M' : Cells) : Prop := ∀ (Φ : Fr) (σ : L2.St) (H : Hp) (Q : List V → Hp → Prop), Sat Φ ρ M σ H → (∀ v H', Sat (Φ.andA ds v) ρ M' σ H' → Q v H') → ta σ H Q
/-- .. all of them data -/
def EvD (ta : TA) (ρ : Env) (M : Cells) (ds : List PyData) (M' : Cells) : Prop := EvA ta ρ M (ds.map dat) M'
def EvT (tt : TT) (ρ : Env) (M : Cells) (b : Bool) (M' : Cells) : Prop := ∀ (Φ : Fr) (σ : L2.St) (H : Hp) (Q : Bool → Hp → Prop), Sat Φ ρ M σ H → (∀ H', Sat Φ ρ M' σ H' → Q b H') → tt σ H Q
def EvO (to : TO) (ρ : Env) (M : Cells) (o : Option Int) (M' : Cells) : Prop := ∀ (Φ : Fr) (σ : L2.St) (H : Hp) (Q : Option Int → Hp → Prop), Sat Φ ρ M σ H → (∀ H', Sat Φ ρ M' σ H' → Q o H') → to σ H Q
def RV (r : R2) (x y : VD) (M : Cells) (z : VD) (M' : Cells) : Prop := ∀ (Φ : Fr) (ρ : Env) (σ : L2.St) (v w : V) (H : Hp) (Q : VK), Sat ((Φ.and x v).and y w) ρ M σ H → (∀ u H', Sat (Φ.and z u) ρ M' σ H' → Q u H') → r v w H Q
def RU (r : V → Hp → VK → Prop) (x : VD) (M : Cells) (z : VD) (M' : Cells) : Prop := ∀ (Φ : Fr) (ρ : Env) (σ : L2.St) (v : V) (H : Hp) (Q : VK), Sat (Φ.and x v) ρ M σ H → (∀ u H', Sat (Φ.and z u) ρ M' σ H' → Q u H') → r v H Q
def RC (r : List V → Hp → VK → Prop) (ds : List VD) (M : Cells) (z : VD) (M' : Cells) : Prop := ∀ (Φ : Fr) (ρ : Env) (σ : L2.St) (vs : List V) (H : Hp) (Q : VK), Sat (Φ.andA ds vs) ρ M σ H → (∀ u H', Sat (Φ.and z u) ρ M' σ H' → Q u H') → r vs H Q
def RM (r : V → List V → Hp → VK → Prop) (x : VD) (ds : List VD) (M : Cells) (z : VD) (M' : Cells) : Prop := ∀ (Φ : Fr) (ρ : Env) (σ : L2.St) (v : V) (vs : List V) (H : Hp) (Q : VK), Sat ((Φ.and x v).andA ds vs) ρ M σ H → (∀ u H', Sat (Φ.and z u) ρ M' σ H' → Q u H') → r v vs H Q

section
variable {ρ : Env} {M M1 M2 M3 M' : Cells} {ta tb te : TE} {x y z : VD}
theorem Ev.imp {w : VD} (h : Ev te ρ M x M') (k : ∀ F v, x.P F v → w.P F v) : Ev te ρ M w M' := fun Φ σ H Q s q => h Φ σ H Q s fun v H' s' => q v H' (s'.weak (.of rfl fun F p => ⟨p.1, k F v p.2⟩))
theorem Ev.eq {w : VD} (h : Ev te ρ M x M') (k : x = w) : Ev te ρ M w M' := k ▸ h
theorem ev_var {i : Nat} (h : At x ρ i) : Ev (tVar i) ρ M x M := fun Φ σ H Q ⟨F, s⟩ q => by
  obtain ⟨v, h1, h2⟩ := s.sl.2 i x h.get
  exact ⟨v, h1, q v H ⟨F, s.ex, ⟨s.fr, h2⟩, s.sl, s.nd, s.ce⟩⟩
theorem ev_c {v : V} {d : PyData} (h : ∀ F, Rp F v d) : Ev (tC v) ρ M (dat d) M := fun Φ σ H Q ⟨F, s⟩ q => q v H ⟨F, s.ex, ⟨s.fr, h F⟩, s.sl, s.nd, s.ce⟩
theorem ev_int {i : Int} : Ev (tC (.int i)) ρ M (dat (.int i)) M := ev_c fun _ => .int i
theorem ev_bl {i : Bool} : Ev (tC (.bl i)) ρ M (dat (.bool i)) M := ev_c fun _ => .bl i
theorem ev_str {i : Str} : Ev (tC (.str i)) ρ M (dat (.str i)) M := ev_c fun _ => .str i
theorem ev_non : Ev (tC .non) ρ M (dat .none) M := ev_c fun _ => .non
theorem ev_val {v : V} : Ev (tC v) ρ M (val v) M := fun Φ σ H Q ⟨F, s⟩ q => q v H ⟨F, s.ex, ⟨s.fr, rfl⟩, s.sl, s.nd, s.ce⟩
theorem ev_op {r : R2} (ha : Ev ta ρ M x M1) (hb : Ev tb ρ M1 y M2) (hr : RV r x y M2 z M3) : Ev (tOp r ta tb) ρ M z M3 := fun Φ σ H Q s q =>
  ha Φ σ H _ s fun v H1 s1 => hb _ σ H1 _ s1 fun w H2 s2 => hr Φ ρ σ v w H2 Q s2 q
theorem ev_un {r : V → Hp → VK → Prop} (ha : Ev ta ρ M x M1) (hr : RU r x M1 z M2) : Ev (tUn r ta) ρ M z M2 := fun Φ σ H Q s q =>
  ha Φ σ H _ s fun v H1 s1 => hr Φ ρ σ v H1 Q s1 q
theorem ea_nil : EvA tNil ρ M [] M := fun Φ σ H Q ⟨F, s⟩ q => q [] H ⟨F, s.ex, ⟨s.fr, .nil⟩, s.sl, s.nd, s.ce⟩
theorem ea_cons {tr : TA} {ds : List VD} (ha : Ev ta ρ M x M1) (hr : EvA tr ρ M1 ds M2) : EvA (tCons ta tr) ρ M (x :: ds) M2 := fun Φ σ H Q s q =>
  ha Φ σ H _ s fun v H1 s1 => hr _ σ H1 _ s1 fun vs H2 s2 => q (v :: vs) H2 (s2.weak (.of rfl fun F p => ⟨p.1.1, .cons p.1.2 p.2⟩))
theorem ed_nil : EvD tNil ρ M [] M := ea_nil
theorem ed_cons {tr : TA} {d : PyData} {ds : List PyData} (ha : Ev ta ρ M (dat d) M1) (hr : EvD tr ρ M1 ds M2) : EvD (tCons ta tr) ρ M (d :: ds) M2 := ea_cons ha hr
theorem ev_tupD {t : TA} {ds : List PyData} (h : EvD t ρ M ds M') (hl : ds.length ≤ sizeLine) : Ev (tTup t) ρ M (dat (.tuple ds)) M' := fun Φ σ H Q s q =>
  h Φ σ H _ s fun vs H1 ⟨F, s1⟩ => by
    have hr := DA.of_dat.mp s1.fr.2
    refine ⟨by rw [hr.length]; exact hl, fun p hp => ?_⟩
    obtain ⟨s2, fx⟩ := s1.new (o := .tup vs) hp
    exact q _ _ ⟨_, s2.ex, ⟨s2.fr.1, .tup upd_same (hr.mono fx)⟩, s2.sl, s2.nd, s2.ce⟩
theorem ev_lstD {t : TA} {ds : List PyData} (h : EvD t ρ M ds M') (hl : ds.length ≤ sizeLine) : Ev (tLst t) ρ M (dat (.list ds)) M' := fun Φ σ H Q s q =>
  h Φ σ H _ s fun vs H1 ⟨F, s1⟩ => by
    have hr := DA.of_dat.mp s1.fr.2
    refine ⟨by rw [hr.length]; exact hl, fun p hp => ?_⟩
    obtain ⟨s2, fx⟩ := s1.new (o := .lst vs) hp
    exact q _ _ ⟨_, s2.ex, ⟨s2.fr.1, .lst upd_same (hr.mono fx)⟩, s2.sl, s2.nd, s2.ce⟩
theorem ev_tupV {t : TA} {ds : List VD} (h : EvA t ρ M ds M') (hl : ds.length ≤ sizeLine) : Ev (tTup t) ρ M (vtup ds) M' := fun Φ σ H Q s q =>
  h Φ σ H _ s fun vs H1 ⟨F, s1⟩ => by
    have hr := s1.fr.2
    refine ⟨by rw [← Paired.length hr]; exact hl, fun p hp => ?_⟩
    obtain ⟨s2, fx⟩ := s1.new (o := .tup vs) hp
    exact q _ _ ⟨_, s2.ex, ⟨s2.fr.1, ⟨p, vs, rfl, upd_same, hr.mono fx⟩⟩, s2.sl, s2.nd, s2.ce⟩
theorem ev_lstV {t : TA} {ds : List VD} (h : EvA t ρ M ds M') (hl : ds.length ≤ sizeLine) : Ev (tLst t) ρ M (vlst ds) M' := fun Φ σ H Q s q =>
  h Φ σ H _ s fun vs H1 ⟨F, s1⟩ => by
    have hr := s1.fr.2
    refine ⟨by rw [← Paired.length hr]; exact hl, fun p hp => ?_⟩
    obtain ⟨s2, fx⟩ := s1.new (o := .lst vs) hp
    exact q _ _ ⟨_, s2.ex, ⟨s2.fr.1, ⟨p, vs, rfl, upd_same, hr.mono fx⟩⟩, s2.sl, s2.nd, s2.ce⟩
theorem ev_if {t : TT} {b : Bool} (h : EvT t ρ M b M1) (h1 : b = true → Ev ta ρ M1 x M2) (h2 : b = false → Ev tb ρ M1 x M2) : Ev (tIf t ta tb) ρ M x M2 := fun Φ σ H Q s q =>
  h Φ σ H _ s fun H1 s1 => by
    cases b with
    | true =>
      rw [if_pos rfl]
      exact h1 rfl Φ σ H1 Q s1 q
    | false =>
      rw [if_neg Bool.false_ne_true]
      exact h2 rfl Φ σ H1 Q s1 q
end
end Sx

set_option Elab.async false
set_option linter.all false
set_option maxRecDepth 100000
set_option maxHeartbeats 2000000
/-! Sx2: operators, by descriptions. -/
namespace Sx
open PySem L2 Evl

/-! ### what stands as a list, a tuple -/
def IsLst (x : VD) (M : Cells) (ds : List PyData) : Prop := ∀ {F Φ ρ σ H v}, SatF F Φ ρ M σ H → x.P F v → ∃ a ws, v = .ref a ∧ H a = some (.lst ws) ∧ RpL F ws ds
def IsTup (x : VD) (M : Cells) (ds : List PyData) : Prop := ∀ {F Φ ρ σ H v}, SatF F Φ ρ M σ H → x.P F v → ∃ a ws, v = .ref a ∧ H a = some (.tup ws) ∧ RpL F ws ds
def IsLstV (x : VD) (M : Cells) (ds : List VD) : Prop := ∀ {F Φ ρ σ H v}, SatF F Φ ρ M σ H → x.P F v → ∃ a ws, v = .ref a ∧ H a = some (.lst ws) ∧ DA F ds ws
def IsTupV (x : VD) (M : Cells) (ds : List VD) : Prop := ∀ {F Φ ρ σ H v}, SatF F Φ ρ M σ H → x.P F v → ∃ a ws, v = .ref a ∧ H a = some (.tup ws) ∧ DA F ds ws
theorem isl_dat {M : Cells} {ds : List PyData} : IsLst (dat (.list ds)) M ds := fun s h => by
  cases h with
  | lst h1 h2 => exact ⟨_, _, rfl, s.ex _ _ h1, h2⟩
theorem ist_dat {M : Cells} {ds : List PyData} : IsTup (dat (.tuple ds)) M ds := fun s h => by
  cases h with
  | tup h1 h2 => exact ⟨_, _, rfl, s.ex _ _ h1, h2⟩
theorem isl_cell {M : Cells} {ds : List PyData} {p : Addr} (m : (p, cLd ds) ∈ M) : IsLst (val (.ref p)) M ds := fun s h => by
  obtain ⟨o, h1, h2, ws, h3, h4⟩ := s.at m
  exact ⟨p, ws, h, by rw [h1, h3], h4⟩
theorem islv_cell {M : Cells} {ds : List VD} {p : Addr} (m : (p, cL ds) ∈ M) : IsLstV (val (.ref p)) M ds := fun s h => by
  obtain ⟨o, h1, h2, ws, h3, h4⟩ := s.at m
  exact ⟨p, ws, h, by rw [h1, h3], h4⟩
theorem islv_vlst {M : Cells} {ds : List VD} : IsLstV (vlst ds) M ds := fun s ⟨a, ws, h1, h2, h3⟩ => ⟨a, ws, h1, s.ex _ _ h2, h3⟩
theorem istv_vtup {M : Cells} {ds : List VD} : IsTupV (vtup ds) M ds := fun s ⟨a, ws, h1, h2, h3⟩ => ⟨a, ws, h1, s.ex _ _ h2, h3⟩
theorem IsLst.v {x : VD} {M : Cells} {ds : List PyData} (h : IsLst x M ds) : IsLstV x M (ds.map dat) := fun s q => by
  obtain ⟨a, ws, h1, h2, h3⟩ := h s q
  exact ⟨a, ws, h1, h2, DA.of_dat.mpr h3⟩
theorem IsTup.v {x : VD} {M : Cells} {ds : List PyData} (h : IsTup x M ds) : IsTupV x M (ds.map dat) := fun s q => by
  obtain ⟨a, ws, h1, h2, h3⟩ := h s q
  exact ⟨a, ws, h1, h2, DA.of_dat.mpr h3⟩
/-- either -/
def IsSeq (K : PySem.W.Frag) (x : VD) (M : Cells) (ds : List VD) : Prop := ∀ {F Φ ρ σ H v}, SatF F Φ ρ M σ H → x.P F v → ∃ a ws, v = .ref a ∧ (SqL K H a ws ∨ SqT K H a ws) ∧ DA F ds ws
theorem iss_l {K : PySem.W.Frag} {x : VD} {M : Cells} {ds : List VD} (h : IsLstV x M ds) : IsSeq K x M ds := fun s q => by
  obtain ⟨a, ws, h1, h2, h3⟩ := h s q
  exact ⟨a, ws, h1, .inl (sq_of h2), h3⟩
theorem iss_t {K : PySem.W.Frag} {x : VD} {M : Cells} {ds : List VD} (h : IsTupV x M ds) : IsSeq K x M ds := fun s q => by
  obtain ⟨a, ws, h1, h2, h3⟩ := h s q
  exact ⟨a, ws, h1, .inr (st_of h2), h3⟩

/-- the state behind a value that was just made; data said of it -/
theorem Sat.ret {F : Hp} {Φ : Fr} {ρ : Env} {M : Cells} {σ : L2.St} {H : Hp} {x : VD} {v : V} (s : SatF F Φ ρ M σ H) (h : x.P F v) : Sat (Φ.and x v) ρ M σ H := ⟨F, s.ex, ⟨s.fr, h⟩, s.sl, s.nd, s.ce⟩
theorem SatF.weak {F : Hp} {Φ Ψ : Fr} {ρ : Env} {M : Cells} {σ : L2.St} {H : Hp} (s : SatF F Φ ρ M σ H) (l : Le Φ Ψ) : SatF F Ψ ρ M σ H := ⟨s.ex, l.p F s.fr, s.sl, List.Pairwise.sublist ((List.Sublist.append (List.Sublist.refl M) l.n).map _) s.nd, fun c hc => s.ce c ((List.Sublist.append (List.Sublist.refl M) l.n).subset hc)⟩
theorem SatF.base {F : Hp} {Φ : Fr} {ρ : Env} {M : Cells} {σ : L2.St} {H : Hp} {x y : VD} {v w : V} (s : SatF F ((Φ.and x v).and y w) ρ M σ H) : SatF F Φ ρ M σ H := s.weak (.of rfl fun _ h => h.1.1)
theorem Sat.retNew {F : Hp} {Φ : Fr} {ρ : Env} {M : Cells} {σ : L2.St} {H : Hp} {x : VD} {v : V} {p : Addr} {o : HO} (s : SatF F Φ ρ M σ H) (hp : H p = none) (h : ∀ F', Fx F F' → F' p = some o → x.P F' v) : Sat (Φ.and x v) ρ M σ (upd H p o) := by
  obtain ⟨s2, fx⟩ := s.new (o := o) hp
  exact ⟨_, s2.ex, ⟨s2.fr, h _ fx upd_same⟩, s2.sl, s2.nd, s2.ce⟩

/-! ### + -/
def rAddS : R2 := fun x y H Q => ∃ i j, x = .str i ∧ y = .str j ∧ i.length + j.length ≤ sizeLine ∧ Q (.str (i ++ j)) H
def rAddU (K : PySem.W.Frag) : R2 := fun x y H Q => rI0 (fun i j => .int (i + j)) x y H Q ∨ (rAddS x y H Q ∨ (rCat x y H Q ∨ rCatA K x y H Q))
theorem op_addU {X : Cx} : OpR X (binaryOp .Add) (rAddU X.K) := op_add.or (op_add_str.or (op_cat.or op_catA))
section
variable {K : PySem.W.Frag} {ρ : Env} {M M' : Cells} {x y z : VD}
theorem rv_addI {i j : Int} : RV (rAddU K) (dat (.int i)) (dat (.int j)) M (dat (.int (i + j))) M := fun Φ ρ σ v w H Q ⟨F, s⟩ q => by
  cases s.fr.1.2; cases s.fr.2
  exact .inl ⟨i, j, rfl, rfl, q _ _ (Sat.ret s.base (.int _))⟩
theorem rv_addS {i j : Str} (hl : i.length + j.length ≤ sizeLine) : RV (rAddU K) (dat (.str i)) (dat (.str j)) M (dat (.str (i ++ j))) M := fun Φ ρ σ v w H Q ⟨F, s⟩ q => by
  cases s.fr.1.2; cases s.fr.2
  exact .inr (.inl ⟨i, j, rfl, rfl, hl, q _ _ (Sat.ret s.base (.str _))⟩)
theorem rv_cat {as bs : List PyData} (hx : IsLst x M as) (hy : IsLst y M bs) (hl : as.length + bs.length ≤ sizeLine) : RV (rAddU K) x y M (dat (.list (as ++ bs))) M := fun Φ ρ σ v w H Q ⟨F, s⟩ q => by
  obtain ⟨a, vs1, rfl, h1, h2⟩ := hx s s.fr.1.2
  obtain ⟨b, vs2, rfl, h3, h4⟩ := hy s s.fr.2
  refine .inr (.inr (.inl ⟨a, b, vs1, vs2, rfl, rfl, h1, h3, by rw [h2.length, h4.length]; exact hl, fun p hp => q _ _ (Sat.retNew s.base hp fun F' fx e => .lst e ((h2.append h4).mono fx))⟩))
theorem rv_catV {as bs : List VD} (hx : IsLstV x M as) (hy : IsLstV y M bs) (hl : as.length + bs.length ≤ sizeLine) : RV (rAddU K) x y M (vlst (as ++ bs)) M := fun Φ ρ σ v w H Q ⟨F, s⟩ q => by
  obtain ⟨a, vs1, rfl, h1, h2⟩ := hx s s.fr.1.2
  obtain ⟨b, vs2, rfl, h3, h4⟩ := hy s s.fr.2
  refine .inr (.inr (.inl ⟨a, b, vs1, vs2, rfl, rfl, h1, h3, by rw [← Paired.length h2, ← Paired.length h4]; exact hl, fun p hp => q _ _ (Sat.retNew s.base hp fun F' fx e => ⟨p, _, rfl, e, (h2.append h4).mono fx⟩)⟩))
theorem rv_catT {as bs : List PyData} (hx : IsTup x M as) (hy : IsTup y M bs) (hfx : ∀ F v, x.P F v → (dat (.tuple as)).P F v) (hfy : ∀ F v, y.P F v → (dat (.tuple bs)).P F v) (hl : as.length + bs.length ≤ sizeLine) : RV (rAddU K) x y M (dat (.tuple (as ++ bs))) M := fun Φ ρ σ v w H Q ⟨F, s⟩ q => by
  have e1 := hfx F _ s.fr.1.2
  have e2 := hfy F _ s.fr.2
  obtain ⟨a, vs1, rfl, h1, h2⟩ := hx s s.fr.1.2
  obtain ⟨b, vs2, rfl, h3, h4⟩ := hy s s.fr.2
  refine .inr (.inr (.inr ⟨a, b, vs1, vs2, rfl, rfl, st_of h1, st_of h3, by rw [h2.length, h4.length]; exact hl, fun he => ?_, fun _ he => ?_, fun _ _ p hp => q _ _ (Sat.retNew s.base hp fun F' fx e => .tup e ((h2.append h4).mono fx))⟩))
  · subst he
    have : as = [] := List.eq_nil_of_length_eq_zero h2.length.symm
    subst this
    exact q _ _ (Sat.ret s.base e2)
  · subst he
    have : bs = [] := List.eq_nil_of_length_eq_zero h4.length.symm
    subst this
    exact q _ _ (Sat.ret s.base (by rw [List.append_nil]; exact e1))
theorem rv_catTd {as bs : List PyData} (hl : as.length + bs.length ≤ sizeLine) : RV (rAddU K) (dat (.tuple as)) (dat (.tuple bs)) M (dat (.tuple (as ++ bs))) M := rv_catT ist_dat ist_dat (fun _ _ h => h) (fun _ _ h => h) hl

/-! ### the other operators on ints -/
theorem rv_I0 {g : Int → Int → V} {d : Int → Int → PyData} {i j : Int} (h : ∀ F, Rp F (g i j) (d i j)) : RV (rI0 g) (dat (.int i)) (dat (.int j)) M (dat (d i j)) M := fun Φ ρ σ v w H Q ⟨F, s⟩ q => by
  cases s.fr.1.2; cases s.fr.2
  exact ⟨i, j, rfl, rfl, q _ _ (Sat.ret s.base (h F))⟩
theorem rv_int0 {g : Int → Int → Int} {i j : Int} : RV (rI0 fun i j => .int (g i j)) (dat (.int i)) (dat (.int j)) M (dat (.int (g i j))) M := rv_I0 (d := fun i j => .int (g i j)) fun _ => .int _
theorem rv_bl0 {g : Int → Int → Bool} {i j : Int} : RV (rI0 fun i j => .bl (g i j)) (dat (.int i)) (dat (.int j)) M (dat (.bool (g i j))) M := rv_I0 (d := fun i j => .bool (g i j)) fun _ => .bl _
theorem rv_intC {C : Int → Int → Prop} {g : Int → Int → Int} {i j : Int} (hc : C i j) : RV (rI C fun i j => .int (g i j)) (dat (.int i)) (dat (.int j)) M (dat (.int (g i j))) M := fun Φ ρ σ v w H Q ⟨F, s⟩ q => by
  cases s.fr.1.2; cases s.fr.2
  exact ⟨i, j, rfl, rfl, hc, q _ _ (Sat.ret s.base (.int _))⟩
theorem ru_neg {i : Int} : RU (rU fun i => .int (-i)) (dat (.int i)) M (dat (.int (-i))) M := fun Φ ρ σ v H Q ⟨F, s⟩ q => by
  cases s.fr.2
  exact ⟨i, rfl, q _ _ (Sat.ret (s.weak Le.and) (.int _))⟩

/-! ### == -/
/-- data as it stands, its own list cells too -/
def IsDat (K : PySem.W.Frag) (x : VD) (M : Cells) (d : PyData) : Prop := ∀ {F Φ ρ σ H v}, SatF F Φ ρ M σ H → x.P F v → Dp K H v d
def IsDats (K : PySem.W.Frag) (xs : List VD) (M : Cells) (ds : List PyData) : Prop := ∀ {F Φ ρ σ H vs}, SatF F Φ ρ M σ H → DA F xs vs → DpAll K H vs ds
theorem isd_dat {d : PyData} : IsDat K (dat d) M d := fun s h => Rp.dp s.ex d h
theorem isd_cell {ds : List PyData} {p : Addr} (m : (p, cLd ds) ∈ M) : IsDat K (val (.ref p)) M (.list ds) := fun s h => by
  obtain ⟨a, ws, rfl, h1, h2⟩ := isl_cell m s h
  exact .lst (sq_of h1) (RpL.dp s.ex ds h2)
theorem isds_nil : IsDats K [] M [] := fun s h => by cases h; exact .nil
theorem isds_cons {d : PyData} {xs : List VD} {ds : List PyData} (h1 : IsDat K x M d) (h2 : IsDats K xs M ds) : IsDats K (x :: xs) M (d :: ds) := fun s h => by
  cases h with
  | cons q1 q2 => exact .cons (h1 s q1) (h2 s q2)
theorem isd_vtup {xs : List VD} {ds : List PyData} (h : IsDats K xs M ds) : IsDat K (vtup xs) M (.tuple ds) := fun s ⟨a, ws, e, h1, h2⟩ => by
  subst e
  exact .tup (st_of (s.ex _ _ h1)) (h s h2)
theorem isd_vlst {xs : List VD} {ds : List PyData} (h : IsDats K xs M ds) : IsDat K (vlst xs) M (.list ds) := fun s ⟨a, ws, e, h1, h2⟩ => by
  subst e
  exact .lst (sq_of (s.ex _ _ h1)) (h s h2)
/-- of such a depth, its texts of our kind -/
def Shp (n : Nat) (d : PyData) : Prop := d.canLay0 = true ∧ d.depth ≤ n
theorem Shp.ok {n : Nat} {d : PyData} (h : Shp n d) (hn : n ≤ 64) : SeqAt.shaped d = true := by
  unfold SeqAt.shaped
  rw [h.1, decide_eq_true (Nat.le_trans h.2 hn)]
  rfl
theorem shp_int {n : Nat} {i : Int} : Shp n (.int i) := ⟨rfl, Nat.zero_le _⟩
theorem shp_none {n : Nat} : Shp n .none := ⟨rfl, Nat.zero_le _⟩
theorem shp_bool {n : Nat} {i : Bool} : Shp n (.bool i) := ⟨rfl, Nat.zero_le _⟩
theorem shp_str {n : Nat} {x : Str} (h : PyData.strOk x = true) : Shp n (.str x) := ⟨by rw [PyData.canLay0]; exact h, Nat.zero_le _⟩
def ShpA (n : Nat) (ds : List PyData) : Prop := PyData.canLayAll0 ds = true ∧ PyData.depthAll ds ≤ n
theorem shpA_nil {n : Nat} : ShpA n [] := ⟨rfl, Nat.zero_le _⟩
theorem shpA_cons {n : Nat} {d : PyData} {ds : List PyData} (h : Shp n d) (t : ShpA n ds) : ShpA n (d :: ds) := ⟨by rw [PyData.canLayAll0, h.1, t.1]; rfl, by rw [PyData.depthAll]; exact Nat.max_le.mpr ⟨h.2, t.2⟩⟩
theorem shpA_of {n : Nat} : ∀ {ds : List PyData}, (∀ d ∈ ds, Shp n d) → ShpA n ds
  | [], _ => shpA_nil
  | d :: ds, h => shpA_cons (h d List.mem_cons_self) (shpA_of fun e he => h e (List.mem_cons_of_mem _ he))
theorem shp_list {n : Nat} {ds : List PyData} (h : ShpA n ds) : Shp (n + 1) (.list ds) := ⟨by rw [PyData.canLay0]; exact h.1, by rw [PyData.depth]; exact Nat.succ_le_succ h.2⟩
theorem shp_tuple {n : Nat} {ds : List PyData} (h : ShpA n ds) : Shp (n + 1) (.tuple ds) := ⟨by rw [PyData.canLay0]; exact h.1, by rw [PyData.depth]; exact Nat.succ_le_succ h.2⟩
theorem shpA_map {α : Type} {n : Nat} {f : α → PyData} {xs : List α} (h : ∀ x ∈ xs, Shp n (f x)) : ShpA n (xs.map f) := shpA_of fun d hd => by
  obtain ⟨x, hx, rfl⟩ := List.mem_map.mp hd
  exact h x hx
/-- equal as data just if equal -/
def EqOk {α : Type} (f : α → PyData) : Prop := ∀ x y, PyData.eqv (f x) (f y) = true ↔ x = y
theorem eqvAll_map {α : Type} {f : α → PyData} (h : EqOk f) : ∀ xs ys : List α, PyData.eqvAll (xs.map f) (ys.map f) = true ↔ xs = ys
  | [], [] => by simp [PyData.eqvAll]
  | x :: xs, [] => by simp [PyData.eqvAll]
  | [], y :: ys => by simp [PyData.eqvAll]
  | x :: xs, y :: ys => by
    rw [List.map_cons, List.map_cons, PyData.eqvAll, Bool.and_eq_true, h x y, eqvAll_map h xs ys, List.cons.injEq]
theorem eqok_list {α : Type} {f : α → PyData} (h : EqOk f) : EqOk fun xs : List α => .list (xs.map f) := fun xs ys => by
  show PyData.eqv (.list (xs.map f)) (.list (ys.map f)) = true ↔ _
  rw [PyData.eqv]; exact eqvAll_map h xs ys
theorem eqok_tuple {α : Type} {f : α → PyData} (h : EqOk f) : EqOk fun xs : List α => .tuple (xs.map f) := fun xs ys => by
  show PyData.eqv (.tuple (xs.map f)) (.tuple (ys.map f)) = true ↔ _
  rw [PyData.eqv]; exact eqvAll_map h xs ys
theorem eqok_int : EqOk PyData.int := fun x y => by simp [PyData.eqv]
theorem eqok_str : EqOk PyData.str := fun x y => by simp [PyData.eqv]
theorem eqok_bool : EqOk PyData.bool := fun x y => by simp [PyData.eqv]
theorem EqOk.dec {α : Type} [DecidableEq α] {f : α → PyData} (h : EqOk f) (x y : α) : PyData.eqv (f x) (f y) = decide (x = y) := by
  rw [Bool.eq_iff_iff, h x y, decide_eq_true_iff]
def rEqU (K : PySem.W.Frag) : R2 := fun x y H Q => rEqD K x y H Q ∨ rEq x y H Q
def rNeU (K : PySem.W.Frag) : R2 := fun x y H Q => rNeD K x y H Q ∨ rNe x y H Q
theorem op_eqU {X : Cx} (hu : X.A.units + 64 < cLine) : OpR X (compareOp .Eq) (rEqU X.K) := (op_eqD hu).or op_eq
theorem op_neU {X : Cx} (hu : X.A.units + 64 < cLine) : OpR X (compareOp .NotEq) (rNeU X.K) := (op_neD hu).or op_ne
theorem rv_eqD {d e : PyData} (hx : IsDat K x M d) (hy : IsDat K y M e) (sd : Shp 64 d) (se : Shp 64 e) : RV (rEqU K) x y M (dat (.bool (PyData.eqv d e))) M := fun Φ ρ σ v w H Q ⟨F, s⟩ q =>
  .inl ⟨d, e, hx s s.fr.1.2, hy s s.fr.2, sd.ok (Nat.le_refl _), se.ok (Nat.le_refl _), q _ _ (Sat.ret s.base (.bl _))⟩
theorem rv_neD {d e : PyData} (hx : IsDat K x M d) (hy : IsDat K y M e) (sd : Shp 64 d) (se : Shp 64 e) : RV (rNeU K) x y M (dat (.bool (!PyData.eqv d e))) M := fun Φ ρ σ v w H Q ⟨F, s⟩ q =>
  .inl ⟨d, e, hx s s.fr.1.2, hy s s.fr.2, sd.ok (Nat.le_refl _), se.ok (Nat.le_refl _), q _ _ (Sat.ret s.base (.bl _))⟩
theorem eqv_int {i j : Int} : PyData.eqv (.int i) (.int j) = decide (i = j) := by simp [PyData.eqv, Bool.beq_eq_decide_eq]
theorem eqv_str {i j : Str} : PyData.eqv (.str i) (.str j) = decide (i = j) := by simp [PyData.eqv, Bool.beq_eq_decide_eq]
theorem eqv_bool {i j : Bool} : PyData.eqv (.bool i) (.bool j) = decide (i = j) := by simp [PyData.eqv, Bool.beq_eq_decide_eq]
theorem rv_eqI {i j : Int} : RV (rEqU K) (dat (.int i)) (dat (.int j)) M (dat (.bool (decide (i = j)))) M := by
  have h := rv_eqD (K := K) (M := M) (isd_dat (d := .int i)) (isd_dat (d := .int j)) shp_int shp_int
  rw [eqv_int] at h; exact h
theorem rv_neI {i j : Int} : RV (rNeU K) (dat (.int i)) (dat (.int j)) M (dat (.bool (!decide (i = j)))) M := by
  have h := rv_neD (K := K) (M := M) (isd_dat (d := .int i)) (isd_dat (d := .int j)) shp_int shp_int
  rw [eqv_int] at h; exact h
theorem rv_eqS {i j : Str} : RV (rEqU K) (dat (.str i)) (dat (.str j)) M (dat (.bool (decide (i = j)))) M := fun Φ ρ σ v w H Q ⟨F, s⟩ q => by
  cases s.fr.1.2; cases s.fr.2
  refine .inr ⟨rfl, ?_⟩
  have e : decide (V.str i = V.str j) = decide (i = j) := by simp
  rw [e]
  exact q _ _ (Sat.ret s.base (.bl _))
theorem rv_neS {i j : Str} : RV (rNeU K) (dat (.str i)) (dat (.str j)) M (dat (.bool (!decide (i = j)))) M := fun Φ ρ σ v w H Q ⟨F, s⟩ q => by
  cases s.fr.1.2; cases s.fr.2
  refine .inr ⟨rfl, ?_⟩
  have e : decide (V.str i = V.str j) = decide (i = j) := by simp
  rw [e]
  exact q _ _ (Sat.ret s.base (.bl _))
/-! ### is None -/
def rIsN : R2 := fun x y H Q => y = .non ∧ Q (.bl (decide (x = .non))) H
def rNotN : R2 := fun x y H Q => y = .non ∧ Q (.bl (!decide (x = .non))) H
theorem op_isN' {X : Cx} : OpR X (compareOp .Is) rIsN := op_isN
theorem op_notN' {X : Cx} : OpR X (compareOp .IsNot) rNotN := op_notN
def isNoneD : PyData → Bool
  | .none => true
  | _ => false
theorem rp_none {F : Hp} {v : V} {d : PyData} (h : Rp F v d) : decide (v = .non) = isNoneD d := by
  cases h <;> rfl
theorem rv_isN {d : PyData} : RV rIsN (dat d) (dat .none) M (dat (.bool (isNoneD d))) M := fun Φ ρ σ v w H Q ⟨F, s⟩ q => by
  have h := rp_none s.fr.1.2
  cases s.fr.2
  exact ⟨rfl, by rw [h]; exact q _ _ (Sat.ret s.base (.bl _))⟩
theorem rv_notN {d : PyData} : RV rNotN (dat d) (dat .none) M (dat (.bool (!isNoneD d))) M := fun Φ ρ σ v w H Q ⟨F, s⟩ q => by
  have h := rp_none s.fr.1.2
  cases s.fr.2
  exact ⟨rfl, by rw [h]; exact q _ _ (Sat.ret s.base (.bl _))⟩

/-! ### subscripts, slices -/
theorem rpl_atI {F : Hp} {ws : List V} {ds : List PyData} {i : Int} {d : PyData} (h : RpL F ws ds) (e : atI ds i = some d) : ∃ v, atI ws i = some v ∧ Rp F v d := by
  unfold atI at e ⊢
  rw [h.length]
  cases q : ixN ds.length i with
  | none => rw [q] at e; cases e
  | some j =>
    rw [q] at e
    exact h.get e
theorem da_atI {F : Hp} {ws : List V} {ds : List VD} {i : Int} {d : VD} (h : DA F ds ws) (e : atI ds i = some d) : ∃ v, atI ws i = some v ∧ d.P F v := by
  unfold atI at e ⊢
  rw [← Paired.length h]
  cases q : ixN ds.length i with
  | none => rw [q] at e; cases e
  | some j =>
    rw [q] at e
    exact h.get e
theorem rv_ixL {ds : List PyData} {i : Int} {d : PyData} (hx : IsLst x M ds) (e : atI ds i = some d) : RV (rIx K) x (dat (.int i)) M (dat d) M := fun Φ ρ σ v w H Q ⟨F, s⟩ q => by
  obtain ⟨a, ws, rfl, h1, h2⟩ := hx s s.fr.1.2
  cases s.fr.2
  obtain ⟨v, h3, h4⟩ := rpl_atI h2 e
  exact .inl ⟨a, ws, i, v, rfl, rfl, sq_of h1, h3, q _ _ (Sat.ret s.base h4)⟩
theorem rv_ixT {ds : List PyData} {i : Int} {d : PyData} (hx : IsTup x M ds) (e : atI ds i = some d) : RV (rIx K) x (dat (.int i)) M (dat d) M := fun Φ ρ σ v w H Q ⟨F, s⟩ q => by
  obtain ⟨a, ws, rfl, h1, h2⟩ := hx s s.fr.1.2
  cases s.fr.2
  obtain ⟨v, h3, h4⟩ := rpl_atI h2 e
  exact .inr (.inl ⟨a, ws, i, v, rfl, rfl, st_of h1, h3, q _ _ (Sat.ret s.base h4)⟩)
theorem rv_ixLV {ds : List VD} {i : Int} {d : VD} (hx : IsLstV x M ds) (e : atI ds i = some d) : RV (rIx K) x (dat (.int i)) M d M := fun Φ ρ σ v w H Q ⟨F, s⟩ q => by
  obtain ⟨a, ws, rfl, h1, h2⟩ := hx s s.fr.1.2
  cases s.fr.2
  obtain ⟨v, h3, h4⟩ := da_atI h2 e
  exact .inl ⟨a, ws, i, v, rfl, rfl, sq_of h1, h3, q _ _ (Sat.ret s.base h4)⟩
theorem rv_ixTV {ds : List VD} {i : Int} {d : VD} (hx : IsTupV x M ds) (e : atI ds i = some d) : RV (rIx K) x (dat (.int i)) M d M := fun Φ ρ σ v w H Q ⟨F, s⟩ q => by
  obtain ⟨a, ws, rfl, h1, h2⟩ := hx s s.fr.1.2
  cases s.fr.2
  obtain ⟨v, h3, h4⟩ := da_atI h2 e
  exact .inr (.inl ⟨a, ws, i, v, rfl, rfl, st_of h1, h3, q _ _ (Sat.ret s.base h4)⟩)
theorem rv_ixScr {ns : List Int} {i : Int} {n : Int} (e : atI ns i = some n) : RV (rIx K) (vscr K ns) (dat (.int i)) M (dat (.int n)) M := fun Φ ρ σ v w H Q ⟨F, s⟩ q => by
  obtain ⟨a, rfl, h1⟩ := s.fr.1.2
  cases s.fr.2
  refine .inl ⟨a, ns.map V.int, i, .int n, rfl, rfl, ex_l s.ex h1, ?_, q _ _ (Sat.ret s.base (.int _))⟩
  unfold atI at e ⊢
  rw [List.length_map]
  cases q : ixN ns.length i with
  | none => rw [q] at e; cases e
  | some j =>
    rw [q] at e
    show (ns.map V.int)[j]? = _
    have e' : ns[j]? = some n := e
    rw [List.getElem?_map, e']
    rfl
def cutD {α : Type} (xs : List α) (lo hi : Option Int) : List α := (xs.drop (HT.sIx xs.length 0 lo)).take (HT.sIx xs.length xs.length hi - HT.sIx xs.length 0 lo)
theorem rpl_cut {F : Hp} {ws : List V} {ds : List PyData} (h : RpL F ws ds) (lo hi : Option Int) : RpL F (cutV ws lo hi) (cutD ds lo hi) := by
  unfold cutV cutD
  rw [h.length]
  exact (h.drop _).take _
/-- a slice of a list, a tuple, a text -/
def rSlU (K : PySem.W.Frag) : V → Option Int → Option Int → Hp → VK → Prop := fun x lo hi H Q => rSlL K x lo hi H Q ∨ rSlA K x lo hi H Q
theorem sl_U {X : Cx} : SlR X (rSlU X.K) := sl_list.or sl_tupA
theorem eo_none : EvO tNoPart ρ M none M := fun Φ σ H Q s q => q H s
theorem eo_some {te : TE} {i : Int} (h : Ev te ρ M (dat (.int i)) M') : EvO (tPart te) ρ M (some i) M' := fun Φ σ H Q s q => h Φ σ H _ s fun v H1 ⟨F, s1⟩ => by
  cases s1.fr.2
  exact ⟨i, rfl, q H1 ⟨F, s1.weak Le.and⟩⟩
theorem ev_slL {te : TE} {tl th : TO} {M1 M2 M3 : Cells} {lo hi : Option Int} {ds : List PyData} (h : Ev te ρ M x M1) (h1 : EvO tl ρ M1 lo M2) (h2 : EvO th ρ M2 hi M3) (hx : IsLst x M3 ds) : Ev (tSl (rSlU K) te tl th) ρ M (dat (.list (cutD ds lo hi))) M3 := fun Φ σ H Q s q =>
  h Φ σ H _ s fun v H1 s1 => h1 _ σ H1 _ s1 fun H2 s2 => h2 _ σ H2 _ s2 fun H3 ⟨F, s3⟩ => by
    obtain ⟨a, ws, rfl, h1, h2⟩ := hx s3 s3.fr.2
    exact .inl ⟨a, ws, rfl, sq_of h1, fun p hp => q _ _ (Sat.retNew (s3.weak Le.and) hp fun F' fx e => .lst e ((rpl_cut h2 lo hi).mono fx))⟩
theorem cut_whole {ds : List PyData} {lo hi : Option Int} (h1 : HT.sIx ds.length 0 lo = 0) (h2 : HT.sIx ds.length ds.length hi = ds.length) : cutD ds lo hi = ds := by
  unfold cutD
  rw [h1, h2]
  simp
theorem ev_slT {te : TE} {tl th : TO} {M1 M2 M3 : Cells} {lo hi : Option Int} {ds : List PyData} (h : Ev te ρ M (dat (.tuple ds)) M1) (h1 : EvO tl ρ M1 lo M2) (h2 : EvO th ρ M2 hi M3) : Ev (tSl (rSlU K) te tl th) ρ M (dat (.tuple (cutD ds lo hi))) M3 := fun Φ σ H Q s q =>
  h Φ σ H _ s fun v H1 s1 => h1 _ σ H1 _ s1 fun H2 s2 => h2 _ σ H2 _ s2 fun H3 ⟨F, s3⟩ => by
    have e0 := s3.fr.2
    obtain ⟨a, ws, rfl, h1, h2⟩ := ist_dat s3 s3.fr.2
    refine .inr ⟨a, ws, rfl, st_of h1, fun hw => q _ _ (Sat.ret (s3.weak Le.and) ?_), fun hw p hp => q _ _ (Sat.retNew (s3.weak Le.and) hp fun F' fx e => .tup e ((rpl_cut h2 lo hi).mono fx))⟩
    rw [h2.length] at hw
    rw [cut_whole hw.1 hw.2]
    exact e0
end

/-! ### tests -/
section
variable {K : PySem.W.Frag} {ρ : Env} {M M1 M2 M' : Cells} {x y z : VD} {te ta tb : TE} {t u : TT}
theorem et_test {b : Bool} (h : Ev te ρ M (dat (.bool b)) M') : EvT (tTest te) ρ M b M' := fun Φ σ H Q s q => h Φ σ H _ s fun v H1 s1 => by
  have ⟨F, s2⟩ := s1
  cases s2.fr.2
  exact ⟨b, rfl, q H1 s1.weak1⟩
theorem et_B {b : Bool} (h : Ev te ρ M (dat (.bool b)) M') : EvT (tB te) ρ M b M' := fun Φ σ H Q s q => h Φ σ H _ s fun v H1 s1 => by
  have ⟨F, s2⟩ := s1
  cases s2.fr.2
  exact ⟨b, rfl, q H1 s1.weak1⟩
theorem et_yes : EvT tYes ρ M true M := fun Φ σ H Q s q => q H s
/-- the second one is asked where the first one lets -/
theorem et_and {a b : Bool} (h1 : EvT t ρ M a M1) (h2 : a = true → EvT u ρ M1 b M1) : EvT (tAnd t u) ρ M (a && b) M1 := fun Φ σ H Q s q => h1 Φ σ H _ s fun H1 s1 => by
  cases a with
  | true => rw [if_pos rfl]; exact h2 rfl Φ σ H1 Q s1 q
  | false => rw [if_neg Bool.false_ne_true]; exact q H1 s1
theorem et_or {a b : Bool} (h1 : EvT t ρ M a M1) (h2 : a = false → EvT u ρ M1 b M1) : EvT (tOr t u) ρ M (a || b) M1 := fun Φ σ H Q s q => h1 Φ σ H _ s fun H1 s1 => by
  cases a with
  | true => rw [if_pos rfl]; exact q H1 s1
  | false => rw [if_neg Bool.false_ne_true]; exact h2 rfl Φ σ H1 Q s1 q
theorem et_andT {b : Bool} (h1 : EvT t ρ M true M1) (h2 : EvT u ρ M1 b M2) : EvT (tAnd t u) ρ M b M2 := fun Φ σ H Q s q => h1 Φ σ H _ s fun H1 s1 => by
  rw [if_pos rfl]; exact h2 Φ σ H1 Q s1 q
theorem et_andF (h1 : EvT t ρ M false M1) : EvT (tAnd t u) ρ M false M1 := fun Φ σ H Q s q => h1 Φ σ H _ s fun H1 s1 => by
  rw [if_neg Bool.false_ne_true]; exact q H1 s1
theorem et_orF {b : Bool} (h1 : EvT t ρ M false M1) (h2 : EvT u ρ M1 b M2) : EvT (tOr t u) ρ M b M2 := fun Φ σ H Q s q => h1 Φ σ H _ s fun H1 s1 => by
  rw [if_neg Bool.false_ne_true]; exact h2 Φ σ H1 Q s1 q
theorem et_orT (h1 : EvT t ρ M true M1) : EvT (tOr t u) ρ M true M1 := fun Φ σ H Q s q => h1 Φ σ H _ s fun H1 s1 => by
  rw [if_pos rfl]; exact q H1 s1
theorem et_not {a : Bool} (h1 : EvT t ρ M a M') : EvT (tNot t) ρ M (!a) M' := fun Φ σ H Q s q => h1 Φ σ H _ s q
theorem EvT.eq {a b : Bool} (h : EvT t ρ M a M') (e : a = b) : EvT t ρ M b M' := e ▸ h
theorem ev_andV {a b : Bool} (h1 : Ev ta ρ M (dat (.bool a)) M1) (h2 : a = true → Ev tb ρ M1 (dat (.bool b)) M1) : Ev (tAndV ta tb) ρ M (dat (.bool (a && b))) M1 := fun Φ σ H Q s q => h1 Φ σ H _ s fun v H1 s1 => by
  have ⟨F, s2⟩ := s1
  cases s2.fr.2
  refine ⟨a, rfl, ?_⟩
  cases a with
  | true => rw [if_pos rfl]; exact h2 rfl Φ σ H1 Q s1.weak1 q
  | false => rw [if_neg Bool.false_ne_true]; exact q _ H1 s1
theorem ev_orV {a b : Bool} (h1 : Ev ta ρ M (dat (.bool a)) M1) (h2 : a = false → Ev tb ρ M1 (dat (.bool b)) M1) : Ev (tOrV ta tb) ρ M (dat (.bool (a || b))) M1 := fun Φ σ H Q s q => h1 Φ σ H _ s fun v H1 s1 => by
  have ⟨F, s2⟩ := s1
  cases s2.fr.2
  refine ⟨a, rfl, ?_⟩
  cases a with
  | true => rw [if_pos rfl]; exact q _ H1 s1
  | false => rw [if_neg Bool.false_ne_true]; exact h2 rfl Φ σ H1 Q s1.weak1 q
theorem ev_notV {a : Bool} (h1 : Ev ta ρ M (dat (.bool a)) M') : Ev (tNotV ta) ρ M (dat (.bool (!a))) M' := fun Φ σ H Q s q => h1 Φ σ H _ s fun v H1 s1 => by
  have ⟨F, s2⟩ := s1
  cases s2.fr.2
  exact ⟨a, rfl, q _ H1 ⟨F, s2.ex, ⟨s2.fr.1, .bl _⟩, s2.sl, s2.nd, s2.ce⟩⟩
/-- a < b < c -/
theorem ev_chain {r r' : R2} {tc : TE} {a b : Bool} (h1 : Ev ta ρ M x M) (h2 : Ev tb ρ M y M) (hr : RV r x y M (dat (.bool a)) M) (h3 : a = true → Ev tc ρ M z M) (hr' : a = true → RV r' y z M (dat (.bool b)) M) : Ev (tChain r r' ta tb tc) ρ M (dat (.bool (a && b))) M := fun Φ σ H Q s q =>
  h1 Φ σ H _ s fun v H1 s1 => h2 _ σ H1 _ s1 fun w H2 s2 => by
    refine hr (Φ.and y w) ρ σ v w H2 _ (s2.weak (.of rfl fun F p => ⟨⟨⟨p.1.1, p.2⟩, p.1.2⟩, p.2⟩)) fun u H3 s3 => ?_
    have ⟨F, s4⟩ := s3
    cases s4.fr.2
    refine ⟨a, rfl, ?_⟩
    cases a with
    | false =>
      rw [if_neg Bool.false_ne_true]
      exact q _ H3 (s3.weak (.of rfl fun F p => ⟨p.1.1, p.2⟩))
    | true =>
      rw [if_pos rfl]
      refine h3 rfl _ σ H3 _ (s3.weak Le.and) fun c H4 s5 => ?_
      exact hr' rfl Φ ρ σ w c H4 Q s5 q
end
end Sx

set_option Elab.async false
set_option linter.all false
set_option maxRecDepth 100000
set_option maxHeartbeats 2000000
/-! Sx3: attributes, calls, statements, loops, comprehensions, by descriptions. -/
namespace Sx
open PySem L2 Evl

/-! ### attributes -/
inductive FGet (f : Str) (x : VD) : List Str → List VD → Prop
  | here {ns : List Str} {xs : List VD} : FGet f x (f :: ns) (x :: xs)
  | there {g : Str} {y : VD} {ns : List Str} {xs : List VD} : ¬ f = g → FGet f x ns xs → FGet f x (g :: ns) (y :: xs)
inductive FPut (f : Str) (y : VD) : List Str → List VD → List Str → List VD → Prop
  | here {z : VD} {ns : List Str} {xs : List VD} : FPut f y (f :: ns) (z :: xs) (f :: ns) (y :: xs)
  | there {g : Str} {z : VD} {ns ns' : List Str} {xs xs' : List VD} : ¬ g = f → FPut f y ns xs ns' xs' → FPut f y (g :: ns) (z :: xs) (g :: ns') (z :: xs')
  | new : FPut f y [] [] [f] [y]
theorem FA.cons_inv {F : Hp} {n : Str} {ns : List Str} {x : VD} {xs : List VD} {fs : List (Str × V)} (h : FA F (n :: ns) (x :: xs) fs) : ∃ v r, fs = (n, v) :: r ∧ x.P F v ∧ FA F ns xs r := by
  obtain ⟨h1, h2⟩ := h
  cases fs with
  | nil => simp at h1
  | cons a r =>
    obtain ⟨k, v⟩ := a
    simp only [List.map_cons, List.cons.injEq] at h1
    obtain ⟨rfl, h1⟩ := h1
    cases h2 with
    | cons q1 q2 => exact ⟨v, r, rfl, q1, h1, q2⟩
theorem FGet.look {f : Str} {x : VD} {F : Hp} {ns : List Str} {xs : List VD} (h : FGet f x ns xs) : ∀ {fs : List (Str × V)}, FA F ns xs fs → ∃ v, fs.lookup f = some v ∧ x.P F v := by
  induction h with
  | here =>
    intro fs a
    obtain ⟨v, r, rfl, q1, q2⟩ := a.cons_inv
    exact ⟨v, by simp [List.lookup], q1⟩
  | there hne _ ih =>
    intro fs a
    obtain ⟨v, r, rfl, q1, q2⟩ := a.cons_inv
    obtain ⟨w, h1, h2⟩ := ih q2
    refine ⟨w, ?_, h2⟩
    have hb : (f == _) = false := beq_eq_false_iff_ne.mpr hne
    simp only [List.lookup, hb]
    exact h1
theorem FPut.put {f : Str} {y : VD} {F : Hp} {v : V} (hv : y.P F v) {ns ns' : List Str} {xs xs' : List VD} (h : FPut f y ns xs ns' xs') : ∀ {fs : List (Str × V)}, FA F ns xs fs → FA F ns' xs' (putF f v fs) := by
  induction h with
  | here =>
    intro fs a
    obtain ⟨w, r, rfl, q1, q2⟩ := a.cons_inv
    rw [putF, if_pos rfl]
    exact ⟨by simp [q2.1], .cons hv q2.2⟩
  | there hne _ ih =>
    intro fs a
    obtain ⟨w, r, rfl, q1, q2⟩ := a.cons_inv
    rw [putF, if_neg hne]
    have := ih q2
    exact ⟨by simp [this.1], .cons q1 this.2⟩
  | new =>
    intro fs a
    obtain ⟨h1, h2⟩ := a
    cases fs with
    | nil => exact ⟨rfl, .cons hv .nil⟩
    | cons _ _ => simp at h1
theorem FA.lookup_none {F : Hp} {m : Str} : ∀ {ns : List Str} {xs : List VD} {fs : List (Str × V)}, FA F ns xs fs → m ∉ ns → fs.lookup m = none
  | [], xs, fs, h, _ => by
    cases fs with
    | nil => rfl
    | cons _ _ => simp [FA] at h
  | n :: ns, xs, fs, h, hm => by
    have hl := Paired.length h.2
    cases xs with
    | nil =>
      have := congrArg List.length h.1
      simp at this hl
      omega
    | cons x xs =>
      obtain ⟨v, r, rfl, q1, q2⟩ := h.cons_inv
      have hne : ¬ m = n := fun e => hm (e ▸ List.mem_cons_self)
      have hb : (m == n) = false := beq_eq_false_iff_ne.mpr hne
      simp only [List.lookup, hb]
      exact FA.lookup_none q2 fun z => hm (List.mem_cons_of_mem _ z)
theorem FA.len {F : Hp} {ns : List Str} {xs : List VD} {fs : List (Str × V)} (h : FA F ns xs fs) : fs.length = ns.length := by rw [← h.1, List.length_map]

section
variable {K : PySem.W.Frag} {ρ ρ' : Env} {M M1 M2 M3 M' : Cells} {x y z : VD} {te ta tb tv : TE} {t u : TS} {C p : Addr} {f : Str} {ns ns' : List Str} {xs xs' : List VD} {Φ : Fr} {D : Ends}
/-- what the text must have of a class: it is plain, none of the names is its own -/
structure ClsF (K : PySem.W.Frag) (C : Addr) (ns : List Str) : Prop where
  cl : Cls K C
  no : ∀ f ∈ ns, NoAttr K C f
theorem ev_fld (h : Ev ta ρ M (val (.ref p)) M1) (m : (p, cI C ns xs) ∈ M1) (c : ClsF K C ns') (hf : f ∈ ns') (g : FGet f x ns xs) : Ev (tFld K ta f) ρ M x M1 := fun Φ σ H Q s q => h Φ σ H _ s fun v H1 s1 => by
  have ⟨F, s2⟩ := s1
  have e : v = .ref p := s2.fr.2
  obtain ⟨o, h1, h0, dx, fs, rfl, h3⟩ := s2.at m
  obtain ⟨w, h4, h5⟩ := g.look h3
  exact ⟨p, C, dx, fs, w, e, h1, c.cl, c.no f hf, h4, q w H1 ⟨F, s2.ex, ⟨s2.fr.1, h5⟩, s2.sl, s2.nd, s2.ce⟩⟩

/-! ### calls -/
abbrev FSpec := List VD → Cells → (VD → Cells → Prop) → Prop
/-- one outcome alone -/
def Det (x : VD) (M : Cells) : VD → Cells → Prop := fun y N => y = x ∧ N = M
/-- a def's promise -/
def spF (n : Nat) (S : FSpec) : Sp := fun vs H Q _ => ∃ (Φ : Fr) (ρ : Env) (σ : L2.St) (ds : List VD) (M : Cells) (P : VD → Cells → Prop), Sat (Φ.andA ds vs) ρ M σ H ∧ vs.length = n ∧ S ds M P ∧
  ∀ x M' v H', P x M' → Sat (Φ.and x v) ρ M' σ H' → Q v H'
theorem spF_len {n : Nat} {S : FSpec} {vs : List V} {H : Hp} {Q : VK} {E : XK} (h : spF n S vs H Q E) : vs.length = n := let ⟨_, _, _, _, _, _, _, e, _⟩ := h; e
/-- several outcomes -/
def EvR (te : TE) (ρ : Env) (M : Cells) (P : VD → Cells → Prop) : Prop := ∀ (Φ : Fr) (σ : L2.St) (H : Hp) (Q : VK), Sat Φ ρ M σ H → (∀ x M' v H', P x M' → Sat (Φ.and x v) ρ M' σ H' → Q v H') → te σ H Q
theorem EvR.of (h : Ev te ρ M x M') : EvR te ρ M (Det x M') := fun Φ σ H Q s q => h Φ σ H Q s fun v H' s' => q x M' v H' ⟨rfl, rfl⟩ s'
theorem EvR.ev (h : EvR te ρ M (Det x M')) : Ev te ρ M x M' := fun Φ σ H Q s q => h Φ σ H Q s fun x1 M1 v H' ⟨e1, e2⟩ s' => by
  subst e1; subst e2
  exact q v H' s'
theorem EvR.imp {P P' : VD → Cells → Prop} (h : EvR te ρ M P) (k : ∀ x M', P x M' → P' x M') : EvR te ρ M P' := fun Φ σ H Q s q => h Φ σ H Q s fun x M' v H' p s' => q x M' v H' (k x M' p) s'
theorem er_call {n : Nat} {S : FSpec} {P : VD → Cells → Prop} {E : XK} {ta : TA} {ds : List VD} (h : EvA ta ρ M ds M1) (hn : ds.length = n) (hS : S ds M1 P) : EvR (tCall (spF n S) [] E ta) ρ M P := fun Φ σ H Q s q =>
  h Φ σ H _ s fun vs H1 s1 => by
    have ⟨F, s2⟩ := s1
    have hl := Paired.length s2.fr.2
    rw [List.append_nil]
    exact ⟨Φ, ρ, σ, ds, M1, P, s1, by rw [← hl]; exact hn, hS, fun x M' v H' p s' => q x M' v H' p s'⟩
theorem ev_call {n : Nat} {S : FSpec} {E : XK} {ta : TA} {ds : List VD} (h : EvA ta ρ M ds M1) (hn : ds.length = n) (hS : S ds M1 (Det x M2)) : Ev (tCall (spF n S) [] E ta) ρ M x M2 := (er_call h hn hS).ev
theorem er_meth {n : Nat} {S : FSpec} {P : VD → Cells → Prop} {E : XK} {m : Str} {t : TA} {ds : List VD} (ho : Ev ta ρ M (val (.ref p)) M1) (hm : (p, cI C ns xs) ∈ M1) (hf : m ∉ ns) (h : EvA t ρ M1 ds M2) (hn : ds.length + 1 = n) (hS : S (val (.ref p) :: ds) M2 P) : EvR (tMeth C m (spF n S) [] E ta t) ρ M P := fun Φ σ H Q s q =>
  ho Φ σ H _ s fun v H1 s1 => by
    have ⟨F, s2⟩ := s1
    have e : v = .ref p := s2.fr.2
    obtain ⟨o, h1, h0, dx, fs, rfl, h3⟩ := s2.at hm
    refine ⟨p, dx, fs, e, h1, h3.lookup_none hf, h _ σ H1 _ s1 fun vs H2 s3 => ?_⟩
    have ⟨F', s4⟩ := s3
    have hl := Paired.length s4.fr.2
    rw [List.append_nil]
    exact ⟨Φ, ρ, σ, val (.ref p) :: ds, M2, P, s3.weak (.of rfl fun F h => ⟨h.1.1, .cons h.1.2 h.2⟩), by rw [List.length_cons, ← hl]; exact hn, hS, fun x M' v H' p s' => q x M' v H' p s'⟩
theorem ev_meth {n : Nat} {S : FSpec} {E : XK} {m : Str} {t : TA} {ds : List VD} (ho : Ev ta ρ M (val (.ref p)) M1) (hm : (p, cI C ns xs) ∈ M1) (hf : m ∉ ns) (h : EvA t ρ M1 ds M2) (hn : ds.length + 1 = n) (hS : S (val (.ref p) :: ds) M2 (Det x M3)) : Ev (tMeth C m (spF n S) [] E ta t) ρ M x M3 := (er_meth ho hm hf h hn hS).ev
/-- C(..): the new instance anywhere -/
theorem er_make {n : Nat} {S : FSpec} {P : VD → Cells → Prop} {E : XK} {t : TA} {ds : List VD} (h : EvA t ρ M ds M1) (hn : ds.length + 1 = n) (hS : ∀ p, S (val (.ref p) :: ds) ((p, cI C [] []) :: M1) fun y M' => y = vn ∧ P (val (.ref p)) M') : EvR (tMake C (spF n S) [] E t) ρ M P := fun Φ σ H Q s q =>
  h Φ σ H _ s fun vs H1 s1 => fun x dx hx hdx hne => by
    have ⟨F, s2⟩ := s1
    have hl := Paired.length s2.fr.2
    rw [List.append_nil]
    have s3 := (s2.newH (o := .own x) hdx).newC (c := cI C [] []) (o := .ins C dx []) (p := x) (by rw [upd_ne hne.symm]; exact hx) fun e => ⟨e, dx, [], rfl, rfl, .nil⟩
    refine ⟨Φ, ρ, σ, val (.ref x) :: ds, (x, cI C [] []) :: M1, fun y M' => y = vn ∧ P (val (.ref x)) M', ⟨F, s3.weak (.of rfl fun F h => ⟨h.1, .cons rfl h.2⟩)⟩, by rw [List.length_cons, ← hl]; exact hn, hS x, fun y M' v H' hp s' => ?_⟩
    obtain ⟨rfl, hp⟩ := hp
    have ⟨F', s5⟩ := s'
    refine ⟨?_, q (val (.ref x)) M' (.ref x) H' hp ⟨F', s5.ex, ⟨s5.fr.1, rfl⟩, s5.sl, s5.nd, s5.ce⟩⟩
    have e : Rp F' v .none := s5.fr.2
    cases e
    rfl

/-! ### built-in calls, methods of built-in types -/
theorem ev_cb {r : List V → Hp → VK → Prop} {ta : TA} {ds : List VD} (h : EvA ta ρ M ds M1) (hr : RC r ds M1 z M2) : Ev (tCB r ta) ρ M z M2 := fun Φ σ H Q s q => h Φ σ H _ s fun vs H1 s1 => hr Φ ρ σ vs H1 Q s1 q
def IsTy (K : PySem.W.Frag) (T : String) (x : VD) (M : Cells) : Prop := ∀ {F Φ ρ σ H v}, SatF F Φ ρ M σ H → x.P F v → tyV K T v H
theorem ity_l {ds : List VD} (h : IsLstV x M ds) : IsTy K "list" x M := fun s q => by
  obtain ⟨a, ws, rfl, h1, _⟩ := h s q
  exact .inl ⟨rfl, ws, sq_of h1⟩
theorem ity_s {i : Str} : IsTy K "str" (dat (.str i)) M := fun s q => by cases q; exact rfl
theorem ev_bm {T : String} {r : V → List V → Hp → VK → Prop} {ta : TA} {ds : List VD} (ho : Ev tb ρ M x M1) (ty : IsTy K T x M1) (h : EvA ta ρ M1 ds M2) (hr : RM r x ds M2 z M3) : Ev (tBM K T r tb ta) ρ M z M3 := fun Φ σ H Q s q =>
  ho Φ σ H _ s fun v H1 ⟨F, s1⟩ => ⟨ty s1 s1.fr.2, h _ σ H1 _ ⟨F, s1⟩ fun vs H2 s2 => hr Φ ρ σ v vs H2 Q s2 q⟩
theorem ev_bm0 {T : String} {r : V → List V → Hp → VK → Prop} (ho : Ev tb ρ M x M1) (ty : IsTy K T x M1) (hr : RM r x [] M1 z M2) : Ev (tBM0 K T r tb) ρ M z M2 := fun Φ σ H Q s q =>
  ho Φ σ H _ s fun v H1 ⟨F, s1⟩ => ⟨ty s1 s1.fr.2, hr Φ ρ σ v [] H1 Q ⟨F, s1.ex, ⟨s1.fr, .nil⟩, s1.sl, s1.nd, s1.ce⟩ q⟩
/-- xs.append(e) -/
theorem rm_append {ds : List PyData} {d : PyData} (h : Put p (cLd ds) (cLd (ds ++ [d])) M M') (hl : ds.length < sizeLine) : RM rAppend (val (.ref p)) [dat d] M vn M' := fun Φ ρ σ v vs H Q ⟨F, s⟩ q => by
  have e : v = .ref p := s.fr.1.2
  cases s.fr.2 with
  | cons q1 q2 =>
    cases q2
    obtain ⟨o, h1, h0, ws, rfl, h3⟩ := s.at h.mem
    refine ⟨p, ws, _, e, rfl, h1, by rw [h3.length]; exact hl, q .non _ ⟨F, ?_⟩⟩
    have s' := s.put1 (o := .lst (ws ++ [_])) h h0 ⟨h0, _, rfl, h3.append (.cons q1 .nil)⟩
    exact ⟨s'.ex, ⟨s'.fr.1.1, .non⟩, s'.sl, s'.nd, s'.ce⟩
theorem rm_appendV {ds : List VD} {d : VD} (h : Put p (cL ds) (cL (ds ++ [d])) M M') (hl : ds.length < sizeLine) : RM rAppend (val (.ref p)) [d] M vn M' := fun Φ ρ σ v vs H Q ⟨F, s⟩ q => by
  have e : v = .ref p := s.fr.1.2
  cases s.fr.2 with
  | cons q1 q2 =>
    cases q2
    obtain ⟨o, h1, h0, ws, rfl, h3⟩ := s.at h.mem
    refine ⟨p, ws, _, e, rfl, h1, by rw [← Paired.length h3]; exact hl, q .non _ ⟨F, ?_⟩⟩
    have s' := s.put1 (o := .lst (ws ++ [_])) h h0 ⟨h0, _, rfl, h3.append (.cons q1 .nil)⟩
    exact ⟨s'.ex, ⟨s'.fr.1.1, .non⟩, s'.sl, s'.nd, s'.ce⟩
/-- len -/
def rLen (K : PySem.W.Frag) : List V → Hp → VK → Prop := fun xs H Q => ∃ x n, xs = [x] ∧ LenV K x H n ∧ Q (.int n) H
theorem call_len' {X : Cx} : CallR X (.builtin "len") (rLen X.K) := call_len
def rLenD : List V → Hp → VK → Prop := fun xs H Q => ∃ a kvs, xs = [V.ref a] ∧ H a = some (.dK kvs) ∧ Q (.int kvs.length) H
def rLenU (K : PySem.W.Frag) : List V → Hp → VK → Prop := fun xs H Q => rLen K xs H Q ∨ rLenD xs H Q
theorem call_lenU {X : Cx} : CallR X (.builtin "len") (rLenU X.K) := call_len'.or call_lenD
theorem rc1 {ds : List VD} {F : Hp} {vs : List V} (h : DA F [x] vs) : ∃ v, vs = [v] ∧ x.P F v := by
  cases h with
  | cons q1 q2 => cases q2; exact ⟨_, rfl, q1⟩
theorem rc2 {F : Hp} {vs : List V} (h : DA F [x, y] vs) : ∃ v w, vs = [v, w] ∧ x.P F v ∧ y.P F w := by
  cases h with
  | cons q1 q2 =>
    cases q2 with
    | cons q3 q4 => cases q4; exact ⟨_, _, rfl, q1, q3⟩
theorem SatF.base1 {F : Hp} {σ : L2.St} {H : Hp} {ds : List VD} {vs : List V} (s : SatF F (Φ.andA ds vs) ρ M σ H) : SatF F Φ ρ M σ H := s.weak Le.andA
theorem rc_len {ds : List VD} (hx : IsSeq K x M ds) : RC (rLenU K) [x] M (dat (.int ds.length)) M := fun Φ ρ σ vs H Q ⟨F, s⟩ q => by
  obtain ⟨v, rfl, h1⟩ := rc1 (ds := []) s.fr.2
  obtain ⟨a, ws, rfl, h2, h3⟩ := hx s h1
  have hl := Paired.length h3
  refine .inl ⟨_, ws.length, rfl, ?_, q _ _ (Sat.ret s.base1 (by rw [← hl]; exact .int _))⟩
  rcases h2 with h2 | h2
  · exact .inl ⟨ws, h2, rfl⟩
  · exact .inr ⟨ws, h2, rfl⟩
theorem rc_lenL {ds : List PyData} (hx : IsLst x M ds) : RC (rLenU K) [x] M (dat (.int ds.length)) M := by
  have h := rc_len (K := K) (iss_l (K := K) hx.v)
  rw [List.length_map] at h; exact h
theorem rc_lenT {ds : List PyData} (hx : IsTup x M ds) : RC (rLenU K) [x] M (dat (.int ds.length)) M := by
  have h := rc_len (K := K) (iss_t (K := K) hx.v)
  rw [List.length_map] at h; exact h
theorem rc_lenScr {is : List Int} : RC (rLenU K) [vscr K is] M (dat (.int is.length)) M := fun Φ ρ σ vs H Q ⟨F, s⟩ q => by
  obtain ⟨v, rfl, a, rfl, h1⟩ := rc1 (ds := []) s.fr.2
  refine .inl ⟨_, (is.map V.int).length, rfl, .inl ⟨_, ex_l s.ex h1, rfl⟩, q _ _ (Sat.ret s.base1 (by rw [List.length_map]; exact .int _))⟩
theorem rc_lenS {i : Str} (h : i.length ≤ sizeLine) : RC (rLenU K) [dat (.str i)] M (dat (.int i.length)) M := fun Φ ρ σ vs H Q ⟨F, s⟩ q => by
  obtain ⟨v, rfl, h1⟩ := rc1 (ds := []) s.fr.2
  cases h1
  exact .inl ⟨_, i.length, rfl, ⟨h, rfl⟩, q _ _ (Sat.ret s.base1 (.int _))⟩
/-- tuple(xs), list(xs) -/
def rTupOf (K : PySem.W.Frag) : List V → Hp → VK → Prop := fun xs H Q => ∃ p ys, xs = [.ref p] ∧ ((SqL K H p ys ∧ ∀ l, H l = none → Q (.ref l) (upd H l (.tup ys))) ∨ (SqT K H p ys ∧ Q (.ref p) H))
theorem call_tuple_of' {X : Cx} : CallR X (.type "tuple") (rTupOf X.K) := call_tuple_of
def rLstOf (K : PySem.W.Frag) : List V → Hp → VK → Prop := fun xs H Q => ∃ p ys, xs = [.ref p] ∧ (SqL K H p ys ∨ SqT K H p ys) ∧ ∀ l, H l = none → Q (.ref l) (upd H l (.lst ys))
theorem call_list_of' {X : Cx} : CallR X (.type "list") (rLstOf X.K) := call_list_of
theorem rc_tupL {ds : List PyData} (hx : IsLst x M ds) : RC (rTupOf K) [x] M (dat (.tuple ds)) M := fun Φ ρ σ vs H Q ⟨F, s⟩ q => by
  obtain ⟨v, rfl, h1⟩ := rc1 (ds := []) s.fr.2
  obtain ⟨a, ws, rfl, h2, h3⟩ := hx s h1
  exact ⟨a, ws, rfl, .inl ⟨sq_of h2, fun l hl => q _ _ (Sat.retNew s.base1 hl fun F' fx e => .tup e (h3.mono fx))⟩⟩
theorem rc_tupT {ds : List PyData} : RC (rTupOf K) [dat (.tuple ds)] M (dat (.tuple ds)) M := fun Φ ρ σ vs H Q ⟨F, s⟩ q => by
  obtain ⟨v, rfl, h1⟩ := rc1 (ds := []) s.fr.2
  have h1' := h1
  obtain ⟨a, ws, rfl, h2, h3⟩ := ist_dat s h1
  exact ⟨a, ws, rfl, .inr ⟨st_of h2, q _ _ (Sat.ret s.base1 h1')⟩⟩
theorem rc_lstL {ds : List PyData} (hx : IsLst x M ds) : RC (rLstOf K) [x] M (dat (.list ds)) M := fun Φ ρ σ vs H Q ⟨F, s⟩ q => by
  obtain ⟨v, rfl, h1⟩ := rc1 (ds := []) s.fr.2
  obtain ⟨a, ws, rfl, h2, h3⟩ := hx s h1
  exact ⟨a, ws, rfl, .inl (sq_of h2), fun l hl => q _ _ (Sat.retNew s.base1 hl fun F' fx e => .lst e (h3.mono fx))⟩
theorem rc_lstT {ds : List PyData} (hx : IsTup x M ds) : RC (rLstOf K) [x] M (dat (.list ds)) M := fun Φ ρ σ vs H Q ⟨F, s⟩ q => by
  obtain ⟨v, rfl, h1⟩ := rc1 (ds := []) s.fr.2
  obtain ⟨a, ws, rfl, h2, h3⟩ := hx s h1
  exact ⟨a, ws, rfl, .inr (st_of h2), fun l hl => q _ _ (Sat.retNew s.base1 hl fun F' fx e => .lst e (h3.mono fx))⟩
/-- any, all of a list of truth values -/
theorem rc_any {bs : List Bool} (hx : IsLst x M (bs.map PyData.bool)) : RC (rAny K) [x] M (dat (.bool (bs.any id))) M := fun Φ ρ σ vs H Q ⟨F, s⟩ q => by
  obtain ⟨v, rfl, h1⟩ := rc1 (ds := []) s.fr.2
  obtain ⟨a, ws, rfl, h2, h3⟩ := hx s h1
  cases h3.bls
  exact ⟨a, bs, rfl, sq_of h2, q _ _ (Sat.ret s.base1 (.bl _))⟩
theorem rc_all {bs : List Bool} (hx : IsLst x M (bs.map PyData.bool)) : RC (rAll K) [x] M (dat (.bool (bs.all id))) M := fun Φ ρ σ vs H Q ⟨F, s⟩ q => by
  obtain ⟨v, rfl, h1⟩ := rc1 (ds := []) s.fr.2
  obtain ⟨a, ws, rfl, h2, h3⟩ := hx s h1
  cases h3.bls
  exact ⟨a, bs, rfl, sq_of h2, q _ _ (Sat.ret s.base1 (.bl _))⟩
/-- max, min of two ints; abs; int -/
def rMax2 : List V → Hp → VK → Prop := fun xs H Q => ∃ i j, xs = [.int i, .int j] ∧ Q (.int (if j > i then j else i)) H
def rMin2 : List V → Hp → VK → Prop := fun xs H Q => ∃ i j, xs = [.int i, .int j] ∧ Q (.int (if j < i then j else i)) H
def rAbs : List V → Hp → VK → Prop := fun xs H Q => ∃ i, xs = [.int i] ∧ Q (.int (if i < 0 then -i else i)) H
def rInt1 : List V → Hp → VK → Prop := fun xs H Q => (∃ i, xs = [.int i] ∧ Q (.int i) H) ∨ ∃ k, xs = [.bl k] ∧ Q (.int (if k then 1 else 0)) H
theorem call_max2' {X : Cx} (hc : X.calm = true) : CallR X (.builtin "max") rMax2 := call_max2 hc
theorem call_min2' {X : Cx} (hc : X.calm = true) : CallR X (.builtin "min") rMin2 := call_min2 hc
theorem call_abs' {X : Cx} : CallR X (.builtin "abs") rAbs := call_abs
theorem call_int1' {X : Cx} : CallR X (.type "int") rInt1 := call_int1
theorem rc_max2 {i j : Int} : RC rMax2 [dat (.int i), dat (.int j)] M (dat (.int (max i j))) M := fun Φ ρ σ vs H Q ⟨F, s⟩ q => by
  obtain ⟨v, w, rfl, h1, h2⟩ := rc2 s.fr.2
  cases h1; cases h2
  have e : (if j > i then j else i) = max i j := by split <;> omega
  exact ⟨i, j, rfl, by rw [e]; exact q _ _ (Sat.ret s.base1 (.int _))⟩
theorem rc_min2 {i j : Int} : RC rMin2 [dat (.int i), dat (.int j)] M (dat (.int (min i j))) M := fun Φ ρ σ vs H Q ⟨F, s⟩ q => by
  obtain ⟨v, w, rfl, h1, h2⟩ := rc2 s.fr.2
  cases h1; cases h2
  have e : (if j < i then j else i) = min i j := by split <;> omega
  exact ⟨i, j, rfl, by rw [e]; exact q _ _ (Sat.ret s.base1 (.int _))⟩
theorem rc_abs {i : Int} : RC rAbs [dat (.int i)] M (dat (.int (if i < 0 then -i else i))) M := fun Φ ρ σ vs H Q ⟨F, s⟩ q => by
  obtain ⟨v, rfl, h1⟩ := rc1 (ds := []) s.fr.2
  cases h1
  exact ⟨i, rfl, q _ _ (Sat.ret s.base1 (.int _))⟩
theorem rc_int {i : Int} : RC rInt1 [dat (.int i)] M (dat (.int i)) M := fun Φ ρ σ vs H Q ⟨F, s⟩ q => by
  obtain ⟨v, rfl, h1⟩ := rc1 (ds := []) s.fr.2
  cases h1
  exact .inl ⟨i, rfl, q _ _ (Sat.ret s.base1 (.int _))⟩
end

/-! ### statements -/
def Cont (k : L2.St → Hp → Prop) (Φ : Fr) (ρ : Env) (M : Cells) : Prop := ∀ σ H, Sat Φ ρ M σ H → k σ H
/-- a word between -/
def InvK (Φ : Fr) (J : Env → Cells → Prop) : L2.St → Hp → Prop := fun σ H => ∃ ρ M, J ρ M ∧ Sat Φ ρ M σ H
/-- what is wanted of what is handed back -/
def RtQ (Q : VK) (Φ : Fr) (P : VD → Cells → Prop) : Prop := ∀ Φ' ρ σ x M v H, Le Φ' Φ → P x M → Sat (Φ'.and x v) ρ M σ H → Q v H
abbrev fnD (Q : VK) : Ends := { nx := fun _ H' => Q .non H', rt := Q }
section
variable {K : PySem.W.Frag} {ρ ρ' ρ1 : Env} {M M1 M2 M3 M' : Cells} {x y z : VD} {te ta tb tv : TE} {t u : TS} {tc : TT} {C p : Addr} {f : Str} {ns ns' nn : List Str} {xs xs' : List VD} {Φ Ψ : Fr} {D : Ends} {Q : VK} {P : VD → Cells → Prop} {J : Env → Cells → Prop}
theorem c_seq (h : Cont (t { D with nx := u D }) Φ ρ M) : Cont (tSeq t u D) Φ ρ M := h
theorem c_cut (h : Cont (t { D with nx := u D }) Φ ρ M) : Cont (tCut t u D) Φ ρ M := fun σ H s => ⟨u D, h σ H s, fun _ _ h => h⟩
/-- .. by a word -/
theorem c_cutW (J : Env → Cells → Prop) (h : Cont (t { D with nx := InvK Φ J }) Φ ρ M) (k : ∀ ρ' M', J ρ' M' → Cont (u D) Φ ρ' M') : Cont (tCut t u D) Φ ρ M := fun σ H s => ⟨InvK Φ J, h σ H s, fun σ' H' ⟨ρ', M', j, s'⟩ => k ρ' M' j σ' H' s'⟩
theorem c_inv (j : J ρ M) (l : Le Ψ Φ) : Cont (InvK Φ J) Ψ ρ M := fun σ H s => ⟨ρ, M, j, s.weak l⟩
theorem c_ret (h : Ev te ρ M x M1) (hQ : RtQ D.rt Φ P) (hP : P x M1) (l : Le Ψ Φ) : Cont (tRet te D) Ψ ρ M := fun σ H s => h Ψ σ H _ s fun v H1 s1 => hQ Ψ ρ σ x M1 v H1 l hP s1
theorem c_retR {P' : VD → Cells → Prop} (h : EvR te ρ M P') (hQ : RtQ D.rt Φ P) (hP : ∀ x M1, P' x M1 → P x M1) (l : Le Ψ Φ) : Cont (tRet te D) Ψ ρ M := fun σ H s => h Ψ σ H _ s fun x M1 v H1 p s1 => hQ Ψ ρ σ x M1 v H1 l (hP x M1 p) s1
theorem Sat.non (s : Sat Φ ρ M σ H) : Sat (Φ.and vn .non) ρ M σ H := let ⟨F, s⟩ := s; ⟨F, s.ex, ⟨s.fr, .non⟩, s.sl, s.nd, s.ce⟩
theorem c_retN (hQ : RtQ D.rt Φ P) (hP : P vn M) (l : Le Ψ Φ) : Cont (tRetN D) Ψ ρ M := fun σ H s => hQ Ψ ρ σ vn M .non H l hP s.non
theorem c_end (hQ : RtQ Q Φ P) (hP : P vn M) (l : Le Ψ Φ) : Cont (fun _ H' => Q .non H') Ψ ρ M := fun σ H s => hQ Ψ ρ σ vn M .non H l hP s.non
theorem c_next (h : Cont D.nx Φ ρ M) : Cont (tNext D) Φ ρ M := h
theorem c_break (h : Cont D.bk Φ ρ M) : Cont (tBreak D) Φ ρ M := h
theorem c_cont (h : Cont D.ct Φ ρ M) : Cont (tCont D) Φ ρ M := h
theorem Sat.asg {v : V} {σ : L2.St} {H : Hp} {i : Nat} (s : Sat (Φ.and x v) ρ M σ H) (h : SetAt x ρ i ρ') : Sat Φ ρ' M (σ.set i (some v)) H := by
  obtain ⟨F, s⟩ := s
  rw [h.eq]
  exact ⟨F, s.ex, s.fr.1, s.sl.set s.fr.2, s.nd, s.ce⟩
theorem c_asg {i : Nat} (h : Ev te ρ M x M1) (hs : SetAt x ρ i ρ') (k : Cont D.nx Φ ρ' M1) : Cont (tAsg te (gName i) D) Φ ρ M := fun σ H s => h Φ σ H _ s fun v H1 s1 => k _ _ (s1.asg hs)
theorem c_asgR {i : Nat} (h : EvR te ρ M P) (k : ∀ x M1, P x M1 → ∃ ρ', SetAt x ρ i ρ' ∧ Cont D.nx Φ ρ' M1) : Cont (tAsg te (gName i) D) Φ ρ M := fun σ H s => h Φ σ H _ s fun x M1 v H1 p s1 => by
  obtain ⟨ρ', hs, k⟩ := k x M1 p
  exact k _ _ (s1.asg hs)
theorem c_drop (h : Ev te ρ M x M1) (k : Cont D.nx Φ ρ M1) : Cont (tDrop te D) Φ ρ M := fun σ H s => h Φ σ H _ s fun v H1 s1 => k σ H1 s1.weak1
theorem c_dropR (h : EvR te ρ M P) (k : ∀ x M1, P x M1 → Cont D.nx Φ ρ M1) : Cont (tDrop te D) Φ ρ M := fun σ H s => h Φ σ H _ s fun x M1 v H1 p s1 => k x M1 p σ H1 s1.weak1
theorem c_if {b : Bool} (h : EvT tc ρ M b M1) (h1 : b = true → Cont (t D) Φ ρ M1) (h2 : b = false → Cont (u D) Φ ρ M1) : Cont (tIfS tc t u D) Φ ρ M := fun σ H s => h Φ σ H _ s fun H1 s1 => by
  cases b with
  | true => rw [if_pos rfl]; exact h1 rfl σ H1 s1
  | false => rw [if_neg Bool.false_ne_true]; exact h2 rfl σ H1 s1
theorem c_aug {i : Nat} {g : Int → Int → Int} {a b : Int} (h0 : At (dat (.int a)) ρ i) (h : Ev te ρ M (dat (.int b)) M1) (hs : SetAt (dat (.int (g a b))) ρ i ρ') (k : Cont D.nx Φ ρ' M1) : Cont (tAug i te (ipI g) D) Φ ρ M := fun σ H s => by
  have ⟨F, s0⟩ := s
  obtain ⟨v, h1, h2⟩ := s0.sl.2 i _ h0.get
  cases h2
  refine ⟨_, h1, h Φ σ H _ s fun w H1 s1 => ?_⟩
  have ⟨F1, s2⟩ := s1
  cases s2.fr.2
  refine ⟨a, b, rfl, rfl, k _ _ ?_⟩
  rw [hs.eq]
  exact ⟨F1, s2.ex, s2.fr.1, s2.sl.set (.int _), s2.nd, s2.ce⟩
theorem c_fld (hv : Ev tv ρ M y M1) (ho : Ev ta ρ M1 (val (.ref p)) M2) (h : Put p (cI C ns xs) (cI C ns' xs') M2 M3) (g : FPut f y ns xs ns' xs') (c : ClsF K C nn) (hf : f ∈ nn) (hl : ns.length < 1000) (k : Cont D.nx Φ ρ M3) : Cont (sFld K ta tv f D) Φ ρ M := fun σ H s =>
  hv Φ σ H _ s fun v H1 s1 => ho _ σ H1 _ s1 fun w H2 ⟨F, s2⟩ => by
    have e : w = .ref p := s2.fr.2
    obtain ⟨o, h1, h0, dx, fs, rfl, h3⟩ := s2.at h.mem
    refine ⟨p, C, dx, fs, e, h1, c.cl, c.no f hf, by rw [h3.len]; exact hl, k σ _ ⟨F, ?_⟩⟩
    exact (s2.put1 (o := .ins C dx (putF f v fs)) h h0 ⟨h0, dx, _, rfl, g.put s2.fr.1.2 h3⟩).weak (.of rfl fun F h => h.1.1)
end
end Sx

set_option Elab.async false
set_option linter.all false
set_option maxRecDepth 100000
set_option maxHeartbeats 2000000
/-! Sx4: targets, loops, comprehensions, by descriptions; a def's body. -/
namespace Sx
open PySem L2 Evl
section
variable {K : PySem.W.Frag} {ρ ρ' ρ1 ρ2 : Env} {M M1 M2 M3 M' : Cells} {x y z : VD} {te ta tb tv : TE} {t u : TS} {tt : TT} {C p : Addr} {Φ Ψ : Fr} {D : Ends} {P : VD → Cells → Prop} {J : Env → Cells → Prop}
/-! ### targets: what they store, where -/
def Tgt (g : TG) (js : List Nat) (x : VD) (ρ : Env) (ρ' : Env) : Prop := ∀ (Φ : Fr) (M : Cells) (v : V) (σ : L2.St) (H : Hp) (k : L2.St → Hp → Prop), Sat (Φ.and x v) ρ M σ H →
  (∀ σ', (∀ i, i ∉ js → σ'[i]? = σ[i]?) → σ'.length = σ.length → Sat Φ ρ' M σ' H → k σ' H) → g v σ H k
def Tgts (g : TGs) (js : List Nat) (xs : List VD) (ρ : Env) (ρ' : Env) : Prop := ∀ (Φ : Fr) (M : Cells) (vs : List V) (σ : L2.St) (H : Hp) (k : L2.St → Hp → Prop), Sat (Φ.andA xs vs) ρ M σ H →
  (∀ σ', (∀ i, i ∉ js → σ'[i]? = σ[i]?) → σ'.length = σ.length → Sat Φ ρ' M σ' H → k σ' H) → g vs σ H k
theorem tg_name {i : Nat} (h : SetAt x ρ i ρ') : Tgt (gName i) [i] x ρ ρ' := fun Φ M v σ H k s q => q _ (fun j hj => List.getElem?_set_ne (by simpa using Ne.symm (by simpa using hj))) (by simp) (s.asg h)
theorem tgs_nil : Tgts gNil [] [] ρ ρ := fun Φ M vs σ H k ⟨F, s⟩ q => by
  have e := s.fr.2
  cases e
  exact ⟨rfl, q σ (fun _ _ => rfl) rfl ⟨F, s.base1⟩⟩
theorem tgs_cons {g : TG} {gs : TGs} {js ks : List Nat} {xs : List VD} (h : Tgt g js x ρ ρ1) (hs : Tgts gs ks xs ρ1 ρ2) : Tgts (gCons g gs) (js ++ ks) (x :: xs) ρ ρ2 := fun Φ M vs σ H k s q => by
  have ⟨F, s0⟩ := s
  have e := s0.fr.2
  cases vs with
  | nil => cases e
  | cons v r =>
    refine ⟨v, r, rfl, h (Φ.andA xs r) M v σ H _ (s.weak (.of rfl fun F h => by
      cases h.2 with
      | cons q1 q2 => exact ⟨⟨h.1, q2⟩, q1⟩)) fun σ1 hj hl s1 => ?_⟩
    exact hs Φ M r σ1 H k s1 fun σ2 hk hl2 s2 => q σ2 (fun i hi => (hk i (fun z => hi (List.mem_append_right _ z))).trans (hj i fun z => hi (List.mem_append_left _ z))) (hl2.trans hl) s2
theorem tg_tup {gs : TGs} {js : List Nat} {n : Nat} {xs : List VD} (hx : ∀ {M}, IsTupV x M xs) (hs : Tgts gs js xs ρ ρ') (hn : xs.length = n) : Tgt (gTup K n gs) js x ρ ρ' := fun Φ M v σ H k ⟨F, s⟩ q => by
  obtain ⟨a, ws, rfl, h1, h2⟩ := hx s s.fr.2
  exact ⟨a, ws, rfl, st_of h1, by rw [← Paired.length h2]; exact hn, hs Φ M ws σ H k ⟨F, s.ex, ⟨s.fr.1, h2⟩, s.sl, s.nd, s.ce⟩ q⟩
theorem tg_tupD {gs : TGs} {js : List Nat} {n : Nat} {ds : List PyData} (hs : Tgts gs js (ds.map dat) ρ ρ') (hn : ds.length = n) : Tgt (gTup K n gs) js (dat (.tuple ds)) ρ ρ' := tg_tup ist_dat.v hs (by rw [List.length_map]; exact hn)
theorem c_asgG {g : TG} {js : List Nat} (h : Ev te ρ M x M1) (hg : Tgt g js x ρ ρ') (k : Cont D.nx Φ ρ' M1) : Cont (tAsg te g D) Φ ρ M := fun σ H s => h Φ σ H _ s fun v H1 s1 => hg Φ M1 v σ H1 _ s1 fun σ' _ _ s' => k σ' H1 s'
/-- a, b = e1, e2 -/
theorem c_par {i j : Nat} {ta : TA} (h : EvA ta ρ M [x, y] M1) (h1 : SetAt x ρ i ρ1) (h2 : SetAt y ρ1 j ρ2) (k : Cont D.nx Φ ρ2 M1) : Cont (tPar i j ta D) Φ ρ M := fun σ H s => h Φ σ H _ s fun vs H1 s1 => by
  have ⟨F, s0⟩ := s1
  obtain ⟨v, w, rfl, q1, q2⟩ := rc2 s0.fr.2
  refine ⟨v, w, rfl, k _ _ ?_⟩
  have s2 : Sat ((Φ.and y w).and x v) ρ M1 σ H1 := s1.weak (.of rfl fun F h => by
    obtain ⟨v', w', e, q1, q2⟩ := rc2 h.2
    cases e
    exact ⟨⟨h.1, q2⟩, q1⟩)
  exact (s2.asg h1).asg h2
theorem c_par3 {i j l : Nat} {ta : TA} {ρ3 : Env} (h : EvA ta ρ M [x, y, z] M1) (h1 : SetAt x ρ i ρ1) (h2 : SetAt y ρ1 j ρ2) (h3 : SetAt z ρ2 l ρ3) (k : Cont D.nx Φ ρ3 M1) : Cont (tPar3 i j l ta D) Φ ρ M := fun σ H s => h Φ σ H _ s fun vs H1 s1 => by
  have ⟨F, s0⟩ := s1
  obtain ⟨v, w, u', rfl⟩ : ∃ a b c, vs = [a, b, c] := by
    have e := Paired.length s0.fr.2
    match vs, e with
    | [a, b, c], _ => exact ⟨a, b, c, rfl⟩
  refine ⟨v, w, u', rfl, k _ _ ?_⟩
  have s2 : Sat (((Φ.and z u').and y w).and x v) ρ M1 σ H1 := s1.weak (.of rfl fun F h => by
    cases h.2 with
    | cons q1 q2 =>
      cases q2 with
      | cons q3 q4 =>
        cases q4 with
        | cons q5 q6 => exact ⟨⟨⟨h.1, q5⟩, q3⟩, q1⟩)
  exact ((s2.asg h1).asg h2).asg h3

/-! ### what is walked -/
def Walks (J : It) (Ψ : Fr) (its : List VD) : Prop := ∃ (G : Hp → Prop) (Y : Nat → Hp → V → Hp → Prop), Walk J its.length G Y ∧ (∀ Φ ρ M σ H, Le Φ Ψ → Sat Φ ρ M σ H → G H) ∧
  ∀ (i : Nat) (d : VD) (x : V) (H H' : Hp) (Φ : Fr) (ρ : Env) (M : Cells) (σ : L2.St), its[i]? = some d → Le Φ Ψ → Sat Φ ρ M σ H → Y i H x H' → Sat (Φ.and d x) ρ M σ H'
def EvI (wi : TI) (ρ : Env) (M : Cells) (its : List VD) (M' : Cells) : Prop := ∀ (Φ : Fr) (σ : L2.St) (H : Hp) (R : It → Hp → Prop), Sat Φ ρ M σ H → (∀ J H' Ψ, Le Ψ Φ → Sat Ψ ρ M' σ H' → Walks J Ψ its → R J H') → wi σ H R
theorem ei_vec {K : PySem.W.Frag} {ds : List VD} {a : Addr} {ws : List V} (hl : ws.length = ds.length) (hq : ∀ Φ ρ M σ H, Le Φ Ψ → Sat Φ ρ M σ H → SqL K H a ws ∧ ∃ F, SatF F Φ ρ M σ H ∧ DA F ds ws) : Walks (Itl K a) Ψ ds := by
  refine ⟨fun H => SqL K H a ws, YAt ws, hl ▸ walk_list, fun Φ ρ M σ H l s => (hq Φ ρ M σ H l s).1, fun i d x H H' Φ ρ M σ hi l s y => ?_⟩
  obtain ⟨rfl, hx⟩ := y
  obtain ⟨_, F, s0, hd⟩ := hq Φ ρ M σ H' l s
  obtain ⟨v, h1, h2⟩ := hd.get hi
  rw [hx] at h1
  cases h1
  exact ⟨F, s0.ex, ⟨s0.fr, h2⟩, s0.sl, s0.nd, s0.ce⟩
theorem ei_vecT {K : PySem.W.Frag} {ds : List VD} {a : Addr} {ws : List V} (hl : ws.length = ds.length) (hq : ∀ Φ ρ M σ H, Le Φ Ψ → Sat Φ ρ M σ H → SqT K H a ws ∧ ∃ F, SatF F Φ ρ M σ H ∧ DA F ds ws) : Walks (Itt K a) Ψ ds := by
  refine ⟨fun H => SqT K H a ws, YAt ws, hl ▸ walk_tup, fun Φ ρ M σ H l s => (hq Φ ρ M σ H l s).1, fun i d x H H' Φ ρ M σ hi l s y => ?_⟩
  obtain ⟨rfl, hx⟩ := y
  obtain ⟨_, F, s0, hd⟩ := hq Φ ρ M σ H' l s
  obtain ⟨v, h1, h2⟩ := hd.get hi
  rw [hx] at h1
  cases h1
  exact ⟨F, s0.ex, ⟨s0.fr, h2⟩, s0.sl, s0.nd, s0.ce⟩
/-- a fact of the frozen part, kept -/
def Fr.also (Φ : Fr) (G : Hp → Prop) (h : ∀ {F F'}, Fx F F' → G F → G F') : Fr := ⟨Φ.N, fun F => Φ.P F ∧ G F, fun e ⟨h1, h2⟩ => ⟨Φ.mono e h1, h e h2⟩⟩
/-- the description is of a frozen list (tuple) of such items -/
def FzL (x : VD) (ds : List VD) : Prop := ∀ F v, x.P F v → (vlst ds).P F v
def FzT (x : VD) (ds : List VD) : Prop := ∀ F v, x.P F v → (vtup ds).P F v
theorem fzl_dat {ds : List PyData} : FzL (dat (.list ds)) (ds.map dat) := fun F v h => vlst_dat.mpr h
theorem fzl_v {ds : List VD} : FzL (vlst ds) ds := fun F v h => h
theorem fzt_dat {ds : List PyData} : FzT (dat (.tuple ds)) (ds.map dat) := fun F v h => vtup_dat.mpr h
theorem fzt_v {ds : List VD} : FzT (vtup ds) ds := fun F v h => h
theorem fz_walkL {ds : List VD} {v : V} {σ : L2.St} {H : Hp} (s : Sat (Φ.and x v) ρ M σ H) (hx : FzL x ds) : ∃ a ws Ψ, v = .ref a ∧ SqL K H a ws ∧ Le Ψ Φ ∧ Sat Ψ ρ M σ H ∧ Walks (Itl K a) Ψ ds := by
  have ⟨F, s0⟩ := s
  obtain ⟨a, ws, rfl, h1, h2⟩ := hx F v s0.fr.2
  refine ⟨a, ws, Φ.also (fun F => F a = some (.lst ws) ∧ DA F ds ws) fun e h => ⟨e.pl _ _ h.1 rfl, h.2.mono e⟩, rfl, sq_of (s0.ex _ _ h1), .of rfl fun F h => h.1, ⟨F, s0.ex, ⟨s0.fr.1, h1, h2⟩, s0.sl, s0.nd, s0.ce⟩, ?_⟩
  refine ei_vec (ws := ws) (Paired.length h2).symm fun Φ' ρ' M' σ' H' l ⟨F', s'⟩ => ?_
  have := l.p F' s'.fr
  exact ⟨sq_of (s'.ex _ _ this.2.1), F', s', this.2.2⟩
theorem fz_walkT {ds : List VD} {v : V} {σ : L2.St} {H : Hp} (s : Sat (Φ.and x v) ρ M σ H) (hx : FzT x ds) : ∃ a ws Ψ, v = .ref a ∧ SqT K H a ws ∧ Le Ψ Φ ∧ Sat Ψ ρ M σ H ∧ Walks (Itt K a) Ψ ds := by
  have ⟨F, s0⟩ := s
  obtain ⟨a, ws, rfl, h1, h2⟩ := hx F v s0.fr.2
  refine ⟨a, ws, Φ.also (fun F => F a = some (.tup ws) ∧ DA F ds ws) fun e h => ⟨e.pl _ _ h.1 rfl, h.2.mono e⟩, rfl, st_of (s0.ex _ _ h1), .of rfl fun F h => h.1, ⟨F, s0.ex, ⟨s0.fr.1, h1, h2⟩, s0.sl, s0.nd, s0.ce⟩, ?_⟩
  refine ei_vecT (ws := ws) (Paired.length h2).symm fun Φ' ρ' M' σ' H' l ⟨F', s'⟩ => ?_
  have := l.p F' s'.fr
  exact ⟨st_of (s'.ex _ _ this.2.1), F', s', this.2.2⟩
/-- a list or a tuple -/
def iSeq (K : PySem.W.Frag) (tl : TE) : TI := fun σ H R => tl σ H fun x H1 => (∃ a, x = .ref a ∧ (∃ xs, SqL K H1 a xs) ∧ R (Itl K a) H1) ∨ ∃ a, x = .ref a ∧ (∃ xs, SqT K H1 a xs) ∧ R (Itt K a) H1
theorem iter_at {X : Cx} {tg : Expr} {pins : List (Addr × Obj)} {σ : L2.St} {H : Hp} {s1 : Shared} {R : It → Hp → Prop} {a : Addr} {xs : List V} (I1 : Inv X pins σ H s1) (hq : SqL X.K H a xs) (q : R (Itl X.K a) H) :
    wpAny (model X.prog X.w) X.A (pyIter (.ref a)) (PIE X pins σ tg R) X.xe s1 := by
  obtain ⟨its, rv, pl, hz⟩ := I1.list hq
  refine PySem.wpAny_pyIter_list pl.isList ?_
  refine ⟨_, [s1.heap.objs.size], _, _, H, rfl, I1.kept (t' := s1.toks) (fun b o => Heap.get?_push_of_some _), turn_list a _, ⟨_, Heap.get?_push_size _ rfl, rfl, rfl⟩, ?_, q⟩
  intro b hb
  cases List.mem_singleton.mp hb
  exact I1.fpOk (Nat.le_refl _) (I1.hok.fresh (Nat.le_refl _))
theorem iter_at_t {X : Cx} {tg : Expr} {pins : List (Addr × Obj)} {σ : L2.St} {H : Hp} {s1 : Shared} {R : It → Hp → Prop} {a : Addr} {xs : List V} (I1 : Inv X pins σ H s1) (hq : SqT X.K H a xs) (q : R (Itt X.K a) H) :
    wpAny (model X.prog X.w) X.A (pyIter (.ref a)) (PIE X pins σ tg R) X.xe s1 := by
  obtain ⟨its, rv, pl, hz⟩ := I1.tuple hq
  refine PySem.wpAny_pyIter_tuple (show s1.heap.IsTuple a its.toArray from pl) ?_
  refine ⟨_, [s1.heap.objs.size], _, _, H, rfl, I1.kept (t' := s1.toks) (fun b o => Heap.get?_push_of_some _), turn_tuple a _, ⟨_, Heap.get?_push_size _ rfl, rfl, rfl⟩, ?_, q⟩
  intro b hb
  cases List.mem_singleton.mp hb
  exact I1.fpOk (Nat.le_refl _) (I1.hok.fresh (Nat.le_refl _))
theorem pi_seq {X : Cx} {tg l : Expr} {tl : TE} (hl : PE X l tl) : PI X tg l (iSeq X.K tl) := by
  refine ⟨fun pins s σ H R I h => ?_⟩
  refine wpAny_mono (hl.run pins s σ H _ I h) (fun v s1 ⟨x, H1, I1, r1, q1⟩ => ?_) fun _ _ z => z
  rcases q1 with ⟨a, e, ⟨xs, hq⟩, q⟩ | ⟨a, e, ⟨xs, hq⟩, q⟩
  · subst e
    cases r1
    exact iter_at I1 hq q
  · subst e
    cases r1
    exact iter_at_t I1 hq q
theorem ei_seqL {tl : TE} {ds : List VD} (h : Ev tl ρ M x M') (hx : FzL x ds) : EvI (iSeq K tl) ρ M ds M' := fun Φ σ H R s q => h Φ σ H _ s fun v H1 s1 => by
  obtain ⟨a, ws, Ψ, e, h1, h2, h3, h4⟩ := fz_walkL (K := K) s1 hx
  exact .inl ⟨a, e, ⟨ws, h1⟩, q _ _ Ψ h2 h3 h4⟩
theorem ei_seqT {tl : TE} {ds : List VD} (h : Ev tl ρ M x M') (hx : FzT x ds) : EvI (iSeq K tl) ρ M ds M' := fun Φ σ H R s q => h Φ σ H _ s fun v H1 s1 => by
  obtain ⟨a, ws, Ψ, e, h1, h2, h3, h4⟩ := fz_walkT (K := K) s1 hx
  exact .inr ⟨a, e, ⟨ws, h1⟩, q _ _ Ψ h2 h3 h4⟩
def irange (lo : Int) (n : Nat) : List VD := (List.range n).map fun i => dat (.int (lo + (i : Nat)))
theorem ei_rng {lo : Int} {n : Nat} : Walks (Itr lo n) Ψ (irange lo n) := by
  refine ⟨fun _ => True, YFn fun i => .int (lo + i), ?_, fun _ _ _ _ _ _ _ => trivial, fun i d x H H' Φ ρ M σ hi l s y => ?_⟩
  · have : (irange lo n).length = n := by simp [irange]
    rw [this]
    exact walk_range
  · obtain ⟨rfl, rfl⟩ := y
    have ⟨F, s0⟩ := s
    have e : d = dat (.int (lo + (i : Nat))) := by
      unfold irange at hi
      rw [List.getElem?_map] at hi
      cases q : (List.range n)[i]? with
      | none => rw [q] at hi; cases hi
      | some j =>
        rw [q] at hi
        have := List.getElem?_eq_some_iff.mp q
        obtain ⟨h1, h2⟩ := this
        rw [List.getElem_range] at h2
        subst h2
        exact (Option.some.inj hi).symm
    subst e
    exact ⟨F, s0.ex, ⟨s0.fr, .int _⟩, s0.sl, s0.nd, s0.ce⟩
theorem ei_rng1 {ta : TA} {n : Int} (h : EvA ta ρ M [dat (.int n)] M') (hn : -(2 ^ 62) ≤ n ∧ n < 2 ^ 62) : EvI (iRng1 ta) ρ M (irange 0 n.toNat) M' := fun Φ σ H R s q => h Φ σ H _ s fun vs H1 s1 => by
  have ⟨F, s0⟩ := s1
  obtain ⟨v, rfl, h1⟩ := rc1 (ds := []) s0.fr.2
  cases h1
  exact ⟨n, rfl, hn.1, hn.2, q _ H1 Φ (.refl _) (s1.weak Le.andA) ei_rng⟩
theorem ei_rng2 {ta : TA} {m n : Int} (h : EvA ta ρ M [dat (.int m), dat (.int n)] M') (hn : -(2 ^ 62) ≤ m ∧ m < 2 ^ 62 ∧ -(2 ^ 62) ≤ n ∧ n < 2 ^ 62) : EvI (iRng2 ta) ρ M (irange m (n - m).toNat) M' := fun Φ σ H R s q => h Φ σ H _ s fun vs H1 s1 => by
  have ⟨F, s0⟩ := s1
  obtain ⟨v, w, rfl, h1, h2⟩ := rc2 s0.fr.2
  cases h1; cases h2
  exact ⟨m, n, rfl, hn, q _ H1 Φ (.refl _) (s1.weak Le.andA) ei_rng⟩
/-- pairs: a new tuple each -/
theorem ei_pair {G : Hp → Prop} {n : Nat} {J : It} {f g : Nat → Option V} {ds es : List VD} (hn : ds.length = n) (hn2 : es.length = n) (w : Walk J n G (YPair f g)) (hG : ∀ Φ ρ M σ H, Le Φ Ψ → Sat Φ ρ M σ H → G H)
    (h : ∀ Φ ρ M σ H, Le Φ Ψ → Sat Φ ρ M σ H → ∃ F, SatF F Φ ρ M σ H ∧ ∀ (i : Nat) d e v w, ds[i]? = some d → es[i]? = some e → f i = some v → g i = some w → d.P F v ∧ e.P F w) : Walks J Ψ ((ds.zip es).map fun p => vtup [p.1, p.2]) := by
  refine ⟨G, YPair f g, ?_, hG, fun i d x H H' Φ ρ M σ hi l s y => ?_⟩
  · have : ((ds.zip es).map fun p => vtup [p.1, p.2]).length = n := by simp [hn, hn2]
    rw [this]
    exact w
  · obtain ⟨T, v, u, rfl, hT, rfl, h1, h2⟩ := y
    obtain ⟨F, s0, hd⟩ := h Φ ρ M σ H l s
    rw [List.getElem?_map] at hi
    cases q : (ds.zip es)[i]? with
    | none => rw [q] at hi; cases hi
    | some p =>
      obtain ⟨d1, e1⟩ := p
      rw [q] at hi
      cases hi
      rw [List.getElem?_zip_eq_some] at q
      obtain ⟨k1, k2⟩ := hd i d1 e1 v u q.1 q.2 h1 h2
      exact Sat.retNew s0 hT fun F' fx e => ⟨T, [v, u], rfl, e, .cons (d1.mono fx k1) (.cons (e1.mono fx k2) .nil)⟩
theorem ei_enum {ta : TA} {ds : List VD} (h : EvA ta ρ M [x] M') (hx : FzL x ds) : EvI (iEnum K ta) ρ M (((irange 0 ds.length).zip ds).map fun p => vtup [p.1, p.2]) M' := fun Φ σ H R s q => h Φ σ H _ s fun vs H1 s1 => by
  have ⟨F, s0⟩ := s1
  obtain ⟨v, rfl, h1⟩ := rc1 (ds := []) s0.fr.2
  obtain ⟨a, ws, rfl, h1, h2⟩ := hx F v h1
  refine ⟨a, ws, rfl, sq_of (s0.ex _ _ h1), q _ H1 (Φ.also (fun F => F a = some (.lst ws) ∧ DA F ds ws) fun e h => ⟨e.pl _ _ h.1 rfl, h.2.mono e⟩) (.of rfl fun F h => h.1) ⟨F, s0.ex, ⟨s0.fr.1, h1, h2⟩, s0.sl, s0.nd, s0.ce⟩ ?_⟩
  have hl := Paired.length h2
  refine ei_pair (n := ws.length) (by simp [irange, hl]) hl (walk_enum (K := K) (a := a) (xs := ws)) (fun Φ' ρ' M' σ' H' l ⟨F', s'⟩ => sq_of (s'.ex _ _ (l.p F' s'.fr).2.1)) fun Φ' ρ' M' σ' H' l ⟨F', s'⟩ => ⟨F', s', fun i d e v w q1 q2 q3 q4 => ?_⟩
  obtain ⟨v', k1, k2⟩ := (l.p F' s'.fr).2.2.get q2
  rw [q4] at k1
  cases k1
  refine ⟨?_, k2⟩
  cases q3
  unfold irange at q1
  rw [List.getElem?_map] at q1
  cases q : (List.range ds.length)[i]? with
  | none => rw [q] at q1; cases q1
  | some j =>
    rw [q] at q1
    obtain ⟨z1, z2⟩ := List.getElem?_eq_some_iff.mp q
    rw [List.getElem_range] at z2
    subst z2
    cases q1
    show Rp F' (V.int (i : Int)) (PyData.int (0 + (i : Int)))
    rw [Int.zero_add]
    exact .int _
theorem ei_zip {ta : TA} {ds es : List VD} (h : EvA ta ρ M [x, y] M') (hx : FzL x ds) (hy : FzL y es) : EvI (iZip K ta) ρ M ((ds.zip es).map fun p => vtup [p.1, p.2]) M' := fun Φ σ H R s q => h Φ σ H _ s fun vs H1 s1 => by
  have ⟨F, s0⟩ := s1
  obtain ⟨v, w, rfl, h1, h2⟩ := rc2 s0.fr.2
  obtain ⟨a, ws, rfl, h1, h3⟩ := hx F v h1
  obtain ⟨b, us, rfl, h2, h4⟩ := hy F w h2
  refine ⟨a, b, ws, us, rfl, sq_of (s0.ex _ _ h1), sq_of (s0.ex _ _ h2), q _ H1 (Φ.also (fun F => (F a = some (.lst ws) ∧ DA F ds ws) ∧ F b = some (.lst us) ∧ DA F es us) fun e h => ⟨⟨e.pl _ _ h.1.1 rfl, h.1.2.mono e⟩, e.pl _ _ h.2.1 rfl, h.2.2.mono e⟩) (.of rfl fun F h => h.1) ⟨F, s0.ex, ⟨s0.fr.1, ⟨h1, h3⟩, h2, h4⟩, s0.sl, s0.nd, s0.ce⟩ ?_⟩
  have hl := Paired.length h3
  have hl2 := Paired.length h4
  have e1 : (ds.take (min ws.length us.length)).zip (es.take (min ws.length us.length)) = ds.zip es := by
    rw [List.zip_eq_zipWith, List.zip_eq_zipWith, ← List.take_zipWith, List.take_of_length_le (by rw [List.length_zipWith]; omega)]
  rw [← e1]
  refine ei_pair (n := min ws.length us.length) (by rw [List.length_take]; omega) (by rw [List.length_take]; omega) (walk_zip (K := K) (a := a) (b := b) (xs := ws) (ys := us) rfl) (fun Φ' ρ' M' σ' H' l ⟨F', s'⟩ => ⟨sq_of (s'.ex _ _ (l.p F' s'.fr).2.1.1), sq_of (s'.ex _ _ (l.p F' s'.fr).2.2.1)⟩) fun Φ' ρ' M' σ' H' l ⟨F', s'⟩ => ⟨F', s', fun i d e v w q1 q2 q3 q4 => ?_⟩
  have hi : i < min ws.length us.length := by
    have := (List.getElem?_eq_some_iff.mp q1).1
    rw [List.length_take] at this
    omega
  rw [List.getElem?_take_of_lt hi] at q1 q2
  obtain ⟨v', k1, k2⟩ := (l.p F' s'.fr).2.1.2.get q1
  obtain ⟨w', k3, k4⟩ := (l.p F' s'.fr).2.2.2.get q2
  rw [q3] at k1
  rw [q4] at k3
  cases k1; cases k3
  exact ⟨k2, k4⟩

/-! ### for -/
theorem c_for {wi : TI} {g : TG} {tb : TS} {its : List VD} (h : EvI wi ρ M its M1) (I : Nat → Env → Cells → Prop) (h0 : I 0 ρ M1)
    (hs : ∀ Ψ, Le Ψ Φ → ∀ (i : Nat) d ρ' M', its[i]? = some d → I i ρ' M' → ∃ ρ'' js, Tgt g js d ρ' ρ'' ∧ Cont (tb { D with nx := InvK Ψ (I (i + 1)), ct := InvK Ψ (I (i + 1)), bk := D.nx }) Ψ ρ'' M')
    (hd : ∀ ρ' M', I its.length ρ' M' → Cont D.nx Φ ρ' M') : Cont (tFor wi g tb D) Φ ρ M := fun σ H s => h Φ σ H _ s fun J H1 Ψ l s1 ⟨G, Y, w, hG, hY⟩ =>
  for_it w (fun i => InvK Ψ (I i)) ⟨ρ, M1, h0, s1⟩ (fun i σ' H' _ ⟨ρ', M', _, s'⟩ => hG Ψ ρ' M' σ' H' (.refl _) s') (fun i x σ' H' H2 hi ⟨ρ', M', j, s'⟩ y => by
    have hi' : its[i]? = some its[i] := by simp [hi]
    obtain ⟨ρ'', js, hg, k⟩ := hs Ψ l i its[i] ρ' M' hi' j
    exact hg Ψ M' x σ' H2 _ (hY i its[i] x H' H2 Ψ ρ' M' σ' hi' (.refl _) s' y) fun σ2 _ _ s2 => k σ2 H2 s2) fun σ' H' ⟨ρ', M', j, s'⟩ => hd ρ' M' j σ' H' (s'.weak l)

theorem for_k {g : TG} {tb : TS} {js : List Nat} {d : VD} {D' : Ends} (h : Tgt g js d ρ ρ') (k : Cont (tb D') Ψ ρ' M) : ∃ ρ'' js, Tgt g js d ρ ρ'' ∧ Cont (tb D') Ψ ρ'' M := ⟨ρ', js, h, k⟩

/-! ### while -/
theorem c_while {tc : TT} {tb : TS} (I : Nat → Env → Cells → Prop) (m0 : Nat) (h0 : I m0 ρ M)
    (hs : ∀ m ρ' M', I m ρ' M' → ∃ b M1, EvT tc ρ' M' b M1 ∧ (b = true → Cont (tb { D with nx := InvK Φ (fun ρ M => ∃ m', m' < m ∧ I m' ρ M), ct := InvK Φ (fun ρ M => ∃ m', m' < m ∧ I m' ρ M), bk := D.nx }) Φ ρ' M1) ∧ (b = false → Cont D.nx Φ ρ' M1)) :
    Cont (tWhile tc tb D) Φ ρ M := fun σ H s => by
  refine ⟨fun m => InvK Φ (I m), ⟨m0, ρ, M, h0, s⟩, ?_⟩
  rintro m σ' H' ⟨ρ', M', j, s'⟩
  obtain ⟨b, M1, hb, h1, h2⟩ := hs m ρ' M' j
  refine hb Φ σ' H' _ s' fun H1 s1 => ?_
  cases b with
  | true =>
    rw [if_pos rfl]
    exact ⟨_, fun σ2 H2 ⟨ρ2, M2, ⟨m', hm, j2⟩, s2⟩ => ⟨m', hm, ρ2, M2, j2, s2⟩, h1 rfl σ' H1 s1⟩
  | false =>
    rw [if_neg Bool.false_ne_true]
    exact h2 rfl σ' H1 s1

/-! ### comprehensions -/
def wipeE (ρ : Env) : List Nat → Env
  | [] => ρ
  | v :: vs => (wipeE ρ vs).set v none
theorem Slots.wipes {F : Hp} {σ : L2.St} {ρ : Env} (h : Slots F σ ρ) : ∀ vs : List Nat, Slots F (L2.wipe σ vs) (wipeE ρ vs)
  | [] => h
  | v :: vs => (Slots.wipes h vs).wipe v
theorem wipe_get (σ : L2.St) : ∀ (vs : List Nat) (i : Nat), (L2.wipe σ vs)[i]? = if i ∈ vs then (if i < σ.length then some none else none) else σ[i]?
  | [], i => by simp [L2.wipe]
  | v :: vs, i => by
    rw [L2.wipe, List.getElem?_set, wipe_length]
    by_cases h : v = i
    · subst h; simp
    · rw [if_neg h, wipe_get σ vs i]
      have : (i ∈ v :: vs) ↔ i ∈ vs := by
        rw [List.mem_cons]
        constructor
        · rintro (e | e)
          · exact absurd e.symm h
          · exact e
        · exact .inr
      simp only [this]
theorem wipe_eq {σ σ' : L2.St} {js vs : List Nat} (h : ∀ i, i ∉ js → σ'[i]? = (L2.wipe σ vs)[i]?) (hl : σ'.length = (L2.wipe σ vs).length) (hj : ∀ i ∈ js, i ∈ vs) : L2.wipe σ' vs = L2.wipe σ vs := by
  apply List.ext_getElem?
  intro i
  rw [wipe_length] at hl
  rw [wipe_get, wipe_get, hl]
  by_cases hi : i ∈ vs
  · rw [if_pos hi, if_pos hi]
  · rw [if_neg hi, if_neg hi, h i (fun z => hi (hj i z)), wipe_get, if_neg hi]
theorem SatF.wiped {F : Hp} {σ : L2.St} {H : Hp} (s : SatF F Φ ρ M σ H) (vs : List Nat) : SatF F Φ (wipeE ρ vs) M (L2.wipe σ vs) H := ⟨s.ex, s.fr, s.sl.wipes vs, s.nd, s.ce⟩
/-- an owned list of values is frozen -/
theorem SatF.freeze {F : Hp} {σ : L2.St} {H : Hp} {D : Addr} {acc : List VD} (s : SatF F (Φ.more (D, cL acc)) ρ M σ H) : Sat (Φ.and (vlst acc) (.ref D)) ρ M σ H := by
  obtain ⟨o, h1, h0, ws, rfl, h3⟩ := s.ce (D, cL acc) (List.mem_append_right _ List.mem_cons_self)
  have fx : Fx F (upd F D (.lst ws)) := Fx.of (Ex.new h0)
  have hsub : (M ++ Φ.N).Sublist (M ++ (Φ.more (D, cL acc)).N) := List.Sublist.append (List.Sublist.refl M) (List.sublist_cons_self _ _)
  refine ⟨upd F D (.lst ws), fun a u e => ?_, ⟨Φ.mono fx s.fr, D, ws, rfl, upd_same, h3.mono fx⟩, s.sl.mono fx, s.nd.sublist (hsub.map _), fun c hc => ?_⟩
  · by_cases h : a = D
    · subst h; rw [upd_same] at e; cases e; exact h1
    · rw [upd_ne h] at e; exact s.ex a u e
  · obtain ⟨u, k1, k2⟩ := s.ce c (hsub.subset hc)
    have hne : c.1 ≠ D := fun e => by
      have nd := s.nd
      have hmem : c ∈ M ++ Φ.N := hc
      have hp : (M ++ (Φ.more (D, cL acc)).N).Perm ((D, cL acc) :: (M ++ Φ.N)) := List.perm_middle
      have nd2 := (hp.map (·.1)).nodup_iff.mp nd
      rw [List.map_cons, List.nodup_cons] at nd2
      exact nd2.1 (List.mem_map.mpr ⟨c, hmem, e⟩)
    exact ⟨u, k1, c.2.mono fx (upd_ne hne) k2⟩
/-- the general one: I by the turn, what is made so far, the cells -/
theorem er_lc {wi : TI} {g : TG} {tt : TT} {vs : List Nat} {its : List VD} (h : EvI wi ρ M its M1) (I : Nat → List VD → Cells → Prop) (h0 : I 0 [] M1) (hl : its.length ≤ 16000000)
    (hI : ∀ i acc M', I i acc M' → acc.length ≤ i)
    (hs : ∀ (i : Nat) d acc M', its[i]? = some d → I i acc M' → ∃ ρ'' js b M2, Tgt g js d (wipeE ρ vs) ρ'' ∧ (∀ i ∈ js, i ∈ vs) ∧ EvT tt ρ'' M' b M2 ∧ (b = true → EvR te ρ'' M2 fun y M3 => I (i + 1) (acc ++ [y]) M3) ∧ (b = false → I (i + 1) acc M2)) :
    EvR (tLc wi g tt te vs) ρ M fun y M' => ∃ acc, y = vlst acc ∧ I its.length acc M' := fun Φ σ H Q s q => h Φ σ H _ s fun J H1 Ψ l s1 ⟨G, Y, w, hG, hY⟩ => fun Dl hD => by
  have ⟨F1, s2⟩ := s1
  have lm : ∀ c, Le (Ψ.more c) Ψ := fun c => Le.more
  -- the frame's slots are kept aside
  let Ψ0 : Fr := Ψ.slots σ ρ
  refine lc_it w (fun i H' => ∃ acc M', I i acc M' ∧ Sat (Ψ0.more (Dl, cL acc)) (wipeE ρ vs) M' (L2.wipe σ vs) H') ⟨[], M1, h0, ?_⟩ (fun i H' _ ⟨acc, M', _, s'⟩ => hG _ _ _ _ _ (Le.trans Le.more Le.slots) s') (fun i x H' H2 hi ⟨acc, M', j, s'⟩ y => ?_) (fun H' ⟨acc, M', j, s'⟩ => ?_)
  · have s3 := s2.newC (c := cL []) (o := .lst []) hD fun e => ⟨e, [], rfl, .nil⟩
    refine ⟨F1, s3.ex, ⟨s3.fr, s3.sl⟩, s3.sl.wipes vs, ?_, fun c hc => ?_⟩
    · have hp : (M1 ++ (Ψ0.more (Dl, cL [])).N).Perm ((Dl, cL []) :: M1 ++ Ψ.N) := List.perm_middle
      exact (hp.map (·.1)).nodup_iff.mpr s3.nd
    · have hp : (M1 ++ (Ψ0.more (Dl, cL [])).N).Perm ((Dl, cL []) :: M1 ++ Ψ.N) := List.perm_middle
      exact s3.ce c (hp.mem_iff.mp hc)
  · have hi' : its[i]? = some its[i] := by simp [hi]
    obtain ⟨ρ'', js, b, M2, hg, hj, ht, h1, h2⟩ := hs i its[i] acc M' hi' j
    have s3 := hY i its[i] x H' H2 _ _ _ _ hi' (Le.trans Le.more Le.slots) s' y
    refine hg _ M' x _ H2 _ s3 fun σ2 k1 k2 s4 => ⟨wipe_eq k1 k2 hj, ht _ σ2 H2 _ s4 fun H3 s5 => ?_⟩
    -- back to the wiped slots
    have back : ∀ {Φ' : Fr} {acc' : List VD} {M' : Cells} {H' : Hp} {σ3 : L2.St} {ρ3 : Env}, Sat (Ψ0.more (Dl, cL acc')) ρ3 M' σ3 H' → Sat (Ψ0.more (Dl, cL acc')) (wipeE ρ vs) M' (L2.wipe σ vs) H' := fun {_ _ _ _ _ _} ⟨F, z⟩ => ⟨F, z.ex, z.fr, z.fr.2.wipes vs, z.nd, z.ce⟩
    cases b with
    | false =>
      rw [if_neg Bool.false_ne_true]
      exact ⟨acc, M2, h2 rfl, back (Φ' := Ψ) s5⟩
    | true =>
      rw [if_pos rfl]
      refine h1 rfl _ σ2 H3 _ s5 fun y M3 v H4 j4 s6 => ?_
      have ⟨F, s7⟩ := s6
      obtain ⟨o, e1, e0, ws, rfl, e3⟩ := s7.ce (Dl, cL acc) (List.mem_append_right _ List.mem_cons_self)
      refine ⟨ws, e1, ?_, acc ++ [y], M3, j4, back (Φ' := Ψ) (σ3 := σ2) (ρ3 := ρ'') ⟨F, ?_⟩⟩
      · rw [← Paired.length e3]
        have := hI i acc M' j
        have hz : sizeLine = 16777216 := sizeLine_eq
        omega
      · exact s7.put (Φ' := Ψ0.more (Dl, cL (acc ++ [y]))) (c := cL acc) (Put.behind .here M3) s7.fr.1 e0 ⟨e0, _, rfl, e3.append (.cons s7.fr.2 .nil)⟩
  · have ⟨F, s3⟩ := s'
    have s4 : SatF F (Ψ0.more (Dl, cL acc)) ρ M' σ H' := ⟨s3.ex, s3.fr, s3.fr.2, s3.nd, s3.ce⟩
    exact q (vlst acc) M' (.ref Dl) H' ⟨acc, rfl, j⟩ (s4.freeze.weak ⟨by show Φ.N.Sublist Ψ.N; exact l.n, fun F h => ⟨l.p F h.1.1, h.2⟩⟩)
theorem lc_k {g : TG} {tt : TT} {js vs : List Nat} {d : VD} {b : Bool} {Pe : Env → Prop} (h : Tgt g js d ρ ρ') (hj : ∀ i ∈ js, i ∈ vs) (ht : EvT tt ρ' M b M) (k : Pe ρ') :
    ∃ ρ'' js, Tgt g js d ρ ρ'' ∧ (∀ i ∈ js, i ∈ vs) ∧ EvT tt ρ'' M b M ∧ Pe ρ'' := ⟨ρ', js, h, hj, ht, k⟩
/-- data for each item that is let by, nothing else changes -/
theorem ev_lc {α : Type} {wi : TI} {g : TG} {tt : TT} {vs : List Nat} {e : α → VD} {xs : List α} {f : α → Bool} {r : α → PyData} (h : EvI wi ρ M (xs.map e) M1) (hl : xs.length ≤ 16000000)
    (hs : ∀ a, a ∈ xs → ∃ ρ'' js, Tgt g js (e a) (wipeE ρ vs) ρ'' ∧ (∀ i ∈ js, i ∈ vs) ∧ EvT tt ρ'' M1 (f a) M1 ∧ (f a = true → Ev te ρ'' M1 (dat (r a)) M1)) : Ev (tLc wi g tt te vs) ρ M (dat (.list ((xs.filter f).map r))) M1 := by
  refine Ev.imp (EvR.ev ((er_lc h (fun i acc M' => M' = M1 ∧ acc = (((xs.take i).filter f).map r).map dat) ⟨rfl, rfl⟩ (by rw [List.length_map]; exact hl) (fun i acc M' ⟨_, e⟩ => ?_) fun i d acc M' hi ⟨e1, e2⟩ => ?_).imp (P' := Det (vlst (((xs.filter f).map r).map dat)) M1) fun x M' ⟨acc, e, e1, e2⟩ => ?_)) fun F v h => vlst_dat.mp h
  · subst e
    rw [List.length_map, List.length_map]
    exact Nat.le_trans (List.length_filter_le _ _) (by rw [List.length_take]; omega)
  · subst e1; subst e2
    rw [List.getElem?_map] at hi
    cases q : xs[i]? with
    | none => rw [q] at hi; cases hi
    | some a =>
      rw [q] at hi
      cases hi
      have htk : xs.take (i + 1) = xs.take i ++ [a] := by rw [List.take_succ, q]; rfl
      obtain ⟨ρ'', js, h1, hj, h2, h3⟩ := hs a (List.mem_of_getElem? q)
      refine ⟨ρ'', js, f a, M', h1, hj, h2, fun hf => (EvR.of (h3 hf)).imp fun y M3 ⟨z1, z2⟩ => ?_, fun hf => ⟨rfl, ?_⟩⟩
      · subst z1; subst z2
        refine ⟨rfl, ?_⟩
        rw [htk, List.filter_append, List.map_append, List.map_append, List.filter_cons_of_pos hf]
        rfl
      · rw [htk, List.filter_append, List.map_append, List.map_append, List.filter_cons_of_neg (by rw [hf]; exact Bool.false_ne_true)]
        simp
  · subst e
    rw [List.length_map, List.take_length] at e2
    exact ⟨by rw [e2], e1⟩
end

/-! ### a def's body -/
def entry (N : List Str) (ds : List VD) : Env := ds.map some ++ List.replicate (N.length - ds.length) none
theorem slots_entry {F : Hp} {N : List Str} {ds : List VD} {vs : List V} (h : DA F ds vs) : Slots F (L2.start N vs) (entry N ds) := by
  have hl := Paired.length h
  refine ⟨by simp [L2.start, entry, hl], fun i x e => ?_⟩
  unfold entry at e
  by_cases hi : i < ds.length
  · rw [List.getElem?_append_left (by simpa using hi), List.getElem?_map] at e
    cases q : ds[i]? with
    | none => rw [q] at e; cases e
    | some d =>
      rw [q] at e
      cases e
      obtain ⟨v, h1, h2⟩ := h.get q
      refine ⟨v, ?_, h2⟩
      unfold L2.start
      rw [List.getElem?_append_left (by rw [List.length_map]; omega), List.getElem?_map, h1]
      rfl
  · rw [List.getElem?_append_right (by simpa using hi), List.getElem?_replicate] at e
    split at e <;> cases e
theorem fn_start {n : Nat} {S : FSpec} {vs : List V} {H : Hp} {Q : VK} {E : XK} {t : TS} {N : List Str} (h : spF n S vs H Q E)
    (k : ∀ ds M P Φ, ds.length = n → S ds M P → RtQ Q Φ P → Cont (t (fnD Q)) Φ (entry N ds) M) : t { nx := fun _ H' => Q .non H', rt := Q } (L2.start N vs) H := by
  obtain ⟨Φ, ρ, σ, ds, M, P, s, e, hS, hq⟩ := h
  have ⟨F, s0⟩ := s
  refine k ds M P (Φ.slots σ ρ) ((Paired.length s0.fr.2).trans e) hS (fun Φ' ρ' σ' x M' v H' l hp s' => ?_) _ _ ⟨F, s0.ex, ⟨s0.fr.1, s0.sl⟩, slots_entry s0.fr.2, s0.nd, s0.ce⟩
  have s2 := s'.weak (Ψ := (Φ.slots σ ρ).and x v) ⟨l.n, fun F h => ⟨l.p F h.1, h.2⟩⟩
  have ⟨F', s3⟩ := s2
  exact hq x M' v H' hp ⟨F', s3.ex, ⟨s3.fr.1.1, s3.fr.2⟩, s3.fr.1.2, s3.nd, s3.ce⟩
end Sx

set_option Elab.async false
set_option linter.all false
set_option maxRecDepth 100000
set_option maxHeartbeats 2000000
/-! Sx5: more rules; what all our laws have: the script's cells, drawn numbers. -/
namespace Sx
open PySem L2 Evl
/-- a list's item, by values -/
theorem get_list {X : Cx} : PGet X (rIxL X.K) := by
  intro pins s σ H o i ov iv Q I ro ri h
  obtain ⟨p, xs, j, z, rfl, rfl, hq, he, q⟩ := h
  cases ro
  obtain ⟨t, rfl⟩ := ri
  obtain ⟨its, r, pl, hz⟩ := I.list hq
  obtain ⟨k, h1, h2, h3, h4, h5⟩ := atI_get he
  obtain ⟨w, ew, rw'⟩ := r.get h2
  have hl := r.length
  have hn := line63
  by_cases h0 : 0 ≤ j
  · have hj : j.toNat = k := by
      rw [PySem.seqIndex_of h0 h5] at h1
      exact Option.some.inj h1
    exact PySem.wpAny_getItem_list pl.isList h0 (by omega) (by rw [hj]; simpa using ew) ⟨z, H, I, rw', q⟩
  · have hj : (j + (its.toArray.size : Int)).toNat = k := by
      rw [PySem.seqIndex_neg (by omega) h4] at h1
      rw [List.size_toArray, ← hl]
      exact Option.some.inj h1
    exact PySem.wpAny_getItem_list_neg pl.isList (by omega) (by rw [List.size_toArray] <;> omega) (by omega) (by rw [hj]; simpa using ew) ⟨z, H, I, rw', q⟩
section
variable {K : PySem.W.Frag} {ρ ρ' : Env} {M M1 M2 M3 M' : Cells} {x y z : VD} {te ta tb tv : TE} {t u : TS} {p : Addr} {Φ : Fr} {D : Ends}
theorem ixN_lt {n : Nat} {k : Int} {j : Nat} (h : ixN n k = some j) : j < n := (ixN_seq h).2.1
/-- xs[i] op= n, an owned list whose item is an int -/
theorem c_augS {g : Int → Int → Int} {xs : List VD} {k a b : Int} {j : Nat} (ho : Ev ta ρ M (val (.ref p)) M) (hi : Ev tb ρ M (dat (.int k)) M) (hj : ixN xs.length k = some j) (hx : xs[j]? = some (dat (.int a))) (hv : Ev tv ρ M (dat (.int b)) M) (hp : Put p (cL xs) (cL (xs.set j (dat (.int (g a b))))) M M') (kk : Cont D.nx Φ ρ M') :
    Cont (tAugS ta tb tv (rIxL K) (ipI g) rSetL D) Φ ρ M := fun σ H s => ho Φ σ H _ s fun v1 H1 s1 => hi _ σ H1 _ s1 fun v2 H2 s2 => by
  have ⟨F2, z2⟩ := s2
  have e1 : v1 = .ref p := z2.fr.1.2
  cases z2.fr.2
  subst e1
  obtain ⟨o, k1, k0, ws, rfl, k3⟩ := z2.at hp.mem
  obtain ⟨w, q1, q2⟩ := k3.get hx
  refine ⟨p, ws, k, w, rfl, rfl, sq_of k1, ?_, ?_⟩
  · unfold atI
    rw [← Paired.length k3, hj]
    exact q1
  · cases q2
    refine hv _ σ H2 _ s2 fun v3 H3 s3 => ?_
    have ⟨F3, z3⟩ := s3
    cases z3.fr.2
    refine ⟨a, b, rfl, rfl, ?_⟩
    obtain ⟨o, k1, k0, ws, rfl, k3⟩ := z3.at hp.mem
    refine ⟨p, ws, k, j, rfl, rfl, k1, by rw [← Paired.length k3]; exact hj, kk σ _ ⟨F3, ?_⟩⟩
    exact (z3.put1 (o := .lst (ws.set j (.int (g a b)))) hp k0 ⟨k0, _, rfl, DA.set (d := dat (.int (g a b))) (Rp.int _) j k3⟩).weak (.of rfl fun F h => h.1.1.1)
theorem dpAll_ints {H : Hp} : ∀ ns : List Int, DpAll K H (ns.map V.int) (ns.map PyData.int)
  | [] => .nil
  | n :: ns => .cons (.int n) (dpAll_ints ns)
/-- the script, as data -/
theorem isd_scr {ns : List Int} : IsDat K (vscr K ns) M (.list (ns.map .int)) := fun s ⟨a, e, h⟩ => by
  subst e
  exact .lst (ex_l s.ex h) (dpAll_ints ns)
/-- an owned list is made of a written one -/
theorem er_lstC {t : TA} {ds : List VD} (h : EvA t ρ M ds M1) (hl : ds.length ≤ sizeLine) : EvR (tLst t) ρ M fun y M' => ∃ p, y = val (.ref p) ∧ M' = (p, cL ds) :: M1 := fun Φ σ H Q s q =>
  h Φ σ H _ s fun vs H1 ⟨F, s1⟩ => by
    have hr := s1.fr.2
    refine ⟨by rw [← Paired.length hr]; exact hl, fun p hp => ?_⟩
    have s2 := s1.newC (c := cL ds) (o := .lst vs) hp fun e => ⟨e, vs, rfl, hr⟩
    exact q _ _ _ _ ⟨p, rfl, rfl⟩ ⟨F, s2.ex, ⟨s2.fr.1, rfl⟩, s2.sl, s2.nd, s2.ce⟩
theorem er_lstCd {t : TA} {ds : List PyData} (h : EvD t ρ M ds M1) (hl : ds.length ≤ sizeLine) : EvR (tLst t) ρ M fun y M' => ∃ p, y = val (.ref p) ∧ M' = (p, cLd ds) :: M1 := fun Φ σ H Q s q =>
  h Φ σ H _ s fun vs H1 ⟨F, s1⟩ => by
    have hr := DA.of_dat.mp s1.fr.2
    refine ⟨by rw [hr.length]; exact hl, fun p hp => ?_⟩
    have s2 := s1.newC (c := cLd ds) (o := .lst vs) hp fun e => ⟨e, vs, rfl, hr⟩
    exact q _ _ _ _ ⟨p, rfl, rfl⟩ ⟨F, s2.ex, ⟨s2.fr.1, rfl⟩, s2.sl, s2.nd, s2.ce⟩
/-- cells that are no longer needed -/
theorem Sat.drop {σ : L2.St} {H : Hp} (s : Sat Φ ρ M σ H) (h : M'.Sublist M) : Sat Φ ρ M' σ H :=
  let ⟨F, s⟩ := s
  let hs := List.Sublist.append h (List.Sublist.refl Φ.N)
  ⟨F, s.ex, s.fr, s.sl, s.nd.sublist (hs.map _), fun c hc => s.ce c (hs.subset hc)⟩
theorem c_dropC {k : L2.St → Hp → Prop} (h : M'.Sublist M) (c : Cont k Φ ρ M') : Cont k Φ ρ M := fun σ H s => c σ H (s.drop h)
/-- the order of the cells -/
theorem Sat.perm {σ : L2.St} {H : Hp} (s : Sat Φ ρ M σ H) (h : M.Perm M') : Sat Φ ρ M' σ H :=
  let ⟨F, s⟩ := s
  let hs := h.append_right Φ.N
  ⟨F, s.ex, s.fr, s.sl, (hs.map (·.1)).nodup_iff.mp s.nd, fun c hc => s.ce c (hs.mem_iff.mpr hc)⟩
theorem c_perm {k : L2.St → Hp → Prop} (h : M.Perm M') (c : Cont k Φ ρ M') : Cont k Φ ρ M := fun σ H s => c σ H (s.perm h)
/-- what is known of a slot may be said otherwise -/
theorem Sat.slots {σ : L2.St} {H : Hp} (s : Sat Φ ρ M σ H) (h : ∀ F, Slots F σ ρ → Slots F σ ρ') : Sat Φ ρ' M σ H := let ⟨F, s⟩ := s; ⟨F, s.ex, s.fr, h F s.sl, s.nd, s.ce⟩
/-- slots that are no longer needed: forgotten -/
inductive Fgt : Env → Env → Prop
  | nil : Fgt [] []
  | keep {a : Option VD} {l l' : Env} : Fgt l l' → Fgt (a :: l) (a :: l')
  | drop {a : Option VD} {l l' : Env} : Fgt l l' → Fgt (a :: l) (none :: l')
theorem Fgt.len {l l' : Env} (h : Fgt l l') : l'.length = l.length := by
  induction h with
  | nil => rfl
  | keep _ ih => simp [ih]
  | drop _ ih => simp [ih]
theorem Fgt.get {l l' : Env} (h : Fgt l l') : ∀ {i : Nat} {x : VD}, l'[i]? = some (some x) → l[i]? = some (some x) := by
  induction h with
  | nil => intro i x e; exact e
  | keep _ ih =>
    intro i x e
    cases i with
    | zero => exact e
    | succ i => simpa using ih (by simpa using e)
  | drop _ ih =>
    intro i x e
    cases i with
    | zero => simp at e
    | succ i => simpa using ih (by simpa using e)
theorem c_fgt {k : L2.St → Hp → Prop} (h : Fgt ρ ρ') (c : Cont k Φ ρ' M) : Cont k Φ ρ M := fun σ H s => c σ H (s.slots fun F q => ⟨q.1.trans h.len.symm, fun i x e => q.2 i x (h.get e)⟩)
end

/-! ### the numbers of our laws -/
def scrCell (s : List Int) (i : Int) : Int :=
  let c := s.getD (i % s.length).toNat 0
  if (if c < 0 then -c else c) ≥ 10 ^ 60 then c % 10 ^ 18 else c
def lawNum (s : List Int) (i : Int) : Int :=
  if s = [] then (i * 48271 + 12345) % 2147483647
  else (((scrCell s i + 977 * i) * 48271 + 31 * s.length) % 2147483647 * 69621 % 2147483629 * 16807 + i) % 2147483587
def tk (s : List Int) (k m : Int) : Int := lawNum s k % m
theorem tk_nn {s : List Int} {k m : Int} (h : 0 < m) : 0 ≤ tk s k m := Int.emod_nonneg _ (by omega)
theorem tk_lt {s : List Int} {k m : Int} (h : 0 < m) : tk s k m < m := Int.emod_lt_of_pos _ h
abbrev cDraw (K : PySem.W.Frag) (s : List Int) (k : Int) : CD := cL [vscr K s, dat (.int k)]
end Sx

set_option Elab.async false
set_option linter.all false
set_option maxRecDepth 100000
set_option maxHeartbeats 2000000
/-! Sx6: more rules, and small facts of lists. -/
namespace Sx
open PySem L2 Evl
section
variable {K : PySem.W.Frag} {ρ ρ' ρ1 : Env} {M M1 M2 M3 M' : Cells} {x y z : VD} {te ta tb tv : TE} {t u : TS} {p : Addr} {Φ : Fr} {D : Ends} {P : VD → Cells → Prop}
/-! ### several outcomes -/
def EvAR (ta : TA) (ρ : Env) (M : Cells) (P : List VD → Cells → Prop) : Prop := ∀ (Φ : Fr) (σ : L2.St) (H : Hp) (Q : List V → Hp → Prop), Sat Φ ρ M σ H → (∀ ds M' v H', P ds M' → Sat (Φ.andA ds v) ρ M' σ H' → Q v H') → ta σ H Q
theorem ear_nil {P : List VD → Cells → Prop} (h : P [] M) : EvAR tNil ρ M P := fun Φ σ H Q ⟨F, s⟩ q => q [] M [] H h ⟨F, s.ex, ⟨s.fr, .nil⟩, s.sl, s.nd, s.ce⟩
theorem ear_cons {tr : TA} {P : List VD → Cells → Prop} {Pa : VD → Cells → Prop} (ha : EvR ta ρ M Pa) (hr : ∀ x M1, Pa x M1 → EvAR tr ρ M1 fun ds M2 => P (x :: ds) M2) : EvAR (tCons ta tr) ρ M P := fun Φ σ H Q s q =>
  ha Φ σ H _ s fun x M1 v H1 hx s1 => hr x M1 hx _ σ H1 _ s1 fun ds M2 vs H2 hp s2 => q (x :: ds) M2 (v :: vs) H2 hp (s2.weak (.of rfl fun F p => ⟨p.1.1, .cons p.1.2 p.2⟩))
theorem EvAR.of {t : TA} {ds : List VD} {P : List VD → Cells → Prop} (h : EvA t ρ M ds M1) (hp : P ds M1) : EvAR t ρ M P := fun Φ σ H Q s q => h Φ σ H _ s fun vs H1 s1 => q ds M1 vs H1 hp s1
theorem er_tupV {t : TA} (h : EvAR t ρ M fun ds M' => ds.length ≤ sizeLine ∧ P (vtup ds) M') : EvR (tTup t) ρ M P := fun Φ σ H Q s q =>
  h Φ σ H _ s fun ds M1 vs H1 ⟨hl, hp⟩ ⟨F, s1⟩ => by
    have hr := s1.fr.2
    refine ⟨by rw [← Paired.length hr]; exact hl, fun p hp' => ?_⟩
    obtain ⟨s2, fx⟩ := s1.new (o := .tup vs) hp'
    exact q _ M1 _ _ hp ⟨_, s2.ex, ⟨s2.fr.1, ⟨p, vs, rfl, upd_same, hr.mono fx⟩⟩, s2.sl, s2.nd, s2.ce⟩
theorem er_lstV {t : TA} (h : EvAR t ρ M fun ds M' => ds.length ≤ sizeLine ∧ P (vlst ds) M') : EvR (tLst t) ρ M P := fun Φ σ H Q s q =>
  h Φ σ H _ s fun ds M1 vs H1 ⟨hl, hp⟩ ⟨F, s1⟩ => by
    have hr := s1.fr.2
    refine ⟨by rw [← Paired.length hr]; exact hl, fun p hp' => ?_⟩
    obtain ⟨s2, fx⟩ := s1.new (o := .lst vs) hp'
    exact q _ M1 _ _ hp ⟨_, s2.ex, ⟨s2.fr.1, ⟨p, vs, rfl, upd_same, hr.mono fx⟩⟩, s2.sl, s2.nd, s2.ce⟩
theorem c_asgGR {g : TG} (h : EvR te ρ M P) (k : ∀ x M1, P x M1 → ∃ ρ' js, Tgt g js x ρ ρ' ∧ Cont D.nx Φ ρ' M1) : Cont (tAsg te g D) Φ ρ M := fun σ H s => h Φ σ H _ s fun x M1 v H1 hp s1 => by
  obtain ⟨ρ', js, hg, kk⟩ := k x M1 hp
  exact hg Φ M1 v σ H1 _ s1 fun σ' _ _ s' => kk σ' H1 s'
/-- o.f = e, several outcomes -/
theorem c_fldR {C : Addr} {f : Str} {nn : List Str} (hv : EvR tv ρ M P) (k : ∀ y M1, P y M1 → ∃ p ns ns' xs xs' M2 M3, Ev ta ρ M1 (val (.ref p)) M2 ∧ Put p (cI C ns xs) (cI C ns' xs') M2 M3 ∧ FPut f y ns xs ns' xs' ∧ ns.length < 1000 ∧ Cont D.nx Φ ρ M3)
    (c : ClsF K C nn) (hf : f ∈ nn) : Cont (sFld K ta tv f D) Φ ρ M := fun σ H s =>
  hv Φ σ H _ s fun y M1 v H1 hp s1 => by
    obtain ⟨p, ns, ns', xs, xs', M2, M3, ho, h, g, hl, k⟩ := k y M1 hp
    refine ho _ σ H1 _ s1 fun w H2 ⟨F, s2⟩ => ?_
    have e : w = .ref p := s2.fr.2
    obtain ⟨o, h1, h0, dx, fs, rfl, h3⟩ := s2.at h.mem
    refine ⟨p, C, dx, fs, e, h1, c.cl, c.no f hf, by rw [h3.len]; exact hl, k σ _ ⟨F, ?_⟩⟩
    exact (s2.put1 (o := .ins C dx (putF f v fs)) h h0 ⟨h0, dx, _, rfl, g.put s2.fr.1.2 h3⟩).weak (.of rfl fun F h => h.1.1)
theorem fld_k {C : Addr} {f : Str} {ns ns' : List Str} {xs xs' : List VD} (ho : Ev ta ρ M1 (val (.ref p)) M2) (h : Put p (cI C ns xs) (cI C ns' xs') M2 M3) (g : FPut f y ns xs ns' xs') (hl : ns.length < 1000) (k : Cont D.nx Φ ρ M3) :
    ∃ p ns ns' xs xs' M2 M3, Ev ta ρ M1 (val (.ref p)) M2 ∧ Put p (cI C ns xs) (cI C ns' xs') M2 M3 ∧ FPut f y ns xs ns' xs' ∧ ns.length < 1000 ∧ Cont D.nx Φ ρ M3 := ⟨p, ns, ns', xs, xs', M2, M3, ho, h, g, hl, k⟩
/-- what is said of an empty list -/
theorem eqv_nil {ds : List PyData} : PyData.eqv (.list ds) (.list []) = ds.isEmpty := by
  cases ds <;> simp [PyData.eqv, PyData.eqvAll]
theorem eqv_nilT {ds : List PyData} : PyData.eqv (.tuple ds) (.tuple []) = ds.isEmpty := by
  cases ds <;> simp [PyData.eqv, PyData.eqvAll]
theorem c_asgP {i : Nat} (h : Ev te ρ M x M) (hs : SetAt x ρ i ρ') (k : Cont D.nx Φ ρ' M) : Cont (tAsg te (gName i) D) Φ ρ M := c_asg h hs k
theorem rc_lenM {α : Type} {f : α → PyData} {xs : List α} (hx : IsLst x M (xs.map f)) : RC (rLenU K) [x] M (dat (.int (xs.length : Int))) M := by
  have h := rc_lenL (K := K) hx
  rw [List.length_map] at h; exact h
theorem rc_lenMT {α : Type} {f : α → PyData} {xs : List α} : RC (rLenU K) [dat (.tuple (xs.map f))] M (dat (.int (xs.length : Int))) M := by
  have h := rc_lenT (K := K) (M := M) (ist_dat (ds := xs.map f))
  rw [List.length_map] at h; exact h
/-! ### slices -/
theorem cut_map {α β : Type} (f : α → β) (xs : List α) (lo hi : Option Int) : cutD (xs.map f) lo hi = (cutD xs lo hi).map f := by
  unfold cutD
  rw [List.length_map, List.map_take, List.map_drop]
theorem cut_nn {α : Type} (xs : List α) (a b : Nat) : cutD xs (some (a : Int)) (some (b : Int)) = (xs.drop a).take (b - a) := by
  unfold cutD
  rw [HT.sIx_nat, HT.sIx_nat]
  apply List.ext_getElem?
  intro i
  rw [List.getElem?_take, List.getElem?_take, List.getElem?_drop, List.getElem?_drop]
  by_cases h : i < b - a
  · rw [if_pos h]
    by_cases h2 : i < min b xs.length - min a xs.length
    · rw [if_pos h2]
      have : min a xs.length = a := by omega
      rw [this]
    · rw [if_neg h2, List.getElem?_eq_none (by omega)]
  · rw [if_neg h, if_neg (by omega)]
theorem cut_0n {α : Type} (xs : List α) (b : Nat) : cutD xs none (some (b : Int)) = xs.take b := by
  have := cut_nn xs 0 b
  unfold cutD at this ⊢
  rw [HT.sIx_none]
  rw [show ((0 : Nat) : Int) = 0 from rfl] at this
  have e : HT.sIx xs.length 0 (some 0) = 0 := by
    have := HT.sIx_nat xs.length 0 0
    simpa using this
  rw [e] at this
  simpa using this
theorem cut_n0 {α : Type} (xs : List α) (a : Nat) : cutD xs (some (a : Int)) none = xs.drop a := by
  unfold cutD
  rw [HT.sIx_nat, HT.sIx_none]
  apply List.ext_getElem?
  intro i
  rw [List.getElem?_take, List.getElem?_drop, List.getElem?_drop]
  by_cases h2 : i < xs.length - min a xs.length
  · rw [if_pos h2]
    have : min a xs.length = a := by omega
    rw [this]
  · rw [if_neg h2, List.getElem?_eq_none (by omega)]
theorem ev_slT1 {te : TE} {tl th : TO} {d : PyData} {ds : List PyData} (h : Ev te ρ M (dat (.tuple (d :: ds))) M1) (h1 : EvO tl ρ M1 (some 1) M2) (h2 : EvO th ρ M2 none M3) : Ev (tSl (rSlU K) te tl th) ρ M (dat (.tuple ds)) M3 := by
  have := ev_slT (K := K) h h1 h2
  have e : cutD (d :: ds) (some ((1 : Nat) : Int)) none = ds := by rw [cut_n0]; rfl
  rw [show (some (1 : Int)) = some ((1 : Nat) : Int) from rfl, e] at this
  exact this
theorem ei_seqTM {α : Type} {f : α → PyData} {xs : List α} {tl : TE} (h : Ev tl ρ M (dat (.tuple (xs.map f))) M') : EvI (iSeq K tl) ρ M (xs.map fun a => dat (f a)) M' := by
  have := ei_seqT (K := K) h fzt_dat
  rw [List.map_map] at this
  exact this
theorem ei_seqLM {α : Type} {f : α → PyData} {xs : List α} {tl : TE} (h : Ev tl ρ M (dat (.list (xs.map f))) M') : EvI (iSeq K tl) ρ M (xs.map fun a => dat (f a)) M' := by
  have := ei_seqL (K := K) h fzl_dat
  rw [List.map_map] at this
  exact this
theorem any_map_id {α : Type} (xs : List α) (g : α → Bool) : (xs.map g).any id = xs.any g := by
  induction xs with
  | nil => rfl
  | cons x xs ih => simp [ih]
theorem all_map_id {α : Type} (xs : List α) (g : α → Bool) : (xs.map g).all id = xs.all g := by
  induction xs with
  | nil => rfl
  | cons x xs ih => simp [ih]
theorem rc_anyM {α : Type} {g : α → Bool} {xs : List α} : RC (rAny K) [dat (.list (xs.map fun a => .bool (g a)))] M (dat (.bool (xs.any g))) M := by
  have := rc_any (K := K) (M := M) (bs := xs.map g) (x := dat (.list ((xs.map g).map PyData.bool))) isl_dat
  rw [any_map_id, List.map_map] at this
  exact this
theorem rc_allM {α : Type} {g : α → Bool} {xs : List α} : RC (rAll K) [dat (.list (xs.map fun a => .bool (g a)))] M (dat (.bool (xs.all g))) M := by
  have := rc_all (K := K) (M := M) (bs := xs.map g) (x := dat (.list ((xs.map g).map PyData.bool))) isl_dat
  rw [all_map_id, List.map_map] at this
  exact this
theorem c_invF {J : Env → Cells → Prop} {Φ Ψ : Fr} (j : J ρ' M) (h : Fgt ρ ρ') (l : Le Ψ Φ) : Cont (InvK Φ J) Ψ ρ M := c_fgt h (c_inv j l)
theorem asgR_k {k : L2.St → Hp → Prop} {Φ : Fr} {i : Nat} (h : SetAt x ρ i ρ') (c : Cont k Φ ρ' M) : ∃ ρ', SetAt x ρ i ρ' ∧ Cont k Φ ρ' M := ⟨ρ', h, c⟩
theorem asgGR_k {k : L2.St → Hp → Prop} {Φ : Fr} {g : TG} {js : List Nat} (h : Tgt g js x ρ ρ') (c : Cont k Φ ρ' M) : ∃ ρ' js, Tgt g js x ρ ρ' ∧ Cont k Φ ρ' M := ⟨ρ', js, h, c⟩
def TgtsD (gs : TGs) (js : List Nat) (ds : List PyData) (ρ ρ' : Env) : Prop := Tgts gs js (ds.map dat) ρ ρ'
theorem td_nil : TgtsD gNil [] [] ρ ρ := tgs_nil
theorem td_cons {ρ2 : Env} {g : TG} {gs : TGs} {js ks : List Nat} {d : PyData} {ds : List PyData} (h : Tgt g js (dat d) ρ ρ1) (hs : TgtsD gs ks ds ρ1 ρ2) : TgtsD (gCons g gs) (js ++ ks) (d :: ds) ρ ρ2 := tgs_cons h hs
theorem td_tup {gs : TGs} {js : List Nat} {n : Nat} {ds : List PyData} (hs : TgtsD gs js ds ρ ρ') (hn : ds.length = n) : Tgt (gTup K n gs) js (dat (.tuple ds)) ρ ρ' := tg_tupD hs hn
/-! ### enumerate, data -/
theorem ei_enumD {α : Type} {f : α → PyData} {xs : List α} {ta : TA} (h : EvA ta ρ M [x] M') (hx : FzL x ((xs.map f).map dat)) : EvI (iEnum K ta) ρ M (xs.zipIdx.map fun p => vtup [dat (.int (p.2 : Int)), dat (f p.1)]) M' := by
  have h := ei_enum (K := K) h hx
  have e : (((irange 0 ((xs.map f).map dat).length).zip ((xs.map f).map dat)).map fun p => vtup [p.1, p.2]) = xs.zipIdx.map fun p => vtup [dat (.int (p.2 : Int)), dat (f p.1)] := by
    apply List.ext_getElem?
    intro i
    rw [List.getElem?_map, List.getElem?_map, List.getElem?_zipIdx]
    by_cases hi : i < xs.length
    · have h1 : xs[i]? = some xs[i] := by simp [hi]
      have h2 : (irange 0 ((xs.map f).map dat).length)[i]? = some (dat (.int (i : Int))) := by
        unfold irange
        rw [List.getElem?_map, List.getElem?_range (by simpa using hi)]
        simp
      have h3 : ((xs.map f).map dat)[i]? = some (dat (f xs[i])) := by simp [hi]
      have h4 : ((irange 0 ((xs.map f).map dat).length).zip ((xs.map f).map dat))[i]? = some (dat (.int (i : Int)), dat (f xs[i])) := List.getElem?_zip_eq_some.mpr ⟨h2, h3⟩
      rw [h4, h1]
      simp
    · have h1 : xs[i]? = none := by simp; omega
      have h4 : ((irange 0 ((xs.map f).map dat).length).zip ((xs.map f).map dat))[i]? = none := by
        apply List.getElem?_eq_none
        rw [List.length_zip]
        simp
        omega
      rw [h4, h1]
      simp
  rw [e] at h
  exact h
theorem rng_map (lo : Int) (n : Nat) : irange lo n = (List.range n).map fun i => dat (.int (lo + (i : Nat))) := rfl
/-- each item gives one -/
theorem ev_lcY {α : Type} {wi : TI} {g : TG} {vs : List Nat} {e : α → VD} {xs : List α} {r : α → PyData} (h : EvI wi ρ M (xs.map e) M1) (hl : xs.length ≤ 16000000)
    (hs : ∀ a, a ∈ xs → ∃ ρ'' js, Tgt g js (e a) (wipeE ρ vs) ρ'' ∧ (∀ i ∈ js, i ∈ vs) ∧ Ev te ρ'' M1 (dat (r a)) M1) : Ev (tLc wi g tYes te vs) ρ M (dat (.list (xs.map r))) M1 := by
  have := ev_lc (tt := tYes) (f := fun _ => true) (r := r) h hl fun a ha => let ⟨ρ'', js, h1, hj, h2⟩ := hs a ha; ⟨ρ'', js, h1, hj, et_yes, fun _ => h2⟩
  have e : xs.filter (fun _ => true) = xs := by simp
  rw [e] at this
  exact this
theorem lcY_k {g : TG} {js vs : List Nat} {d : VD} (h : Tgt g js d ρ ρ') (hj : ∀ i ∈ js, i ∈ vs) (k : Ev te ρ' M x M) : ∃ ρ'' js, Tgt g js d ρ ρ'' ∧ (∀ i ∈ js, i ∈ vs) ∧ Ev te ρ'' M x M := ⟨ρ', js, h, hj, k⟩
theorem lcF_k {g : TG} {tt : TT} {js vs : List Nat} {d : VD} {b : Bool} (h : Tgt g js d ρ ρ') (hj : ∀ i ∈ js, i ∈ vs) (ht : EvT tt ρ' M b M) (k : b = true → Ev te ρ' M x M) : ∃ ρ'' js, Tgt g js d ρ ρ'' ∧ (∀ i ∈ js, i ∈ vs) ∧ EvT tt ρ'' M b M ∧ (b = true → Ev te ρ'' M x M) := ⟨ρ', js, h, hj, ht, k⟩
end
section
/-! ### some cells are changed, the others stay as they are -/
def Sw (cs cs' : Cells) (M M' : Cells) : Prop := ∃ L, M.Perm (cs ++ L) ∧ M'.Perm (cs' ++ L)
inductive Pk (p : Addr) (c c' : CD) : Cells → Cells → Cells → Cells → Prop
  | here {r r' : Cells} : Pk p c c' ((p, c) :: r) ((p, c') :: r') r r'
  | there {x x' : Addr × CD} {cs cs' r r' : Cells} : Pk p c c' cs cs' r r' → Pk p c c' (x :: cs) (x' :: cs') (x :: r) (x' :: r')
theorem Pk.perm {p : Addr} {c c' : CD} {cs cs' r r' : Cells} (h : Pk p c c' cs cs' r r') : cs.Perm ((p, c) :: r) ∧ cs'.Perm ((p, c') :: r') := by
  induction h with
  | here => exact ⟨.refl _, .refl _⟩
  | there _ ih => exact ⟨(ih.1.cons _).trans (.swap _ _ _), (ih.2.cons _).trans (.swap _ _ _)⟩
theorem sw_nil {M : Cells} : Sw [] [] M M := ⟨M, .refl _, .refl _⟩
theorem sw_pick {p : Addr} {c c' : CD} {cs cs' r r' M M' : Cells} (h : Pk p c c' cs cs' r r') (k : Sw r r' M M') : Sw cs cs' ((p, c) :: M) ((p, c') :: M') := by
  obtain ⟨L, h1, h2⟩ := k
  exact ⟨L, (h1.cons _).trans (h.perm.1.symm.append_right L), (h2.cons _).trans (h.perm.2.symm.append_right L)⟩
theorem sw_skip {x : Addr × CD} {cs cs' M M' : Cells} (k : Sw cs cs' M M') : Sw cs cs' (x :: M) (x :: M') := by
  obtain ⟨L, h1, h2⟩ := k
  exact ⟨x :: L, (h1.cons _).trans List.perm_middle.symm, (h2.cons _).trans List.perm_middle.symm⟩
inductive Rm (c : Addr × CD) : Cells → Cells → Prop
  | here {l : Cells} : Rm c (c :: l) l
  | there {x : Addr × CD} {l l' : Cells} : Rm c l l' → Rm c (x :: l) (x :: l')
theorem Rm.perm {c : Addr × CD} {l l' : Cells} (h : Rm c l l') : l.Perm (c :: l') := by
  induction h with
  | here => exact .refl _
  | there _ ih => exact (ih.cons _).trans (.swap _ _ _)
theorem perm_step {c : Addr × CD} {l l' r : Cells} (h : Rm c l l') (k : l'.Perm r) : l.Perm (c :: r) := h.perm.trans (k.cons c)
/-- behind a def: the order of the cells, and cells of its own -/
def Up (P : VD → Cells → Prop) : VD → Cells → Prop := fun x N => ∃ N1 N', N.Perm N1 ∧ N'.Sublist N1 ∧ P x N'
theorem RtQ.up {Q : VK} {Φ : Fr} {P : VD → Cells → Prop} (h : RtQ Q Φ P) : RtQ Q Φ (Up P) := fun Φ' ρ σ x M v H l ⟨N1, N', h1, h2, hp⟩ s => h Φ' ρ σ x N' v H l hp ((s.perm h1).drop h2)
theorem up_perm {P : VD → Cells → Prop} {x : VD} {N N' : Cells} (h : N.Perm N') (hp : P x N') : Up P x N := ⟨N', N', h, .refl _, hp⟩
theorem up_of {P : VD → Cells → Prop} {x : VD} {N : Cells} (hp : P x N) : Up P x N := ⟨N, N, .refl _, .refl _, hp⟩
theorem up_drop {P : VD → Cells → Prop} {x : VD} {N N' : Cells} (h : N'.Sublist N) (hp : P x N') : Up P x N := ⟨N, N', .refl _, h, hp⟩
end
/-- None or an int -/
def oi : Option Int → PyData
  | none => .none
  | some i => .int i
theorem isNone_oi (o : Option Int) : isNoneD (oi o) = o.isNone := by cases o <;> rfl
theorem eqok_oi : EqOk oi := fun x y => by cases x <;> cases y <;> simp [oi, PyData.eqv]
theorem shp_oi {n : Nat} (o : Option Int) : Shp n (oi o) := by
  cases o with
  | none => exact shp_none
  | some i => exact shp_int
end Sx

set_option Elab.async false
set_option linter.all false
set_option maxRecDepth 100000
set_option maxHeartbeats 2000000
/-! Sx7: dicts. A dict that never changes is a value (vdi); one that does, or is walked, is a cell (cD). -/
namespace Sx
open PySem L2 Evl
section
variable {α β : Type}
def valG (kvs : List (L2.Key × β)) (k : L2.Key) : Option β := (kvs.find? fun kv => decide (kv.1 = k)).map (·.2)
def putG (kvs : List (L2.Key × β)) (k : L2.Key) (v : β) : List (L2.Key × β) :=
  if (kvs.any fun kv => decide (kv.1 = k)) = true then kvs.map (fun kv => if kv.1 = k then (kv.1, v) else kv) else kvs ++ [(k, v)]
def mergeG (kvs more : List (L2.Key × β)) : List (L2.Key × β) := more.foldl (fun acc kv => putG acc kv.1 kv.2) kvs
theorem valG_cons (p : L2.Key × β) (r : List (L2.Key × β)) (k : L2.Key) : valG (p :: r) k = if p.1 = k then some p.2 else valG r k := by
  unfold valG
  rw [List.find?_cons]
  by_cases h : p.1 = k <;> simp [h]
theorem valG_map (f : α → β) (kvs : List (L2.Key × α)) (k : L2.Key) : valG (kvs.map fun p => (p.1, f p.2)) k = (valG kvs k).map f := by
  induction kvs with
  | nil => rfl
  | cons p r ih => rw [List.map_cons, valG_cons, valG_cons, ih]; by_cases h : p.1 = k <;> simp [h]
theorem valG_snoc (k j : L2.Key) (y : β) : ∀ kvs : List (L2.Key × β), valG kvs k = none → valG (kvs ++ [(k, y)]) j = if j = k then some y else valG kvs j
  | [], _ => by
    rw [List.nil_append, valG_cons]
    by_cases h : j = k
    · rw [if_pos h, if_pos h.symm]
    · rw [if_neg h, if_neg (fun e => h e.symm)]
  | p :: r, hn => by
    rw [valG_cons] at hn
    by_cases h : p.1 = k
    · rw [if_pos h] at hn; cases hn
    · rw [if_neg h] at hn
      rw [List.cons_append, valG_cons, valG_cons, valG_snoc k j y r hn]
      by_cases h2 : p.1 = j
      · rw [if_pos h2, if_pos h2, if_neg (fun e => h (h2.trans e))]
      · rw [if_neg h2, if_neg h2]
theorem valG_any (kvs : List (L2.Key × β)) (k : L2.Key) : (kvs.any fun kv => decide (kv.1 = k)) = (valG kvs k).isSome := by
  induction kvs with
  | nil => rfl
  | cons p r ih => rw [List.any_cons, valG_cons, ih]; by_cases h : p.1 = k <;> simp [h]
theorem valG_put (kvs : List (L2.Key × β)) (k j : L2.Key) (y : β) : valG (putG kvs k y) j = if j = k then some y else valG kvs j := by
  unfold putG
  rw [valG_any]
  cases h : valG kvs k with
  | none => rw [if_neg (by simp)]; exact valG_snoc k j y kvs h
  | some z =>
    rw [if_pos (by rfl)]
    have hz : ∀ kvs : List (L2.Key × β), valG (kvs.map fun kv => if kv.1 = k then (kv.1, y) else kv) j = (valG kvs j).map fun x => if j = k then y else x := by
      intro kvs
      induction kvs with
      | nil => rfl
      | cons p r ih =>
        rw [List.map_cons, valG_cons, valG_cons, ih]
        by_cases h1 : p.1 = k
        · simp only [if_pos h1]
          by_cases h2 : p.1 = j
          · rw [if_pos h2, if_pos h2, Option.map_some, if_pos (h2.symm.trans h1)]
          · rw [if_neg h2, if_neg h2]
        · simp only [if_neg h1]
          by_cases h2 : p.1 = j
          · rw [if_pos h2, if_pos h2, Option.map_some, if_neg (fun e => h1 (h2.trans e))]
          · rw [if_neg h2, if_neg h2]
    rw [hz]
    by_cases hj : j = k
    · subst hj; rw [h, Option.map_some, if_pos rfl, if_pos rfl]
    · rw [if_neg hj]
      simp [hj]
theorem length_putG (kvs : List (L2.Key × β)) (k : L2.Key) (v : β) : (putG kvs k v).length ≤ kvs.length + 1 := by
  unfold putG
  split
  · rw [List.length_map]; omega
  · rw [List.length_append, List.length_singleton]; omega
theorem putG_map (f : α → β) (kvs : List (L2.Key × α)) (k : L2.Key) (v : α) : putG (kvs.map fun p => (p.1, f p.2)) k (f v) = (putG kvs k v).map fun p => (p.1, f p.2) := by
  have e : ((kvs.map fun p => (p.1, f p.2)).any fun kv => decide (kv.1 = k)) = (kvs.any fun kv => decide (kv.1 = k)) := by rw [List.any_map]; rfl
  unfold putG
  rw [e]
  split
  · rw [List.map_map, List.map_map]
    apply List.map_congr_left
    intro p _
    simp only [Function.comp]
    by_cases h : p.1 = k <;> simp [h]
  · rw [List.map_append]; rfl
end
def kD : L2.Key → PyData
  | .inl i => .int i
  | .inr x => .str x
theorem kv_of {F : Hp} {k : L2.Key} {v : V} (h : Rp F v (kD k)) : v = kV k := by
  cases k <;> (cases h; rfl)
/-! ### pairs of keys and values -/
abbrev PrV (F : Hp) (p : L2.Key × VD) (q : L2.Key × V) : Prop := p.1 = q.1 ∧ p.2.P F q.2
abbrev DP (F : Hp) : List (L2.Key × VD) → List (L2.Key × V) → Prop := Paired (PrV F)
theorem DP.mono {F F' : Hp} (e : Fx F F') : ∀ {kvs : List (L2.Key × VD)} {vs : List (L2.Key × V)}, DP F kvs vs → DP F' kvs vs
  | _, _, .nil => .nil
  | _, _, .cons h t => .cons ⟨h.1, VD.mono _ e h.2⟩ (DP.mono e t)
inductive OptR (F : Hp) : Option VD → Option V → Prop
  | none : OptR F none none
  | some {x : VD} {v : V} : x.P F v → OptR F (some x) (some v)
theorem DP.val {F : Hp} (k : L2.Key) : ∀ {kvs : List (L2.Key × VD)} {vs : List (L2.Key × V)}, DP F kvs vs → OptR F (valG kvs k) (valV vs k)
  | _, _, .nil => .none
  | _, _, .cons (a := p) (b := q) h t => by
    rw [valG_cons]
    by_cases e : p.1 = k
    · rw [if_pos e, valV_pos (h.1.symm.trans e)]
      exact .some h.2
    · rw [if_neg e, valV_neg (fun z => e (h.1.trans z))]
      exact DP.val k t
theorem OptR.isSome {F : Hp} {o : Option VD} {u : Option V} (h : OptR F o u) : u.isSome = o.isSome := by cases h <;> rfl
theorem OptR.getD {F : Hp} {o : Option VD} {u : Option V} {x : VD} {v : V} (h : OptR F o u) (hx : x.P F v) : (o.getD x).P F (u.getD v) := by
  cases h with
  | none => exact hx
  | some h => exact h
theorem DP.put {F : Hp} (k : L2.Key) {x : VD} {v : V} (hx : x.P F v) {kvs : List (L2.Key × VD)} {vs : List (L2.Key × V)} (h : DP F kvs vs) : DP F (putG kvs k x) (putK vs k v) := by
  have e : (vs.any fun kv => decide (kv.1 = k)) = (kvs.any fun kv => decide (kv.1 = k)) := by
    rw [valG_any kvs, valV_any]; exact (h.val k).isSome
  unfold putG putK
  rw [e]
  split
  · have hz : ∀ {kvs : List (L2.Key × VD)} {vs : List (L2.Key × V)}, DP F kvs vs → DP F (kvs.map fun kv => if kv.1 = k then (kv.1, x) else kv) (vs.map fun kv => if kv.1 = k then (kv.1, v) else kv) := by
     intro kvs vs h
     induction h with
     | nil => exact .nil
     | @cons a b l1 l2 h t ih =>
      refine .cons ?_ ih
      show PrV F (if a.1 = k then (a.1, x) else a) (if b.1 = k then (b.1, v) else b)
      by_cases z : a.1 = k
      · rw [if_pos z, if_pos (h.1.symm.trans z)]; exact ⟨h.1, hx⟩
      · rw [if_neg z, if_neg (fun y => z (h.1.trans y))]; exact h
    exact hz h
  · have hz : ∀ {kvs : List (L2.Key × VD)} {vs : List (L2.Key × V)}, DP F kvs vs → DP F (kvs ++ [(k, x)]) (vs ++ [(k, v)]) := by
     intro kvs vs h
     induction h with
     | nil => exact .cons ⟨rfl, hx⟩ .nil
     | cons h t ih => exact .cons h ih
    exact hz h
theorem DP.merge {F : Hp} : ∀ {more : List (L2.Key × VD)} {ms : List (L2.Key × V)} {kvs : List (L2.Key × VD)} {vs : List (L2.Key × V)}, DP F more ms → DP F kvs vs → DP F (mergeG kvs more) (mergeK vs ms)
  | _, _, _, _, .nil, h => h
  | _, _, _, _, .cons (a := p) (b := q) h t, g => by
    show DP F (mergeG (putG _ p.1 p.2) _) (mergeK (putK _ q.1 q.2) _)
    rw [← h.1]
    exact DP.merge t (g.put p.1 h.2)
theorem DP.len {F : Hp} {kvs : List (L2.Key × VD)} {vs : List (L2.Key × V)} (h : DP F kvs vs) : kvs.length = vs.length := Paired.length h
/-- a dict that stays -/
def vdi (kvs : List (L2.Key × VD)) : VD := ⟨fun F v => ∃ a vs, v = .ref a ∧ F a = some (.dK vs) ∧ DP F kvs vs, fun e ⟨a, vs, h1, h2, h3⟩ => ⟨a, vs, h1, e.pl _ _ h2 rfl, h3.mono e⟩⟩
/-- a dict of one's own -/
def cD (kvs : List (L2.Key × VD)) : CD := ⟨fun F p o => F p = none ∧ ∃ vs, o = .dK vs ∧ DP F kvs vs, fun e q ⟨h0, vs, h1, h2⟩ => ⟨q.trans h0, vs, h1, h2.mono e⟩⟩
/-- .. while a loop walks it -/
def cDl (kvs : List (L2.Key × VD)) : CD := ⟨fun F p o => F p = none ∧ ∃ od vs, o = .frz od (.dK vs) ∧ DP F kvs vs, fun e q ⟨h0, od, vs, h1, h2⟩ => ⟨q.trans h0, od, vs, h1, h2.mono e⟩⟩
def IsDi (x : VD) (M : Cells) (kvs : List (L2.Key × VD)) : Prop := ∀ {F Φ ρ σ H v}, SatF F Φ ρ M σ H → x.P F v → ∃ a vs, v = .ref a ∧ Rd H a (.dK vs) ∧ DP F kvs vs
def IsDu (x : VD) (M : Cells) (kvs : List (L2.Key × VD)) : Prop := ∀ {F Φ ρ σ H v}, SatF F Φ ρ M σ H → x.P F v → ∃ a vs, v = .ref a ∧ H a = some (.dK vs) ∧ DP F kvs vs
section
variable {K : PySem.W.Frag} {ρ ρ' : Env} {M M1 M2 M3 M4 M' : Cells} {x y z : VD} {te td ty tv ta tb : TE} {p : Addr} {Φ : Fr} {D : Ends} {kvs ls : List (L2.Key × VD)} {k : L2.Key} {P : VD → Cells → Prop}
theorem isdu_v : IsDu (vdi kvs) M kvs := fun s ⟨a, vs, h1, h2, h3⟩ => ⟨a, vs, h1, s.ex _ _ h2, h3⟩
theorem isdu_c (m : (p, cD kvs) ∈ M) : IsDu (val (.ref p)) M kvs := fun s h => by
  obtain ⟨o, h1, h0, vs, rfl, h3⟩ := s.at m
  exact ⟨p, vs, h, h1, h3⟩
theorem IsDu.r (h : IsDu x M kvs) : IsDi x M kvs := fun s q => let ⟨a, vs, h1, h2, h3⟩ := h s q; ⟨a, vs, h1, .inl h2, h3⟩
theorem isdi_v : IsDi (vdi kvs) M kvs := IsDu.r isdu_v
theorem isdi_c (m : (p, cD kvs) ∈ M) : IsDi (val (.ref p)) M kvs := IsDu.r (isdu_c m)
theorem isdi_l (m : (p, cDl kvs) ∈ M) : IsDi (val (.ref p)) M kvs := fun s h => by
  obtain ⟨o, h1, h0, od, vs, rfl, h3⟩ := s.at m
  exact ⟨p, vs, h, .inr ⟨od, h1⟩, h3⟩
/-! ### made -/
theorem ev_dnewK : Ev tDNewK ρ M (vdi []) M := fun Φ σ H Q ⟨F, s⟩ q => fun p hp => q _ _ (Sat.retNew s hp fun F' fx e => ⟨p, [], rfl, e, .nil⟩)
theorem er_dnewC : EvR tDNewK ρ M fun y M' => ∃ p, y = val (.ref p) ∧ M' = (p, cD []) :: M := fun Φ σ H Q ⟨F, s⟩ q => fun p hp => by
  have s2 := s.newC (c := cD []) (o := .dK []) hp fun e => ⟨e, [], rfl, .nil⟩
  exact q _ _ _ _ ⟨p, rfl, rfl⟩ ⟨F, s2.ex, ⟨s2.fr, rfl⟩, s2.sl, s2.nd, s2.ce⟩
/-! ### read -/
theorem ev_dget1 (hd : Ev td ρ M x M1) (h1 : IsDi x M1 kvs) (hk : Ev ty ρ M1 (dat (kD k)) M2) (h2 : IsDi x M2 kvs) : Ev (tDGet1 td ty) ρ M ((valG kvs k).getD vn) M2 := fun Φ σ H Q s q => hd Φ σ H _ s fun v H1 s1 => by
  have ⟨F1, z1⟩ := s1
  obtain ⟨a, vs, rfl, e1, -⟩ := h1 z1 z1.fr.2
  refine ⟨a, rfl, .inl ⟨vs, e1⟩, hk _ σ H1 _ s1 fun w H2 s2 => ?_⟩
  have ⟨F2, z2⟩ := s2
  obtain ⟨a', vs2, e, e2, d2⟩ := h2 z2 z2.fr.1.2
  cases e
  cases kv_of z2.fr.2
  exact ⟨valV vs2 k, .inl ⟨vs2, k, e2, rfl, rfl⟩, q _ _ (Sat.ret z2.base ((d2.val k).getD .non))⟩
theorem ev_dget2 (hd : Ev td ρ M x M1) (h1 : IsDi x M1 kvs) (hk : Ev ty ρ M1 (dat (kD k)) M2) (hv : Ev tv ρ M2 y M3) (h2 : IsDi x M3 kvs) : Ev (tDGet2 td ty tv) ρ M ((valG kvs k).getD y) M3 := fun Φ σ H Q s q => hd Φ σ H _ s fun v H1 s1 => by
  have ⟨F1, z1⟩ := s1
  obtain ⟨a, vs, rfl, e1, -⟩ := h1 z1 z1.fr.2
  refine ⟨a, rfl, .inl ⟨vs, e1⟩, hk _ σ H1 _ s1 fun w H2 s2 => hv _ σ H2 _ s2 fun u H3 s3 => ?_⟩
  have ⟨F3, z3⟩ := s3
  obtain ⟨a', vs2, e, e2, d2⟩ := h2 z3 z3.fr.1.1.2
  cases e
  cases kv_of z3.fr.1.2
  exact ⟨valV vs2 k, .inl ⟨vs2, k, e2, rfl, rfl⟩, q _ _ (Sat.ret (z3.base.weak Le.and) ((d2.val k).getD z3.fr.2))⟩
theorem ev_dget (hd : Ev td ρ M x M1) (hk : Ev ty ρ M1 (dat (kD k)) M2) (h2 : IsDi x M2 kvs) (hv : valG kvs k = some y) : Ev (tDGet td ty) ρ M y M2 := fun Φ σ H Q s q => hd Φ σ H _ s fun v H1 s1 => hk _ σ H1 _ s1 fun w H2 s2 => by
  have ⟨F2, z2⟩ := s2
  obtain ⟨a', vs2, rfl, e2, d2⟩ := h2 z2 z2.fr.1.2
  cases kv_of z2.fr.2
  have r := d2.val k
  rw [hv] at r
  generalize hw : valV vs2 k = ow at r
  cases r with
  | some hr => exact ⟨a', _, rfl, .inl ⟨vs2, k, e2, rfl, hw.symm⟩, q _ _ (Sat.ret z2.base hr)⟩
theorem ev_din (hk : Ev ty ρ M (dat (kD k)) M1) (hd : Ev td ρ M1 x M2) (h2 : IsDi x M2 kvs) : Ev (tDIn ty td) ρ M (dat (.bool (valG kvs k).isSome)) M2 := fun Φ σ H Q s q => hk Φ σ H _ s fun w H1 s1 => hd _ σ H1 _ s1 fun v H2 s2 => by
  have ⟨F2, z2⟩ := s2
  obtain ⟨a', vs2, rfl, e2, d2⟩ := h2 z2 z2.fr.2
  cases kv_of z2.fr.1.2
  refine ⟨a', valV vs2 k, rfl, .inl ⟨vs2, k, e2, rfl, rfl⟩, ?_⟩
  rw [(d2.val k).isSome]
  exact q _ _ (Sat.ret z2.base (.bl _))
theorem ev_dnin (hk : Ev ty ρ M (dat (kD k)) M1) (hd : Ev td ρ M1 x M2) (h2 : IsDi x M2 kvs) : Ev (tDNotIn ty td) ρ M (dat (.bool (!(valG kvs k).isSome))) M2 := fun Φ σ H Q s q => hk Φ σ H _ s fun w H1 s1 => hd _ σ H1 _ s1 fun v H2 s2 => by
  have ⟨F2, z2⟩ := s2
  obtain ⟨a', vs2, rfl, e2, d2⟩ := h2 z2 z2.fr.2
  cases kv_of z2.fr.1.2
  refine ⟨a', valV vs2 k, rfl, .inl ⟨vs2, k, e2, rfl, rfl⟩, ?_⟩
  rw [(d2.val k).isSome]
  exact q _ _ (Sat.ret z2.base (.bl _))
/-! ### stored -/
theorem c_dput (hv : Ev tv ρ M x M1) (hd : Ev td ρ M1 (val (.ref p)) M2) (hk : Ev ty ρ M2 (dat (kD k)) M3) (hp : Put p (cD kvs) (cD (putG kvs k x)) M3 M4) (hl : kvs.length < sizeLine) (c : Cont D.nx Φ ρ M4) :
    Cont (sDPut td ty tv D) Φ ρ M := fun σ H s => hv Φ σ H _ s fun v H1 s1 => hd _ σ H1 _ s1 fun w H2 s2 => hk _ σ H2 _ s2 fun u H3 s3 => by
  have ⟨F3, z3⟩ := s3
  have ew : w = .ref p := z3.fr.1.2
  cases kv_of z3.fr.2
  subst ew
  obtain ⟨o, k1, k0, vs, rfl, k3⟩ := z3.at hp.mem
  refine ⟨p, _, rfl, .inl ⟨vs, k, k1, rfl, by rw [← k3.len]; exact hl, rfl⟩, c σ _ ⟨F3, ?_⟩⟩
  exact (z3.put1 (o := .dK (putK vs k v)) hp k0 ⟨k0, _, rfl, k3.put k z3.fr.1.1.2⟩).weak (.of rfl fun F h => h.1.1.1)
end
end Sx

set_option Elab.async false
set_option linter.all false
set_option maxRecDepth 100000
set_option maxHeartbeats 2000000
/-! SxEb: an attribute is stored on an exception whose class stands over a class of ours over Exception. -/
namespace PySem
namespace XeB
open Builtin Builtin.ObjectAttr PySem.ESX
section
variable {prog : Program} {w : World} {A : Around} {R : Result → Shared → Prop} {hp : Heap} {g : Array GenState} {dw : Drawn} {t : Nat} {os : OsState}
theorem has_it {C D : Addr} {b : Value} (hb : exTail.contains b = true) : (Value.ref C :: Value.ref D :: exTail).contains b = true := by
  rw [List.contains_cons, List.contains_cons, hb, Bool.or_true, Bool.or_true]
theorem mro2 {K : W.Frag} {C D : Addr} {cd : ClassData} (hcd : W.clsIn K C = some cd) (hm : cd.mro = .ref C :: .ref D :: exTail) {b : Value} (hb : (Value.ref C :: Value.ref D :: exTail).contains b = true) : W.mroIn K C b = some true := by
  unfold W.mroIn
  rw [hcd, Option.bind_some, hm, if_neg (show ¬ (List.isEmpty (Value.ref C :: Value.ref D :: exTail) = true) from Bool.false_ne_true), hb]
theorem put_new {K : W.Frag} {name : Str} {tk : Tok} {v : Value} {x C D : Addr} {fv : Array Value} {cd : ClassData}
    (X : K.In hp) (hx : hp.get? x = some { cls := .ref C, data := .fields fv }) (hcd : W.clsIn K C = some cd) (hm : cd.mro = .ref C :: .ref D :: exTail) (hh : cd.hasDict = true) (ha : W.findIn K (.ref C) name = some none)
    (fin : ∀ h' tk' dx, (∀ b o, b ≠ x → hp.get? b = some o → h'.get? b = some o) → hp.objs.size ≤ dx → dx ≠ x → h'.get? x = some { cls := .ref C, dict := some dx, data := .fields fv } →
      h'.Ns1 dx (fun y => if y = name then some v else none) → R (.ok (.ret .none)) ⟨h', g, dw, tk', os⟩) :
    codeAny (model prog w) A (.call (.builtin "object.__setattr__") ⟨[.ref x, .str name tk, v], []⟩) R ⟨hp, g, dw, t, os⟩ := by
  have J : W.InstAt hp x { cls := .ref C, data := .fields fv } C none := ⟨hx, rfl, rfl, trivial⟩
  have ne : x ≠ hp.objs.size := Nat.ne_of_lt (Heap.lt_size hx)
  have S0 := F.store_object
  have so : W.Looks (model prog w) hp (isInstance (.ref x) (.type "object")) true := J.type.andThen (W.looks_mroIn X (mro2 hcd hm (has_it (by decide +kernel))))
  have lm : W.Looks (model prog w) hp (mroOf (.ref C)) cd.mro := (W.looks_clsIn X hcd).andThen .now
  have l3 : W.Looks (model prog w) hp (storeTaker? none) none := .now
  have lc : W.Looks (model prog w) hp (classData C) cd := W.looks_clsIn X hcd
  have pass : refuseLoop (.ref x) "__setattr__" cd.mro = pure () := by
    rw [hm, refuseLoop_ref, refuseLoop_ref]
    exact F.store_Exception.passes _
  refine codeAny_call_builtin S0.slot.plain S0.entry (@W.check_slot (model prog w) _ _ ⟨hp, g, dw, t, os⟩ "object.__setattr__" "object" "__setattr__" (.ref x) [.str name tk, v] [] _ S0.kind S0.split so (S0.args (.ref x) (.str name tk) v) ?_)
  rw [W.osa_eq, refuse_eq]
  refine wpAny_bind (wpAny_bind (J.type.at (wpAny_bind (lm.at ?_)))); rw [pass]
  refine wpAny_pure (wpAny_bind (J.type.at (wpAny_bind ((W.looks_findIn X ha).at (wpAny_bind (l3.at ?_))))))
  obtain ⟨nm, bs, mro, ns, qn, hd, sn, sb, ab, col, del⟩ := cd
  dsimp only at hh
  subst hh
  unfold storeInOwnDict ownDictForStores
  repeat (first | with_reducible refine HandSPX.store_in_new ?_ ?_ | with_reducible refine wpAny_loadPart_at hx ?_ | with_reducible refine lc.at ?_ | wp_step)
  · exact ⟨_, #[], _, (Heap.get?_update_ne _ _ _ _ ne.symm).trans (Heap.get?_push_at rfl rfl), rfl, fun e he => absurd he (by simp), fun _ => rfl⟩
  · intro h' tk' hn' hs
    have hx1 : (hp.push { cls := .type "dict", data := .dict #[] }).get? x = some { cls := .ref C, data := .fields fv } := Heap.get?_push_of_some _ hx
    refine fin h' tk' hp.objs.size (fun b o hb ho => ?_) (Nat.le_refl _) ne.symm ((hs.2 x ne).trans (Heap.get?_update_self _ hx1 rfl)) hn'
    exact (hs.2 b (Nat.ne_of_lt (Heap.lt_size ho))).trans ((Heap.get?_update_ne _ _ _ _ hb).trans (Heap.get?_push_of_some _ ho))
theorem has_same {D : Addr} (Y : String) : (Value.ref D :: exTail).contains (.type Y) = exTail.contains (.type Y) := by
  rw [List.contains_cons]
  simp
theorem mod_keeps {K : W.Frag} {mg : Str → Option Value} {h h' : Heap} (M0 : L2.Mod K mg h) (k : ∀ b o, h.get? b = some o → h'.get? b = some o) : L2.Mod K mg h' :=
  let ⟨mb, h1, h2⟩ := M0.blt
  ⟨M0.kin.keeps k, M0.glob.keeps k, ⟨mb, h1.keeps k, h2⟩, M0.nolimit.keeps k⟩
theorem mod_at {X : L2.Cx} {pins : List (Addr × Obj)} {σ : L2.St} {H : L2.Hp} {s : Shared} (I : L2.Inv X pins σ H s) : L2.Mod X.K X.mg s.heap := mod_keeps I.mod I.bk
/-- a made exception with one field -/
structure OwnMade (h h' : Heap) (e C d : Addr) (f : Str) (v : Value) : Prop where
  keep : ∀ b o, h.get? b = some o → h'.get? b = some o
  new : h.objs.size ≤ e
  obj : ∃ oe vs, h'.get? e = some oe ∧ oe.cls = .ref C ∧ oe.dict = some d ∧ oe.data = .fields vs ∧ vs[1]? = some .none
  dbig : h.objs.size ≤ d
  dne : d ≠ e
  ns : h'.Ns1 d (fun y => if y = f then some v else none)
end
section
open L2 PySem.HandSPX
/-- C(e) -/
def tMk (C : Addr) (f : Str) (ta : TA) : St → Hp → XK → Prop := fun σ H Q => ta σ H fun vs H1 => ∃ v, vs = [v] ∧ ∀ d, H1 d = none → Q (.ref C) (some d) (upd H1 d (.xd [(f, v)]))
theorem relO_one {v : V} {v' : Value} (r : RelV v v') (f g : Str) : RelO (List.lookup g [(f, v)]) (if g = f then some v' else none) := by
  by_cases h : g = f
  · subst h
    rw [if_pos rfl]
    simp only [List.lookup, beq_self_eq_true]
    exact r
  · have q : (g == f) = false := by simpa using h
    rw [if_neg h]
    simp only [List.lookup, q]
    trivial
theorem mk_fin {X : Cx} {pins : List (Addr × Obj)} {σ : St} {H1 : Hp} {Q : XK} {s1 : Shared} {C : Addr} {f : Str} {v : V} {v' : Value} (I1 : Inv X pins σ H1 s1) (rv : RelV v v')
    (exC : W.subIn X.K (.ref C) (.type "BaseException") = some true) (tyC : W.typeIn X.K (.ref C) = some (.type "type")) (q1 : ∀ d, H1 d = none → Q (.ref C) (some d) (upd H1 d (.xd [(f, v)])))
    (mk : ∀ (R : Result → Shared → Prop), (∀ h' tk e d, OwnMade s1.heap h' e C d f v' → R (.ok (.ret (.ref e))) { s1 with heap := h', toks := tk }) → codeAny (model X.prog X.w) X.A (.call (.ref C) ⟨[v'], []⟩) R s1) :
    wpAny (model X.prog X.w) X.A (call (.ref C) [v']) (MkP X pins σ Q) X.xe s1 := by
  obtain ⟨hp, g, dr, tk, os⟩ := s1
  refine wpAny_call (mk _ fun h' tk' e d M => ?_)
  show MkP X pins σ Q (.ref e) ⟨h', g, dr, tk', os⟩
  obtain ⟨oe, fv, hoe, hc, hd, hdat, h1⟩ := M.obj
  obtain ⟨G', g1, g2⟩ := restrict h' fun b => decide (b ≠ e)
  have gk : ∀ b, b ≠ e → G'.get? b = h'.get? b := fun b hb => g1 b (decide_eq_true hb)
  have ge : G'.get? e = none := g2 e (by simp)
  have old : ∀ b o, hp.get? b = some o → G'.get? b = some o := fun b o q => (gk b (Nat.ne_of_lt (Nat.lt_of_lt_of_le (Heap.lt_size q) M.new))).trans (M.keep b o q)
  have ob : ObjOk X.prog X.w (upd H1 d (.xd [(f, v)])) G' d (.xd [(f, v)]) := ⟨_, M.ns.at (fun o q => (gk d M.dne).trans q), fun y => relO_one rv f y⟩
  have J : Inv X pins σ (upd H1 d (.xd [(f, v)])) ⟨G', g, dr, tk', os⟩ := I1.laid (t' := tk') old M.dbig ob
  refine ⟨e, oe, fv, ⟨G', g, dr, tk', os⟩, _, .ref C, some d, rfl, J, fun b o q => ?_, ge, hoe, ?_, hdat, h1, ?_, rfl, I1.bare, raises_own exC tyC, q1 d (I1.hok.fresh M.dbig)⟩
  · by_cases hb : b = e
    · have q' : G'.get? b = some o := q
      rw [hb, ge] at q'; cases q'
    · exact (gk b hb).symm.trans q
  · exact ⟨hc, hd⟩
  · rw [upd_ne (Ne.symm M.dne)]; exact I1.hok.fresh M.new
end
end XeB
end PySem

set_option Elab.async false
set_option linter.all false
set_option maxRecDepth 100000
set_option maxHeartbeats 2000000
/-! Sx8: defs that may raise; raise, try. -/
namespace Sx
open PySem L2 Evl PyProof.Rows
/-! ### calls within a try, or of a def that raises itself: the wish W of what leaves -/
section
variable {X : Cx} {CX : CXT} {k : Nat} {f C : Addr} {fd : FuncData} {ps : List Str} {sp : Sp} {E : L2.St → XK} {x m : Str} {p pos apos : Pos} {e o : Expr} {es : List Expr} {ta : TE} {t : TA}
theorem pe_callS0 (F : FnOk X.prog X.w X.K X.mg X.base CX k f fd ps sp) (hr : Room k X.A) (hg : Gl X x) (hm : X.mg x = some (.ref f)) (hk : PySem.W.keepIn X.K (.ref f) = true) (hb : Binds X.K fd ps []) (hx : ∀ σ, PassesAt CX X σ (E σ))
    (hdb : (x == ("__debug__" : Str)) = false := by decide) : PE X (.Call (.Name x p) [] [] pos) (tCallS sp E tNil) :=
  ⟨fun pins s σ H Q I h => wpAny_Call_Name_kw (ld_glob I hg hm (PySem.W.callWith_K0 I.kIn hk (run_fnS (us := []) F hr hb (hx σ) I .nil h)) hdb)⟩
def tMethS (C : Addr) (m : Str) (sp : Sp) (E : L2.St → XK) (ta : TE) (t : TA) : TE := fun σ H Q => ta σ H fun x H1 => ∃ a dx fs, x = .ref a ∧ H1 a = some (.ins C dx fs) ∧ fs.lookup m = none ∧
  t σ H1 fun vs H2 => sp (x :: vs) H2 Q (E σ)
theorem pe_methS {pl : Sem Bool} (he : PE X o ta) (c : Cls X.K C) (hm : Meth X.K C m f) (F : FnOk X.prog X.w X.K X.mg X.base CX k f fd ps sp) (hr : Room k X.A) (hb : Binds X.K fd ps []) (hx : ∀ σ, PassesAt CX X σ (E σ)) (ha : PA X (e :: es) t)
    (hst : starEach (e :: es) X.env = (false, eval e X.env) :: starEach es X.env := by rfl) (hpl : (backTo pos (starEach es X.env)).any (·.1) = false := by rfl)
    (ht : eval (.Call (.Attribute o m apos) (e :: es) [] pos) X.env = (do let ov ← eval o X.env; standAt apos.atName; let (f, first) ← holding [ov] (getMethod ov m pl); callWith pos f first (backTo pos (starEach (e :: es) X.env)) (backToKw pos (keywordEach [] X.env))) := by rfl) :
    PE X (.Call (.Attribute o m apos) (e :: es) [] pos) (tMethS C m sp E ta t) := ⟨fun pins s σ H Q I h => by
  refine PySem.W.methodCall_KW (pl := pl) (thn (he.run pins s σ H _ I h) fun u s1 ⟨y, H1, I1, ry, a, dx, fs, ey, ea, l, q⟩ => ?_) ht
  subst ey; obtain rfl : u = Value.ref a := ry
  refine getmeth_ok I1 ea c hm l (PySem.W.callWith_K (first := [.ref a]) (h₀ := X.base) I.ok.mod.kin hm.kp (thn (ha.run pos pins s1 σ H1 _ I1 q) fun us s2 ⟨vs, H2, I2, r, q2⟩ => ⟨I2.kIn, ?_⟩) hst hpl)
  exact run_fnS (us := .ref a :: us) (vs := .ref a :: vs) F hr hb (hx σ) I2 (.cons rfl r) q2⟩
theorem pe_methS0 {pl : Sem Bool} (he : PE X o ta) (c : Cls X.K C) (hm : Meth X.K C m f) (F : FnOk X.prog X.w X.K X.mg X.base CX k f fd ps sp) (hr : Room k X.A) (hb : Binds X.K fd ps []) (hx : ∀ σ, PassesAt CX X σ (E σ))
    (ht : eval (.Call (.Attribute o m apos) [] [] pos) X.env = (do let ov ← eval o X.env; standAt apos.atName; let (f, first) ← holding [ov] (getMethod ov m pl); callWith pos f first (backTo pos (starEach [] X.env)) (backToKw pos (keywordEach [] X.env))) := by rfl) :
    PE X (.Call (.Attribute o m apos) [] [] pos) (tMethS C m sp E ta tNil) := ⟨fun pins s σ H Q I h => by
  refine PySem.W.methodCall_KW (pl := pl) (thn (he.run pins s σ H _ I h) fun u s1 ⟨y, H1, I1, ry, a, dx, fs, ey, ea, l, q⟩ => ?_) ht
  subst ey; obtain rfl : u = Value.ref a := ry
  refine getmeth_ok I1 ea c hm l (PySem.W.callWith_K0 I1.kIn hm.kp ?_)
  exact run_fnS (us := [.ref a]) (vs := [.ref a]) F hr hb (hx σ) I1 (.cons rfl .nil) q⟩
def tMakeS (C : Addr) (sp : Sp) (E : L2.St → XK) (t : TA) : TE := fun σ H Q => t σ H fun vs H1 => ∀ x dx, H1 x = none → H1 dx = none → dx ≠ x →
  sp (.ref x :: vs) (upd (upd H1 dx (.own x)) x (.ins C dx [])) (fun v H2 => v = .non ∧ Q (.ref x) H2) (E σ)
theorem run_makeS {pins : List (Addr × Obj)} {σ : L2.St} {H : Hp} {s : Shared} {Q : VK} {us : List Value} {vs : List V} (M : Mk X.K C f) (F : FnOk X.prog X.w X.K X.mg X.base CX k f fd ps sp) (hr : Room (k + 1) X.A) (hb : Binds X.K fd ps [])
    (hx : PassesAt CX X σ (E σ)) (I : Inv X pins σ H s) (r : Vals vs us)
    (h : ∀ x dx, H x = none → H dx = none → dx ≠ x → sp (.ref x :: vs) (upd (upd H dx (.own x)) x (.ins C dx [])) (fun v H2 => v = .non ∧ Q (.ref x) H2) (E σ)) :
    wpAny (model X.prog X.w) X.A (call (.ref C) us) (EP X pins σ Q) X.xe s := by
  have z1 := Nat.le_succ s.heap.objs.size
  have hq := h (s.heap.objs.size + 1) s.heap.objs.size (I.hok.fresh z1) (I.hok.fresh (Nat.le_refl _)) (Nat.ne_of_lt (Nat.lt_succ_self _))
  have J := Inv.made (C := C) I
  have r2 : Vals (V.ref (s.heap.objs.size + 1) :: vs) (Value.ref (s.heap.objs.size + 1) :: us) := .cons rfl r
  have hl : (Value.ref (s.heap.objs.size + 1) :: us ++ []).length = ps.length := by
    rw [List.append_nil, ← r2.length]; exact F.len _ _ _ _ hq
  have b := hb _ (Value.ref (s.heap.objs.size + 1) :: us) J.kIn hl
  rw [List.append_nil] at b
  refine wpAny_call (make_map (f := f) I.kIn M.makes M.init (beq_iff_eq.mp M.fn) (codeAny_mono (F.run _ X.stack _ _ ⟨Value.ref (s.heap.objs.size + 1) :: us, []⟩ _ _ _ (E σ) (hr.make C us []) (J.env0.make C us []) b r2 hq) fun r s' hq' => ?_))
  match r, hq' with
  | .error e, hq' => exact hx pins _ _ e s' J hq'
  | .ok (.ret u), hq' =>
    obtain ⟨v, H', I3, rv, ev, q3⟩ := J.after hq'
    subst ev
    exact ⟨rv, ⟨V.ref (s.heap.objs.size + 1), H', I3, rfl, q3⟩⟩
  | .ok .next, hq' => exact False.elim hq'
  | .ok .brk, hq' => exact False.elim hq'
  | .ok .cont, hq' => exact False.elim hq'
theorem pe_makeS (M : Mk X.K C f) (F : FnOk X.prog X.w X.K X.mg X.base CX k f fd ps sp) (hr : Room (k + 1) X.A) (hg : Gl X x) (hm : X.mg x = some (.ref C)) (hb : Binds X.K fd ps []) (hx : ∀ σ, PassesAt CX X σ (E σ))
    (ha : PA X (e :: es) t) (hdb : (x == ("__debug__" : Str)) = false := by decide) (he : starEach (e :: es) X.env = (false, eval e X.env) :: starEach es X.env := by rfl) (hpl : (backTo pos (starEach es X.env)).any (·.1) = false := by rfl) :
    PE X (.Call (.Name x p) (e :: es) [] pos) (tMakeS C sp E t) :=
  ⟨fun pins s σ H Q I h => wpAny_Call_Name_kw (ld_glob I hg hm (PySem.W.callWith_K (h₀ := X.base) I.ok.mod.kin M.kp (thn (ha.run pos pins s σ H _ I h) fun us s1 ⟨vs, H1, I1, r, q⟩ => ⟨I1.kIn, run_makeS M F hr hb (hx σ) I1 r q⟩) he hpl) hdb)⟩
end
/-! ### the wish, told by descriptions -/
def cX (f : Str) (y : VD) : CD := ⟨fun F p o => F p = none ∧ ∃ v, o = .xd [(f, v)] ∧ y.P F v, fun e q ⟨h0, v, h1, h2⟩ => ⟨q.trans h0, v, h1, y.mono e h2⟩⟩
abbrev W0 : WX := fun _ _ _ _ => False
abbrev PXT := Env → Addr → Str → VD → Cells → Prop
/-- W is content with the exceptions that PE tells -/
def RtX (W : WX) (Φ : Fr) (PE : PXT) : Prop := ∀ Φ' ρ σ C f y dd M H, Le Φ' Φ → PE ρ C f y M → Sat Φ' ρ ((dd, cX f y) :: M) σ H → W (.ref C) (some dd) σ H
/-- an expression below a frame, several outcomes -/
def EvL (Φ0 : Fr) (te : TE) (ρ : Env) (M : Cells) (P : VD → Cells → Prop) : Prop := ∀ (Φ : Fr) (σ : L2.St) (H : Hp) (Q : VK), Le Φ Φ0 → Sat Φ ρ M σ H → (∀ x M' v H', P x M' → Sat (Φ.and x v) ρ M' σ H' → Q v H') → te σ H Q
/-- a def that may raise: its promise -/
abbrev XSpec := List VD → Cells → (VD → Cells → Prop) → (Addr → Str → VD → Cells → Prop) → Prop
def spX (n : Nat) (S : XSpec) : Sp := fun vs H Q E => ∃ (Φ : Fr) (ρ : Env) (σ : L2.St) (ds : List VD) (M : Cells) (P : VD → Cells → Prop) (PE : Addr → Str → VD → Cells → Prop), Sat (Φ.andA ds vs) ρ M σ H ∧ vs.length = n ∧ S ds M P PE ∧
  (∀ x M' v H', P x M' → Sat (Φ.and x v) ρ M' σ H' → Q v H') ∧ ∀ C f y dd M' H', PE C f y M' → Sat Φ ρ ((dd, cX f y) :: M') σ H' → E (.ref C) (some dd) H'
theorem spX_len {n : Nat} {S : XSpec} {vs : List V} {H : Hp} {Q : VK} {E : XK} (h : spX n S vs H Q E) : vs.length = n := let ⟨_, _, _, _, _, _, _, _, e, _⟩ := h; e
section
variable {K : PySem.W.Frag} {ρ ρ' ρ1 : Env} {M M1 M2 M' : Cells} {x y z : VD} {te ta tb : TE} {t : TA} {C p : Addr} {f : Str} {Φ Ψ : Fr} {D : Ends} {Q : VK} {P : VD → Cells → Prop} {PE : PXT} {W : WX} {n : Nat} {ds : List VD}
theorem EvR.l (h : EvR te ρ M P) : EvL Φ te ρ M P := fun Φ' σ H Q _ s q => h Φ' σ H Q s q
theorem Ev.l (h : Ev te ρ M x M') (hp : P x M') : EvL Φ te ρ M P := fun Φ' σ H Q _ s q => h Φ' σ H Q s fun v H' s' => q x M' v H' hp s'
theorem EvL.imp {P' : VD → Cells → Prop} (h : EvL Φ te ρ M P) (k : ∀ x M', P x M' → P' x M') : EvL Φ te ρ M P' := fun Φ' σ H Q l s q => h Φ' σ H Q l s fun x M' v H' hp s' => q x M' v H' (k x M' hp) s'
theorem EvL.le (h : EvL Φ te ρ M P) (l : Le Ψ Φ) : EvL Ψ te ρ M P := fun Φ' σ H Q l' s q => h Φ' σ H Q (l'.trans l) s q
theorem rtx0 : RtX W0 Φ (fun _ _ _ _ _ => False) := fun _ _ _ _ _ _ _ _ _ _ z _ => z.elim
theorem RtX.le (h : RtX W Φ PE) (l : Le Ψ Φ) : RtX W Ψ PE := fun Φ' ρ σ C f y dd M H l' hp s => h Φ' ρ σ C f y dd M H (l'.trans l) hp s
theorem evl_call {S : XSpec} {PE' : Addr → Str → VD → Cells → Prop} (ha : EvA t ρ M ds M1) (hn : ds.length = n) (hS : S ds M1 P PE') (hX : RtX W Φ PE) (hP : ∀ C f y M', PE' C f y M' → PE ρ C f y M') : EvL Φ (tCallS (spX n S) (WE W) t) ρ M P := fun Φ' σ H Q l s q =>
  ha Φ' σ H _ s fun vs H1 s1 => ⟨Φ', ρ, σ, ds, M1, P, PE', s1, let ⟨F, s2⟩ := s1; (Paired.length s2.fr.2).symm.trans hn, hS, fun x M' v H' hp s' => q x M' v H' hp s', fun C f y dd M' H' hp s' => hX Φ' ρ σ C f y dd M' H' l (hP C f y M' hp) s'⟩
theorem evl_meth {m : Str} {S : XSpec} {PE' : Addr → Str → VD → Cells → Prop} {ns : List Str} {xs : List VD} (ho : Ev ta ρ M (val (.ref p)) M1) (hc : (p, cI C ns xs) ∈ M1) (hno : ¬ m ∈ ns) (ha : EvA t ρ M1 ds M2) (hn : ds.length + 1 = n) (hS : S (val (.ref p) :: ds) M2 P PE') (hX : RtX W Φ PE) (hP : ∀ C f y M', PE' C f y M' → PE ρ C f y M') : EvL Φ (tMethS C m (spX n S) (WE W) ta t) ρ M P := fun Φ' σ H Q l s q =>
  ho Φ' σ H _ s fun v H1 s1 => by
    have ⟨F, z⟩ := s1
    have e : v = .ref p := z.fr.2
    subst e
    obtain ⟨o, h1, h0, dx, fs, rfl, h3⟩ := z.at hc
    refine ⟨p, dx, fs, rfl, h1, h3.lookup_none hno, ha _ σ H1 _ s1 fun vs H2 s2 => ?_⟩
    have s3 : Sat (Φ'.andA (val (.ref p) :: ds) (.ref p :: vs)) ρ M2 σ H2 := s2.weak (.of rfl fun F p => ⟨p.1.1, .cons p.1.2 p.2⟩)
    exact ⟨Φ', ρ, σ, _, M2, P, PE', s3, let ⟨F, s2⟩ := s3; (Paired.length s2.fr.2).symm.trans hn, hS, fun x M' v H' hp s' => q x M' v H' hp s', fun C f y dd M' H' hp s' => hX Φ' ρ σ C f y dd M' H' l (hP C f y M' hp) s'⟩
theorem evl_make {S : XSpec} {PE' : Addr → Str → VD → Cells → Prop} (h : EvA t ρ M ds M1) (hn : ds.length + 1 = n) (hS : ∀ p, S (val (.ref p) :: ds) ((p, cI C [] []) :: M1) (fun y M' => y = vn ∧ P (val (.ref p)) M') PE') (hX : RtX W Φ PE) (hP : ∀ C f y M', PE' C f y M' → PE ρ C f y M') : EvL Φ (tMakeS C (spX n S) (WE W) t) ρ M P := fun Φ' σ H Q l s q =>
  h Φ' σ H _ s fun vs H1 s1 => fun x dx hx hdx hne => by
    have ⟨F, s2⟩ := s1
    have hl := Paired.length s2.fr.2
    have s3 := (s2.newH (o := .own x) hdx).newC (c := cI C [] []) (o := .ins C dx []) (p := x) (by rw [upd_ne hne.symm]; exact hx) fun e => ⟨e, dx, [], rfl, rfl, .nil⟩
    refine ⟨Φ', ρ, σ, val (.ref x) :: ds, (x, cI C [] []) :: M1, fun y M' => y = vn ∧ P (val (.ref x)) M', PE', ⟨F, s3.weak (.of rfl fun F h => ⟨h.1, .cons rfl h.2⟩)⟩, by rw [List.length_cons, ← hl]; exact hn, hS x, fun y M' v H' hp s' => ?_, fun C f y dd M' H' hp s' => hX Φ' ρ σ C f y dd M' H' l (hP C f y M' hp) s'⟩
    obtain ⟨rfl, hp⟩ := hp
    have ⟨F', s5⟩ := s'
    refine ⟨?_, q (val (.ref x)) M' (.ref x) H' hp ⟨F', s5.ex, ⟨s5.fr.1, rfl⟩, s5.sl, s5.nd, s5.ce⟩⟩
    have e : Rp F' v .none := s5.fr.2
    cases e
    rfl
/-! ### statements -/
theorem c_asgL {i : Nat} (h : EvL Φ te ρ M P) (k : ∀ x M1, P x M1 → ∃ ρ', SetAt x ρ i ρ' ∧ Cont D.nx Φ ρ' M1) : Cont (tAsg te (gName i) D) Φ ρ M := fun σ H s => h Φ σ H _ (.refl _) s fun x M1 v H1 p s1 => by
  obtain ⟨ρ', hs, k⟩ := k x M1 p
  exact k _ _ (s1.asg hs)
theorem c_dropL (h : EvL Φ te ρ M P) (k : ∀ x M1, P x M1 → Cont D.nx Φ ρ M1) : Cont (tDrop te D) Φ ρ M := fun σ H s => h Φ σ H _ (.refl _) s fun x M1 v H1 p s1 => k x M1 p σ H1 s1.weak1
theorem c_retL {P' : VD → Cells → Prop} (h : EvL Ψ te ρ M P') (hQ : RtQ D.rt Φ P) (hP : ∀ x M1, P' x M1 → P x M1) (l : Le Ψ Φ) : Cont (tRet te D) Ψ ρ M := fun σ H s => h Ψ σ H _ (.refl _) s fun x M1 v H1 p s1 => hQ Ψ ρ σ x M1 v H1 l (hP x M1 p) s1
def tRaise (C : Addr) (f : Str) (W : WX) (t : TA) : TS := fun _ σ H => XeB.tMk C f t σ H fun cls d H' => W cls d σ H'
theorem c_raise (h : EvA t ρ M [y] M1) (hX : RtX W Φ PE) (hP : PE ρ C f y M1) (l : Le Ψ Φ) : Cont (tRaise C f W t D) Ψ ρ M := fun σ H s => h Ψ σ H _ s fun vs H1 s1 => by
  have ⟨F, z⟩ := s1
  obtain ⟨v, rfl, hv⟩ := rc1 (ds := []) z.fr.2
  refine ⟨v, rfl, fun d hd => ?_⟩
  have z2 := z.newC (c := cX f y) (o := .xd [(f, v)]) hd fun e => ⟨e, v, rfl, hv⟩
  exact hX Ψ ρ σ C f y d M1 _ l hP ⟨F, z2.ex, z2.fr.1, z2.sl, z2.nd, z2.ce⟩
theorem Sat.unset {σ : L2.St} {H : Hp} (s : Sat Φ ρ M σ H) (i : Nat) : Sat Φ (ρ.set i none) M (σ.set i none) H := let ⟨F, s⟩ := s
  ⟨F, s.ex, s.fr, ⟨by rw [List.length_set, List.length_set]; exact s.sl.1, fun j x e => by
    rw [List.getElem?_set] at e
    by_cases h : i = j
    · rw [if_pos h] at e
      split at e <;> cases e
    · rw [if_neg h] at e
      rw [List.getElem?_set, if_neg h]
      exact s.sl.2 j x e⟩, s.nd, s.ce⟩
theorem c_unset {k : L2.St → Hp → Prop} {i : Nat} (c : Cont k Φ (ρ.set i none) M) : Cont (fun σ' H' => k (σ'.set i none) H') Φ ρ M := fun σ H s => c _ H (s.unset i)
abbrev tTryAs (K : PySem.W.Frag) (c : Value) (i : Nat) (ts : Addr → Value → Option Addr → TS) (Wout : WX) (tb : WX → TS) : TS := fun D σ H => tb (wAs K c i ts Wout D) D σ H
abbrev sEnds (D : Ends) (i : Nat) : Ends := { nx := fun σ' H' => D.nx (σ'.set i none) H', rt := D.rt, bk := fun σ' H' => D.bk (σ'.set i none) H', ct := fun σ' H' => D.ct (σ'.set i none) H' }
theorem c_tryAs {i : Nat} {c : Value} {ts : Addr → Value → Option Addr → TS} {Wout : WX} {tb : WX → TS} (PE : PXT) (hb : ∀ W, RtX W Φ PE → Cont (tb W D) Φ ρ M)
    (hs : ∀ Ψ ρ' C f y M' dd, Le Ψ Φ → PE ρ' C f y M' → PySem.W.exmOne K (.ref C) c = some true ∧ ∀ a, Cont (ts a (.ref C) (some dd) (sEnds D i)) Ψ (ρ'.set i (some (val (.ref a)))) ((dd, cX f y) :: M')) : Cont (tTryAs K c i ts Wout tb D) Φ ρ M :=
  hb (wAs K c i ts Wout D) fun Ψ ρ' σ C f y dd M' H l hp s => by
    obtain ⟨h1, h2⟩ := hs Ψ ρ' C f y M' dd l hp
    refine ⟨true, h1, fun _ a _ => h2 a _ _ ?_, fun z => Bool.noConfusion z⟩
    have ⟨F, z⟩ := s
    exact ⟨F, z.ex, z.fr, z.sl.set (x := val (.ref a)) (v := .ref a) rfl, z.nd, z.ce⟩
/-- the caught one's field -/
theorem ev_xf {a dd : Addr} (h : Ev te ρ M (val (.ref a)) M1) (hm : (dd, cX f y) ∈ M1) : Ev (tXf a (.ref C) (some dd) C f te) ρ M y M1 := fun Φ σ H Q s q => h Φ σ H _ s fun v H1 s1 => by
  have ⟨F, z⟩ := s1
  obtain ⟨o, k1, k0, w, rfl, k3⟩ := z.at hm
  refine ⟨z.fr.2, rfl, dd, _, w, rfl, k1, ?_, q _ _ (Sat.ret (z.weak Le.and) k3)⟩
  simp [List.lookup]
theorem fn_startX {n : Nat} {S : XSpec} {vs : List V} {H : Hp} {Q : VK} {E : XK} {t : WX → TS} {N : List Str} (h : spX n S vs H Q E)
    (k : ∀ W ds M P PE Φ, ds.length = n → S ds M P PE → RtQ Q Φ P → RtX W Φ (fun _ => PE) → Cont (t W (fnD Q)) Φ (entry N ds) M) : t (fun cls d _ H => E cls d H) { nx := fun _ H' => Q .non H', rt := Q } (L2.start N vs) H := by
  obtain ⟨Φ, ρ, σ, ds, M, P, PE, s, e, hS, hq, hx⟩ := h
  have ⟨F, s0⟩ := s
  refine k _ ds M P PE (Φ.slots σ ρ) ((Paired.length s0.fr.2).trans e) hS (fun Φ' ρ' σ' x M' v H' l hp s' => ?_) (fun Φ' ρ' σ' C f y dd M' H' l hp s' => ?_) _ _ ⟨F, s0.ex, ⟨s0.fr.1, s0.sl⟩, slots_entry s0.fr.2, s0.nd, s0.ce⟩
  · have s2 := s'.weak (Ψ := (Φ.slots σ ρ).and x v) ⟨l.n, fun F h => ⟨l.p F h.1, h.2⟩⟩
    have ⟨F', s3⟩ := s2
    exact hq x M' v H' hp ⟨F', s3.ex, ⟨s3.fr.1.1, s3.fr.2⟩, s3.fr.1.2, s3.nd, s3.ce⟩
  · have s2 := s'.weak l
    have ⟨F', s3⟩ := s2
    exact hx C f y dd M' H' hp ⟨F', s3.ex, s3.fr.1, s3.fr.2, s3.nd, s3.ce⟩
end
end Sx

set_option Elab.async false
set_option linter.all false
set_option maxRecDepth 100000
set_option maxHeartbeats 2000000
/-! Sx9: isinstance, a star in a display, a list's place set, dict displays, str(n), dict(rows). -/
namespace Sx
open PySem L2 Evl StX
section
variable {K : PySem.W.Frag} {ρ ρ' ρ1 : Env} {M M1 M2 M3 M4 M' : Cells} {x y z : VD} {te ta tb ty tv : TE} {t : TA} {p : Addr} {Φ : Fr} {D : Ends} {P : VD → Cells → Prop} {ds es : List VD}
/-! ### isinstance of data -/
def tyD : PyData → String
  | .none => "NoneType"
  | .bool _ => "bool"
  | .int _ => "int"
  | .str _ => "str"
  | .list _ => "list"
  | .tuple _ => "tuple"
  | .dict _ => "dict"
theorem rc_isi {d : PyData} {c : String} {b : Bool} (h : kitB (tyD d) c = some b) : RC (rIsi K) [dat d, val (.ty c)] M (dat (.bool b)) M := fun Φ ρ σ vs H Q ⟨F, s⟩ q => by
  obtain ⟨v, w, rfl, h1, h2⟩ := rc2 s.fr.2
  have e2 : w = .ty c := h2
  subst e2
  refine ⟨v, _, .type (tyD d), .type c, b, rfl, .ty c, .base ?_, kit_ty h, q _ _ (Sat.ret (s.weak Le.andA) (.bl b))⟩
  cases h1 with
  | non => exact .non
  | bl b => exact .bl _
  | int i => exact .int _
  | str x => exact .str _
  | lst h1 h2 => exact .lst (s.ex _ _ h1)
  | tup h1 h2 => exact .tup (s.ex _ _ h1)
/-! ### (*xs, y) -/
theorem ea_starT {ds' : List PyData} (h : Ev te ρ M x M1) (hx : IsTup x M1 ds') (hr : EvA t ρ M1 es M2) : EvA (tStar K te t) ρ M (ds'.map dat ++ es) M2 := fun Φ σ H Q s q => h Φ σ H _ s fun v H1 s1 => by
  have ⟨F, z⟩ := s1
  obtain ⟨a, ws, rfl, h1, h2⟩ := hx z z.fr.2
  refine ⟨a, ws, rfl, .inl (st_of h1), ?_⟩
  have s2 : Sat (Φ.andA (ds'.map dat) ws) ρ M1 σ H1 := ⟨F, z.ex, ⟨z.fr.1, DA.of_dat.mpr h2⟩, z.sl, z.nd, z.ce⟩
  exact hr _ σ H1 _ s2 fun vs H2 s3 => q _ _ (s3.weak (.of rfl fun F p => ⟨p.1.1, DA.append p.1.2 p.2⟩))
/-! ### xs[i] = v -/
theorem c_setL {xs : List VD} {k : Int} {j : Nat} (hv : Ev te ρ M x M1) (ho : Ev ta ρ M1 (val (.ref p)) M2) (hi : Ev tb ρ M2 (dat (.int k)) M3) (hj : ixN xs.length k = some j) (hp : Put p (cL xs) (cL (xs.set j x)) M3 M4) (kk : Cont D.nx Φ ρ M4) :
    Cont (tAsg te (gSub ta tb rSetL) D) Φ ρ M := fun σ H s => hv Φ σ H _ s fun v H1 s1 => ho _ σ H1 _ s1 fun w H2 s2 => hi _ σ H2 _ s2 fun u H3 s3 => by
  have ⟨F, z⟩ := s3
  have e1 : w = .ref p := z.fr.1.2
  cases z.fr.2
  subst e1
  obtain ⟨o, k1, k0, ws, rfl, k3⟩ := z.at hp.mem
  refine ⟨p, ws, k, j, rfl, rfl, k1, by rw [← Paired.length k3]; exact hj, kk σ _ ⟨F, ?_⟩⟩
  exact (z.put1 (o := .lst (ws.set j v)) hp k0 ⟨k0, _, rfl, DA.set z.fr.1.1.2 j k3⟩).weak (.of rfl fun F h => h.1.1.1)
theorem c_setLd {xs : List PyData} {d : PyData} {k : Int} {j : Nat} (hv : Ev te ρ M (dat d) M1) (ho : Ev ta ρ M1 (val (.ref p)) M2) (hi : Ev tb ρ M2 (dat (.int k)) M3) (hj : ixN xs.length k = some j) (hp : Put p (cLd xs) (cLd (xs.set j d)) M3 M4) (kk : Cont D.nx Φ ρ M4) :
    Cont (tAsg te (gSub ta tb rSetL) D) Φ ρ M := fun σ H s => hv Φ σ H _ s fun v H1 s1 => ho _ σ H1 _ s1 fun w H2 s2 => hi _ σ H2 _ s2 fun u H3 s3 => by
  have ⟨F, z⟩ := s3
  have e1 : w = .ref p := z.fr.1.2
  cases z.fr.2
  subst e1
  obtain ⟨o, k1, k0, ws, rfl, k3⟩ := z.at hp.mem
  refine ⟨p, ws, k, j, rfl, rfl, k1, by rw [k3.length]; exact hj, kk σ _ ⟨F, ?_⟩⟩
  have r : RpL F (ws.set j v) (xs.set j d) := by
    have := DA.set (d := dat d) z.fr.1.1.2 j (DA.of_dat.mpr k3)
    rw [← List.map_set] at this
    exact DA.of_dat.mp this
  exact (z.put1 (o := .lst (ws.set j v)) hp k0 ⟨k0, _, rfl, r⟩).weak (.of rfl fun F h => h.1.1.1)
theorem ed_starT {ds' es' : List PyData} (h : Ev te ρ M x M1) (hx : IsTup x M1 ds') (hr : EvD t ρ M1 es' M2) : EvD (tStar K te t) ρ M (ds' ++ es') M2 := by
  have := ea_starT (K := K) h hx hr
  rw [← List.map_append] at this
  exact this
/-! ### a dict with texts as keys -/
theorem valG_here {β : Type} {k : L2.Key} {y : β} {l : List (L2.Key × β)} : valG ((k, y) :: l) k = some y := by rw [valG_cons, if_pos rfl]
theorem ev_dgetS {td : TE} {kvs : List (L2.Key × VD)} {k : Str} (hd : Ev td ρ M x M1) (hk : Ev ty ρ M1 (dat (.str k)) M2) (h2 : IsDi x M2 kvs) (hv : valG kvs (.inr k) = some y) : Ev (tDGet td ty) ρ M y M2 := ev_dget (k := .inr k) hd hk h2 hv
theorem c_dputS {td : TE} {kvs kvs' : List (L2.Key × VD)} {k : Str} (hv : Ev tv ρ M x M1) (hd : Ev td ρ M1 (val (.ref p)) M2) (hk : Ev ty ρ M2 (dat (.str k)) M3) (hp : Put p (cD kvs) (cD kvs') M3 M4) (he : putG kvs (.inr k) x = kvs') (hl : kvs.length < sizeLine) (c : Cont D.nx Φ ρ M4) :
    Cont (sDPut td ty tv D) Φ ρ M := c_dput (k := .inr k) hv hd hk (he ▸ hp) hl c
/-! ### dict displays -/
theorem SatF.inN {F : Hp} {σ : L2.St} {H : Hp} {c : Addr × CD} (s : SatF F Φ ρ (c :: M) σ H) : SatF F (Φ.more c) ρ M σ H := by
  have hp : (M ++ (Φ.more c).N).Perm (c :: (M ++ Φ.N)) := List.perm_middle
  exact ⟨s.ex, s.fr, s.sl, (hp.map (·.1)).nodup_iff.mpr s.nd, fun d hd => s.ce d (hp.mem_iff.mp hd)⟩
theorem SatF.outN {F : Hp} {σ : L2.St} {H : Hp} {c : Addr × CD} (s : SatF F (Φ.more c) ρ M σ H) : SatF F Φ ρ (c :: M) σ H := by
  have hp : (M ++ (Φ.more c).N).Perm (c :: (M ++ Φ.N)) := List.perm_middle
  exact ⟨s.ex, s.fr, s.sl, (hp.map (·.1)).nodup_iff.mp s.nd, fun d hd => s.ce d (hp.mem_iff.mpr hd)⟩
def Fr.andP (Φ : Fr) (kvs : List (L2.Key × VD)) (ps : List (V × V)) : Fr := ⟨Φ.N, fun F => Φ.P F ∧ ∃ vs : List (L2.Key × V), ps = vs.map (fun kv => (kV kv.1, kv.2)) ∧ DP F kvs vs, fun e ⟨h, vs, h1, h2⟩ => ⟨Φ.mono e h, vs, h1, h2.mono e⟩⟩
def EvPs (trs : List (TE × TE)) (ρ : Env) (M : Cells) (kvs : List (L2.Key × VD)) (M' : Cells) : Prop := ∀ (Φ : Fr) (σ : L2.St) (H : Hp) (Q : List (V × V) → Hp → Prop), Sat Φ ρ M σ H → (∀ ps H', Sat (Φ.andP kvs ps) ρ M' σ H' → Q ps H') → tPairs trs σ H Q
theorem ep_nil : EvPs [] ρ M [] M := fun Φ σ H Q ⟨F, s⟩ q => q [] H ⟨F, s.ex, ⟨s.fr, [], rfl, .nil⟩, s.sl, s.nd, s.ce⟩
theorem ep_cons {trs : List (TE × TE)} {k : L2.Key} {kvs : List (L2.Key × VD)} (hk : Ev ta ρ M (dat (kD k)) M1) (hv : Ev tb ρ M1 x M2) (hr : EvPs trs ρ M2 kvs M3) : EvPs ((ta, tb) :: trs) ρ M ((k, x) :: kvs) M3 := fun Φ σ H Q s q =>
  hk Φ σ H _ s fun v H1 s1 => hv _ σ H1 _ s1 fun w H2 s2 => hr _ σ H2 _ s2 fun ps H3 s3 => q _ H3 (by
    have e : v = kV k := let ⟨F, z⟩ := s3; kv_of z.fr.1.1.2
    subst e
    exact s3.weak (.of rfl fun F h => ⟨h.1.1.1, let ⟨vs, h1, h2⟩ := h.2; ⟨(k, w) :: vs, by rw [h1]; rfl, .cons ⟨rfl, h.1.2⟩ h2⟩⟩))
theorem er_disp {trs : List (TE × TE)} {kvs : List (L2.Key × VD)} (h : EvPs trs ρ M kvs M1) (hl : kvs.length ≤ 15) : EvR (tDisp trs) ρ M fun y M' => ∃ p, y = val (.ref p) ∧ M' = (p, cD (mergeG [] kvs)) :: M1 := fun Φ σ H Q ⟨F, s⟩ q => fun p hp =>
  h (Φ.more (p, cD [])) σ _ _ ⟨F, (s.newC (c := cD []) (o := .dK []) hp fun e => ⟨e, [], rfl, .nil⟩).inN⟩ fun ps H2 ⟨F2, z⟩ => by
    obtain ⟨vs, e1, e2⟩ := z.fr.2
    have z1 : SatF F2 (Φ.more (p, cD [])) ρ M1 σ H2 := ⟨z.ex, z.fr.1, z.sl, z.nd, z.ce⟩
    have z2 := z1.outN
    obtain ⟨o, k1, k0, ws, rfl, k3⟩ := z2.at List.mem_cons_self
    cases k3
    refine ⟨k1, vs, e1, by rw [← e2.len]; exact hl, ?_⟩
    have z3 := z2.put1 (o := .dK (mergeK [] vs)) (c' := cD (mergeG [] kvs)) .here k0 ⟨k0, _, rfl, DP.merge e2 .nil⟩
    exact q _ _ _ _ ⟨p, rfl, rfl⟩ ⟨F2, z3.ex, ⟨z3.fr, rfl⟩, z3.sl, z3.nd, z3.ce⟩
/-! ### str(n) -/
abbrev rStrInt : List V → Hp → VK → Prop := fun xs H Q => ∃ i, xs = [.int i] ∧ i.natAbs.log2 < 1920 ∧ Q (.str (toString i)) H
theorem call_str_int' {X : Cx} : CallR X (.type "str") rStrInt := call_str_int
theorem rc_strI {i : Int} (h : i.natAbs.log2 < 1920) : RC rStrInt [dat (.int i)] M (dat (.str (toString i))) M := fun Φ ρ σ vs H Q ⟨F, s⟩ q => by
  obtain ⟨v, rfl, h1⟩ := rc1 (ds := []) s.fr.2
  cases h1
  exact ⟨i, rfl, h, q _ _ (Sat.ret (s.weak Le.andA) (.str _))⟩
end
end Sx

set_option Elab.async false
set_option linter.all false
set_option maxRecDepth 100000
set_option maxHeartbeats 2000000
/-! Sx10: tuples known to their object; dict(x) of pairs; dicts compared. -/
namespace L2
open PySem PySem.Spec PyProof.Rows
section
variable {X : Cx}
/-- a tuple display, known to its object -/
def tTupZ (t : TA) : TE := fun σ H Q => t σ H fun xs H1 => xs.length ≤ sizeLine ∧ ∀ p o, H1 p = none → o.dict = none → Q (.ref p) (upd H1 p (.frz o (.tup xs)))
theorem pe_tupZ {es : List Expr} {t : TA} {x1} {pos : Pos} (h : PA X es t) : PE X (.Tuple es x1 pos) (tTupZ t) := by
  refine ⟨fun pins s σ H Q I hq => ?_⟩
  refine wpAny_Tuple_spliced (thn (h.run pos pins s σ H _ I hq) fun us s1 ⟨xs, H1, I1, r, z, q⟩ => ⟨by rw [← r.length]; exact z, ?_⟩)
  have fresh : H1 s1.heap.objs.size = none := I1.hok.fresh (Nat.le_refl _)
  refine ⟨.ref s1.heap.objs.size, upd H1 s1.heap.objs.size (.frz { cls := .type "tuple", data := .seq us.toArray } (.tup xs)), I1.laid (t' := s1.toks) (fun b u e => Heap.get?_push_of_some _ e) (Nat.le_refl _) ?_, rfl, q _ _ fresh rfl⟩
  exact ⟨Heap.get?_push_size _ rfl, z, us, r, ⟨_, Heap.get?_push_size _ rfl, rfl, _, rfl⟩⟩
/-- tuple(xs) of a list, known to its object -/
def rTupZ (K : PySem.W.Frag) : List V → Hp → VK → Prop := fun xs H Q => ∃ p ys, xs = [.ref p] ∧ SqL K H p ys ∧ ∀ l o, H l = none → o.dict = none → Q (.ref l) (upd H l (.frz o (.tup ys)))
theorem call_tupZ : CallR X (.type "tuple") (rTupZ X.K) := by
  intro pins s σ H xs us Q I r h
  obtain ⟨p, ys, rfl, hq, q⟩ := h
  obtain ⟨u, rfl, rx⟩ := vals1 r
  cases rx
  obtain ⟨its, r', pl, hz⟩ := I.list hq
  have many := r'.length
  refine call_tuple_list pl.isList (fun h' kp => ?_) (by simp only [List.size_toArray] <;> omega)
  have J1 : Inv X pins σ H { s with heap := h' } := I.kept (t' := s.toks) kp
  have J2 : Inv X pins σ (upd H h'.objs.size (.frz { cls := .type "tuple", data := .seq its.toArray } (.tup ys))) { s with heap := h'.push { cls := .type "tuple", data := .seq its.toArray } } :=
    J1.laid (t' := s.toks) (fun b o e => Heap.get?_push_of_some _ e) (Nat.le_refl _) ⟨Heap.get?_push_size _ rfl, hz, its, r', IsTup.new _ _⟩
  exact ⟨.ref h'.objs.size, _, J2, rfl, q _ _ (J1.hok.fresh (Nat.le_refl _)) rfl⟩
/-- pairs in tuples that are laid -/
theorem pairs_laid {pins : List (Addr × Obj)} {σ : St} {H : Hp} {s : Shared} (I : Inv X pins σ H s) : ∀ {ps : List Addr} {kvs : List (Key × V)}, Paired (fun p kv => SqT X.K H p [kV kv.1, kv.2]) ps kvs →
    ∃ (prs : List (Key × Value)) (pv : List (Value × Value)), KV kvs prs ∧ prs.length = ps.length ∧ pv.length = ps.length ∧ ∀ (j : Nat) (b : Addr), ps[j]? = some b → ∃ k u y, prs[j]? = some (k, y) ∧ pv[j]? = some (u, y) ∧ IsTup s.heap b #[u, y] ∧ (mixKind X.prog X.w).is k u = true
  | _, _, .nil => ⟨[], [], .nil, rfl, rfl, fun j b e => by simp at e⟩
  | _, _, .cons (a := p) (b := kv) h t => by
    obtain ⟨prs, pv, r, l1, l2, hp⟩ := pairs_laid I t
    obtain ⟨its, rv, ht, _⟩ := I.tuple h
    obtain ⟨u, y, ei, ru, ry⟩ := vals2 rv
    subst ei
    refine ⟨(kv.1, y) :: prs, (u, y) :: pv, .cons ⟨rfl, ry⟩ r, by rw [List.length_cons, List.length_cons, l1], by rw [List.length_cons, List.length_cons, l2], fun j b e => ?_⟩
    cases j with
    | zero =>
      have e' : p = b := Option.some.inj e
      subst e'
      exact ⟨kv.1, u, y, rfl, rfl, ht, kV_is ru⟩
    | succ j =>
      obtain ⟨k, u', y', e1, e2, e3⟩ := hp j b (by simpa using e)
      exact ⟨k, u', y', by simpa using e1, by simpa using e2, e3⟩
/-- dict(xs): xs a list of pairs, or a tuple of pairs that is known to its object -/
def rDictP (K : PySem.W.Frag) : List V → Hp → VK → Prop := fun xs H Q => ∃ (a : Addr) (ps : List Addr) (kvs : List (Key × V)), xs = [.ref a] ∧ (SqL K H a (ps.map V.ref) ∨ ∃ o, H a = some (.frz o (.tup (ps.map V.ref))) ∧ o.dict = none) ∧
  Paired (fun p kv => SqT K H p [kV kv.1, kv.2]) ps kvs ∧ ∀ p, H p = none → Q (.ref p) (upd H p (.dK (mergeK [] kvs)))
theorem call_dictP' (hcalm : X.calm = true) : CallR X (.type "dict") (rDictP X.K) := by
  intro pins s σ H xs us Q I r h
  obtain ⟨a, ps, kvs, ex, hq, hp, q⟩ := h
  rcases hq with hq | ⟨o, hq, hod⟩
  · exact call_dictP hcalm pins s σ H xs us Q I r ⟨a, ps, kvs, ex, hq, hp, q⟩
  subst ex
  obtain ⟨u, eu, rx⟩ := vals1 r
  subst eu
  cases rx
  obtain ⟨ho, hz, its, rv, o', ho', hc, n, hdat⟩ := (show ObjOk X.prog X.w H s.heap a (.frz o (.tup (ps.map V.ref))) from I.hok a _ hq)
  rw [ho] at ho'
  cases ho'
  have ei := refs_at rv
  subst ei
  rw [List.length_map] at hz
  obtain ⟨prs, pv, rel, l1, l2, hpr⟩ := pairs_laid I hp
  have P := PySem.PairArg.tuple (prog := X.prog) (w := X.w) a (ps.map Value.ref).toArray (fun j => ps.getD j 0) pv
  refine PySem.call_dict_pairs (knd := mixKind X.prog X.w) (kvs := prs) P (I.ok.hd hcalm) ⟨⟨o, n, ho, hc, hod, hdat⟩, by simp [l2], fun j k v e => ?_⟩ ⟨by rw [l1, l2], fun i key v e => ?_⟩ (by rw [l2]; exact hz) fun h' tk hd' k => ?_
  · have hj : j < ps.length := by rw [← l2]; exact (List.getElem?_eq_some_iff.mp e).1
    obtain ⟨k', u, y, e1, e2, e3, _⟩ := hpr j ps[j] (List.getElem?_eq_getElem hj)
    rw [e2] at e
    obtain ⟨rfl, rfl⟩ := Prod.mk.inj (Option.some.inj e)
    refine ⟨by simp [hj, List.getD], .inl ?_⟩
    show s.heap.IsTuple (ps.getD j 0) _
    rw [show ps.getD j 0 = ps[j] by simp [List.getD, hj]]
    exact e3
  · have hj : i < ps.length := by rw [← l2]; exact (List.getElem?_eq_some_iff.mp e).1
    obtain ⟨k', u, y, e1, e2, _, e4⟩ := hpr i ps[i] (List.getElem?_eq_getElem hj)
    have e : pv[i]? = some (key, v) := e
    rw [e2] at e
    obtain ⟨rfl, rfl⟩ := Prod.mk.inj (Option.some.inj e)
    exact ⟨k', e1, e4⟩
  · have hm : (s.heap.objs.size == sysModules) = false := beq_eq_false_iff_ne.mpr (Nat.ne_of_gt I.big)
    have few : (mergeK [] kvs).length ≤ sizeLine := by
      refine Nat.le_trans (length_mergeK kvs []) ?_
      rw [List.length_nil, Nat.zero_add, rel.length, l1]
      exact hz
    exact ⟨.ref s.heap.objs.size, upd H s.heap.objs.size (.dK (mergeK [] kvs)), I.laid (t' := tk) (fun b o e => k b o (fun z => nomatch z) e) (Nat.le_refl _) (show ObjOk X.prog X.w _ _ _ (.dK (mergeK [] kvs)) from ⟨few, hm, merged [] prs, KV.merge rel .nil, hd'⟩), rfl, q _ (I.hok.fresh (Nat.le_refl _))⟩
/-- a != b of two dicts that say the same -/
def rNeDi : R2 := fun x y H Q => ∃ a b ks, x = .ref a ∧ y = .ref b ∧ H a = some (.dK ks) ∧ H b = some (.dK ks) ∧ (∀ p ∈ ks, flatB p.2 = true) ∧ Q (.bl false) H
theorem hits_alike {A : Around} {s : Shared} {vb : List (Key × Value)} : ∀ {ks : List (Key × V)} {va vb' : List (Key × Value)}, KV ks va → KV ks vb' → (∀ q ∈ vb', valueAt vb q.1 = some q.2) → (∀ p ∈ ks, flatB p.2 = true) → PySem.W.KeqHits A s vb va true
  | _, _, _, .nil, .nil, _, _ => .nil
  | _, _, _, .cons (b := q1) h1 t1, .cons (b := q2) h2 t2, hv, hf => by
    obtain ⟨k, v⟩ := q1
    obtain ⟨k2, v2⟩ := q2
    have e : k = k2 := h1.1.symm.trans h2.1
    subst e
    exact PySem.W.KeqHits.hit (e := true) (b := true) (hv _ List.mem_cons_self) (eqAt_same h1.2 h2.2 (hf _ List.mem_cons_self)) (hits_alike t1 t2 (fun q m => hv q (List.mem_cons_of_mem _ m)) fun p m => hf p (List.mem_cons_of_mem _ m))
theorem val_once : ∀ {vb : List (Key × Value)}, (vb.map (·.1)).Nodup → ∀ q ∈ vb, valueAt vb q.1 = some q.2
  | [], _, _, h => nomatch h
  | p :: r, hn, q, h => by
    rw [List.map_cons, List.nodup_cons] at hn
    unfold valueAt
    rw [List.find?_cons]
    rcases List.mem_cons.mp h with rfl | h
    · simp
    · have hne : ¬ p.1 = q.1 := fun e => hn.1 (e ▸ List.mem_map_of_mem h)
      simp only [hne, decide_false]
      exact val_once hn.2 q h
theorem op_neDi (hu : X.A.units + 64 < cLine) : OpR X (compareOp .NotEq) rNeDi := by
  intro pins s σ H x y v u Q I rx ry h
  obtain ⟨a, b, ks, rfl, rfl, ha, hb, hf, q⟩ := h
  cases (show v = Value.ref a from rx)
  cases (show u = Value.ref b from ry)
  obtain ⟨_, ya, va, ra, da⟩ := dk_of I.hok ha
  obtain ⟨_, yb, vb, rb, db⟩ := dk_of I.hok hb
  have hn : (vb.map (·.1)).Nodup := let ⟨_, _, _, _, _, _, _, _, z⟩ := db; z
  refine PySem.W.keq_ne (knd := mixKind X.prog X.w) (r := true) ya yb da db (by omega) (fun _ => hits_alike ra rb (val_once hn) hf) ?_
  have e : va.length = vb.length := by rw [← ra.length, ← rb.length]
  rw [show (!(va.length == vb.length && true)) = false by simp [e]]
  exact ⟨.bl false, H, I, rfl, q⟩
end
end L2
namespace Sx
open PySem L2 Evl
/-- a tuple of data, known to its object: it has no dict of its own -/
def vzt (ds : List PyData) : VD := ⟨fun F v => ∃ a o vs, v = .ref a ∧ F a = some (.frz o (.tup vs)) ∧ o.dict = none ∧ RpL F vs ds, fun e ⟨a, o, vs, h1, h2, h3, h4⟩ => ⟨a, o, vs, h1, e.pl _ _ h2 rfl, h3, h4.mono e⟩⟩
def encPr (p : L2.Key × PyData) : PyData := .tuple [kD p.1, p.2]
abbrev dKs (l : List (L2.Key × PyData)) : List (L2.Key × VD) := l.map fun p => (p.1, dat p.2)
def rNeW (K : PySem.W.Frag) : R2 := fun x y H Q => rNeU K x y H Q ∨ rNeDi x y H Q
theorem op_neW {X : Cx} (hu : X.A.units + 64 < cLine) : OpR X (compareOp .NotEq) (rNeW X.K) := (op_neU hu).or (op_neDi hu)
theorem pairs_rp {K : PySem.W.Frag} {F H : Hp} (ex : ∀ a u, F a = some u → H a = some u) : ∀ {l : List (L2.Key × PyData)} {vs : List V}, RpL F vs (l.map encPr) → ∃ (ps : List Addr) (kvs : List (L2.Key × V)), vs = ps.map V.ref ∧ Paired (fun p kv => SqT K H p [kV kv.1, kv.2]) ps kvs ∧ DP F (dKs l) kvs
  | [], _, .nil => ⟨[], [], rfl, .nil, .nil⟩
  | (k, d) :: l, _, .cons h t => by
    obtain ⟨ps, kvs, rfl, hp, hd⟩ := pairs_rp ex t
    cases h with
    | @tup a xs _ h1 h2 =>
      cases h2 with
      | cons g1 g2 =>
        cases g2 with
        | cons g3 g4 =>
          cases g4
          cases kv_of g1
          exact ⟨a :: ps, (k, _) :: kvs, rfl, .cons (.inl (.inl (ex _ _ h1))) hp, .cons ⟨rfl, g3⟩ hd⟩
section
variable {K : PySem.W.Frag} {ρ ρ' : Env} {M M1 M2 M' : Cells} {x y : VD} {te ta tb : TE} {t : TA} {Φ : Fr} {l : List (L2.Key × PyData)}
theorem rc_dicL : RC (rDictP K) [dat (.list (l.map encPr))] M (vdi (mergeG [] (dKs l))) M := fun Φ ρ σ vs H Q ⟨F, s⟩ q => by
  obtain ⟨v, rfl, h1⟩ := rc1 (ds := []) s.fr.2
  cases h1 with
  | @lst a xs _ g1 g2 =>
    obtain ⟨ps, kvs, rfl, hp, hd⟩ := pairs_rp (K := K) s.ex g2
    exact ⟨a, ps, kvs, rfl, .inl (sq_of (s.ex _ _ g1)), hp, fun p hp' => q _ _ (Sat.retNew s.base1 hp' fun F' fx e => ⟨p, _, rfl, e, (hd.merge .nil).mono fx⟩)⟩
theorem rc_dicZ : RC (rDictP K) [vzt (l.map encPr)] M (vdi (mergeG [] (dKs l))) M := fun Φ ρ σ vs H Q ⟨F, s⟩ q => by
  obtain ⟨v, rfl, a, o, xs, rfl, g1, g3, g2⟩ := rc1 (ds := []) s.fr.2
  obtain ⟨ps, kvs, rfl, hp, hd⟩ := pairs_rp (K := K) s.ex g2
  exact ⟨a, ps, kvs, rfl, .inr ⟨o, s.ex _ _ g1, g3⟩, hp, fun p hp' => q _ _ (Sat.retNew s.base1 hp' fun F' fx e => ⟨p, _, rfl, e, (hd.merge .nil).mono fx⟩)⟩
theorem rc_lstZ {ds : List PyData} : RC (rLstOf K) [vzt ds] M (dat (.list ds)) M := fun Φ ρ σ vs H Q ⟨F, s⟩ q => by
  obtain ⟨v, rfl, a, o, xs, rfl, g1, g3, g2⟩ := rc1 (ds := []) s.fr.2
  exact ⟨a, xs, rfl, .inr (.inl (.inr ⟨o, s.ex _ _ g1⟩)), fun l hl => q _ _ (Sat.retNew s.base1 hl fun F' fx e => .lst e (g2.mono fx))⟩
theorem rc_tupZ {ds : List PyData} (hx : IsLst x M ds) : RC (rTupZ K) [x] M (vzt ds) M := fun Φ ρ σ vs H Q ⟨F, s⟩ q => by
  obtain ⟨v, rfl, h1⟩ := rc1 (ds := []) s.fr.2
  obtain ⟨a, ws, rfl, h2, h3⟩ := hx s h1
  exact ⟨a, ws, rfl, sq_of h2, fun l o hl ho => q _ _ (Sat.retNew s.base1 hl fun F' fx e => ⟨l, o, ws, rfl, e, ho, h3.mono fx⟩)⟩
theorem ev_tupZ {ds : List PyData} (h : EvD t ρ M ds M1) (hl : ds.length ≤ sizeLine) : Ev (tTupZ t) ρ M (vzt ds) M1 := fun Φ σ H Q s q => h Φ σ H _ s fun vs H1 ⟨F, s1⟩ => by
  have hr := DA.of_dat.mp s1.fr.2
  refine ⟨by rw [hr.length]; exact hl, fun p o hp ho => ?_⟩
  obtain ⟨s2, fx⟩ := s1.new (o := .frz o (.tup vs)) hp
  exact q _ _ ⟨_, s2.ex, ⟨s2.fr.1, p, o, vs, rfl, upd_same, ho, hr.mono fx⟩, s2.sl, s2.nd, s2.ce⟩
theorem rv_neDi {ks : List (L2.Key × Int)} : RV (rNeW K) (vdi (dKs (ks.map fun p => (p.1, .int p.2)))) (vdi (dKs (ks.map fun p => (p.1, .int p.2)))) M (dat (.bool false)) M := fun Φ ρ σ v w H Q ⟨F, s⟩ q => by
  obtain ⟨a, va, rfl, e1, d1⟩ := s.fr.1.2
  obtain ⟨b, vb, rfl, e2, d2⟩ := s.fr.2
  have hz : ∀ {ks : List (L2.Key × Int)} {va : List (L2.Key × V)}, DP F (dKs (ks.map fun p => (p.1, .int p.2))) va → va = ks.map fun p => (p.1, V.int p.2) := by
    intro ks
    induction ks with
    | nil => intro va h; cases h; rfl
    | cons p r ih =>
      intro va h
      cases h with
      | cons h t =>
        rename_i b l
        obtain ⟨k, v⟩ := b
        obtain ⟨g1, g2⟩ := h
        cases g1
        cases g2
        rw [ih t]
        rfl
  have q1 := hz d1
  have q2 := hz d2
  subst q1
  subst q2
  refine .inr ⟨a, b, _, rfl, rfl, s.ex _ _ e1, s.ex _ _ e2, fun p hp => ?_, q _ _ (Sat.ret s.base (.bl _))⟩
  obtain ⟨r, _, rfl⟩ := List.mem_map.mp hp
  rfl
theorem rc_tupZv {ds : List PyData} : RC (rTupZ K) [vlst (ds.map dat)] M (vzt ds) M := fun Φ ρ σ vs H Q s q => rc_tupZ (isl_dat (ds := ds)) Φ ρ σ vs H Q (s.weak (.of rfl fun F h => by
  obtain ⟨v, rfl, h1⟩ := rc1 (ds := []) h.2
  exact ⟨h.1, .cons (vlst_dat.mp h1) .nil⟩)) q
/-- an expression with one outcome, told with others -/
theorem Ev.er {P : VD → Cells → Prop} (h : Ev te ρ M x M') (hp : P x M') : EvR te ρ M P := fun Φ σ H Q s q => h Φ σ H Q s fun v H' s' => q x M' v H' hp s'
theorem er_cb {r : List V → Hp → VK → Prop} {P : VD → Cells → Prop} (h : EvAR t ρ M fun ds M1 => ∃ z M2, RC r ds M1 z M2 ∧ P z M2) : EvR (tCB r t) ρ M P := fun Φ σ H Q s q => h Φ σ H _ s fun ds M1 vs H1 ⟨z, M2, hr, hp⟩ s1 => hr Φ ρ σ vs H1 Q s1 fun w H2 s2 => q z M2 w H2 hp s2
theorem er_op {r : R2} {P Pa : VD → Cells → Prop} (ha : EvR ta ρ M Pa) (hb : ∀ x M1, Pa x M1 → EvR tb ρ M1 fun y M2 => ∃ z M3, RV r x y M2 z M3 ∧ P z M3) : EvR (tOp r ta tb) ρ M P := fun Φ σ H Q s q =>
  ha Φ σ H _ s fun x M1 v H1 hx s1 => hb x M1 hx _ σ H1 _ s1 fun y M2 w H2 ⟨z, M3, hr, hp⟩ s2 => hr Φ ρ σ v w H2 Q s2 fun u H3 s3 => q z M3 u H3 hp s3
/-- i, j = .., several outcomes -/
theorem c_parR {D : Ends} {P : List VD → Cells → Prop} {i j : Nat} (h : EvAR t ρ M P) (k : ∀ ds M1, P ds M1 → ∃ x y ρ1 ρ2, ds = [x, y] ∧ SetAt x ρ i ρ1 ∧ SetAt y ρ1 j ρ2 ∧ Cont D.nx Φ ρ2 M1) : Cont (tPar i j t D) Φ ρ M := fun σ H s => h Φ σ H _ s fun ds M1 vs H1 hp s1 => by
  obtain ⟨x, y, ρ1, ρ2, rfl, h1, h2, kk⟩ := k ds M1 hp
  have ⟨F, s0⟩ := s1
  obtain ⟨v, w, rfl, q1, q2⟩ := rc2 s0.fr.2
  refine ⟨v, w, rfl, kk _ _ ?_⟩
  have s2 : Sat ((Φ.and y w).and x v) ρ M1 σ H1 := s1.weak (.of rfl fun F h => by
    obtain ⟨v', w', e, q1, q2⟩ := rc2 h.2
    cases e
    exact ⟨⟨h.1, q2⟩, q1⟩)
  exact (s2.asg h1).asg h2
theorem c_par3R {D : Ends} {P : List VD → Cells → Prop} {i j l : Nat} (h : EvAR t ρ M P) (k : ∀ ds M1, P ds M1 → ∃ x y z ρ1 ρ2 ρ3, ds = [x, y, z] ∧ SetAt x ρ i ρ1 ∧ SetAt y ρ1 j ρ2 ∧ SetAt z ρ2 l ρ3 ∧ Cont D.nx Φ ρ3 M1) : Cont (tPar3 i j l t D) Φ ρ M := fun σ H s => h Φ σ H _ s fun ds M1 vs H1 hp s1 => by
  obtain ⟨x, y, z, ρ1, ρ2, ρ3, rfl, h1, h2, h3, kk⟩ := k ds M1 hp
  have ⟨F, s0⟩ := s1
  obtain ⟨v, w, u', rfl⟩ : ∃ a b c, vs = [a, b, c] := by
    have e := Paired.length s0.fr.2
    match vs, e with
    | [a, b, c], _ => exact ⟨a, b, c, rfl⟩
  refine ⟨v, w, u', rfl, kk _ _ ?_⟩
  have s2 : Sat (((Φ.and z u').and y w).and x v) ρ M1 σ H1 := s1.weak (.of rfl fun F h => by
    cases h.2 with
    | cons q1 q2 =>
      cases q2 with
      | cons q3 q4 =>
        cases q4 with
        | cons q5 q6 => exact ⟨⟨⟨h.1, q5⟩, q3⟩, q1⟩)
  exact ((s2.asg h1).asg h2).asg h3
end
end Sx

set_option Elab.async false
set_option linter.all false
set_option maxRecDepth 100000
set_option maxHeartbeats 2000000
/-! Sx11: cells told anew, frozen in a slot; comprehensions that give a list of one's own; max of a tuple. -/
namespace Sx
open PySem L2 Evl
section
variable {K : PySem.W.Frag} {ρ ρ' : Env} {M M1 M2 M' : Cells} {x y : VD} {te ta tb : TE} {t : TA} {Φ : Fr} {p : Addr}
theorem Sat.cell {c c' : CD} {σ : L2.St} {H : Hp} (h : ∀ F p o, c.P F p o → c'.P F p o) (s : Sat Φ ρ ((p, c) :: M) σ H) : Sat Φ ρ ((p, c') :: M) σ H := let ⟨F, s⟩ := s
  ⟨F, s.ex, s.fr, s.sl, s.nd, fun d hd => by
    rcases List.mem_cons.mp hd with rfl | hd
    · obtain ⟨o, h1, h2⟩ := s.ce (p, c) List.mem_cons_self
      exact ⟨o, h1, h _ _ _ h2⟩
    · exact s.ce d (List.mem_cons_of_mem _ hd)⟩
/-- a cell told in another way -/
theorem c_cell {k : L2.St → Hp → Prop} {c c' : CD} (h : ∀ F p o, c.P F p o → c'.P F p o) (kk : Cont k Φ ρ ((p, c') :: M)) : Cont k Φ ρ ((p, c) :: M) := fun σ H s => kk σ H (s.cell h)
theorem cLd_cL {ds : List PyData} : ∀ F p o, (cLd ds).P F p o → (cL (ds.map dat)).P F p o := fun F p o ⟨h0, vs, h1, h2⟩ => ⟨h0, vs, h1, DA.of_dat.mpr h2⟩
theorem cL_cLd {ds : List PyData} : ∀ F p o, (cL (ds.map dat)).P F p o → (cLd ds).P F p o := fun F p o ⟨h0, vs, h1, h2⟩ => ⟨h0, vs, h1, DA.of_dat.mp h2⟩
/-- a list of one's own that stands in a slot, and is not changed any more -/
theorem c_frz {k : L2.St → Hp → Prop} {i : Nat} {ds : List PyData} (hi : At (val (.ref p)) ρ i) (hs : SetAt (dat (.list ds)) ρ i ρ') (kk : Cont k Φ ρ' M) : Cont k Φ ρ ((p, cLd ds) :: M) := fun σ H s => by
  have ⟨F0, s0⟩ := s.cell (c' := cL (ds.map dat)) cLd_cL
  obtain ⟨F, z⟩ := SatF.freeze s0.inN
  have e : σ[i]? = some (some (.ref p)) := by
    obtain ⟨v, h1, h2⟩ := s0.sl.2 i _ hi.get
    rw [h1, show v = .ref p from h2]
  refine kk σ H ⟨F, z.ex, z.fr.1, ?_, z.nd, z.ce⟩
  have q := z.sl.set (i := i) (x := dat (.list ds)) (v := .ref p) (vlst_dat.mp z.fr.2)
  rw [← hs.eq] at q
  have hσ : σ.set i (some (.ref p)) = σ := by
    apply List.ext_getElem?
    intro j
    rw [List.getElem?_set]
    by_cases h : i = j
    · subst h
      rw [if_pos rfl, if_pos (List.getElem?_eq_some_iff.mp e).1, e]
    · rw [if_neg h]
  rw [hσ] at q
  exact q
/-- a comprehension that gives a list of one's own -/
theorem er_lcC {wi : TI} {g : TG} {tt : TT} {vs : List Nat} {its : List VD} (h : EvI wi ρ M its M1) (I : Nat → List VD → Cells → Prop) (h0 : I 0 [] M1) (hl : its.length ≤ 16000000)
    (hI : ∀ i acc M', I i acc M' → acc.length ≤ i)
    (hs : ∀ (i : Nat) d acc M', its[i]? = some d → I i acc M' → ∃ ρ'' js b M2, Tgt g js d (wipeE ρ vs) ρ'' ∧ (∀ i ∈ js, i ∈ vs) ∧ EvT tt ρ'' M' b M2 ∧ (b = true → EvR te ρ'' M2 fun y M3 => I (i + 1) (acc ++ [y]) M3) ∧ (b = false → I (i + 1) acc M2)) :
    EvR (tLc wi g tt te vs) ρ M fun y M' => ∃ acc D M'', y = val (.ref D) ∧ I its.length acc M'' ∧ M' = (D, cL acc) :: M'' := fun Φ σ H Q s q => h Φ σ H _ s fun J H1 Ψ l s1 ⟨G, Y, w, hG, hY⟩ => fun Dl hD => by
  have ⟨F1, s2⟩ := s1
  have lm : ∀ c, Le (Ψ.more c) Ψ := fun c => Le.more
  let Ψ0 : Fr := Ψ.slots σ ρ
  refine lc_it w (fun i H' => ∃ acc M', I i acc M' ∧ Sat (Ψ0.more (Dl, cL acc)) (wipeE ρ vs) M' (L2.wipe σ vs) H') ⟨[], M1, h0, ?_⟩ (fun i H' _ ⟨acc, M', _, s'⟩ => hG _ _ _ _ _ (Le.trans Le.more Le.slots) s') (fun i x H' H2 hi ⟨acc, M', j, s'⟩ y => ?_) (fun H' ⟨acc, M', j, s'⟩ => ?_)
  · have s3 := s2.newC (c := cL []) (o := .lst []) hD fun e => ⟨e, [], rfl, .nil⟩
    refine ⟨F1, s3.ex, ⟨s3.fr, s3.sl⟩, s3.sl.wipes vs, ?_, fun c hc => ?_⟩
    · have hp : (M1 ++ (Ψ0.more (Dl, cL [])).N).Perm ((Dl, cL []) :: M1 ++ Ψ.N) := List.perm_middle
      exact (hp.map (·.1)).nodup_iff.mpr s3.nd
    · have hp : (M1 ++ (Ψ0.more (Dl, cL [])).N).Perm ((Dl, cL []) :: M1 ++ Ψ.N) := List.perm_middle
      exact s3.ce c (hp.mem_iff.mp hc)
  · have hi' : its[i]? = some its[i] := by simp [hi]
    obtain ⟨ρ'', js, b, M2, hg, hj, ht, h1, h2⟩ := hs i its[i] acc M' hi' j
    have s3 := hY i its[i] x H' H2 _ _ _ _ hi' (Le.trans Le.more Le.slots) s' y
    refine hg _ M' x _ H2 _ s3 fun σ2 k1 k2 s4 => ⟨wipe_eq k1 k2 hj, ht _ σ2 H2 _ s4 fun H3 s5 => ?_⟩
    have back : ∀ {Φ' : Fr} {acc' : List VD} {M' : Cells} {H' : Hp} {σ3 : L2.St} {ρ3 : Env}, Sat (Ψ0.more (Dl, cL acc')) ρ3 M' σ3 H' → Sat (Ψ0.more (Dl, cL acc')) (wipeE ρ vs) M' (L2.wipe σ vs) H' := fun {_ _ _ _ _ _} ⟨F, z⟩ => ⟨F, z.ex, z.fr, z.fr.2.wipes vs, z.nd, z.ce⟩
    cases b with
    | false =>
      rw [if_neg Bool.false_ne_true]
      exact ⟨acc, M2, h2 rfl, back (Φ' := Ψ) s5⟩
    | true =>
      rw [if_pos rfl]
      refine h1 rfl _ σ2 H3 _ s5 fun y M3 v H4 j4 s6 => ?_
      have ⟨F, s7⟩ := s6
      obtain ⟨o, e1, e0, ws, rfl, e3⟩ := s7.ce (Dl, cL acc) (List.mem_append_right _ List.mem_cons_self)
      refine ⟨ws, e1, ?_, acc ++ [y], M3, j4, back (Φ' := Ψ) (σ3 := σ2) (ρ3 := ρ'') ⟨F, ?_⟩⟩
      · rw [← Paired.length e3]
        have := hI i acc M' j
        have hz : sizeLine = 16777216 := sizeLine_eq
        omega
      · exact s7.put (Φ' := Ψ0.more (Dl, cL (acc ++ [y]))) (c := cL acc) (Put.behind .here M3) s7.fr.1 e0 ⟨e0, _, rfl, e3.append (.cons s7.fr.2 .nil)⟩
  · have ⟨F, s3⟩ := s'
    have s4 : SatF F (Ψ0.more (Dl, cL acc)) ρ M' σ H' := ⟨s3.ex, s3.fr, s3.fr.2, s3.nd, s3.ce⟩
    refine q (val (.ref Dl)) _ (.ref Dl) H' ⟨acc, Dl, M', rfl, j, rfl⟩ ⟨F, ?_⟩
    exact s4.outN.weak ⟨by show Φ.N.Sublist Ψ.N; exact l.n, fun F h => ⟨l.p F h.1, rfl⟩⟩
/-- data for each item that is let by, nothing else changes: a list of one's own -/
theorem er_lcCd {α : Type} {wi : TI} {g : TG} {tt : TT} {vs : List Nat} {e : α → VD} {xs : List α} {f : α → Bool} {r : α → PyData} (h : EvI wi ρ M (xs.map e) M1) (hl : xs.length ≤ 16000000)
    (hs : ∀ a, a ∈ xs → ∃ ρ'' js, Tgt g js (e a) (wipeE ρ vs) ρ'' ∧ (∀ i ∈ js, i ∈ vs) ∧ EvT tt ρ'' M1 (f a) M1 ∧ (f a = true → Ev te ρ'' M1 (dat (r a)) M1)) : EvR (tLc wi g tt te vs) ρ M fun y M' => ∃ D, y = val (.ref D) ∧ M' = (D, cLd ((xs.filter f).map r)) :: M1 := by
  have z := er_lcC (te := te) (g := g) (tt := tt) (vs := vs) h (fun i acc M' => M' = M1 ∧ acc = (((xs.take i).filter f).map r).map dat) ⟨rfl, rfl⟩ (by rw [List.length_map]; exact hl) (fun i acc M' ⟨_, e⟩ => by
    subst e
    rw [List.length_map, List.length_map]
    exact Nat.le_trans (List.length_filter_le _ _) (by rw [List.length_take]; omega)) fun i d acc M' hi ⟨e1, e2⟩ => by
    subst e1; subst e2
    rw [List.getElem?_map] at hi
    cases q : xs[i]? with
    | none => rw [q] at hi; cases hi
    | some a =>
      rw [q] at hi
      cases hi
      have htk : xs.take (i + 1) = xs.take i ++ [a] := by rw [List.take_succ, q]; rfl
      obtain ⟨ρ'', js, h1, hj, h2, h3⟩ := hs a (List.mem_of_getElem? q)
      refine ⟨ρ'', js, f a, M', h1, hj, h2, fun hf => (EvR.of (h3 hf)).imp fun y M3 ⟨z1, z2⟩ => ?_, fun hf => ⟨rfl, ?_⟩⟩
      · subst z1; subst z2
        refine ⟨rfl, ?_⟩
        rw [htk, List.filter_append, List.map_append, List.map_append, List.filter_cons_of_pos hf]
        rfl
      · rw [htk, List.filter_append, List.map_append, List.map_append, List.filter_cons_of_neg (by rw [hf]; exact Bool.false_ne_true)]
        simp
  intro Φ σ H Q s q
  refine z Φ σ H Q s fun y M' v H' ⟨acc, D, M'', e0, ⟨e1, e2⟩, e3⟩ s' => ?_
  subst e0; subst e1; subst e3
  rw [List.length_map, List.take_length] at e2
  subst e2
  exact q _ _ v H' ⟨D, rfl, rfl⟩ (s'.cell cL_cLd)
end
end Sx

set_option Elab.async false
set_option linter.all false
set_option maxRecDepth 100000
set_option maxHeartbeats 2000000
/-! Sx12: o.f += int; a list of one's own frozen in a field; exceptions, the cells in another order; sequences of data let by a comprehension. -/
namespace L2
open PySem PySem.Spec PyProof.Rows
/-- max(t), a tuple of ints -/
def rMaxT (K : PySem.W.Frag) : List V → Hp → VK → Prop := fun xs H Q => ∃ (a : Addr) (n : Int) (ns : List Int), xs = [.ref a] ∧ SqT K H a ((n :: ns).map V.int) ∧ Q (.int (ns.foldl max n)) H
theorem maxOf_int (n : Int) (ns : List Int) : PySem.W.maxOf n ns = ns.foldl max n := by
  unfold PySem.W.maxOf
  congr 1
  funext a y
  show (if decide (a < y) = true then y else a) = max a y
  by_cases h : a < y
  · rw [if_pos (decide_eq_true h)]; omega
  · rw [if_neg (by simpa using h)]; omega
theorem cr_maxT {X : Cx} (hc : X.calm = true) (hu : X.A.units + 64 < cLine) : CallR X (.builtin "max") (rMaxT X.K) := by
  intro pins s σ H vs us Q I r h
  obtain ⟨a, n, ns, rfl, hs, q⟩ := h
  obtain ⟨its, rv, hl, _⟩ := I.tuple hs
  rw [Vals.ref1 r]
  obtain ⟨as, hr⟩ := Dp.readsAll I _ _ its (Sx.dpAll_ints (n :: ns)) rv
  refine PySem.W.max_tuple_datum (α := Int) (x := n) (xs := ns) (I.ok.hd hc) hl ⟨as, hr⟩ (by show X.A.units + 1 + 0 < cLine; omega) fun i v h' tk hi hh hk => ?_
  obtain ⟨bs, hb⟩ := hh
  rw [maxOf_int] at hb
  cases hb
  exact ⟨.int _, H, I.kept hk, ⟨_, rfl⟩, q⟩
end L2
namespace Sx
open PySem L2 Evl
section
variable {K : PySem.W.Frag} {ρ ρ' : Env} {M M1 M2 M' : Cells} {x y : VD} {te ta tb tv : TE} {t : TA} {Φ : Fr} {p q C : Addr} {f : Str} {ns nn : List Str} {xs xs' : List VD} {D : Ends}
/-- o.f += j -/
theorem c_fldAug {i j : Int} (ho : Ev ta ρ M (val (.ref p)) M) (hm : (p, cI C ns xs) ∈ M) (hg : FGet f (dat (.int i)) ns xs) (hv : Ev tv ρ M (dat (.int j)) M) (h : Put p (cI C ns xs) (cI C ns xs') M M') (g : FPut f (dat (.int (i + j))) ns xs ns xs') (c : ClsF K C nn) (hf : f ∈ nn) (hl : ns.length < 1000) (k : Cont D.nx Φ ρ M') :
    Cont (sFldAug K ta tv rAdd f D) Φ ρ M := fun σ H s => ho Φ σ H _ s fun w H1 s1 => by
  have ⟨F, z⟩ := s1
  have e : w = .ref p := z.fr.2
  subst e
  obtain ⟨o, h1, h0, dx, fs, rfl, h3⟩ := z.at hm
  obtain ⟨v, h4, h5⟩ := hg.look h3
  cases h5
  refine ⟨p, C, dx, fs, _, rfl, h1, c.cl, c.no f hf, h4, hv _ σ H1 _ s1 fun u H2 s2 => ?_⟩
  have ⟨F2, z2⟩ := s2
  cases z2.fr.2
  obtain ⟨o2, k1, k0, dx2, fs2, rfl, k3⟩ := z2.at h.mem
  refine ⟨i, j, rfl, rfl, dx2, fs2, k1, by rw [k3.len]; exact hl, k σ _ ⟨F2, ?_⟩⟩
  exact (z2.put1 (o := .ins C dx2 (putF f (.int (i + j)) fs2)) h k0 ⟨k0, dx2, _, rfl, g.put (y := dat (.int (i + j))) (Rp.int _) k3⟩).weak (.of rfl fun F h => h.1.1)
theorem DA.setL {F : Hp} {d : VD} {v : V} (hd : d.P F v) : ∀ {ds : List VD} {vs : List V} {i : Nat}, DA F ds vs → vs[i]? = some v → DA F (ds.set i d) vs
  | _, _, _, .nil, h => by simp at h
  | _, _, 0, .cons h t, e => by
    cases Option.some.inj e
    exact .cons hd t
  | _, _, i + 1, .cons h t, e => .cons h (DA.setL hd t (by simpa using e))
/-- a list of one's own that stands in a field, and is not changed any more -/
theorem c_frzI {k : L2.St → Hp → Prop} {i : Nat} {ds : List PyData} (hi : xs[i]? = some (val (.ref q))) (kk : Cont k Φ ρ ((p, cI C ns (xs.set i (dat (.list ds)))) :: M)) : Cont k Φ ρ ((q, cLd ds) :: (p, cI C ns xs) :: M) := fun σ H s => by
  have ⟨F0, s0⟩ := s.cell (c' := cL (ds.map dat)) cLd_cL
  obtain ⟨F, z⟩ := SatF.freeze s0.inN
  refine kk σ H ⟨F, z.ex, z.fr.1, z.sl, z.nd, fun c hc => ?_⟩
  rcases List.mem_cons.mp hc with rfl | hc
  · obtain ⟨o, h1, h0, dx, fs, rfl, h2, h3⟩ := z.ce (p, cI C ns xs) List.mem_cons_self
    refine ⟨_, h1, h0, dx, fs, rfl, h2, ?_⟩
    obtain ⟨v, k1, k2⟩ := h3.get hi
    have e : v = .ref q := k2
    subst e
    exact DA.setL (vlst_dat.mp z.fr.2) h3 k1
  · exact z.ce c (List.mem_cons_of_mem _ hc)
theorem RtX.up {W : WX} {PE : Addr → Str → VD → Cells → Prop} (h : RtX W Φ (fun _ => PE)) : RtX W Φ (fun _ C f y N => ∃ N', N.Perm N' ∧ PE C f y N') := fun Φ' ρ σ C f y dd M H l ⟨N', h1, h2⟩ s => h Φ' ρ σ C f y dd N' H l h2 (s.perm (h1.cons _))
theorem rc_maxT {i j : Int} : RC (rMaxT K) [dat (.tuple [.int i, .int j])] M (dat (.int (max i j))) M := fun Φ ρ σ vs H Q ⟨F, s⟩ q => by
  obtain ⟨v, rfl, h1⟩ := rc1 (ds := []) s.fr.2
  cases h1 with
  | @tup a xs _ g1 g2 =>
    cases g2 with
    | cons q1 q2 =>
      cases q1
      cases q2 with
      | cons q3 q4 =>
        cases q3
        cases q4
        exact ⟨a, i, [j], rfl, .inl (.inl (s.ex _ _ g1)), q _ _ (Sat.ret (s.weak Le.andA) (.int _))⟩
theorem ei_lcM {α : Type} {r : α → PyData} {xs : List α} {te : TE} (h : Ev te ρ M (dat (.list (xs.map r))) M1) : EvI (iSeq K te) ρ M (xs.map fun a => dat (r a)) M1 := ei_seqLM h
end
end Sx

set_option Elab.async false
set_option linter.all false
set_option maxRecDepth 100000
set_option maxHeartbeats 4000000
/-! Sx13: sorted(set(xs)) of a list of ints; chains of three comparisons; list(range(..)), list(d.values()); sorted, min; more of lists. -/
namespace L2
open PySem PySem.Spec PyProof.Rows
/-- a set that was just begun -/
abbrev nso (w : World) : Obj := { cls := .type "set", dict := none, data := .set #[] 0 (.fresh 0 0 (!w.params.followText "set-order")) }
section
variable {P : Program} {w : World} {A : Around} {E : Value → Shared → Prop} {s : Shared}
set_option maxRecDepth 100000 in
theorem set_of_listI {l : Addr} {us : Array Value} (ns : List Int) {Q : Value → Shared → Prop} (hh : A.handled = none) (hl : s.heap.IsList l us) (hu : IntsAre us.toList ns) (hb : ns.length + 1 < scanBound)
    (k : ∀ (g : Heap) (tk c : Nat), SetR w g s.heap.objs.size (fun j => decide (j ∈ ns)) c → c ≤ ns.length → (∀ b o, s.heap.get? b = some o → g.get? b = some o) → Q (.ref s.heap.objs.size) { s with heap := g, toks := tk }) :
    wpAny (model P w) A (call (.type "set") [.ref l]) Q E s := by
  have many : us.size = ns.length := by have q := hu.length; rwa [Array.length_toList] at q
  have ⟨c, tl, m0⟩ := F.called_set.mro
  have m1 := F.called_set.made; have m2 := F.called_set.sub; have m3 := F.called_set.notType; have m4 := F.called_set.canCreate; have m5 := F.typeCall_set_1 (.ref l)
  refine wpAny_call (codeAny_of_tree (wpAny_pure ⟨Code.quiet_builtin _ (by decide +kernel), codeAny_builtin F.entry_type_call ?_⟩))
  rw [Around.under_plain (weight_type_call_type "set" [.ref l] []) rfl]
  repeat (any_goals (first | wp_step | assumption))
  refine codeAny_mono (code_set_led1 (.ref l) (E := E) (Q₁ := fun ob s1 => ob = .ref s.heap.objs.size ∧ s1 = { s with heap := s.heap.push (nso w) }) ⟨rfl, rfl⟩) fun r s1 hr => ?_
  rcases r with e | (_ | _ | _ | ob)
  · exact hr
  iterate 3 exact hr.elim
  obtain ⟨rfl, rfl⟩ := hr
  have at0 : (s.heap.push (nso w)).get? s.heap.objs.size = some (nso w) := Heap.get?_push_size _ rfl
  have ty0 : Shared.TypeIs { s with heap := s.heap.push (nso w) } (.ref s.heap.objs.size) "set" := ⟨_, at0, rfl⟩
  have m6 := F.called_set.init.lookup; have m7 := F.called_set.init.bind (.ref s.heap.objs.size)
  repeat (any_goals (first | wp_step | assumption))
  refine codeAny_mono (codeAny_call_builtin (R := wants (fun r s2 => r = .none ∧ ∃ g tk c, s2 = { s with heap := g, toks := tk } ∧ SetR w g s.heap.objs.size (fun j => decide (j ∈ ns)) c ∧ c ≤ ns.length ∧ ∀ b o, s.heap.get? b = some o → g.get? b = some o) E) F.called_set.init.plain F.entry_set_init (check_set_init_1 ty0 ?_)) fun r2 s2 hr2 => ?_
  · have ⟨⟨lc, ld, lda, ls⟩, hol, hcl, nl, hdl⟩ := hl
    simp only at hcl hdl; subst hcl; subst hdl
    have hol2 : (s.heap.push (nso w)).get? l = some { cls := .type "list", dict := ld, data := .seq us nl, slots := ls } := Heap.get?_push_of_some _ hol
    have m8 := F.sub_list_set; have m9 := F.sub_list_frozenset; have mA : (Value.type "list" == Value.type "dict") = false := by decide
    have li : (s.heap.push (nso w)).IsList l us := ⟨_, hol2, rfl, nl, rfl⟩
    unfold Builtin.«set.__init__» noKeywords Builtin.Frozenset.updateFrom; generalize hPI : pyIter = PI; wp_walk; subst hPI
    refine wpAny_pyIter_list li (wpAny_bind (wpAny_runValue ?_))
    have lt := Heap.lt_size hol; have n1 : (s.heap.push (nso w)).objs.size = s.heap.objs.size + 1 := Heap.size_push ..
    have d1 : ¬ l = (s.heap.push (nso w)).objs.size := n1 ▸ Nat.ne_of_lt (Nat.lt_succ_of_lt lt)
    have d2 : s.heap.objs.size ∉ [(s.heap.push (nso w)).objs.size, l] := by rw [n1]; intro z; rcases List.mem_cons.mp z with z | z; exact Nat.ne_of_lt (Nat.lt_succ_self _) z; exact Nat.ne_of_gt lt (List.mem_singleton.mp z)
    have vl : ∀ (i : Nat) (v : Value), us[i]? = some v → ∃ k t, ns[i]? = some k ∧ v = .int k t := fun i v hv => by
      have hi : i < ns.length := by have := (Array.getElem?_eq_some_iff.mp hv).1; omega
      have ⟨t, e⟩ := PyProof.Rows.IntsAre.int_at hu i v (by rw [Array.getElem?_toList, hv])
      exact ⟨ns[i], t, by simp [hi], by rw [e]; simp [hi]⟩
    refine set_update_ints ((Walks.list (show A.in1.in1.in1.handled = none by simp [hh]) _ l d1 us).toS) s.heap.objs.size d2 ns many hb vl (us.size - 0) 0 _ (by omega) (Nat.zero_le _) ⟨⟨_, Heap.get?_push_size _ rfl, rfl, rfl⟩, li.push _⟩ ⟨0, Nat.le_refl 0, setR_new_at (Heap.get?_push_of_some _ at0)⟩ ?_
    rintro ⟨g, g2, d, tk, os⟩ c2 mv hc2 hS
    obtain rfl : g2 = s.gens := mv.gens
    obtain rfl : d = s.drawn := mv.drawn
    obtain rfl : os = s.os := mv.os
    refine wpAny_pure ?_; show wpAny _ _ (ret Value.none) _ _ _
    refine wpAny_pure ⟨rfl, g, tk, c2, rfl, hS, many ▸ hc2, fun b o e => mv.heap b o ?_ (Heap.get?_push_of_some _ (Heap.get?_push_of_some _ e))⟩
    have bl := Heap.lt_size e; rw [n1]; intro z; rcases List.mem_cons.mp z with z | z; exact Nat.ne_of_lt bl z; exact Nat.ne_of_lt (Nat.lt_succ_of_lt bl) (List.mem_singleton.mp z)
  rcases r2 with e | (_ | _ | _ | ob)
  · exact hr2
  iterate 3 exact hr2.elim
  obtain ⟨rfl, g, tk, c2, rfl, z⟩ := hr2
  repeat (any_goals (first | wp_step | assumption))
  exact k _ _ _ z.1 z.2.1 z.2.2
end
section
variable {X : Cx} {a b c d e o : Expr} {ta tb tc td te : TE} {p p2 apos mpos pos pos2 : Pos}
/-- a reading closed by what follows -/
def tUp (t : TE) : TE := fun σ H Q => ∃ Q0 : VK, t σ H Q0 ∧ ∀ v H', Q0 v H' → Q v H'
theorem PE.up {t : TE} (h : PE X e t) : PE X e (tUp t) := ⟨fun pins s σ H Q I ⟨Q0, q, k⟩ => thn (h.run pins s σ H Q0 I q) fun v s1 ⟨x, H1, I1, r, z⟩ => ⟨x, H1, I1, r, k x H1 z⟩⟩
theorem PE.of {t t' : TE} (h : PE X e t) (k : ∀ σ H Q, t' σ H Q → t σ H Q) : PE X e t' := ⟨fun pins s σ H Q I q => h.run pins s σ H Q I (k σ H Q q)⟩
def rSetLI (K : PySem.W.Frag) (w : World) : List V → Hp → VK → Prop := fun vs H Q => ∃ (a : Addr) (ns : List Int), vs = [.ref a] ∧ SqL K H a (ns.map V.int) ∧ ns.length < 64 ∧ ∀ b n, n ≤ ns.length → H b = none → Q (.ref b) (upd H b (SetO w b (fun j => decide (j ∈ ns)) n))
theorem call_setLI (hc : X.calm = true) : CallR X (.type "set") (rSetLI X.K X.w) := by
  intro pins s σ H vs us Q I r h
  obtain ⟨a, ns, rfl, hs, h64, q⟩ := h
  obtain ⟨its, rv, hl, _⟩ := I.list hs
  rw [Vals.ref1 r]
  refine set_of_listI ns (I.ok.hd hc) hl.isList (by simpa using rv.ints) (by unfold scanBound; omega) fun g tk n hS hn hk => ?_
  exact ⟨.ref s.heap.objs.size, _, I.laid (t' := tk) hk (Nat.le_refl _) (setO_new hS), rfl, q _ n hn (I.hok.fresh (Nat.le_refl _))⟩
def tSortSet (K : PySem.W.Frag) (te : TE) : TE := fun σ H Q => te σ H fun x H1 => ∃ (a : Addr) (ns : List Int), x = .ref a ∧ SqL K H1 a (ns.map V.int) ∧ ns.length < 64 ∧ ∀ (ms : List Int) (b p : Addr) (u : HO), ms.Pairwise (· < ·) → (∀ j, j ∈ ms ↔ j ∈ ns) → H1 b = none → upd H1 b u p = none → Q (.ref p) (upd (upd H1 b u) p (.lst (ms.map V.int)))
theorem pe_sortSet (hc : X.calm = true) (g1 : Gl X "sorted") (n1 : X.mg "sorted" = none) (g2 : Gl X "set") (n2 : X.mg "set" = none) (he : PE X e te)
    (e1 : starEach [e] X.env = (false, eval e X.env) :: starEach [] X.env := by rfl) (e2 : starEach [Expr.Call (.Name "set" p2) [e] [] pos2] X.env = (false, eval (Expr.Call (.Name "set" p2) [e] [] pos2) X.env) :: starEach [] X.env := by rfl) :
    PE X (.Call (.Name "sorted" p) [.Call (.Name "set" p2) [e] [] pos2] [] pos) (tSortSet X.K te) := by
  have k1 : PE X (.Call (.Name "set" p2) [e] [] pos2) (tCB (rSetLI X.K X.w) (tCons (tUp te) tNil)) := pe_callTy (call_setLI hc) g2 n2 (by decide +kernel) (pa_cons he.up pa_nil e1) (by decide) (by decide) e1
  have k2 : PE X (.Call (.Name "sorted" p) [.Call (.Name "set" p2) [e] [] pos2] [] pos) (tCB (rSortedSet X.w) (tCons (tCB (rSetLI X.K X.w) (tCons (tUp te) tNil)) tNil)) := pe_callB (cr_sortedSet hc) g1 n1 (by decide +kernel) (pa_cons k1 pa_nil e2) (by decide) (by decide) e2
  refine k2.of fun σ H Q h => ⟨_, h, ?_⟩
  rintro v H' ⟨a, ns, rfl, hs, h64, q⟩
  exact ⟨a, ns, rfl, hs, h64, fun b n hn hb => ⟨b, _, n, rfl, upd_same, by omega, fun ms p h1 h2 _ hp => q ms b p _ h1 (fun j => by rw [h2]; exact decide_eq_true_iff) hb hp⟩⟩
/-- a op1 b op2 c op3 d -/
def tChain3 (r r' r'' : R2) (ta tb tc td : TE) : TE := fun σ H Q => ta σ H fun x H1 => tb σ H1 fun y H2 => r x y H2 fun z H3 => ∃ k, z = .bl k ∧
  (if k = true then tc σ H3 fun w H4 => r' y w H4 fun z2 H5 => ∃ k2, z2 = .bl k2 ∧ (if k2 = true then td σ H5 fun w2 H6 => r'' w w2 H6 Q else Q (.bl false) H5) else Q (.bl false) H3)
theorem pt_chain3 {op op' op'' : CmpOp} {r r' r'' : R2} (ho : OpR X (compareOp op) r) (ho' : OpR X (compareOp op') r') (ho'' : OpR X (compareOp op'') r'') (ha : PE X a ta) (hb : PE X b tb) (hc : PE X c tc) (hd : PE X d td)
    (hm : lastMarks [op, op', op''] [b, c, d] = false := by with_unfolding_all rfl) : PT X (.Compare a [op, op', op''] [b, c, d] pos) (tTest (tChain3 r r' r'' ta tb tc td)) := ⟨fun pins s σ H Q I h =>
  isTrue_chain (thn (ha.run pins s σ H _ I h) fun v s1 ⟨x, H1, I1, r1, q1⟩ => test_link (thn (hb.run pins s1 σ H1 _ I1 q1) fun u s2 ⟨y, H2, I2, r2, q2⟩ => thn (ho pins s2 σ H2 x y v u _ I2 r1 r2 q2) fun f s3 ⟨z, H3, I3, r3, k, e, q3⟩ => by
    subst e; cases r3
    refine wpAny_truthy_bool ?_
    cases k with
    | false => obtain ⟨k', e', q'⟩ := q3; cases e'; exact ite_ff ⟨H3, I3, q'⟩
    | true =>
      refine ite_tt (test_link (thn (hc.run pins s3 σ H3 _ I3 q3) fun w s4 ⟨z4, H4, I4, r4, q4⟩ => thn (ho' pins s4 σ H4 y z4 u w _ I4 r2 r4 q4) fun f2 s5 ⟨z5, H5, I5, r5, k2, e2, q5⟩ => ?_))
      subst e2; cases r5
      refine wpAny_truthy_bool ?_
      cases k2 with
      | false => obtain ⟨k', e', q'⟩ := q5; cases e'; exact ite_ff ⟨H5, I5, q'⟩
      | true =>
        refine ite_tt (test_last (thn (hd.run pins s5 σ H5 _ I5 q5) fun w2 s6 ⟨z6, H6, I6, r6, q6⟩ => thn (ho'' pins s6 σ H6 z4 z6 w w2 _ I6 r4 r6 q6) fun f3 s7 ⟨z7, H7, I7, r7, k3, e3, q7⟩ => ?_))
        subst e3; cases r7
        exact wpAny_truthy_bool ⟨H7, I7, q7⟩)) hm⟩
/-- list(o.values()) -/
def tListVals (td : TE) : TE := fun σ H Q => td σ H fun x H1 => ∃ a kvs, x = V.ref a ∧ H1 a = some (.dK kvs) ∧ ∀ p, H1 p = none → Q (.ref p) (upd H1 p (.lst (kvs.map (·.2))))
theorem pe_listVals (hc : X.calm = true) (hg : Gl X "list") (hm : X.mg "list" = none) (hd : PE X o td) (hbase : attributeBase o "values" X.env (eval o X.env) = eval o X.env := by rfl) (hline : (apos.endLine == mpos.line) = true := by rfl)
    (na : starEach [Expr.Call (.Attribute o "values" apos) [] [] mpos] X.env = (false, eval (Expr.Call (.Attribute o "values" apos) [] [] mpos) X.env) :: starEach [] X.env := by rfl) :
    PE X (.Call (.Name "list" p) [.Call (.Attribute o "values" apos) [] [] mpos] [] pos) (tListVals td) := ⟨fun pins s σ H Q I h => by
  refine Call_ (ld_blt I hg hm boot_list (PyProof.Rows.callWith_type1 (args_cons (wpAny_Call_method0_late hbase hline (thn (hd.run pins s σ H _ I h) fun v s1 ⟨x, H1, I1, r1, a, kvs, ex, ha, q⟩ => ?_)) na) na))
  subst ex
  cases r1
  have ⟨_, hsys, vs, rel, dof⟩ := dk_of I1.hok ha
  have ⟨ep, dat⟩ := dof.dictAt
  have ⟨ob, es, ho, ex, hdat, hko, hpr, hnd⟩ := dat
  refine ⟨"dict", "dict.values", F.plainAttrs_dict, F.slot_dict_values, F.type_dict_values, ⟨ob, ho, ex.1⟩, fun b e => by cases e; exact ⟨ob, ho, ex.2.1⟩, Calls.callWith_builtin rfl (PySem.evalArgs_none ?_)⟩
  refine call_meetsIn F.slot_dict_values ⟨ob, ho, ex.1⟩ F.entry_dict_values (F.args_dict_values_1 _) (meets_dict_values (mixKind X.prog X.w) a hsys) ⟨⟨vs, dof⟩, args_nil ?_⟩
  have old : ∀ b u, s1.heap.get? b = some u → (s1.heap.push { cls := .type "dict_values", data := .fields #[.ref a] }).get? b = some u := fun b u e => Heap.get?_push_of_some _ e
  have few : vs.length ≤ sizeLine := by have := KV.length rel; omega
  refine PySem.W.kdl_call (PySem.W.kdl_values (knd := mixKind X.prog X.w) (kvs := vs) (ep := ep)) (I.ok.hd hc) ⟨⟨_, Heap.get?_push_size _ rfl, rfl, rfl⟩, dat.keep old⟩ few fun g tk acc c hk hD hacc => ?_
  have new : H1 (s1.heap.push { cls := .type "dict_values", data := .fields #[.ref a] }).objs.size = none := I1.hok.fresh (by rw [Heap.size_push]; exact Nat.le_succ _)
  have rv : Vals (kvs.map (·.2)) acc.toList := by
    have hz : ∀ {ks : List (Key × V)} {us : List (Key × Value)} {ys : List Value}, KV ks us → ys.length = us.length → (∀ (j : Nat) (v : Value), ys[j]? = some v → ∃ k, us[j]? = some (k, v)) → Vals (ks.map (·.2)) ys := by
      intro ks us ys r
      induction r generalizing ys with
      | nil => intro hl _; cases ys with | nil => exact .nil | cons _ _ => simp at hl
      | cons h t ih =>
        intro hl hg
        cases ys with
        | nil => simp at hl
        | cons y ys =>
          obtain ⟨k, e⟩ := hg 0 y rfl
          cases Option.some.inj e
          exact .cons h.2 (ih (by simpa using hl) fun j v e => by simpa using hg (j + 1) v (by simpa using e))
    exact hz rel (by rw [Array.length_toList]; exact hacc.1) fun j v e => hacc.2 j v (by rw [← Array.getElem?_toList]; exact e)
  refine ⟨.ref _, upd H1 _ (.lst (kvs.map (·.2))), I1.laid (t' := tk) (fun b u e => hk b u (old b u e)) (by rw [Heap.size_push]; exact Nat.le_succ _) (show ObjOk X.prog X.w _ _ _ (.lst (kvs.map (·.2))) from ⟨by rw [List.length_map, KV.length rel]; exact few, acc.toList, c, rv, by rw [Array.toArray_toList]; exact hD⟩), rfl, q _ new⟩⟩
end
end L2

set_option Elab.async false
set_option linter.all false
set_option maxRecDepth 100000
set_option maxHeartbeats 2000000
/-! Sx14: the rules of Sx13 by descriptions; in, extend, sorted, min, reversed; d != {}. -/
namespace L2
open PySem PySem.Spec PyProof.Rows
/-- d != {} -/
def rNeEm : R2 := fun x y H Q => ∃ a b ks, x = .ref a ∧ y = .ref b ∧ H a = some (.dK ks) ∧ H b = some (.dK []) ∧ Q (.bl (!ks.isEmpty)) H
section
variable {X : Cx}
theorem op_neEm (hu : X.A.units + 64 < cLine) : OpR X (compareOp .NotEq) rNeEm := by
  intro pins s σ H x y v u Q I rx ry h
  obtain ⟨a, b, ks, rfl, rfl, ha, hb, q⟩ := h
  cases (show v = Value.ref a from rx)
  cases (show u = Value.ref b from ry)
  obtain ⟨_, ya, va, ra, da⟩ := dk_of I.hok ha
  obtain ⟨_, yb, vb, rb, db⟩ := dk_of I.hok hb
  cases rb
  refine PySem.W.keq_ne (knd := mixKind X.prog X.w) (r := true) ya yb da db (by omega) (fun e => ?_) ?_
  · have e2 : va = [] := List.length_eq_zero_iff.mp e
    subst e2
    exact .nil
  · have e : (!(va.length == ([] : List (Key × Value)).length && true)) = !ks.isEmpty := by
      have := KV.length ra
      cases ks with
      | nil => cases ra; rfl
      | cons k ks => cases ra; rfl
    rw [e]
    exact ⟨.bl _, H, I, rfl, q⟩
end
end L2
namespace Sx
open PySem L2 Evl
def rNeX (K : PySem.W.Frag) : R2 := fun x y H Q => rNeU K x y H Q ∨ rNeEm x y H Q
theorem op_neX {X : Cx} (hu : X.A.units + 64 < cLine) : OpR X (compareOp .NotEq) (rNeX X.K) := (op_neU hu).or (op_neEm hu)
/-! ### lists of ints, rising -/
def insR (x : Int) : List Int → List Int
  | [] => [x]
  | y :: r => if x < y then x :: y :: r else if x = y then y :: r else y :: insR x r
def rise (ns : List Int) : List Int := ns.foldr insR []
theorem mem_insR {x j : Int} : ∀ {l : List Int}, j ∈ insR x l ↔ j = x ∨ j ∈ l
  | [] => by simp [insR]
  | y :: r => by
    unfold insR
    split
    · simp
    · split
      · rename_i h; subst h; simp
      · rw [List.mem_cons, mem_insR (l := r), List.mem_cons]
        constructor
        · rintro (h | h | h)
          · exact .inr (.inl h)
          · exact .inl h
          · exact .inr (.inr h)
        · rintro (h | h | h)
          · exact .inr (.inl h)
          · exact .inl h
          · exact .inr (.inr h)
theorem rise_insR {x : Int} : ∀ {l : List Int}, l.Pairwise (· < ·) → (insR x l).Pairwise (· < ·)
  | [], _ => by simp [insR]
  | y :: r, h => by
    obtain ⟨h1, h2⟩ := List.pairwise_cons.mp h
    unfold insR
    split
    · refine List.pairwise_cons.mpr ⟨fun z hz => ?_, h⟩
      rcases List.mem_cons.mp hz with rfl | hz
      · assumption
      · have := h1 z hz; omega
    · split
      · exact h
      · refine List.pairwise_cons.mpr ⟨fun z hz => ?_, rise_insR h2⟩
        rcases mem_insR.mp hz with rfl | hz
        · omega
        · exact h1 z hz
theorem mem_rise {j : Int} : ∀ {ns : List Int}, j ∈ rise ns ↔ j ∈ ns
  | [] => Iff.rfl
  | x :: r => by
    show j ∈ insR x (rise r) ↔ _
    rw [mem_insR, mem_rise, List.mem_cons]
theorem rise_rises : ∀ ns : List Int, (rise ns).Pairwise (· < ·)
  | [] => .nil
  | x :: r => rise_insR (rise_rises r)
theorem rise_uniq : ∀ {xs ys : List Int}, xs.Pairwise (· < ·) → ys.Pairwise (· < ·) → (∀ j, j ∈ xs ↔ j ∈ ys) → xs = ys
  | [], [], _, _, _ => rfl
  | [], y :: ys, _, _, h => nomatch (h y).mpr List.mem_cons_self
  | x :: xs, [], _, _, h => nomatch (h x).mp List.mem_cons_self
  | x :: xs, y :: ys, h1, h2, h => by
    obtain ⟨a1, a2⟩ := List.pairwise_cons.mp h1
    obtain ⟨b1, b2⟩ := List.pairwise_cons.mp h2
    have e : x = y := by
      rcases List.mem_cons.mp ((h x).mp List.mem_cons_self) with e | e
      · exact e
      · rcases List.mem_cons.mp ((h y).mpr List.mem_cons_self) with e2 | e2
        · exact e2.symm
        · have := b1 x e; have := a1 y e2; omega
    subst e
    congr 1
    refine rise_uniq a2 b2 fun j => ⟨fun hj => ?_, fun hj => ?_⟩
    · rcases List.mem_cons.mp ((h j).mp (List.mem_cons_of_mem _ hj)) with e | e
      · have := a1 j hj; omega
      · exact e
    · rcases List.mem_cons.mp ((h j).mpr (List.mem_cons_of_mem _ hj)) with e | e
      · have := b1 j hj; omega
      · exact e
theorem rise_self {ns : List Int} : rise ns = ns ↔ ns.Pairwise (· < ·) := ⟨fun e => e ▸ rise_rises ns, fun h => rise_uniq (rise_rises ns) h fun _ => mem_rise⟩
section
variable {K : PySem.W.Frag} {ρ ρ' : Env} {M M1 M2 M3 M4 M' : Cells} {x y z w : VD} {te ta tb tc td : TE} {tt : TT} {t : TA} {p : Addr} {ns : List Int}
theorem ev_sortSet (h : Ev te ρ M x M1) (hx : IsLst x M1 (ns.map .int)) (hl : ns.length < 64) : Ev (tSortSet K te) ρ M (dat (.list ((rise ns).map .int))) M1 := fun Φ σ H Q s q => h Φ σ H _ s fun v H1 ⟨F, s1⟩ => by
  obtain ⟨a, ws, rfl, h1, h2⟩ := hx s1 s1.fr.2
  cases h2.ints
  refine ⟨a, ns, rfl, sq_of h1, hl, fun ms b p u m1 m2 hb hp => ?_⟩
  have e : ms = rise ns := rise_uniq m1 (rise_rises ns) fun j => by rw [m2, mem_rise]
  subst e
  have s2 := (s1.weak Le.and).newH (o := u) hb
  refine q _ _ (Sat.retNew s2 hp fun F' fx e => .lst e ?_)
  have hz : ∀ is : List Int, RpL F' (is.map V.int) (is.map PyData.int) := fun is => by
    induction is with
    | nil => exact .nil
    | cons i is ih => exact .cons (.int i) ih
  exact hz _
theorem rpl_ints {F : Hp} : ∀ is : List Int, RpL F (is.map V.int) (is.map PyData.int)
  | [] => .nil
  | i :: is => .cons (.int i) (rpl_ints is)
/-- sorted(xs), ints -/
theorem rc_sortI (hx : IsLst x M (ns.map .int)) : RC (rSortedI K) [x] M (dat (.list ((PySem.W.sortI ns).map .int))) M := fun Φ ρ σ vs H Q ⟨F, s⟩ q => by
  obtain ⟨v, rfl, h1⟩ := rc1 (ds := []) s.fr.2
  obtain ⟨a, ws, rfl, h2, h3⟩ := hx s h1
  cases h3.ints
  refine ⟨a, ns, rfl, sq_of h2, fun ms p m1 m2 hp => ?_⟩
  cases PySem.W.eq_sortI m1 m2
  exact q _ _ (Sat.retNew (s.weak Le.andA) hp fun F' fx e => .lst e (rpl_ints _))
/-- min(xs), ints -/
theorem rc_minI {m : Int} (hx : IsLst x M (ns.map .int)) (hm : m ∈ ns) (hle : ∀ j ∈ ns, m ≤ j) : RC (rMin K) [x] M (dat (.int m)) M := fun Φ ρ σ vs H Q ⟨F, s⟩ q => by
  obtain ⟨v, rfl, h1⟩ := rc1 (ds := []) s.fr.2
  obtain ⟨a, ws, rfl, h2, h3⟩ := hx s h1
  cases h3.ints
  refine ⟨a, ns, rfl, sq_of h2, List.length_pos_of_mem hm, fun i m1 m2 => ?_⟩
  have e : i = m := by have := m2 m hm; have := hle i m1; omega
  subst e
  exact q _ _ (Sat.ret (s.weak Le.andA) (.int _))
/-- list(range(i, j)) -/
theorem ev_listRg {i j : Int} (ha : Ev ta ρ M (dat (.int i)) M1) (hb : Ev tb ρ M1 (dat (.int j)) M2) (ok : RgOk i j) : Ev (tLstRg (tRg2 ta tb)) ρ M (dat (.list ((List.range (j - i).toNat).map fun k => .int (i + (k : Nat))))) M2 := fun Φ σ H Q s q =>
  ha Φ σ H _ s fun v H1 s1 => hb _ σ H1 _ s1 fun w H2 ⟨F, s2⟩ => by
    cases s2.fr.1.2
    cases s2.fr.2
    refine ⟨i, j, rfl, rfl, ok, fun p hp => q _ _ (Sat.retNew s2.base hp fun F' fx e => .lst e ?_)⟩
    have e1 : rgV i j = ((List.range (j - i).toNat).map fun k => i + ((k : Nat) : Int)).map V.int := by unfold rgV; rw [List.map_map]; rfl
    have e2 : ((List.range (j - i).toNat).map fun k => PyData.int (i + ((k : Nat) : Int))) = ((List.range (j - i).toNat).map fun k => i + ((k : Nat) : Int)).map PyData.int := by rw [List.map_map]; rfl
    rw [e1, e2]
    exact rpl_ints _
/-- list(d.values()), data -/
theorem ev_listVals {l : List (L2.Key × PyData)} (h : Ev td ρ M x M1) (hx : IsDu x M1 (dKs l)) : Ev (tListVals td) ρ M (dat (.list (l.map (·.2)))) M1 := fun Φ σ H Q s q => h Φ σ H _ s fun v H1 ⟨F, s1⟩ => by
  obtain ⟨a, vs, rfl, h1, h2⟩ := hx s1 s1.fr.2
  refine ⟨a, vs, rfl, h1, fun p hp => q _ _ (Sat.retNew (s1.weak Le.and) hp fun F' fx e => .lst e ?_)⟩
  have hz : ∀ {l : List (L2.Key × PyData)} {vs : List (L2.Key × V)}, DP F (dKs l) vs → RpL F (vs.map (·.2)) (l.map (·.2)) := by
    intro l
    induction l with
    | nil => intro vs h; cases h; exact .nil
    | cons p r ih =>
      intro vs h
      cases h with
      | cons g t => exact .cons g.2 (ih t)
  exact (hz h2).mono fx
/-- d != {} -/
theorem rv_neEm {ks : List (L2.Key × VD)} (hx : IsDu x M ks) : RV (rNeX K) x (vdi []) M (dat (.bool (!ks.isEmpty))) M := fun Φ ρ σ v w H Q ⟨F, s⟩ q => by
  obtain ⟨a, va, rfl, e1, d1⟩ := hx s s.fr.1.2
  obtain ⟨b, vb, rfl, e2, d2⟩ := s.fr.2
  cases d2
  refine .inr ⟨a, b, va, rfl, rfl, e1, s.ex _ _ e2, ?_⟩
  have e : (!va.isEmpty) = !ks.isEmpty := by cases d1 <;> rfl
  rw [e]
  exact q _ _ (Sat.ret s.base (.bl _))
/-- x in xs -/
theorem inV_str {i : Str} : ∀ {is : List Str}, inV (.str i) (is.map V.str) = decide (i ∈ is)
  | [] => rfl
  | j :: is => by
    have := inV_str (i := i) (is := is)
    unfold inV at this ⊢
    rw [List.map_cons, List.any_cons, this]
    by_cases h : i = j
    · subst h; simp [eqV]
    · have : eqV (.str j) (.str i) = false := beq_eq_false_iff_ne.mpr (Ne.symm h)
      rw [this]; simp [h]
theorem inV_int {i : Int} : ∀ {is : List Int}, inV (.int i) (is.map V.int) = decide (i ∈ is)
  | [] => rfl
  | j :: is => by
    have := inV_int (i := i) (is := is)
    unfold inV at this ⊢
    rw [List.map_cons, List.any_cons, this]
    by_cases h : i = j
    · subst h; simp [eqV]
    · have : eqV (.int j) (.int i) = false := beq_eq_false_iff_ne.mpr (Ne.symm h)
      rw [this]; simp [h]
theorem flat_strs : ∀ is : List Str, (is.map V.str).all flatV = true
  | [] => rfl
  | _ :: is => flat_strs is
theorem flat_ints : ∀ is : List Int, (is.map V.int).all flatV = true
  | [] => rfl
  | _ :: is => flat_ints is
theorem rv_inS {i : Str} {is : List Str} {neg : Bool} (hy : (IsTup y M (is.map .str)) ∨ IsLst y M (is.map .str)) : RV (rIn K neg) (dat (.str i)) y M (dat (.bool (if neg then !decide (i ∈ is) else decide (i ∈ is)))) M := fun Φ ρ σ v w H Q ⟨F, s⟩ q => by
  cases s.fr.1.2
  rcases hy with hy | hy
  · obtain ⟨a, ws, rfl, h1, h2⟩ := hy s s.fr.2
    cases h2.strs
    refine ⟨a, _, rfl, .inr (st_of h1), rfl, flat_strs is, ?_⟩
    rw [inV_str]
    exact q _ _ (Sat.ret s.base (.bl _))
  · obtain ⟨a, ws, rfl, h1, h2⟩ := hy s s.fr.2
    cases h2.strs
    refine ⟨a, _, rfl, .inl (sq_of h1), rfl, flat_strs is, ?_⟩
    rw [inV_str]
    exact q _ _ (Sat.ret s.base (.bl _))
theorem rv_inI {i : Int} {is : List Int} {neg : Bool} (hy : IsLst y M (is.map .int)) : RV (rIn K neg) (dat (.int i)) y M (dat (.bool (if neg then !decide (i ∈ is) else decide (i ∈ is)))) M := fun Φ ρ σ v w H Q ⟨F, s⟩ q => by
  cases s.fr.1.2
  obtain ⟨a, ws, rfl, h1, h2⟩ := hy s s.fr.2
  cases h2.ints
  refine ⟨a, _, rfl, .inl (sq_of h1), rfl, flat_ints is, ?_⟩
  rw [inV_int]
  exact q _ _ (Sat.ret s.base (.bl _))
/-- xs.extend(ys) -/
theorem rm_extend {ds es : List PyData} (h : Put p (cLd ds) (cLd (ds ++ es)) M M') (hl : ds.length + es.length ≤ sizeLine) : RM rExtend (val (.ref p)) [dat (.list es)] M vn M' := fun Φ ρ σ v vs H Q ⟨F, s⟩ q => by
  have e : v = .ref p := s.fr.1.2
  obtain ⟨u, rfl, hu⟩ := rc1 (ds := []) s.fr.2
  obtain ⟨b, us, rfl, g1, g2⟩ := isl_dat s hu
  obtain ⟨o, h1, h0, ws, rfl, h3⟩ := s.at h.mem
  refine ⟨p, b, ws, us, e, rfl, h1, g1, by rw [h3.length, g2.length]; exact hl, q .non _ ⟨F, ?_⟩⟩
  have s' := s.put1 (o := .lst (ws ++ us)) h h0 ⟨h0, _, rfl, h3.append g2⟩
  exact ⟨s'.ex, ⟨s'.fr.1.1, .non⟩, s'.sl, s'.nd, s'.ce⟩
/-- xs[::-1] -/
theorem ev_revL {ds : List PyData} (h : Ev te ρ M x M1) (hx : IsLst x M1 ds) : Ev (tRevL K te) ρ M (dat (.list ds.reverse)) M1 := fun Φ σ H Q s q => h Φ σ H _ s fun v H1 ⟨F, s1⟩ => by
  obtain ⟨a, ws, rfl, h1, h2⟩ := hx s1 s1.fr.2
  exact ⟨a, ws, rfl, sq_of h1, fun p hp => q _ _ (Sat.retNew (s1.weak Le.and) hp fun F' fx e => .lst e (h2.reverse.mono fx))⟩
/-- a < b < c < d -/
theorem ev_chain3 {r r' r'' : R2} {a b c : Bool} (h1 : Ev ta ρ M x M) (h2 : Ev tb ρ M y M) (hr : RV r x y M (dat (.bool a)) M) (h3 : a = true → Ev tc ρ M z M) (hr' : a = true → RV r' y z M (dat (.bool b)) M) (h4 : (a && b) = true → Ev td ρ M w M) (hr'' : (a && b) = true → RV r'' z w M (dat (.bool c)) M) :
    Ev (tChain3 r r' r'' ta tb tc td) ρ M (dat (.bool (a && (b && c)))) M := fun Φ σ H Q s q =>
  h1 Φ σ H _ s fun v H1 s1 => h2 _ σ H1 _ s1 fun u H2 s2 => by
    refine hr (Φ.and y u) ρ σ v u H2 _ (s2.weak (.of rfl fun F p => ⟨⟨⟨p.1.1, p.2⟩, p.1.2⟩, p.2⟩)) fun k H3 s3 => ?_
    have ⟨F, s4⟩ := s3
    cases s4.fr.2
    refine ⟨a, rfl, ?_⟩
    cases a with
    | false =>
      rw [if_neg Bool.false_ne_true]
      exact q _ H3 (s3.weak (.of rfl fun F p => ⟨p.1.1, p.2⟩))
    | true =>
      rw [if_pos rfl]
      refine h3 rfl _ σ H3 _ (s3.weak Le.and) fun k2 H4 s5 => ?_
      refine hr' rfl (Φ.and z k2) ρ σ u k2 H4 _ (s5.weak (.of rfl fun F p => ⟨⟨⟨p.1.1, p.2⟩, p.1.2⟩, p.2⟩)) fun k3 H5 s6 => ?_
      have ⟨F2, s7⟩ := s6
      cases s7.fr.2
      refine ⟨b, rfl, ?_⟩
      cases b with
      | false =>
        rw [if_neg Bool.false_ne_true]
        exact q _ H5 (s6.weak (.of rfl fun F p => ⟨p.1.1, p.2⟩))
      | true =>
        rw [if_pos rfl]
        exact h4 rfl _ σ H5 _ (s6.weak Le.and) fun k4 H6 s8 => hr'' rfl Φ ρ σ k2 k4 H6 Q s8 q
end
end Sx

set_option Elab.async false
set_option linter.all false
set_option maxRecDepth 100000
set_option maxHeartbeats 2000000
/-! Sx15: dict comprehensions; pop, d[k] += n, stars of lists, list(d), max; cells moved aside while a list of one's own is walked. -/
namespace L2
open PySem
theorem dc_it {J : It} {n : Nat} {G : Hp → Prop} {Y : Nat → Hp → V → Hp → Prop} (w : Walk J n G Y) {g : TG} {tt : TT} {tk tv : TE} {vs : List Nat} {σ : St} {H1 : Hp} {D : Addr} {Qd : Hp → Prop} (Pv : Nat → Hp → Prop) (h0 : Pv 0 (upd H1 D (.dK []))) (hG : ∀ i H, i ≤ n → Pv i H → G H)
    (hs : ∀ i x H H', i < n → Pv i H → Y i H x H' → g x (wipe σ vs) H' fun σ2 H2 => wipe σ2 vs = wipe σ vs ∧ tt σ2 H2 fun b H3 => if b = true then tk σ2 H3 fun y H4 => tv σ2 H4 fun z H5 => ∃ kvs k, y = kV k ∧ H5 D = some (.dK kvs) ∧ kvs.length < sizeLine ∧ Pv (i + 1) (upd H5 D (.dK (putK kvs k z))) else Pv (i + 1) H3) (hd : ∀ H, Pv n H → Qd H) :
    ∃ W : Nat → Nat → Hp → Prop, (∃ m, W 0 m (upd H1 D (.dK []))) ∧ ∀ i m H, W i m H → (J.stop i H ∧ Qd H) ∨ (J.go i H ∧ ∃ Nx : Hp → Prop, (∀ H', Nx H' → ∃ m', m' < m ∧ W (i + 1) m' H') ∧ ∀ x H', J.yld i H x H' → g x (wipe σ vs) H' fun σ2 H2 => wipe σ2 vs = wipe σ vs ∧ tt σ2 H2 fun b H3 =>
      if b = true then tk σ2 H3 fun y H4 => tv σ2 H4 fun z H5 => ∃ kvs k, y = kV k ∧ H5 D = some (.dK kvs) ∧ kvs.length < sizeLine ∧ Nx (upd H5 D (.dK (putK kvs k z))) else Nx H3) :=
  ⟨fun i m H => m = n - i ∧ i ≤ n ∧ Pv i H, ⟨n, rfl, Nat.zero_le _, h0⟩, fun i m H ⟨hm, hi, p⟩ => by
    subst hm
    have q := hG i H hi p
    rcases Nat.lt_or_eq_of_le hi with hlt | e
    · exact .inr ⟨w.goes i H hlt q, Pv (i + 1), fun H' p' => ⟨n - (i + 1), by omega, rfl, hlt, p'⟩, fun x H' y => hs i x H H' hlt p (w.yields i H x H' hlt q y)⟩
    · subst e
      exact .inl ⟨w.stops H q, hd H p⟩⟩
end L2
namespace Sx
open PySem L2 Evl StX
section
variable {K : PySem.W.Frag} {ρ ρ' : Env} {M M1 M2 M3 M4 M' : Cells} {x y z : VD} {te ta tb tk tv td ty : TE} {tt : TT} {t : TA} {p : Addr} {Φ Φ0 Ψ : Fr} {D : Ends} {P : VD → Cells → Prop} {c : Addr × CD}
/-! ### cells aside -/
theorem Sat.aside {σ : L2.St} {H : Hp} (s : Sat Φ ρ (c :: M) σ H) : Sat (Φ.more c) ρ M σ H := let ⟨F, z⟩ := s; ⟨F, z.inN⟩
theorem Sat.back {σ : L2.St} {H : Hp} (s : Sat (Φ.more c) ρ M σ H) : Sat Φ ρ (c :: M) σ H := let ⟨F, z⟩ := s; ⟨F, z.outN⟩
theorem c_aside {k : L2.St → Hp → Prop} (h : Cont k (Φ.more c) ρ M) : Cont k Φ ρ (c :: M) := fun σ H s => h σ H s.aside
theorem c_back {k : L2.St → Hp → Prop} (h : Cont k Φ ρ (c :: M)) : Cont k (Φ.more c) ρ M := fun σ H s => h σ H s.back
theorem evl_back (h : EvL (Φ.more c) te ρ M P) : EvL Φ te ρ (c :: M) fun x N => ∃ M', N = c :: M' ∧ P x M' := fun Φ' σ H Q l s q => by
  have l2 : Le (Φ'.more c) (Φ.more c) := ⟨l.n.cons_cons c, l.p⟩
  exact h (Φ'.more c) σ H Q l2 s.aside fun x M' v H' hp ⟨F, z⟩ => q x (c :: M') v H' ⟨M', rfl, hp⟩ ⟨F, (show SatF F ((Φ'.and x v).more c) ρ M' σ H' from ⟨z.ex, z.fr, z.sl, z.nd, z.ce⟩).outN⟩
theorem EvL.r (h : ∀ Φ, EvL Φ te ρ M P) : EvR te ρ M P := fun Φ σ H Q s q => h Φ Φ σ H Q (.refl _) s q
def EvIL (Φ0 : Fr) (wi : TI) (ρ : Env) (M : Cells) (its : List VD) (M' : Cells) : Prop := ∀ (Φ : Fr) (σ : L2.St) (H : Hp) (R : It → Hp → Prop), Le Φ Φ0 → Sat Φ ρ M σ H → (∀ J H' Ψ, Le Ψ Φ → Sat Ψ ρ M' σ H' → Walks J Ψ its → R J H') → wi σ H R
theorem EvI.l {wi : TI} {its : List VD} (h : EvI wi ρ M its M') : EvIL Φ0 wi ρ M its M' := fun Φ σ H R _ s q => h Φ σ H R s q
/-- a list of one's own of references, aside -/
theorem ei_refs {ps : List Addr} (hc : (p, cL (ps.map fun q => val (.ref q))) ∈ Φ0.N) (h : Ev te ρ M (val (.ref p)) M) : EvIL Φ0 (iSeq K te) ρ M (ps.map fun q => val (.ref q)) M := fun Φ σ H R l s q => h Φ σ H _ s fun v H1 s1 => by
  have ⟨F, z⟩ := s1
  have e : v = .ref p := z.fr.2
  have hz : ∀ {Φ' : Fr} {ρ' : Env} {M' : Cells} {σ' : L2.St} {H' : Hp} {F' : Hp}, Le Φ' Φ → SatF F' Φ' ρ' M' σ' H' → SqL K H' p (ps.map V.ref) := fun {Φ' ρ' M' σ' H' F'} l' z' => by
    obtain ⟨o, k1, k0, ws, rfl, k3⟩ := z'.ce _ (List.mem_append_right _ (l'.n.subset (l.n.subset hc)))
    have : ws = ps.map V.ref := by
      have hy : ∀ {ps : List Addr} {ws : List V}, DA F' (ps.map fun q => val (.ref q)) ws → ws = ps.map V.ref := by
        intro ps
        induction ps with
        | nil => intro ws h; cases h; rfl
        | cons a ps ih =>
          intro ws h
          cases h with
          | cons g t =>
            have g : _ = V.ref a := g
            rw [ih t, g]; rfl
      exact hy k3
    subst this
    exact sq_of k1
  have hd : ∀ F' : Hp, DA F' (ps.map fun q => val (.ref q)) (ps.map V.ref) := fun F' => by
    induction ps with
    | nil => exact .nil
    | cons a ps ih => exact .cons rfl (by
        clear hz hc
        have hy : ∀ ps : List Addr, DA F' (ps.map fun q => val (.ref q)) (ps.map V.ref) := fun ps => by
          induction ps with
          | nil => exact .nil
          | cons a ps ih => exact .cons rfl ih
        exact hy ps)
  refine .inl ⟨p, e, ⟨_, hz (.refl _) (z.weak Le.and)⟩, q _ _ Φ (.refl _) s1.weak1 ?_⟩
  exact ei_vec (ws := ps.map V.ref) (by simp) fun Φ' ρ' M' σ' H' l' ⟨F', z'⟩ => ⟨hz l' z', F', z', hd F'⟩
theorem c_forL {wi : TI} {g : TG} {tb : TS} {its : List VD} (h : EvIL Φ wi ρ M its M1) (I : Nat → Env → Cells → Prop) (h0 : I 0 ρ M1)
    (hs : ∀ Ψ, Le Ψ Φ → ∀ (i : Nat) d ρ' M', its[i]? = some d → I i ρ' M' → ∃ ρ'' js, Tgt g js d ρ' ρ'' ∧ Cont (tb { D with nx := InvK Ψ (I (i + 1)), ct := InvK Ψ (I (i + 1)), bk := D.nx }) Ψ ρ'' M')
    (hd : ∀ ρ' M', I its.length ρ' M' → Cont D.nx Φ ρ' M') : Cont (tFor wi g tb D) Φ ρ M := fun σ H s => h Φ σ H _ (.refl _) s fun J H1 Ψ l s1 ⟨G, Y, w, hG, hY⟩ =>
  for_it w (fun i => InvK Ψ (I i)) ⟨ρ, M1, h0, s1⟩ (fun i σ' H' _ ⟨ρ', M', _, s'⟩ => hG Ψ ρ' M' σ' H' (.refl _) s') (fun i x σ' H' H2 hi ⟨ρ', M', j, s'⟩ y => by
    have hi' : its[i]? = some its[i] := by simp [hi]
    obtain ⟨ρ'', js, hg, k⟩ := hs Ψ l i its[i] ρ' M' hi' j
    exact hg Ψ M' x σ' H2 _ (hY i its[i] x H' H2 Ψ ρ' M' σ' hi' (.refl _) s' y) fun σ2 _ _ s2 => k σ2 H2 s2) fun σ' H' ⟨ρ', M', j, s'⟩ => hd ρ' M' j σ' H' (s'.weak l)
/-- a comprehension below a frame: what is made is frozen -/
theorem el_lc {wi : TI} {g : TG} {tt : TT} {vs : List Nat} {its : List VD} (h : EvIL Φ0 wi ρ M its M1) (I : Nat → List VD → Cells → Prop) (h0 : I 0 [] M1) (hl : its.length ≤ 16000000)
    (hI : ∀ i acc M', I i acc M' → acc.length ≤ i)
    (hs : ∀ (i : Nat) d acc M', its[i]? = some d → I i acc M' → ∃ ρ'' js b M2, Tgt g js d (wipeE ρ vs) ρ'' ∧ (∀ i ∈ js, i ∈ vs) ∧ EvT tt ρ'' M' b M2 ∧ (b = true → EvL Φ0 te ρ'' M2 fun y M3 => I (i + 1) (acc ++ [y]) M3) ∧ (b = false → I (i + 1) acc M2)) :
    EvL Φ0 (tLc wi g tt te vs) ρ M fun y M' => ∃ acc, y = vlst acc ∧ I its.length acc M' := fun Φ σ H Q l0 s q => h Φ σ H _ l0 s fun J H1 Ψ l s1 ⟨G, Y, w, hG, hY⟩ => fun Dl hD => by
  have ⟨F1, s2⟩ := s1
  let Ψ0 : Fr := Ψ.slots σ ρ
  have lz : Le (Ψ0.more (Dl, cL [])) Φ0 := (Le.more.trans Le.slots).trans (l.trans l0)
  refine lc_it w (fun i H' => ∃ acc M', I i acc M' ∧ Sat (Ψ0.more (Dl, cL acc)) (wipeE ρ vs) M' (L2.wipe σ vs) H') ⟨[], M1, h0, ?_⟩ (fun i H' _ ⟨acc, M', _, s'⟩ => hG _ _ _ _ _ (Le.trans Le.more Le.slots) s') (fun i x H' H2 hi ⟨acc, M', j, s'⟩ y => ?_) (fun H' ⟨acc, M', j, s'⟩ => ?_)
  · have s3 := s2.newC (c := cL []) (o := .lst []) hD fun e => ⟨e, [], rfl, .nil⟩
    have s4 := s3.inN
    exact ⟨F1, s4.ex, ⟨s4.fr, s4.sl⟩, s4.sl.wipes vs, s4.nd, s4.ce⟩
  · have hi' : its[i]? = some its[i] := by simp [hi]
    obtain ⟨ρ'', js, b, M2, hg, hj, ht, h1, h2⟩ := hs i its[i] acc M' hi' j
    have s3 := hY i its[i] x H' H2 _ _ _ _ hi' (Le.trans Le.more Le.slots) s' y
    refine hg _ M' x _ H2 _ s3 fun σ2 k1 k2 s4 => ⟨wipe_eq k1 k2 hj, ht _ σ2 H2 _ s4 fun H3 s5 => ?_⟩
    have back : ∀ {acc' : List VD} {M' : Cells} {H' : Hp} {σ3 : L2.St} {ρ3 : Env}, Sat (Ψ0.more (Dl, cL acc')) ρ3 M' σ3 H' → Sat (Ψ0.more (Dl, cL acc')) (wipeE ρ vs) M' (L2.wipe σ vs) H' := fun {_ _ _ _ _} ⟨F, z⟩ => ⟨F, z.ex, z.fr, z.fr.2.wipes vs, z.nd, z.ce⟩
    cases b with
    | false => rw [if_neg Bool.false_ne_true]; exact ⟨acc, M2, h2 rfl, back s5⟩
    | true =>
      rw [if_pos rfl]
      refine h1 rfl _ σ2 H3 _ ((Le.more.trans Le.slots).trans (l.trans l0)) s5 fun y M3 v H4 j4 s6 => ?_
      have ⟨F, s7⟩ := s6
      obtain ⟨o, e1, e0, ws, rfl, e3⟩ := s7.ce (Dl, cL acc) (List.mem_append_right _ List.mem_cons_self)
      refine ⟨ws, e1, ?_, acc ++ [y], M3, j4, back (σ3 := σ2) (ρ3 := ρ'') ⟨F, ?_⟩⟩
      · rw [← Paired.length e3]
        have := hI i acc M' j
        have hz : sizeLine = 16777216 := sizeLine_eq
        omega
      · exact s7.put (Φ' := Ψ0.more (Dl, cL (acc ++ [y]))) (c := cL acc) (Put.behind .here M3) s7.fr.1 e0 ⟨e0, _, rfl, e3.append (.cons s7.fr.2 .nil)⟩
  · have ⟨F, s3⟩ := s'
    have s4 : SatF F (Ψ0.more (Dl, cL acc)) ρ M' σ H' := ⟨s3.ex, s3.fr, s3.fr.2, s3.nd, s3.ce⟩
    exact q (vlst acc) M' (.ref Dl) H' ⟨acc, rfl, j⟩ (s4.freeze.weak ⟨by show Φ.N.Sublist Ψ.N; exact l.n, fun F h => ⟨l.p F h.1.1, h.2⟩⟩)
/-- .. data for each item, nothing else changes -/
theorem el_lcD {α : Type} {wi : TI} {g : TG} {vs : List Nat} {e : α → VD} {xs : List α} {r : α → PyData} (h : EvIL Φ0 wi ρ M (xs.map e) M1) (hl : xs.length ≤ 16000000)
    (hs : ∀ (i : Nat) a, xs[i]? = some a → ∃ ρ'' js, Tgt g js (e a) (wipeE ρ vs) ρ'' ∧ (∀ i ∈ js, i ∈ vs) ∧ EvL Φ0 te ρ'' M1 (Det (dat (r a)) M1)) : EvL Φ0 (tLc wi g tYes te vs) ρ M (Det (dat (.list (xs.map r))) M1) := fun Φ σ H Q l s q => by
  refine el_lc (te := te) (g := g) (tt := tYes) (vs := vs) h (fun i acc M' => M' = M1 ∧ acc = ((xs.take i).map r).map dat) ⟨rfl, rfl⟩ (by rw [List.length_map]; exact hl) (fun i acc M' ⟨_, e⟩ => by subst e; rw [List.length_map, List.length_map, List.length_take]; omega) (fun i d acc M' hi ⟨e1, e2⟩ => ?_) Φ σ H Q l s fun x M' v H' ⟨acc, e, e1, e2⟩ s' => ?_
  · subst e1; subst e2
    rw [List.getElem?_map] at hi
    cases hq : xs[i]? with
    | none => rw [hq] at hi; cases hi
    | some a =>
      rw [hq] at hi
      cases hi
      have htk : xs.take (i + 1) = xs.take i ++ [a] := by rw [List.take_succ, hq]; rfl
      obtain ⟨ρ'', js, h1, hj, h3⟩ := hs i a hq
      refine ⟨ρ'', js, true, M', h1, hj, et_yes, fun _ => h3.imp fun y M3 ⟨z1, z2⟩ => ?_, fun z => Bool.noConfusion z⟩
      subst z1; subst z2
      exact ⟨rfl, by rw [htk, List.map_append, List.map_append]; rfl⟩
  · subst e; subst e1
    rw [List.length_map, List.take_length] at e2
    subst e2
    exact q _ _ v H' ⟨rfl, rfl⟩ (s'.weak (.of rfl fun F p => ⟨p.1, vlst_dat.mp p.2⟩))
/-! ### a dict of one's own from a comprehension -/
theorem er_dc {α : Type} {wi : TI} {g : TG} {vs : List Nat} {e : α → VD} {xs : List α} {k : α → L2.Key} {r : α → VD} (h : EvI wi ρ M (xs.map e) M1) (hl : xs.length ≤ 16000000)
    (hs : ∀ a, a ∈ xs → ∃ ρ'' js, Tgt g js (e a) (wipeE ρ vs) ρ'' ∧ (∀ i ∈ js, i ∈ vs) ∧ Ev tk ρ'' M1 (dat (kD (k a))) M1 ∧ Ev tv ρ'' M1 (r a) M1) :
    EvR (tDc wi g tYes tk tv vs) ρ M fun y M' => ∃ D, y = val (.ref D) ∧ M' = (D, cD (mergeG [] (xs.map fun a => (k a, r a)))) :: M1 := fun Φ σ H Q s q => h Φ σ H _ s fun J H1 Ψ l s1 ⟨G, Y, w, hG, hY⟩ => fun Dl hD => by
  have ⟨F1, s2⟩ := s1
  let Ψ0 : Fr := Ψ.slots σ ρ
  let kv : Nat → List (L2.Key × VD) := fun i => mergeG [] ((xs.take i).map fun a => (k a, r a))
  have hkl : ∀ i, (kv i).length ≤ i := fun i => by
    have hz : ∀ (ms : List (L2.Key × VD)) (ks : List (L2.Key × VD)), (mergeG ks ms).length ≤ ks.length + ms.length := by
      intro ms
      induction ms with
      | nil => intro ks; exact Nat.le_refl _
      | cons m ms ih =>
        intro ks
        have a := ih (putG ks m.1 m.2)
        have b := length_putG ks m.1 m.2
        have c : mergeG ks (m :: ms) = mergeG (putG ks m.1 m.2) ms := rfl
        rw [c, List.length_cons]
        omega
    have := hz ((xs.take i).map fun a => (k a, r a)) []
    rw [List.length_map, List.length_take] at this
    show (mergeG [] _).length ≤ i
    rw [List.length_nil, Nat.zero_add] at this
    omega
  refine dc_it w (fun i H' => Sat (Ψ0.more (Dl, cD (kv i))) (wipeE ρ vs) M1 (L2.wipe σ vs) H') ?_ (fun i H' _ s' => hG _ _ _ _ _ (Le.trans Le.more Le.slots) s') (fun i x H' H2 hi s' y => ?_) (fun H' s' => ?_)
  · have s4 := (s2.newC (c := cD []) (o := .dK []) hD fun e => ⟨e, [], rfl, .nil⟩).inN
    exact ⟨F1, s4.ex, ⟨s4.fr, s4.sl⟩, s4.sl.wipes vs, s4.nd, s4.ce⟩
  · have hi0 : i < xs.length := by rw [List.length_map] at hi; exact hi
    have hi' : (xs.map e)[i]? = some (e xs[i]) := by simp [hi0]
    obtain ⟨ρ'', js, hg, hj, h1, h2⟩ := hs xs[i] (List.getElem_mem hi0)
    have s3 := hY i (e xs[i]) x H' H2 _ _ _ _ hi' (Le.trans Le.more Le.slots) s' y
    refine hg _ M1 x _ H2 _ s3 fun σ2 k1 k2 s4 => ⟨wipe_eq k1 k2 hj, et_yes _ σ2 H2 _ s4 fun H3 s4 => ?_⟩
    rw [if_pos rfl]
    refine h1 _ σ2 H3 _ s4 fun u H4 s5 => h2 _ σ2 H4 _ s5 fun v H5 s6 => ?_
    have ⟨F, s7⟩ := s6
    obtain ⟨o, e1, e0, ws, rfl, e3⟩ := s7.ce (Dl, cD (kv i)) (List.mem_append_right _ List.mem_cons_self)
    refine ⟨ws, k xs[i], kv_of s7.fr.1.2, e1, ?_, ?_⟩
    · rw [← e3.len]
      have := hkl i
      have hz : sizeLine = 16777216 := sizeLine_eq
      omega
    · have hkv : kv (i + 1) = putG (kv i) (k xs[i]) (r xs[i]) := by
        show mergeG [] ((xs.take (i + 1)).map _) = _
        have htk : xs.take (i + 1) = xs.take i ++ [xs[i]] := by rw [List.take_succ]; simp [hi0]
        unfold mergeG
        rw [htk, List.map_append, List.foldl_append]
        rfl
      rw [hkv]
      have s8 := s7.put (Φ' := Ψ0.more (Dl, cD (putG (kv i) (k xs[i]) (r xs[i])))) (o := .dK (putK ws (k xs[i]) v)) (c := cD (kv i)) (Put.behind .here M1) s7.fr.1.1 e0 ⟨e0, _, rfl, e3.put (k xs[i]) s7.fr.2⟩
      exact ⟨F, s8.ex, s8.fr, s8.fr.2.wipes vs, s8.nd, s8.ce⟩
  · have ⟨F, s3⟩ := s'
    rw [List.length_map] at s3
    have s4 : SatF F (Ψ.more (Dl, cD (kv xs.length))) ρ M1 σ H' := ⟨s3.ex, s3.fr.1, s3.fr.2, s3.nd, s3.ce⟩
    have s5 := s4.outN
    have e : kv xs.length = mergeG [] (xs.map fun a => (k a, r a)) := by show mergeG [] ((xs.take xs.length).map _) = _; rw [List.take_length]
    rw [e] at s5
    exact q _ _ _ _ ⟨Dl, rfl, rfl⟩ ⟨F, s5.weak ⟨l.n, fun F h => ⟨l.p F h, rfl⟩⟩⟩
/-! ### more -/
theorem RpL.eraseIdx {F : Hp} : ∀ {ws : List V} {ds : List PyData} (i : Nat), RpL F ws ds → RpL F (ws.eraseIdx i) (ds.eraseIdx i)
  | _, _, _, .nil => .nil
  | _, _, 0, .cons _ t => t
  | _, _, i + 1, .cons a t => .cons a (RpL.eraseIdx i t)
theorem rm_popAt {ds : List PyData} {d : PyData} {i : Nat} (h : Put p (cLd ds) (cLd (ds.eraseIdx i)) M M') (hd : ds[i]? = some d) (hi : i < 2 ^ 62) : RM rPopAt (val (.ref p)) [dat (.int (i : Int))] M (dat d) M' := fun Φ ρ σ v vs H Q ⟨F, s⟩ q => by
  have e : v = .ref p := s.fr.1.2
  obtain ⟨u, rfl, hu⟩ := rc1 (ds := []) s.fr.2
  cases hu
  obtain ⟨o, h1, h0, ws, rfl, h3⟩ := s.at h.mem
  obtain ⟨w, q1, q2⟩ := h3.get hd
  have hlt : i < ws.length := (List.getElem?_eq_some_iff.mp q1).1
  refine ⟨p, ws, (i : Int), i, w, e, rfl, h1, by omega, by omega, ?_, q1, q w _ ⟨F, ?_⟩⟩
  · rw [PySem.seqIndex_of (by omega) (by omega), Int.toNat_natCast]
  · have s' := s.put1 (o := .lst (ws.eraseIdx i)) h h0 ⟨h0, _, rfl, h3.eraseIdx i⟩
    exact ⟨s'.ex, ⟨s'.fr.1.1, q2⟩, s'.sl, s'.nd, s'.ce⟩
/-- d[k] += n -/
theorem c_daug {kvs : List (L2.Key × VD)} {k : L2.Key} {i j : Int} (hd : Ev td ρ M (val (.ref p)) M) (hk : Ev ty ρ M (dat (kD k)) M) (hv : valG kvs k = some (dat (.int i))) (hj : Ev tv ρ M (dat (.int j)) M) (hp : Put p (cD kvs) (cD (putG kvs k (dat (.int (i + j))))) M M') (hl : kvs.length < sizeLine) (cc : Cont D.nx Φ ρ M') :
    Cont (sDAug td ty tv rAdd D) Φ ρ M := fun σ H s => hd Φ σ H _ s fun w H1 s1 => hk _ σ H1 _ s1 fun u H2 s2 => by
  have ⟨F2, z2⟩ := s2
  have ew : w = .ref p := z2.fr.1.2
  cases kv_of z2.fr.2
  obtain ⟨o, k1, k0, vs, rfl, k3⟩ := z2.at hp.mem
  have r := k3.val k
  rw [hv] at r
  generalize hw : valV vs k = ow at r
  cases r with
  | some hr =>
    rename_i v
    refine ⟨p, v, ew, .inl ⟨vs, k, .inl k1, rfl, hw.symm⟩, hj _ σ H2 _ s2 fun u2 H3 s3 => ?_⟩
    have ⟨F3, z3⟩ := s3
    cases z3.fr.2
    cases hr
    obtain ⟨o, g1, g0, vs3, rfl, g3⟩ := z3.at hp.mem
    refine ⟨i, j, rfl, rfl, _, .inl ⟨vs3, k, g1, rfl, by rw [← g3.len]; exact hl, rfl⟩, cc σ _ ⟨F3, ?_⟩⟩
    exact (z3.put1 (o := .dK (putK vs3 k (.int (i + j)))) hp g0 ⟨g0, _, rfl, g3.put k (x := dat (.int (i + j))) (Rp.int _)⟩).weak (.of rfl fun F h => h.1.1.1)
/-- [*xs, ..], xs a list -/
theorem ed_starL {ds es : List PyData} (h : Ev te ρ M x M1) (hx : IsLst x M1 ds) (hr : EvD t ρ M1 es M2) : EvD (tStar K te t) ρ M (ds ++ es) M2 := fun Φ σ H Q s q => h Φ σ H _ s fun v H1 s1 => by
  have ⟨F, z⟩ := s1
  obtain ⟨a, ws, rfl, h1, h2⟩ := hx z z.fr.2
  refine ⟨a, ws, rfl, .inr (sq_of h1), ?_⟩
  have s2 : Sat (Φ.andA (ds.map dat) ws) ρ M1 σ H1 := ⟨F, z.ex, ⟨z.fr.1, DA.of_dat.mpr h2⟩, z.sl, z.nd, z.ce⟩
  exact hr _ σ H1 _ s2 fun vs H2 s3 => q _ _ (s3.weak (.of rfl fun F p => ⟨p.1.1, by rw [List.map_append]; exact DA.append p.1.2 p.2⟩))
/-- list(d): keys that are ints -/
theorem rc_listD {kvs : List (L2.Key × VD)} {ks : List Int} (hx : IsDu x M kvs) (hk : kvs.map (·.1) = ks.map Sum.inl) : RC rListD [x] M (dat (.list (ks.map .int))) M := fun Φ ρ σ vs H Q ⟨F, s⟩ q => by
  obtain ⟨v, rfl, h1⟩ := rc1 (ds := []) s.fr.2
  obtain ⟨a, ws, rfl, h2, h3⟩ := hx s h1
  have e : (ws.map fun kv => kV kv.1) = ks.map V.int := by
    have hz : ∀ {kvs : List (L2.Key × VD)} {ws : List (L2.Key × V)} {ks : List Int}, DP F kvs ws → kvs.map (·.1) = ks.map Sum.inl → (ws.map fun kv => kV kv.1) = ks.map V.int := by
      intro kvs
      induction kvs with
      | nil =>
        intro ws ks h e
        cases h
        cases ks with
        | nil => rfl
        | cons _ _ => simp at e
      | cons p r ih =>
        intro ws ks h e
        cases h with
        | cons g t =>
          cases ks with
          | nil => simp at e
          | cons i ks =>
            simp only [List.map_cons, List.cons.injEq] at e ⊢
            exact ⟨by rw [← g.1, e.1]; rfl, ih t e.2⟩
    exact hz h3 hk
  exact ⟨a, ws, rfl, h2, fun l hl => by rw [e]; exact q _ _ (Sat.retNew (s.weak Le.andA) hl fun F' fx e => .lst e (rpl_ints _))⟩
/-- len(d) -/
theorem rc_lenD {kvs : List (L2.Key × VD)} (hx : IsDu x M kvs) : RC (rLenU K) [x] M (dat (.int (kvs.length : Int))) M := fun Φ ρ σ vs H Q ⟨F, s⟩ q => by
  obtain ⟨v, rfl, h1⟩ := rc1 (ds := []) s.fr.2
  obtain ⟨a, ws, rfl, h2, h3⟩ := hx s h1
  exact .inr ⟨a, ws, rfl, h2, by rw [← h3.len]; exact q _ _ (Sat.ret (s.weak Le.andA) (.int _))⟩
/-- max(xs), ints -/
theorem rc_maxI {m : Int} {ns : List Int} (hx : IsLst x M (ns.map .int)) (hm : m ∈ ns) (hle : ∀ j ∈ ns, j ≤ m) : RC (rMax K) [x] M (dat (.int m)) M := fun Φ ρ σ vs H Q ⟨F, s⟩ q => by
  obtain ⟨v, rfl, h1⟩ := rc1 (ds := []) s.fr.2
  obtain ⟨a, ws, rfl, h2, h3⟩ := hx s h1
  cases h3.ints
  refine ⟨a, ns, rfl, sq_of h2, List.length_pos_of_mem hm, fun i m1 m2 => ?_⟩
  have e : i = m := by have := m2 m hm; have := hle i m1; omega
  subst e
  exact q _ _ (Sat.ret (s.weak Le.andA) (.int _))
end
end Sx

set_option Elab.async false
set_option linter.all false
set_option maxRecDepth 100000
set_option maxHeartbeats 2000000
/-! Sx16: a list of anything == [], != []. -/
namespace L2
open PySem PySem.Spec PyProof.Rows
def rEqEm (K : PySem.W.Frag) : R2 := fun x y H Q => ∃ a b xs, x = .ref a ∧ y = .ref b ∧ SqL K H a xs ∧ SqL K H b [] ∧ Q (.bl xs.isEmpty) H
def rNeEl (K : PySem.W.Frag) : R2 := fun x y H Q => ∃ a b xs, x = .ref a ∧ y = .ref b ∧ SqL K H a xs ∧ SqL K H b [] ∧ Q (.bl (!xs.isEmpty)) H
section
variable {X : Cx}
theorem op_eqEm (hu : X.A.units + 64 < cLine) : OpR X (compareOp .Eq) (rEqEm X.K) := by
  intro pins s σ H x y v u Q I rx ry h
  obtain ⟨a, b, xs, rfl, rfl, ha, hb, q⟩ := h
  cases xs with
  | nil => exact op_eqD hu pins s σ H _ _ v u Q I rx ry ⟨.list [], .list [], .lst ha .nil, .lst hb .nil, rfl, rfl, q⟩
  | cons z zs =>
    cases (show v = Value.ref a from rx)
    cases (show u = Value.ref b from ry)
    obtain ⟨us, r1, p1, _⟩ := I.list ha
    obtain ⟨ws, r2, p2, _⟩ := I.list hb
    refine SeqAt.eq_list_lengthsAt p1.isList p2.isList ?_ (by omega) ⟨.bl _, H, I, rfl, q⟩
    cases r1
    cases r2
    rfl
theorem op_neEl (hu : X.A.units + 64 < cLine) : OpR X (compareOp .NotEq) (rNeEl X.K) := by
  intro pins s σ H x y v u Q I rx ry h
  obtain ⟨a, b, xs, rfl, rfl, ha, hb, q⟩ := h
  cases xs with
  | nil => exact op_neD hu pins s σ H _ _ v u Q I rx ry ⟨.list [], .list [], .lst ha .nil, .lst hb .nil, rfl, rfl, q⟩
  | cons z zs =>
    cases (show v = Value.ref a from rx)
    cases (show u = Value.ref b from ry)
    obtain ⟨us, r1, p1, _⟩ := I.list ha
    obtain ⟨ws, r2, p2, _⟩ := I.list hb
    refine SeqAt.RcNeAt.lists_lengths p1.isList p2.isList ?_ (by omega) _ _ _ _ ⟨.bl _, H, I, rfl, q⟩
    cases r1
    cases r2
    rfl
end
end L2
namespace Sx
open PySem L2 Evl
section
variable {K : PySem.W.Frag} {M : Cells} {x y : VD}
theorem rv_eqEm {xs : List VD} (hx : IsLstV x M xs) (hy : IsLstV y M []) : RV (rEqEm K) x y M (dat (.bool xs.isEmpty)) M := fun Φ ρ σ v w H Q ⟨F, s⟩ q => by
  obtain ⟨a, us, rfl, h1, h2⟩ := hx s s.fr.1.2
  obtain ⟨b, ws, rfl, h3, h4⟩ := hy s s.fr.2
  cases h4
  have e : us.isEmpty = xs.isEmpty := by cases h2 <;> rfl
  exact ⟨a, b, us, rfl, rfl, sq_of h1, sq_of h3, by rw [e]; exact q _ _ (Sat.ret s.base (.bl _))⟩
theorem rv_neEl {xs : List VD} (hx : IsLstV x M xs) (hy : IsLstV y M []) : RV (rNeEl K) x y M (dat (.bool (!xs.isEmpty))) M := fun Φ ρ σ v w H Q ⟨F, s⟩ q => by
  obtain ⟨a, us, rfl, h1, h2⟩ := hx s s.fr.1.2
  obtain ⟨b, ws, rfl, h3, h4⟩ := hy s s.fr.2
  cases h4
  have e : us.isEmpty = xs.isEmpty := by cases h2 <;> rfl
  exact ⟨a, b, us, rfl, rfl, sq_of h1, sq_of h3, by rw [e]; exact q _ _ (Sat.ret s.base (.bl _))⟩
end
end Sx

set_option Elab.async false
set_option linter.all false
set_option maxRecDepth 100000
set_option maxHeartbeats 2000000
/-! Sx17: in, not in over lists and tuples of data of any depth; a list of one's own handed on as data; list(range(n)); methods whose arguments have several outcomes. -/
namespace L2
open PySem PySem.Spec PyProof.Rows
def rInDT (K : PySem.W.Frag) : R2 := fun x y H Q => ∃ d ds, Dp K H x d ∧ Dp K H y (.tuple ds) ∧ d.canLay0 = true ∧ d.depth ≤ 60 ∧ PyData.canLayAll0 ds = true ∧ Q (.bl (ds.any fun z => PyData.eqv z d)) H
def rNotInL (K : PySem.W.Frag) : R2 := fun x y H Q => ∃ d ds, Dp K H x d ∧ Dp K H y (.list ds) ∧ d.canLay0 = true ∧ d.depth ≤ 60 ∧ PyData.canLayAll0 ds = true ∧ Q (.bl (!ds.any fun z => PyData.eqv z d)) H
section
variable {X : Cx}
theorem op_inDT (hu : X.A.units + 64 < cLine) : OpR X (compareOp .In) (rInDT X.K) := by
  intro pins s σ H x y v u Q I rx ry h
  obtain ⟨d, ds, hd, he, sd, sk, se, q⟩ := h
  obtain ⟨as, r1⟩ := Dp.reads I d x v hd rx
  obtain ⟨bs, r2⟩ := Dp.reads I (.tuple ds) y u he ry
  exact SeqAt.in_tuple_reads r2 r1 se sd (by have := Nat.min_le_right (PyData.depthAll ds) d.depth; omega) ⟨.bl _, H, I, rfl, q⟩
theorem op_notInL (hu : X.A.units + 64 < cLine) : OpR X (compareOp .NotIn) (rNotInL X.K) := by
  intro pins s σ H x y v u Q I rx ry h
  obtain ⟨d, ds, hd, he, sd, sk, se, q⟩ := h
  obtain ⟨as, r1⟩ := Dp.reads I d x v hd rx
  obtain ⟨bs, r2⟩ := Dp.reads I (.list ds) y u he ry
  exact SeqAt.notIn_list_reads r2 r1 se sd (by have := Nat.min_le_right (PyData.depthAll ds) d.depth; omega) ⟨.bl _, H, I, rfl, q⟩
end
end L2
namespace Sx
open PySem L2 Evl
section
variable {K : PySem.W.Frag} {ρ ρ' : Env} {M M1 M2 M' : Cells} {x y z : VD} {te ta tb : TE} {p : Addr} {Φ Ψ : Fr}
theorem rv_inDT {d : PyData} {ds : List PyData} (hx : IsDat K x M d) (hy : IsDat K y M (.tuple ds)) (sd : Shp 60 d) (se : PyData.canLayAll0 ds = true) : RV (rInDT K) x y M (dat (.bool (ds.any fun z => PyData.eqv z d))) M := fun Φ ρ σ v w H Q ⟨F, s⟩ q =>
  ⟨d, ds, hx s s.fr.1.2, hy s s.fr.2, sd.1, sd.2, se, q _ _ (Sat.ret s.base (.bl _))⟩
theorem rv_notInL {d : PyData} {ds : List PyData} (hx : IsDat K x M d) (hy : IsDat K y M (.list ds)) (sd : Shp 60 d) (se : PyData.canLayAll0 ds = true) : RV (rNotInL K) x y M (dat (.bool (!ds.any fun z => PyData.eqv z d))) M := fun Φ ρ σ v w H Q ⟨F, s⟩ q =>
  ⟨d, ds, hx s s.fr.1.2, hy s s.fr.2, sd.1, sd.2, se, q _ _ (Sat.ret s.base (.bl _))⟩
/-- list(range(n)), one's own -/
theorem er_listRg1 {n : Nat} (ha : Ev ta ρ M (dat (.int (n : Int))) M1) (hn : n ≤ 16000000) : EvR (tLstRg (tRg1 ta)) ρ M fun y M' => ∃ p, y = val (.ref p) ∧ M' = (p, cLd ((List.range n).map fun i : Nat => PyData.int (i : Int))) :: M1 := fun Φ σ H Q s q => ha Φ σ H _ s fun v H1 ⟨F, s1⟩ => by
  cases s1.fr.2
  refine ⟨(n : Int), rfl, ⟨by omega, by omega, by omega, by omega, by omega⟩, fun l hl => ?_⟩
  refine q _ _ (.ref l) _ ⟨l, rfl, rfl⟩ ?_
  have e : rgV 0 (n : Int) = ((List.range n).map fun i : Nat => (i : Int)).map V.int := by
    unfold rgV
    rw [List.map_map]
    have : ((n : Int) - 0).toNat = n := by omega
    rw [this]
    apply List.map_congr_left
    intro i _
    show V.int (0 + (i : Int)) = V.int (i : Int)
    rw [Int.zero_add]
  have e2 : ((List.range n).map fun i : Nat => PyData.int (i : Int)) = ((List.range n).map fun i : Nat => (i : Int)).map PyData.int := by rw [List.map_map]; rfl
  have z := (s1.weak Le.and).newC (p := l) (c := cLd ((List.range n).map fun i : Nat => PyData.int (i : Int))) (o := .lst (rgV 0 (n : Int))) hl fun h => ⟨h, _, rfl, by rw [e, e2]; exact rpl_ints _⟩
  exact ⟨F, z.ex, ⟨z.fr, rfl⟩, z.sl, z.nd, z.ce⟩
/-- a list of one's own, handed on as data -/
theorem ev_frz {ds : List PyData} (h : Ev te ρ M (val (.ref p)) ((p, cLd ds) :: M')) : Ev te ρ M (dat (.list ds)) M' := fun Φ σ H Q s q => h Φ σ H _ s fun v H' s' => by
  have ⟨F0, s0⟩ := s'.cell (c' := cL (ds.map dat)) cLd_cL
  have e : v = .ref p := s0.fr.2
  obtain ⟨F, z⟩ := SatF.freeze s0.inN
  subst e
  exact q _ H' ⟨F, z.ex, ⟨z.fr.1.1, vlst_dat.mp z.fr.2⟩, z.sl, z.nd, z.ce⟩
theorem er_methR {n : Nat} {S : FSpec} {P : VD → Cells → Prop} {Pa : List VD → Cells → Prop} {E : XK} {C : Addr} {m : Str} {t : TA} {ns : List Str} {xs : List VD} (ho : Ev ta ρ M (val (.ref p)) M1) (hm : (p, cI C ns xs) ∈ M1) (hf : m ∉ ns) (h : EvAR t ρ M1 Pa) (hS : ∀ ds M2, Pa ds M2 → ds.length + 1 = n ∧ S (val (.ref p) :: ds) M2 P) : EvR (tMeth C m (spF n S) [] E ta t) ρ M P := fun Φ σ H Q s q =>
  ho Φ σ H _ s fun v H1 s1 => by
    have ⟨F, s2⟩ := s1
    have e : v = .ref p := s2.fr.2
    obtain ⟨o, h1, h0, dx, fs, rfl, h3⟩ := s2.at hm
    refine ⟨p, dx, fs, e, h1, h3.lookup_none hf, h _ σ H1 _ s1 fun ds M2 vs H2 hp s3 => ?_⟩
    obtain ⟨hn, hS⟩ := hS ds M2 hp
    have ⟨F', s4⟩ := s3
    have hl := Paired.length s4.fr.2
    rw [List.append_nil]
    exact ⟨Φ, ρ, σ, val (.ref p) :: ds, M2, P, s3.weak (.of rfl fun F h => ⟨h.1.1, .cons h.1.2 h.2⟩), by rw [List.length_cons, ← hl]; exact hn, hS, fun x M' v H' hp s' => q x M' v H' hp s'⟩
theorem er_callR {n : Nat} {S : FSpec} {P : VD → Cells → Prop} {Pa : List VD → Cells → Prop} {E : XK} {t : TA} (h : EvAR t ρ M Pa) (hS : ∀ ds M2, Pa ds M2 → ds.length = n ∧ S ds M2 P) : EvR (tCall (spF n S) [] E t) ρ M P := fun Φ σ H Q s q =>
  h Φ σ H _ s fun ds M2 vs H1 hp s1 => by
    obtain ⟨hn, hS⟩ := hS ds M2 hp
    have ⟨F, s2⟩ := s1
    have hl := Paired.length s2.fr.2
    rw [List.append_nil]
    exact ⟨Φ, ρ, σ, ds, M2, P, s1, by rw [← hl]; exact hn, hS, fun x M' v H' p s' => q x M' v H' p s'⟩
end
end Sx

set_option Elab.async false
set_option linter.all false
set_option maxRecDepth 100000
set_option maxHeartbeats 2000000
/-! Sx18: xs.index(o), instances that have no == of their own. -/
namespace HN
open PySem PySem.Spec PyProof.Rows PySem.SeqAt
section
variable {M : Model} {prog : Program} {w : World} {A : Around} {E : Value → Shared → Prop} {s : Shared} {K : PySem.W.Frag} {x y C : Addr} {ox oy : Obj} {od od2 : Option Obj}
theorem call_objEq2 {Q : Value → Shared → Prop} (X : K.In s.heap) (I : PySem.W.InstAt s.heap x ox C od) (hx : s.heap.get? x = some ox) (hy : s.heap.get? y = some oy) (hnt : ox.cls ≠ .type "tuple") (hne : x ≠ y) (hm : PySem.W.mroIn K C (.type "object") = some true) (hq : Q .notImplemented s) :
    wpAny (model prog w) A (call (.builtin "object.__eq__") [.ref x, .ref y]) Q E s :=
  wpAny_call (codeAny_call_builtin F.cmp_object.eq.plain F.cmpEntry_eq (PySem.W.check_slot F.cmpKind_eq F.cmpSplit_eq (I.type.andThen (PySem.W.looks_mroIn X hm)) (F.cmpArgs_eq _ _) (objEq_entry_other hne hx hy hnt hq)))
theorem rc_ins (hu : A.units < cLine) (X : K.In s.heap) (I : PySem.W.InstAt s.heap x ox C od) (J : PySem.W.InstAt s.heap y oy C od2) (hx : s.heap.get? x = some ox) (hy : s.heap.get? y = some oy) (hxt : ox.cls ≠ .type "tuple") (hyt : oy.cls ≠ .type "tuple") (hne : x ≠ y) (hm : PySem.W.mroIn K C (.type "object") = some true) (hs : PySem.W.findIn K (.ref C) "__eq__" = some (some (.builtin "object.__eq__"))) :
    RcAt A s (.ref x) (.ref y) false := fun prog w E Q h => by
  have one : wpAny (model prog w) A (tryCompare (.ref x) "__eq__" (.ref y)) (fun r s' => r = none ∧ s' = s) E s := by
    unfold tryCompare
    exact wpAny_bind (ifBound_objEq X I hs (call_objEq2 X I hx hy hxt hne hm (wpAny_pure ⟨rfl, rfl⟩)))
  have two : wpAny (model prog w) A (tryCompare (.ref y) "__eq__" (.ref x)) (fun r s' => r = none ∧ s' = s) E s := by
    unfold tryCompare
    exact wpAny_bind (ifBound_objEq X J hs (call_objEq2 X J hy hx hyt hne.symm hm (wpAny_pure ⟨rfl, rfl⟩)))
  simp only [richCompare, cmpInfo_Eq, oneThing_ref]
  refine wpAny_holding (wpAny_bind (wpAny_cRoomFor hu ?_))
  refine wpAny_bind (I.type.here ?_)
  refine wpAny_bind (J.type.here ?_)
  split
  · rename_i q
    exact absurd q (by simp)
  · refine wpAny_bind (wpAny_pure ?_)
    simp only [Bool.false_eq_true, if_false, Bool.not_false, if_true]
    refine wpAny_bind (m := tryCompare (.ref x) _ (.ref y)) (wpAny_mono one (fun r s1 z => ?_) fun _ _ e => e)
    obtain ⟨z1, z2⟩ := z
    subst z1
    subst z2
    refine wpAny_bind (m := tryCompare (.ref y) _ (.ref x)) (wpAny_mono two (fun r s2 z => ?_) fun _ _ e => e)
    obtain ⟨z1, z2⟩ := z
    subst z1
    subst z2
    refine wpAny_bind (wpAny_rule (wpAny_bind (wpAny_isSame_ref_other hne hx hy hxt ?_)))
    exact wpAny_pure h
end
end HN
namespace L2
open PySem PySem.Spec PyProof.Rows
/-- l.index(o), instances without an == of their own -/
def rIndexI (K : PySem.W.Frag) : V → List V → Hp → VK → Prop := fun x xs H Q => ∃ (a : Addr) (ys : List Addr) (b : Addr) (j : Nat) (C : Addr), x = V.ref a ∧ xs = [V.ref b] ∧ SqL K H a (ys.map V.ref) ∧ ys[j]? = some b ∧ (∀ m, m < j → ys[m]? ≠ some b) ∧ (∀ c ∈ ys, ∃ dx fs, H c = some (.ins C dx fs)) ∧
  PySem.W.mroIn K C (.type "object") = some true ∧ PySem.W.findIn K (.ref C) "__eq__" = some (some (.builtin "object.__eq__")) ∧ Q (.int (j : Nat)) H
def isRef (b : Addr) : Value → Bool
  | .ref c => decide (c = b)
  | _ => false
theorem vals_refsI {its : List Value} : ∀ {ys : List Addr}, Vals (ys.map V.ref) its → its = ys.map Value.ref := by
  induction its with
  | nil =>
    intro ys h
    cases ys with
    | nil => rfl
    | cons _ _ => cases h
  | cons u us ih =>
    intro ys h
    cases ys with
    | nil => cases h
    | cons y ys =>
      cases h with
      | cons r t =>
        cases r
        rw [ih t]
        rfl
section
variable {X : Cx}
theorem eq_insI {A : Around} {pins : List (Addr × Obj)} {σ : St} {H : Hp} {s : Shared} (I : Inv X pins σ H s) (hu : A.units < cLine) {c b C : Addr} (hm : PySem.W.mroIn X.K C (.type "object") = some true) (hf : PySem.W.findIn X.K (.ref C) "__eq__" = some (some (.builtin "object.__eq__")))
    (h1 : ∃ dx fs, H c = some (.ins C dx fs)) (h2 : ∃ dx fs, H b = some (.ins C dx fs)) : SeqAt.EqAt A s (.ref c) (.ref b) (isRef b (.ref c)) := by
  by_cases e : c = b
  · subst e
    rw [show isRef c (.ref c) = true from decide_eq_true rfl]
    exact SeqAt.EqAt.same _
  · rw [show isRef b (.ref c) = false from decide_eq_false e]
    obtain ⟨d1, f1, g1⟩ := h1
    obtain ⟨d2, f2, g2⟩ := h2
    obtain ⟨m1, O1, _⟩ := ins_get I.hok g1
    obtain ⟨o1, J1, _⟩ := O1.look
    obtain ⟨m2, O2, _⟩ := ins_get I.hok g2
    obtain ⟨o2, J2, _⟩ := O2.look
    exact SeqAt.EqAt.of_refs e (HN.rc_ins hu I.kIn J1 J2 J1.at_ J2.at_ (by rw [J1.cls]; simp) (by rw [J2.cls]; simp) e hm hf)
theorem mt_indexI (hu : X.A.units + 64 < cLine) : MtR X "list.index" (rIndexI X.K) := by
  intro pins s σ H x xs v us Q I rx rxs h
  obtain ⟨a, ys, b, j, C, rfl, rfl, hs, hj, hno, hins, hm, hf, q⟩ := h
  cases rx
  cases rxs with
  | cons ry rt =>
    cases rt
    cases ry
    obtain ⟨its, rv, ⟨⟨cls, dd, data, sl⟩, n, ho, hc, hdn, hd⟩, hlen⟩ := I.list hs
    simp only at hc hd
    subst hc hd
    have hits := vals_refsI rv
    subst hits
    obtain ⟨hjl, hje⟩ := List.getElem?_eq_some_iff.mp hj
    have hsl := sizeLine_eq
    rw [List.length_map] at hlen
    have hb : ∃ dx fs, H b = some (.ins C dx fs) := hins b (List.mem_of_getElem? hj)
    have hjs : j < (ys.map Value.ref).toArray.size := by simpa using hjl
    refine call_meets PySem.F.slot_list_index ⟨_, ho, rfl⟩ PySem.F.entry_list_index (PySem.F.args_list_index_2 _ _)
      (SeqAt.list_indexAt a (ys.map Value.ref).toArray n dd sl (.ref b) (isRef b) j hjs (by omega) ?_ ?_) ⟨ho, fun u' hu' => ?_, ?_⟩
    · have e1 : (ys.map Value.ref).toArray[j] = .ref b := by simp [hje]
      rw [e1]
      exact decide_eq_true rfl
    · intro m hm' hmj
      have hml : m < ys.length := by simpa using hm'
      have e1 : (ys.map Value.ref).toArray[m] = .ref ys[m] := by simp
      rw [e1]
      refine decide_eq_false fun e => hno m hmj ?_
      rw [List.getElem?_eq_getElem hml, e]
    · have hu' : u' ∈ ys.map Value.ref := by simpa using hu'
      obtain ⟨c, hc, rfl⟩ := List.mem_map.mp hu'
      exact eq_insI I (show X.A.in1.units < cLine by show X.A.units + 1 < cLine; omega) hm hf (hins c hc) hb
    · exact ⟨.int (j : Nat), H, I.tok _, ⟨_, rfl⟩, q⟩
end
end L2
namespace Sx
open PySem L2 Evl
section
variable {K : PySem.W.Frag} {ρ ρ' : Env} {M M1 M2 M3 M' : Cells} {x y z : VD} {te ta tb : TE} {p : Addr} {Φ Ψ : Fr}
theorem da_refs {F : Hp} : ∀ {ps : List Addr} {ws : List V}, DA F (ps.map fun q => val (.ref q)) ws → ws = ps.map V.ref
  | [], _, h => by cases h; rfl
  | a :: ps, _, h => by
    cases h with
    | cons g t =>
      have g : _ = V.ref a := g
      rw [da_refs t, g]; rfl
theorem rm_indexI {ps : List Addr} {b C : Addr} {j : Nat} (hx : IsLstV x M (ps.map fun q => val (.ref q))) (hj : ps[j]? = some b) (hno : ∀ m, m < j → ps[m]? ≠ some b) (hins : ∀ c ∈ ps, ∃ ns xs, (c, cI C ns xs) ∈ M) (hm : PySem.W.mroIn K C (.type "object") = some true) (hf : PySem.W.findIn K (.ref C) "__eq__" = some (some (.builtin "object.__eq__"))) :
    RM (rIndexI K) x [val (.ref b)] M (dat (.int (j : Int))) M := fun Φ ρ σ v vs H Q ⟨F, s⟩ q => by
  obtain ⟨a, ws, rfl, h1, h2⟩ := hx s s.fr.1.2
  obtain ⟨u, rfl, hu⟩ := rc1 (ds := []) s.fr.2
  have hu : u = .ref b := hu
  subst hu
  have e := da_refs h2
  subst e
  refine ⟨a, ps, b, j, C, rfl, rfl, sq_of h1, hj, hno, fun c hc => ?_, hm, hf, q _ _ (Sat.ret (s.weak (.of rfl fun _ h => h.1.1)) (.int _))⟩
  obtain ⟨ns, xs, hc⟩ := hins c hc
  obtain ⟨o, k1, k0, dx, fs, rfl, _⟩ := s.at hc
  exact ⟨dx, fs, k1⟩
theorem da_cut {F : Hp} : ∀ {ds : List VD} {ws : List V} (n k : Nat), DA F ds ws → DA F ((ds.drop n).take k) ((ws.drop n).take k)
  | _, _, n, 0, _ => by rw [List.take_zero, List.take_zero]; exact .nil
  | _, _, n, k + 1, .nil => by simp; exact .nil
  | _, _, 0, k + 1, .cons r t => .cons r (da_cut 0 k t)
  | _, _, n + 1, k + 1, .cons r t => da_cut n (k + 1) t
/-- a slice of a list of anything -/
theorem ev_slLV {te : TE} {tl th : TO} {lo hi : Option Int} {ds : List VD} (h : Ev te ρ M x M1) (h1 : EvO tl ρ M1 lo M2) (h2 : EvO th ρ M2 hi M3) (hx : IsLstV x M3 ds) : Ev (tSl (rSlU K) te tl th) ρ M (vlst (cutD ds lo hi)) M3 := fun Φ σ H Q s q =>
  h Φ σ H _ s fun v H1 s1 => h1 _ σ H1 _ s1 fun H2 s2 => h2 _ σ H2 _ s2 fun H3 ⟨F, s3⟩ => by
    obtain ⟨a, ws, rfl, h1, h2⟩ := hx s3 s3.fr.2
    refine .inl ⟨a, ws, rfl, sq_of h1, fun p hp => q _ _ (Sat.retNew (s3.weak Le.and) hp fun F' fx e => ⟨p, _, rfl, e, ?_⟩)⟩
    have hl := Paired.length h2
    unfold cutV cutD
    rw [← hl]
    exact (da_cut _ _ h2).mono fx
end
end Sx

set_option Elab.async false
set_option linter.all false
set_option maxRecDepth 100000
set_option maxHeartbeats 4000000
/-! Sx19: len(set(xs)) of a tuple of texts, any of them alike. -/
namespace L2
open PySem PySem.Spec PyProof.Rows
/-- how many unlike texts -/
def unl (l : List Str) : List Str := l.foldl (fun acc x => if acc.any (· == x) then acc else x :: acc) []
def dcn (l : List Str) : Nat := (unl l).length
theorem unl_snoc (l : List Str) (x : Str) : unl (l ++ [x]) = if (unl l).any (· == x) then unl l else x :: unl l := by simp [unl, List.foldl_append]
theorem snoc_ind {p : List Str → Prop} (h0 : p []) (h1 : ∀ l x, p l → p (l ++ [x])) (l : List Str) : p l := by
  have h : ∀ r : List Str, p r.reverse := by
    intro r
    induction r with
    | nil => exact h0
    | cons x r ih => rw [List.reverse_cons]; exact h1 _ _ ih
  have q := h l.reverse
  rwa [List.reverse_reverse] at q
theorem unl_any (x : Str) : ∀ l : List Str, (unl l).any (· == x) = l.any (· == x) := by
  intro l
  refine snoc_ind (p := fun l => (unl l).any (· == x) = l.any (· == x)) rfl (fun l y ih => ?_) l
  · rw [unl_snoc, List.any_append, ← ih]
    by_cases h : (unl l).any (· == y) = true
    · rw [if_pos h]
      by_cases e : y = x
      · subst e; rw [h]; simp
      · simp [e]
    · rw [if_neg h]
      simp [Bool.or_comm]
theorem dcn_snoc (l : List Str) (x : Str) : dcn (l ++ [x]) = if l.any (· == x) then dcn l else dcn l + 1 := by
  unfold dcn
  rw [unl_snoc, unl_any]
  split <;> simp
theorem dcn_le : ∀ l : List Str, dcn l ≤ l.length := by
  intro l
  refine snoc_ind (p := fun l => dcn l ≤ l.length) (Nat.le_refl _) (fun l y ih => ?_) l
  · rw [dcn_snoc, List.length_append]
    split <;> simp <;> omega
theorem dcn_nodup : ∀ l : List Str, l.Nodup → dcn l = l.length := by
  intro l
  refine snoc_ind (p := fun l => l.Nodup → dcn l = l.length) (fun _ => rfl) (fun l y ih => ?_) l
  · intro h
    rw [dcn_snoc, List.length_append]
    have h2 := List.nodup_append.mp h
    have hn : ¬ (l.any (· == y) = true) := by
      simp only [List.any_eq_true, beq_iff_eq, not_exists, not_and]
      intro z hz e
      subst e
      exact h2.2.2 z hz z (by simp) rfl
    rw [if_neg hn, ih h2.1]
    rfl
section
variable {prog : Program} {w : World} {A : Around} {R : Result → Shared → Prop} {I : Addr} {fp wr : List Addr} {G : Array GenState → Array GenState → Prop} {n : Nat} {P : Nat → Value → Prop} {St : Nat → Shared → Prop}
theorem upd_strs (W : WalksS prog w A.in1 I fp wr G n P St) (S : Addr) (out : S ∉ fp) (xs : List Str) (many : xs.length = n) (few : n + 1 < scanBound)
    (vl : ∀ i v, P i v → ∃ x t, xs[i]? = some x ∧ v = .str x t) :
    ∀ (k i : Nat) (s : Shared), n - i = k → i ≤ n → St i s → s.heap.SetOf (PySem.strKind prog w) S (fun y => (xs.take i).any (· == y)) (dcn (xs.take i)) →
      (∀ s', Moved (S :: wr) G s s' → s'.heap.SetOf (PySem.strKind prog w) S (fun y => (xs.take n).any (· == y)) (dcn (xs.take n)) → R (.ok (.ret .none)) s') →
      codeAny (model prog w) A (.builtin "set.update.loop" ⟨[.ref S, .ref I], []⟩) R s
  | 0, i, s, hk, hi, st, hS, q => by
    obtain rfl : i = n := by omega
    refine codeAny_builtin F.entry_set_update_loop ?_
    rw [Around.under_plainId F.plain_set_update_loop _]
    refine wpAny_bind (m := pyNext (.ref I)) (W.done s _ _ st fun s1 mv => wpAny_pure (q s1 (mv.mono fun b hb => List.mem_cons_of_mem _ hb) ?_))
    have ⟨o, es, ep, t, ho, rest⟩ := hS
    exact ⟨o, es, ep, t, mv.heap S _ (fun z => out (W.sub _ z)) ho, rest⟩
  | k + 1, i, s, hk, hi, st, hS, q => by
    have lt : i < n := by omega
    refine codeAny_builtin F.entry_set_update_loop ?_
    rw [Around.under_plainId F.plain_set_update_loop _]
    refine wpAny_bind (m := pyNext (.ref I)) (W.item i s _ _ lt st fun v s1 pv st1 mv => ?_)
    obtain ⟨x, t, hx, rfl⟩ := vl i v pv
    have tk : xs.take (i + 1) = xs.take i ++ [x] := by rw [List.take_add_one, hx]; rfl
    have S1 : s1.heap.SetOf (PySem.strKind prog w) S (fun y => (xs.take i).any (· == y)) (dcn (xs.take i)) := by
      have ⟨o, es, ep, tb, ho, rest⟩ := hS
      exact ⟨o, es, ep, tb, mv.heap S _ (fun z => out (W.sub _ z)) ho, rest⟩
    have room : dcn (xs.take i) + 1 < scanBound := by
      have := dcn_le (xs.take i)
      rw [List.length_take] at this
      omega
    refine wpAny_bind (m := holding [Value.str x t] (setAdd S (.str x t))) (wpAny_holding ?_)
    unfold setAdd
    refine wpAny_holding (wpAny_bind ((PySem.strKind prog w).pyHash (k := x) (strKind_is _ _ _ _) (wpAny_setAddHashed_of (knd := PySem.strKind prog w) (s := { s1 with toks := s1.toks + 1 }) (strKind_is _ _ _ _) rfl S1 room fun g sb S2 => ?_)))
    have S3 : g.SetOf (PySem.strKind prog w) S (fun y => (xs.take (i + 1)).any (· == y)) (dcn (xs.take (i + 1))) := by
      refine SetOf_congr S2 (fun y => ?_) ?_
      · rw [tk, List.any_append]
        by_cases e : y = x
        · subst e; simp
        · have e2 : ¬ x = y := fun z => e z.symm
          simp [e, e2]
      · rw [tk, dcn_snoc]
    refine wpAny_pure ⟨plainId_quiet F.plain_set_update_loop _, upd_strs W S out xs many few vl k (i + 1) _ (by omega) lt (W.frame _ s1 _ _ st1 (Nat.le_succ _) fun b hb o e => ?_) S3 fun s2 mv2 hS2 => ?_⟩
    · rw [sb.2 b (fun z : b = S => out (z ▸ hb))]; exact e
    · refine q s2 (Moved.trans W.gtrans ((mv.mono fun b hb => List.mem_cons_of_mem _ hb).then_heap (Nat.le_succ _) fun b o hb e => ?_) mv2) hS2
      rw [sb.2 b (fun z : b = S => hb (z ▸ List.mem_cons_self))]; exact e
end
section
variable {P : Program} {w : World} {A : Around} {E : Value → Shared → Prop} {s : Shared}
set_option maxRecDepth 100000 in
theorem set_of_tupS {l : Addr} {us : Array Value} (ns : List Str) {Q : Value → Shared → Prop} (hh : A.handled = none) (hl : s.heap.IsTuple l us) (hu : StrsAre us.toList ns) (hb : ns.length + 1 < scanBound)
    (k : ∀ (g : Heap) (tk : Nat), g.SetOf (PySem.strKind P w) s.heap.objs.size (fun y => ns.any (· == y)) (dcn ns) → (∀ b o, s.heap.get? b = some o → g.get? b = some o) → Q (.ref s.heap.objs.size) { s with heap := g, toks := tk }) :
    wpAny (model P w) A (call (.type "set") [.ref l]) Q E s := by
  have many : us.size = ns.length := by have q := StrsAre.len_eq hu; rw [Array.length_toList] at q; exact q
  have ⟨c, tl, m0⟩ := F.called_set.mro
  have m1 := F.called_set.made; have m2 := F.called_set.sub; have m3 := F.called_set.notType; have m4 := F.called_set.canCreate; have m5 := F.typeCall_set_1 (.ref l)
  refine wpAny_call (codeAny_of_tree (wpAny_pure ⟨Code.quiet_builtin _ (by decide +kernel), codeAny_builtin F.entry_type_call ?_⟩))
  rw [Around.under_plain (weight_type_call_type "set" [.ref l] []) rfl]
  repeat (any_goals (first | wp_step | assumption))
  refine codeAny_mono (code_set_led1 (.ref l) (E := E) (Q₁ := fun ob s1 => ob = .ref s.heap.objs.size ∧ s1 = { s with heap := s.heap.push (nso w) }) ⟨rfl, rfl⟩) fun r s1 hr => ?_
  rcases r with e | (_ | _ | _ | ob)
  · exact hr
  iterate 3 exact hr.elim
  obtain ⟨rfl, rfl⟩ := hr
  have at0 : (s.heap.push (nso w)).get? s.heap.objs.size = some (nso w) := Heap.get?_push_size _ rfl
  have ty0 : Shared.TypeIs { s with heap := s.heap.push (nso w) } (.ref s.heap.objs.size) "set" := ⟨_, at0, rfl⟩
  have m6 := F.called_set.init.lookup; have m7 := F.called_set.init.bind (.ref s.heap.objs.size)
  repeat (any_goals (first | wp_step | assumption))
  refine codeAny_mono (codeAny_call_builtin (R := wants (fun r s2 => r = .none ∧ ∃ g tk, s2 = { s with heap := g, toks := tk } ∧ g.SetOf (PySem.strKind P w) s.heap.objs.size (fun y => ns.any (· == y)) (dcn ns) ∧ ∀ b o, s.heap.get? b = some o → g.get? b = some o) E) F.called_set.init.plain F.entry_set_init (check_set_init_1 ty0 ?_)) fun r2 s2 hr2 => ?_
  · have ⟨⟨lc, ld, lda, ls⟩, hol, hcl, nl, hdl⟩ := hl
    simp only at hcl hdl; subst hcl; subst hdl
    have hol2 : (s.heap.push (nso w)).get? l = some { cls := .type "tuple", dict := ld, data := .seq us nl, slots := ls } := Heap.get?_push_of_some _ hol
    have m8 := F.sub_tuple_set; have m9 := F.sub_tuple_frozenset; have mA : (Value.type "tuple" == Value.type "dict") = false := by decide
    have li : (s.heap.push (nso w)).IsTuple l us := ⟨_, hol2, rfl, nl, rfl⟩
    unfold Builtin.«set.__init__» noKeywords Builtin.Frozenset.updateFrom; generalize hPI : pyIter = PI; wp_walk; subst hPI
    refine wpAny_pyIter_tuple li (wpAny_bind (wpAny_runValue ?_))
    have lt := Heap.lt_size hol; have n1 : (s.heap.push (nso w)).objs.size = s.heap.objs.size + 1 := Heap.size_push ..
    have d1 : ¬ l = (s.heap.push (nso w)).objs.size := n1 ▸ Nat.ne_of_lt (Nat.lt_succ_of_lt lt)
    have d2 : s.heap.objs.size ∉ [(s.heap.push (nso w)).objs.size, l] := by rw [n1]; intro z; rcases List.mem_cons.mp z with z | z; exact Nat.ne_of_lt (Nat.lt_succ_self _) z; exact Nat.ne_of_gt lt (List.mem_singleton.mp z)
    have vl : ∀ (i : Nat) (v : Value), us[i]? = some v → ∃ x t, ns[i]? = some x ∧ v = .str x t := fun i v hv => by
      have hi : i < ns.length := by have := (Array.getElem?_eq_some_iff.mp hv).1; omega
      have ⟨t, e⟩ := SS.strs_at hu i v (by rw [Array.getElem?_toList, hv])
      exact ⟨ns[i], t, by simp [hi], by rw [e]; simp [hi]⟩
    have S0 : ((s.heap.push (nso w)).push { cls := .type "tuple_iterator", data := .fields #[.ref l, .int 0 0] }).SetOf (PySem.strKind P w) s.heap.objs.size (fun y => (ns.take 0).any (· == y)) (dcn (ns.take 0)) :=
      SetOf_congr ((setObjOf_fresh (knd := PySem.strKind P w) _).setOf (Heap.get?_push_of_some _ at0) (by unfold scanBound; omega)) (fun _ => rfl) rfl
    refine upd_strs ((Walks.tuple (show A.in1.in1.in1.handled = none by simp [hh]) _ l d1 us).toS) s.heap.objs.size d2 ns many.symm (by omega) vl (us.size - 0) 0 _ (by omega) (Nat.zero_le _) ⟨⟨_, Heap.get?_push_size _ rfl, rfl, rfl⟩, li.push _⟩ S0 ?_
    rintro ⟨g, g2, d, tk, os⟩ mv hS
    obtain rfl : g2 = s.gens := mv.gens
    obtain rfl : d = s.drawn := mv.drawn
    obtain rfl : os = s.os := mv.os
    rw [many, List.take_length] at hS
    refine wpAny_pure ?_; show wpAny _ _ (ret Value.none) _ _ _
    refine wpAny_pure ⟨rfl, g, tk, rfl, hS, fun b o e => mv.heap b o ?_ (Heap.get?_push_of_some _ (Heap.get?_push_of_some _ e))⟩
    have bl := Heap.lt_size e; rw [n1]; intro z; rcases List.mem_cons.mp z with z | z; exact Nat.ne_of_lt bl z; exact Nat.ne_of_lt (Nat.lt_succ_of_lt bl) (List.mem_singleton.mp z)
  rcases r2 with e | (_ | _ | _ | ob)
  · exact hr2
  iterate 3 exact hr2.elim
  obtain ⟨rfl, g, tk, rfl, z⟩ := hr2
  repeat (any_goals (first | wp_step | assumption))
  exact k _ _ z.1 z.2
end
section
variable {X : Cx}
/-- len(set(xs)), xs a tuple of fewer than 64 texts -/
def tLenSetT (K : PySem.W.Frag) (ta : TE) : TE := fun σ H Q => ta σ H fun x H1 => ∃ l, ∃ xs : List Str, x = .ref l ∧ SqT K H1 l (xs.map V.str) ∧ xs.length < 64 ∧ Q (.int (dcn xs)) H1
theorem pe_lenSetT {a : Expr} {ta : TE} {p p2 q pos : Pos} (hc : X.calm = true) (hg : Gl X "len") (hm : X.mg "len" = none) (hg2 : Gl X "set") (hm2 : X.mg "set" = none) (ha : PE X a ta)
    (na : starEach [a] X.env = (false, eval a X.env) :: starEach [] X.env := by rfl) : PE X (.Call (.Name "len" p) [.Call (.Name "set" p2) [a] [] q] [] pos) (tLenSetT X.K ta) := ⟨fun pins s σ H Q I h => by
  refine Call_ (ld_blt I hg hm boot_len (callWith_builtin1 (args_cons (Call_ (ld_blt I hg2 hm2 boot_set ?_)) rfl) rfl rfl))
  refine callWith_type1 (args_cons (thn (ha.run pins s σ H _ I h) fun v s1 ⟨x, H1, I1, r1, l, xs, e, hq, few, q1⟩ => args_nil ?_) na) na rfl
  subst e
  cases r1
  obtain ⟨its, r, pl, hz⟩ := I1.tuple hq
  refine set_of_tupS xs (I1.ok.hd hc) pl (by simpa using strsAre_of r) (by unfold scanBound; omega) fun g tk hS hk => args_nil ?_
  have ⟨o, es, ep, t, ho, hex, hd, _, _, _, hf, hn⟩ := hS
  have I2 : Inv X pins σ H1 { s1 with heap := g, toks := tk } := I1.kept hk
  have lo : dcn xs ≤ xs.length := dcn_le xs
  exact call_len_set ho hex hd hf (by rw [hn] <;> omega) ⟨.int (dcn xs), H1, I2.tok _, ⟨_, by rw [hn]⟩, q1⟩⟩
end
end L2
namespace Sx
open PySem L2 Evl
variable {K : PySem.W.Frag} {ρ : Env} {M M' : Cells}
theorem ev_lenSetT {xs : List Str} {ta : TE} (h : Ev ta ρ M (dat (.tuple (xs.map PyData.str))) M') (few : xs.length < 64) : Ev (tLenSetT K ta) ρ M (dat (.int (dcn xs))) M' := fun Φ σ H Q s q => h Φ σ H _ s fun v H1 s1 => by
  have ⟨F1, z1⟩ := s1
  have hv := z1.fr.2
  cases hv with
  | tup h1 h2 =>
    obtain rfl := RpL.strs h2
    exact ⟨_, xs, rfl, .inl (.inl (z1.ex _ _ h1)), few, q _ _ (Sat.ret (z1.weak Le.and) (.int _))⟩
end Sx

set_option Elab.async false
set_option linter.all false
set_option maxRecDepth 100000
set_option maxHeartbeats 2000000
/-! Sx20: instances and dicts that stay; walks of dicts. -/
namespace L2
open PySem
section
variable {X : Cx}
/-- what was made is locked for good -/
def tFz (t : TE) : TE := fun σ H Q => t σ H fun x H1 => ∃ d u, x = .ref d ∧ H1 d = some u ∧ Mut (some u) ∧ ∀ od, Q x (upd H1 d (.frz od u))
theorem pe_fz {e : Expr} {t : TE} (h : PE X e t) : PE X e (tFz t) := ⟨fun pins s σ H Q I q => thn (h.run pins s σ H _ I q) fun v s1 ⟨x, H1, I1, r, d, u, ex, hd, mu, q1⟩ => by
  obtain ⟨od, I2⟩ := I1.lock hd mu
  exact ⟨x, _, I2, r, q1 od⟩⟩
end
end L2
namespace Sx
open PySem L2 Evl
section
variable {K : PySem.W.Frag} {ρ ρ' : Env} {M M1 M2 M' : Cells} {x y : VD} {te ta tb td : TE} {t : TA} {Φ Φ0 : Fr} {p C : Addr} {ns ns' : List Str} {xs : List VD} {f : Str} {kvs : List (L2.Key × VD)} {P P' : VD → Cells → Prop}
/-- a cell goes to the frozen part, as o -/
theorem SatF.toF {F H H' : Hp} {σ : L2.St} {q : Addr} {c : CD} {o : HO} (s : SatF F (Φ.more (q, c)) ρ M σ H) (h0 : F q = none) (h1 : H' q = some o) (h2 : ∀ a, a ≠ q → H' a = H a) : SatF (upd F q o) Φ ρ M σ H' ∧ Fx F (upd F q o) := by
  have fx : Fx F (upd F q o) := Fx.of (Ex.new h0)
  have hsub : (M ++ Φ.N).Sublist (M ++ (Φ.more (q, c)).N) := List.Sublist.append (List.Sublist.refl M) (List.sublist_cons_self _ _)
  refine ⟨⟨fun a u e => ?_, Φ.mono fx s.fr, s.sl.mono fx, s.nd.sublist (hsub.map _), fun d hd => ?_⟩, fx⟩
  · by_cases h : a = q
    · subst h; rw [upd_same] at e; cases e; exact h1
    · rw [upd_ne h] at e; rw [h2 a h]; exact s.ex a u e
  · obtain ⟨u, k1, k2⟩ := s.ce d (hsub.subset hd)
    have hne : d.1 ≠ q := fun e => by
      have hp : (M ++ (Φ.more (q, c)).N).Perm ((q, c) :: (M ++ Φ.N)) := List.perm_middle
      have nd2 := (hp.map (·.1)).nodup_iff.mp s.nd
      rw [List.map_cons, List.nodup_cons] at nd2
      exact nd2.1 (List.mem_map.mpr ⟨d, hd, e⟩)
    exact ⟨u, by rw [h2 _ hne]; exact k1, d.2.mono fx (upd_ne hne) k2⟩
/-! ### instances that stay -/
def vin (C : Addr) (ns : List Str) (xs : List VD) : VD := ⟨fun F v => ∃ a dx fs, v = .ref a ∧ F a = some (.ins C dx fs) ∧ FA F ns xs fs, fun e ⟨a, dx, fs, h1, h2, h3⟩ => ⟨a, dx, fs, h1, e.pl _ _ h2 rfl, h3.1, DA.mono e h3.2⟩⟩
theorem ev_frzI (h : Ev te ρ M (val (.ref p)) ((p, cI C ns xs) :: M')) : Ev te ρ M (vin C ns xs) M' := fun Φ σ H Q s q => h Φ σ H Q s fun v H' s' => by
  have ⟨F, z⟩ := s'.aside
  have e : v = .ref p := z.fr.2
  obtain ⟨o, h1, h0, dx, fs, rfl, h3⟩ := z.ce _ (List.mem_append_right _ List.mem_cons_self)
  obtain ⟨z2, fx⟩ := SatF.toF (Φ := Φ.and (val (.ref p)) v) ⟨z.ex, z.fr, z.sl, z.nd, z.ce⟩ h0 h1 fun _ _ => rfl
  subst e
  exact q _ H' ⟨_, z2.ex, ⟨z2.fr.1, p, dx, fs, rfl, upd_same, h3.1, DA.mono fx h3.2⟩, z2.sl, z2.nd, z2.ce⟩
theorem er_frzI (h : EvR te ρ M P) (k : ∀ x M', P x M' → ∃ p C ns xs M1, x = val (.ref p) ∧ M' = (p, cI C ns xs) :: M1 ∧ P' (vin C ns xs) M1) : EvR te ρ M P' := fun Φ σ H Q s q => h Φ σ H Q s fun x M' v H' hp s' => by
  obtain ⟨p, C, ns, xs, M1, rfl, rfl, hp'⟩ := k x M' hp
  have ⟨F, z⟩ := s'.aside
  have e : v = .ref p := z.fr.2
  obtain ⟨o, h1, h0, dx, fs, rfl, h3⟩ := z.ce _ (List.mem_append_right _ List.mem_cons_self)
  obtain ⟨z2, fx⟩ := SatF.toF (Φ := Φ.and (val (.ref p)) v) ⟨z.ex, z.fr, z.sl, z.nd, z.ce⟩ h0 h1 fun _ _ => rfl
  subst e
  exact q _ _ _ H' hp' ⟨_, z2.ex, ⟨z2.fr.1, p, dx, fs, rfl, upd_same, h3.1, DA.mono fx h3.2⟩, z2.sl, z2.nd, z2.ce⟩
theorem ev_fldV (h : Ev ta ρ M (vin C ns xs) M1) (c : ClsF K C ns') (hf : f ∈ ns') (g : FGet f x ns xs) : Ev (tFld K ta f) ρ M x M1 := fun Φ σ H Q s q => h Φ σ H _ s fun v H1 s1 => by
  have ⟨F, s2⟩ := s1
  obtain ⟨a, dx, fs, rfl, h1, h3⟩ := s2.fr.2
  obtain ⟨w, h4, h5⟩ := g.look h3
  exact ⟨a, C, dx, fs, w, rfl, s2.ex _ _ h1, c.cl, c.no f hf, h4, q w H1 ⟨F, s2.ex, ⟨s2.fr.1, h5⟩, s2.sl, s2.nd, s2.ce⟩⟩
theorem er_methV {n : Nat} {S : FSpec} {E : XK} {m : Str} {t : TA} {ds : List VD} (ho : Ev ta ρ M (vin C ns xs) M1) (hf : m ∉ ns) (h : EvA t ρ M1 ds M2) (hn : ds.length + 1 = n) (hS : S (vin C ns xs :: ds) M2 P) : EvR (tMeth C m (spF n S) [] E ta t) ρ M P := fun Φ σ H Q s q =>
  ho Φ σ H _ s fun v H1 s1 => by
    have ⟨F, s2⟩ := s1
    obtain ⟨a, dx, fs, rfl, h1, h3⟩ := s2.fr.2
    refine ⟨a, dx, fs, rfl, s2.ex _ _ h1, h3.lookup_none hf, h _ σ H1 _ s1 fun vs H2 s3 => ?_⟩
    have ⟨F', s4⟩ := s3
    have hl := Paired.length s4.fr.2
    rw [List.append_nil]
    refine ⟨Φ, ρ, σ, vin C ns xs :: ds, M2, P, ⟨F', s4.weak (.of rfl fun F h => ⟨h.1.1, .cons h.1.2 h.2⟩)⟩, by rw [List.length_cons, ← hl]; exact hn, hS, fun y M' v H' hp s' => q y M' v H' hp s'⟩
/-! ### dicts that stay -/
def vdz (kvs : List (L2.Key × VD)) : VD := ⟨fun F v => ∃ a od vs, v = .ref a ∧ F a = some (.frz od (.dK vs)) ∧ DP F kvs vs, fun e ⟨a, od, vs, h1, h2, h3⟩ => ⟨a, od, vs, h1, e.pl _ _ h2 rfl, h3.mono e⟩⟩
theorem isdi_z : IsDi (vdz kvs) M kvs := fun s ⟨a, od, vs, h1, h2, h3⟩ => ⟨a, vs, h1, .inr ⟨od, s.ex _ _ h2⟩, h3⟩
theorem er_fzD (h : EvR te ρ M P) (k : ∀ x M', P x M' → ∃ p kvs M1, x = val (.ref p) ∧ M' = (p, cD kvs) :: M1 ∧ P' (vdz kvs) M1) : EvR (tFz te) ρ M P' := fun Φ σ H Q s q => h Φ σ H _ s fun x M' v H1 hp s1 => by
  obtain ⟨p, kvs, M1, rfl, rfl, hp'⟩ := k x M' hp
  have ⟨F, z⟩ := s1.aside
  have e : v = .ref p := z.fr.2
  obtain ⟨o, h1, h0, vs, rfl, h3⟩ := z.ce _ (List.mem_append_right _ List.mem_cons_self)
  subst e
  refine ⟨p, _, rfl, h1, trivial, fun od => ?_⟩
  obtain ⟨z2, fx⟩ := SatF.toF (Φ := Φ.and (val (.ref p)) (.ref p)) (H' := upd H1 p (.frz od (.dK vs))) ⟨z.ex, z.fr, z.sl, z.nd, z.ce⟩ h0 upd_same fun a ha => upd_ne ha
  exact q _ _ _ _ hp' ⟨_, z2.ex, ⟨z2.fr.1, p, od, vs, rfl, upd_same, h3.mono fx⟩, z2.sl, z2.nd, z2.ce⟩
theorem ev_fzD (h : Ev te ρ M (val (.ref p)) ((p, cD kvs) :: M')) : Ev (tFz te) ρ M (vdz kvs) M' := (er_fzD (EvR.of h) fun x N ⟨e1, e2⟩ => ⟨p, kvs, M', e1, e2, rfl, rfl⟩ : EvR (tFz te) ρ M (Det (vdz kvs) M')).ev
/-! ### walks -/
abbrev kdat (k : L2.Key) : VD := dat (kD k)
theorem kv_rp {F : Hp} (k : L2.Key) : Rp F (kV k) (kD k) := by cases k with
  | inl i => exact .int i
  | inr s => exact .str s
theorem DP.get {F : Hp} : ∀ {kvs : List (L2.Key × VD)} {vs : List (L2.Key × V)} {i : Nat} {d : L2.Key × VD}, DP F kvs vs → kvs[i]? = some d → ∃ v, vs[i]? = some (d.1, v) ∧ d.2.P F v
  | _, _, _, _, .nil, e => by simp at e
  | _, _, 0, _, .cons h _, e => by simp at e; subst e; exact ⟨_, by rw [h.1]; rfl, h.2⟩
  | _, _, i + 1, d, .cons _ t, e => by
    obtain ⟨v, h1, h2⟩ := DP.get (i := i) (d := d) t (by simpa using e)
    exact ⟨v, by simpa using h1, h2⟩
/-- a dict that is locked as long as Ψ stands -/
def LkD (Ψ : Fr) (a : Addr) (od : Obj) (vs : List (L2.Key × V)) (kvs : List (L2.Key × VD)) : Prop := ∀ Φ ρ M σ H, Le Φ Ψ → Sat Φ ρ M σ H → H a = some (.frz od (.dK vs)) ∧ ∃ F, SatF F Φ ρ M σ H ∧ DP F kvs vs
theorem walks_keys {Ψ : Fr} {a : Addr} {od : Obj} {vs : List (L2.Key × V)} (hl : vs.length = kvs.length) (h : LkD Ψ a od vs kvs) : Walks (Itk a od vs) Ψ (kvs.map fun p => kdat p.1) := by
  refine ⟨_, _, (by rw [List.length_map, ← hl]; exact walk_keys), fun Φ ρ M σ H l s => (h Φ ρ M σ H l s).1, fun i d x H H' Φ ρ M σ hi l s y => ?_⟩
  obtain ⟨rfl, k, v, hx, rfl⟩ := y
  obtain ⟨_, F, s0, hd⟩ := h Φ ρ M σ H' l s
  rw [List.getElem?_map] at hi
  cases q : kvs[i]? with
  | none => rw [q] at hi; cases hi
  | some d1 =>
    rw [q] at hi
    cases hi
    obtain ⟨w, h1, _⟩ := hd.get q
    rw [hx] at h1
    cases h1
    exact ⟨F, s0.ex, ⟨s0.fr, kv_rp _⟩, s0.sl, s0.nd, s0.ce⟩
theorem walks_items {Ψ : Fr} {a : Addr} {od : Obj} {vs : List (L2.Key × V)} (hl : vs.length = kvs.length) (h : LkD Ψ a od vs kvs) : Walks (Iti a od vs) Ψ (kvs.map fun p => vtup [kdat p.1, p.2]) := by
  refine ⟨_, _, (by rw [List.length_map, ← hl]; exact walk_items), fun Φ ρ M σ H l s => (h Φ ρ M σ H l s).1, fun i d x H H' Φ ρ M σ hi l s y => ?_⟩
  obtain ⟨T, v, u, rfl, hT, rfl, h1, h2⟩ := y
  obtain ⟨_, F, s0, hd⟩ := h Φ ρ M σ H l s
  rw [List.getElem?_map] at hi
  cases q : kvs[i]? with
  | none => rw [q] at hi; cases hi
  | some d1 =>
    rw [q] at hi
    cases hi
    obtain ⟨w, k1, k2⟩ := hd.get q
    simp only [k1, Option.map_some] at h1 h2
    cases h1; cases h2
    exact Sat.retNew s0 hT fun F' fx e => ⟨T, _, rfl, e, .cons (kv_rp _) (.cons (d1.2.mono fx k2) .nil)⟩
theorem walks_vals {Ψ : Fr} {a : Addr} {od : Obj} {vs : List (L2.Key × V)} (hl : vs.length = kvs.length) (h : LkD Ψ a od vs kvs) : Walks (Itd a od vs) Ψ (kvs.map fun p => p.2) := by
  refine ⟨_, _, (by rw [List.length_map, ← hl]; exact walk_values), fun Φ ρ M σ H l s => (h Φ ρ M σ H l s).1, fun i d x H H' Φ ρ M σ hi l s y => ?_⟩
  obtain ⟨rfl, k, hx⟩ := y
  obtain ⟨_, F, s0, hd⟩ := h Φ ρ M σ H' l s
  rw [List.getElem?_map] at hi
  cases q : kvs[i]? with
  | none => rw [q] at hi; cases hi
  | some d1 =>
    rw [q] at hi
    cases hi
    obtain ⟨w, k1, k2⟩ := hd.get q
    rw [k1] at hx
    cases hx
    exact ⟨F, s0.ex, ⟨s0.fr, k2⟩, s0.sl, s0.nd, s0.ce⟩
theorem lkd_z {v : V} {σ : L2.St} {H : Hp} (s : Sat (Φ.and (vdz kvs) v) ρ M σ H) : ∃ a od vs Ψ, v = .ref a ∧ H a = some (.frz od (.dK vs)) ∧ vs.length = kvs.length ∧ Le Ψ Φ ∧ Sat Ψ ρ M σ H ∧ LkD Ψ a od vs kvs := by
  have ⟨F, z⟩ := s
  obtain ⟨a, od, vs, rfl, h2, h3⟩ := z.fr.2
  refine ⟨a, od, vs, Φ.also (fun F => F a = some (.frz od (.dK vs)) ∧ DP F kvs vs) fun e h => ⟨e.pl _ _ h.1 rfl, h.2.mono e⟩, rfl, z.ex _ _ h2, h3.len.symm, .of rfl fun F h => h.1, ⟨F, z.ex, ⟨z.fr.1, h2, h3⟩, z.sl, z.nd, z.ce⟩, fun Φ' ρ' M' σ' H' l ⟨F', s'⟩ => ?_⟩
  have := l.p F' s'.fr
  exact ⟨s'.ex _ _ this.2.1, F', s', this.2.2⟩
theorem ei_keysZ (h : Ev td ρ M (vdz kvs) M') : EvI (iKeys td) ρ M (kvs.map fun p => kdat p.1) M' := fun Φ σ H R s q => h Φ σ H _ s fun v H1 s1 => by
  obtain ⟨a, od, vs, Ψ, rfl, h1, hl, l, s2, lk⟩ := lkd_z s1
  exact ⟨a, od, rfl, .inl ⟨vs, h1, q _ _ Ψ l s2 (walks_keys hl lk)⟩⟩
theorem ei_itemsZ (h : Ev td ρ M (vdz kvs) M') : EvI (iItems td) ρ M (kvs.map fun p => vtup [kdat p.1, p.2]) M' := fun Φ σ H R s q => h Φ σ H _ s fun v H1 s1 => by
  obtain ⟨a, od, vs, Ψ, rfl, h1, hl, l, s2, lk⟩ := lkd_z s1
  exact ⟨a, od, vs, rfl, h1, q _ _ Ψ l s2 (walks_items hl lk)⟩
theorem ei_valsZ (h : Ev td ρ M (vdz kvs) M') : EvI (iVals td) ρ M (kvs.map fun p => p.2) M' := fun Φ σ H R s q => h Φ σ H _ s fun v H1 s1 => by
  obtain ⟨a, od, vs, Ψ, rfl, h1, hl, l, s2, lk⟩ := lkd_z s1
  exact ⟨a, od, vs, rfl, h1, q _ _ Ψ l s2 (walks_vals hl lk)⟩
end
end Sx

set_option Elab.async false
set_option linter.all false
set_option maxRecDepth 100000
set_option maxHeartbeats 2000000
/-! Sx21: texts: xs.remove(x), sorted; signs of a text; list(d.items()), dict(pairs) that stays. -/
namespace L2
open PySem PySem.Spec PyProof.Rows
def leS (a b : Str) : Bool := !ltCps b.cps.toList a.cps.toList
theorem leS_iff (a b : Str) : leS a b = true ↔ a.cps.toList ≤ b.cps.toList := by
  unfold leS
  rw [ltCps_eq]
  simp
theorem str_ext : ∀ {a b : Str}, a.cps.toList = b.cps.toList → a = b
  | ⟨a⟩, ⟨b⟩, h => by
    have : a = b := by simpa using congrArg List.toArray h
    rw [this]
theorem leS_trans (a b c : Str) (h : leS a b = true) (k : leS b c = true) : leS a c = true := (leS_iff a c).mpr (List.le_trans ((leS_iff a b).mp h) ((leS_iff b c).mp k))
theorem leS_anti (a b : Str) (h : leS a b = true) (k : leS b a = true) : a = b := str_ext (List.le_antisymm ((leS_iff a b).mp h) ((leS_iff b a).mp k))
theorem leS_total (a b : Str) : (leS a b || leS b a) = true := by
  rcases List.le_total a.cps.toList b.cps.toList with h | h
  · rw [(leS_iff a b).mpr h]; rfl
  · rw [(leS_iff b a).mpr h, Bool.or_true]
def sortS (l : List Str) : List Str := l.mergeSort leS
theorem sortS_perm (l : List Str) : (sortS l).Perm l := List.mergeSort_perm l leS
theorem sortS_pw (l : List Str) : (sortS l).Pairwise fun a b => leS a b = true := List.pairwise_mergeSort leS_trans leS_total l
theorem rising_pw : ∀ (l : List Str) (p : Str), risingS p l = true → (p :: l).Pairwise fun a b => leS a b = true
  | [], p, _ => by simp
  | x :: r, p, h => by
    have h2 : (!ltCps x.cps.toList p.cps.toList && risingS x r) = true := h
    rw [Bool.and_eq_true] at h2
    have ih := rising_pw r x h2.2
    refine List.pairwise_cons.mpr ⟨fun y hy => ?_, ih⟩
    have h1 : leS p x = true := h2.1
    rcases List.mem_cons.mp hy with rfl | hy
    · exact h1
    · exact leS_trans p x y h1 (List.rel_of_pairwise_cons ih hy)
theorem sortedS_pw : ∀ (l : List Str), sortedS l = true → l.Pairwise fun a b => leS a b = true
  | [], _ => .nil
  | x :: r, h => rising_pw r x h
theorem sortS_uniq {l k : List Str} (p : k.Perm l) (h : k.Pairwise fun a b => leS a b = true) : k = sortS l :=
  List.Perm.eq_of_pairwise (fun a b _ _ x y => leS_anti a b x y) h (sortS_pw l) (p.trans (sortS_perm l).symm)
theorem sortS_congr {l k : List Str} (p : l.Perm k) : sortS l = sortS k := sortS_uniq ((sortS_perm l).trans p) (sortS_pw l)
theorem sortS_self {l : List Str} (h : l.Pairwise fun a b => leS a b = true) : sortS l = l := (sortS_uniq (.refl l) h).symm
/-! ### remove -/
def eqt (k : Str) (v : Value) : Bool := match v with
  | .str n _ => n.cps.toList == k.cps.toList
  | _ => false
theorem eqt_iff {k x : Str} {t : Tok} : eqt k (.str x t) = true ↔ x = k := by
  unfold eqt
  rw [beq_iff_eq]
  exact ⟨str_ext, fun e => e ▸ rfl⟩
theorem strs_are {ys : List Str} {us : List Value} (h : Vals (ys.map V.str) us) : ∀ (i : Nat) (u : Value), us[i]? = some u → ∃ x t, ys[i]? = some x ∧ u = .str x t := by
  have g := strsAre_of h
  clear h
  induction g with
  | nil => intro i u e; simp at e
  | cons x t _ ih =>
    intro i u e
    cases i with
    | zero => exact ⟨x, t, rfl, by simpa using e.symm⟩
    | succ i => exact ih i u (by simpa using e)
theorem first_of {k : Str} : ∀ {l : List Str}, k ∈ l → ∃ j, l[j]? = some k ∧ (∀ m, m < j → l[m]? ≠ some k) ∧ l.eraseIdx j = l.erase k
  | x :: l, h => by
    by_cases e : x = k
    · subst e
      exact ⟨0, rfl, fun m hm => absurd hm (Nat.not_lt_zero _), by simp⟩
    · rcases List.mem_cons.mp h with h | h
      · exact absurd h.symm e
      · obtain ⟨j, h1, h2, h3⟩ := first_of h
        refine ⟨j + 1, by simpa using h1, fun m hm => ?_, ?_⟩
        · cases m with
          | zero => intro z; rw [List.getElem?_cons_zero] at z; exact e (Option.some.inj z)
          | succ m => rw [List.getElem?_cons_succ]; exact h2 m (by omega)
        · have ne : (x == k) = false := beq_eq_false_iff_ne.mpr e
          rw [List.eraseIdx_cons_succ, h3, List.erase_cons, ne]
          rfl
theorem er_map : ∀ (l : List Str) (j : Nat), (l.map V.str).eraseIdx j = (l.eraseIdx j).map V.str
  | [], _ => rfl
  | _ :: _, 0 => rfl
  | a :: l, j + 1 => by rw [List.map_cons, List.eraseIdx_cons_succ, List.eraseIdx_cons_succ, List.map_cons, er_map l j]
section
variable {X : Cx}
def rRemS : V → List V → Hp → VK → Prop := fun x xs H Q => ∃ (l : Addr) (ns : List Str) (k : Str), x = .ref l ∧ xs = [.str k] ∧ H l = some (.lst (ns.map V.str)) ∧ k ∈ ns ∧ Q .non (upd H l (.lst ((ns.erase k).map V.str)))
theorem mt_remS : MtR X "list.remove" rRemS := fun pins s σ H x xs v us Q I rx rxs ⟨l, ns, k, e1, e2, hH, hk, q⟩ => by
  subst e1; subst e2; cases rx
  obtain ⟨u, rfl, t, rfl⟩ := rxs.one
  obtain ⟨z, its, n, r, hl, e⟩ := I.lstM hH
  obtain ⟨j, hj, hno, her⟩ := first_of hk
  have at_ := strs_are r
  have lens : its.length = ns.length := by have q := r.length; rw [List.length_map] at q; omega
  have zn : ns.length ≤ sizeLine := by rw [List.length_map] at z; exact z
  have jl : j < ns.length := (List.getElem?_eq_some_iff.mp hj).1
  have val : ∀ m (hm : m < its.toArray.size), ∃ x tt, ns[m]? = some x ∧ its.toArray[m] = .str x tt := fun m hm => at_ m _ (by rw [← List.getElem?_toArray]; exact Array.getElem?_eq_getElem hm)
  refine call_meets F.slot_list_remove ⟨_, e, rfl⟩ F.entry_list_remove (F.args_list_remove_2 _ _) (MeetsSeq.list_remove l its.toArray n (.str k t) (eqt k) (fun y hy => ?_) j (by rw [List.size_toArray]; omega) ?_ (fun m hm hmj => ?_) (by rw [List.size_toArray]; omega)) ⟨e, ?_⟩
  · have ⟨m, hm, em⟩ := Array.getElem_of_mem hy
    obtain ⟨x, tt, _, e3⟩ := val m hm
    rw [← em, e3]
    exact SeqRoads2.EqGives.str x k tt t
  · obtain ⟨x, tt, h1, h2⟩ := val j (by rw [List.size_toArray]; omega)
    rw [h2]
    rw [hj] at h1
    exact eqt_iff.mpr (Option.some.inj h1).symm
  · obtain ⟨x, tt, h1, h2⟩ := val m hm
    rw [h2]
    refine Bool.eq_false_iff.mpr fun e4 => hno m hmj ?_
    rw [h1, eqt_iff.mp e4]
  · have rr := r.eraseIdx j
    rw [er_map, her] at rr
    have sz : (ns.erase k).length ≤ ns.length := List.length_erase_le
    exact ⟨.non, _, I.lset (its' := its.eraseIdx j) (t' := s.toks) hH e (by show its.toArray.eraseIdxIfInBounds j = (its.eraseIdx j).toArray; rw [List.eraseIdxIfInBounds_toArray]) rr (by rw [List.length_map]; omega), rfl, q⟩
/-- list(e.items()), whether the dict is locked or not -/
def rItemsZ : V → Hp → VK → Prop := fun x H Q => ∃ (d : Addr) (kvs : List (Key × V)), x = .ref d ∧ Rd H d (.dK kvs) ∧
  ∀ (G : Hp) (q : Addr) (ts : List Addr), (∀ b o, H b = some o → G b = some o) → H q = none → (∀ t ∈ ts, H t = none) → q ∉ ts → G q = some (.lst (ts.map V.ref)) → Paired (fun (t : Addr) (kv : Key × V) => G t = some (.tup [kV kv.1, kv.2])) ts kvs → Q (.ref q) G
def tListItemsZ (te : TE) : TE := fun σ H Q => te σ H fun x H1 => rItemsZ x H1 Q
theorem pe_listItemsZ {e : Expr} {te : TE} {p apos cpos pos : Pos} (calm : X.calm = true) (he : PE X e te) (hg : Gl X "list") (hm : X.mg "list" = none) (hv : bootBuiltins "list" = some (.type "list")) (hb : attributeBase e "items" X.env (eval e X.env) = eval e X.env := by rfl) (hl : (apos.endLine == cpos.line) = true := by rfl)
    (hs : starEach [.Call (.Attribute e "items" apos) [] [] cpos] X.env = (false, eval (.Call (.Attribute e "items" apos) [] [] cpos) X.env) :: starEach [] X.env := by rfl) :
    PE X (.Call (.Name "list" p) [.Call (.Attribute e "items" apos) [] [] cpos] [] pos) (tListItemsZ te) := ⟨fun pins s σ H Q I hq => by
  refine wpAny_Call_Name_kw (ld_blt I hg hm hv (PyProof.Rows.callWith_type1 ?_ hs rfl)); rw [hs]
  show wpAny _ _ (spliced ((false, eval (.Call (.Attribute e "items" apos) [] [] cpos) X.env) :: backTo pos (starEach [] X.env))) _ _ s
  refine Calls.spliced_cons (wpAny_Call_method (T := "dict") (id := "dict.items") hb rfl hl F.plainAttrs_dict F.slot_dict_items F.type_dict_items (thn (he.run pins s σ H _ I hq) fun u s1 ⟨x, H1, I1, rx, d, kvs, ex, hd, q⟩ => ?_))
  subst ex; obtain rfl : u = Value.ref d := rx
  obtain ⟨hz, lo, vs, kv, dd⟩ := dk_rd I1.hok hd
  obtain ⟨ep, at_⟩ := dd.dictAt; have lk : kvs.length = vs.length := Paired.length kv
  have I2 : Inv X pins σ H1 { s1 with heap := s1.heap.push { cls := .type "dict_items", data := .fields #[.ref d] } } := I1.kept (t' := s1.toks) fun b ob z => Heap.get?_push_of_some _ z
  refine ⟨dd.typeIs, dd.mapOf.noDict, (show wpAny _ _ (callWith cpos (.builtin "dict.items") [.ref d] [] []) _ X.xe s1 from method_meetsIn F.slot_dict_items F.entry_dict_items rfl (PySem.evalArgs_none ⟨rfl, dd.typeIs, F.args_dict_items_1 _, _, meets_dict_items (mixKind X.prog X.w) d lo, ⟨vs, dd⟩, Calls.spliced_nil ?_⟩))⟩
  refine PySem.W.kdx_call (knd := mixKind X.prog X.w) (kvs := vs) (ep := ep) (I1.ok.hd calm) ⟨_, Heap.get?_push_size _ rfl, rfl, rfl⟩ (at_.push _) (by omega) fun g tk acc c as hk hS hl hG hacc => ?_
  have ⟨H', k1, k2, k3, k4, k5, k6, J⟩ := LiI.items_laid (tk := tk) I2 hz kv hk hS hl hG hacc
  exact ⟨.ref _, H', J, rfl, q H' _ as k1 k2 k3 k4 k5 k6⟩⟩
end
end L2

set_option Elab.async false
set_option linter.all false
set_option maxRecDepth 100000
set_option maxHeartbeats 2000000
/-! Sx22: the rules of Sx21 by descriptions; signs of a text. -/
namespace L2
open PySem PySem.Spec PyProof.Rows
def rSortedDS : List V → Hp → VK → Prop := fun xs H Q => ∃ (a : Addr) (kvs : List (Key × V)) (ks : List Str), xs = [.ref a] ∧ Rd H a (.dK kvs) ∧ kvs.map (·.1) = ks.map Sum.inr ∧ ks.length < 64 ∧
  ∀ ys p, ys.Perm ks → sortedS ys = true → H p = none → Q (.ref p) (upd H p (.lst (ys.map V.str)))
theorem cr_sortedDS {X : Cx} (hc : X.calm = true) : CallR X (.builtin "sorted") rSortedDS := call_sortedD hc
end L2
namespace Sx
open PySem L2 Evl
section
variable {K : PySem.W.Frag} {ρ ρ' : Env} {M M1 M2 M' : Cells} {x y : VD} {te ta tb td : TE} {t : TA} {Φ Φ0 : Fr} {p C : Addr} {kvs : List (L2.Key × VD)}
theorem rpl_strs {F : Hp} : ∀ (ns : List Str), RpL F (ns.map V.str) (ns.map PyData.str)
  | [] => .nil
  | x :: l => .cons (.str x) (rpl_strs l)
theorem rm_remS {ns : List Str} {k : Str} (h : Put p (cLd (ns.map .str)) (cLd ((ns.erase k).map .str)) M M') (hk : k ∈ ns) : RM rRemS (val (.ref p)) [dat (.str k)] M vn M' := fun Φ ρ σ v vs H Q ⟨F, s⟩ q => by
  have e : v = .ref p := s.fr.1.2
  cases s.fr.2 with
  | cons q1 q2 =>
    cases q2
    cases q1
    obtain ⟨o, h1, h0, ws, rfl, h3⟩ := s.at h.mem
    obtain rfl := RpL.strs h3
    refine ⟨p, ns, k, e, rfl, h1, hk, q .non _ ⟨F, ?_⟩⟩
    have s' := s.put1 (o := .lst ((ns.erase k).map V.str)) h h0 ⟨h0, _, rfl, rpl_strs _⟩
    exact ⟨s'.ex, ⟨s'.fr.1.1, .non⟩, s'.sl, s'.nd, s'.ce⟩
theorem rc_sortS {xs : List Str} (hx : IsLst x M (xs.map .str)) (few : xs.length < 64) : RC (rSortedS K) [x] M (dat (.list ((sortS xs).map .str))) M := fun Φ ρ σ vs H Q ⟨F, s⟩ q => by
  obtain ⟨v, rfl, h1⟩ := rc1 (ds := []) s.fr.2
  obtain ⟨a, ws, rfl, h2, h3⟩ := hx s h1
  obtain rfl := RpL.strs h3
  refine ⟨a, xs, rfl, sq_of h2, few, fun ys p h4 h5 hp => ?_⟩
  obtain rfl := sortS_uniq h4 (sortedS_pw ys h5)
  exact q _ _ (Sat.retNew s.base1 hp fun F' fx e => .lst e (rpl_strs _))
theorem DP.keys {F : Hp} : ∀ {kvs : List (L2.Key × VD)} {vs : List (L2.Key × V)}, DP F kvs vs → vs.map (·.1) = kvs.map (·.1)
  | _, _, .nil => rfl
  | _, _, .cons h t => by rw [List.map_cons, List.map_cons, DP.keys t, h.1]
theorem rc_sortDS {ks : List Str} (hx : IsDi x M kvs) (hk : kvs.map (·.1) = ks.map Sum.inr) (few : ks.length < 64) : RC rSortedDS [x] M (dat (.list ((sortS ks).map .str))) M := fun Φ ρ σ vs H Q ⟨F, s⟩ q => by
  obtain ⟨v, rfl, h1⟩ := rc1 (ds := []) s.fr.2
  obtain ⟨a, ws, rfl, h2, h3⟩ := hx s h1
  refine ⟨a, ws, ks, rfl, h2, h3.keys.trans hk, few, fun ys p h4 h5 hp => ?_⟩
  obtain rfl := sortS_uniq h4 (sortedS_pw ys h5)
  exact q _ _ (Sat.retNew s.base1 hp fun F' fx e => .lst e (rpl_strs _))
/-- many new objects -/
def grow (F G : Hp) (A : Addr → Prop) [DecidablePred A] : Hp := fun b => match F b with
  | some o => some o
  | none => if A b then G b else none
theorem SatF.grown {F H G : Hp} {σ : L2.St} (A : Addr → Prop) [DecidablePred A] (s : SatF F Φ ρ M σ H) (hA : ∀ a, A a → H a = none) (kp : ∀ b o, H b = some o → G b = some o) : SatF (grow F G A) Φ ρ M σ G ∧ Fx F (grow F G A) := by
  have fx : Fx F (grow F G A) := ⟨fun a u e _ => by unfold grow; rw [e]⟩
  refine ⟨⟨fun a u e => ?_, Φ.mono fx s.fr, s.sl.mono fx, s.nd, fun c hc => ?_⟩, fx⟩
  · unfold grow at e
    cases h : F a with
    | some o => rw [h] at e; cases e; exact kp _ _ (s.ex _ _ h)
    | none =>
      rw [h] at e
      by_cases z : A a
      · rw [if_pos z] at e; exact e
      · rw [if_neg z] at e; cases e
  · obtain ⟨o, h1, h2⟩ := s.ce c hc
    refine ⟨o, kp _ _ h1, c.2.mono fx ?_ h2⟩
    unfold grow
    cases h : F c.1 with
    | some o => rfl
    | none =>
      have z : ¬ A c.1 := fun z => by rw [hA _ z] at h1; cases h1
      rw [if_neg z]
theorem grow_at {F H G : Hp} (A : Addr → Prop) [DecidablePred A] (ex : Ex F H) (a : Addr) (hA : A a) (hn : H a = none) : grow F G A a = G a := by
  unfold grow
  cases h : F a with
  | some o => rw [ex _ _ h] at hn; cases hn
  | none => rw [if_pos hA]
theorem ev_listItems {l : List (L2.Key × PyData)} (h : Ev td ρ M x M') (hx : IsDi x M' (dKs l)) : Ev (tListItemsZ td) ρ M (dat (.list (l.map encPr))) M' := fun Φ σ H Q s q => h Φ σ H _ s fun v H1 s1 => by
  have ⟨F, z⟩ := s1
  obtain ⟨a, vs, rfl, h2, h3⟩ := hx z z.fr.2
  refine ⟨a, vs, rfl, h2, fun G p ts kp hp hts hnot hG hP => ?_⟩
  let A : Addr → Prop := fun b => b = p ∨ b ∈ ts
  obtain ⟨z2, fx⟩ := (SatF.weak z Le.and).grown A (fun a ha => by rcases ha with rfl | ha; exact hp; exact hts _ ha) kp
  refine q _ _ (Sat.ret z2 (.lst (xs := ts.map V.ref) ?_ ?_))
  · rw [grow_at (H := H1) A z.ex p (.inl rfl) hp]; exact hG
  · have sub : ∀ t ∈ ts, grow F G A t = G t := fun t ht => grow_at (H := H1) A z.ex t (.inr ht) (hts t ht)
    clear hnot hG hts hp h2
    have key : ∀ {l : List (L2.Key × PyData)} {vs : List (L2.Key × V)} {ts : List Addr}, DP F (dKs l) vs → Paired (fun (t : Addr) (kv : L2.Key × V) => G t = some (.tup [kV kv.1, kv.2])) ts vs → (∀ t ∈ ts, grow F G A t = G t) → RpL (grow F G A) (ts.map V.ref) (l.map encPr) := by
      intro l
      induction l with
      | nil => intro vs ts d r _; cases d; cases r; exact .nil
      | cons q l ih =>
        intro vs ts d r sub
        cases d with
        | cons d1 d2 =>
          cases r with
          | cons r1 r2 =>
            refine .cons (.tup ((sub _ List.mem_cons_self).trans r1) (.cons ?_ (.cons (Rp.mono fx _ d1.2) .nil))) (ih d2 r2 fun t ht => sub t (List.mem_cons_of_mem _ ht))
            rw [← d1.1]
            exact kv_rp _
    exact key h3 hP sub
/-- dict(pairs) that stays -/
theorem upd_upd {H : Hp} {p : Addr} {o o' : HO} : upd (upd H p o) p o' = upd H p o' := by
  funext a
  by_cases h : a = p
  · subst h; rw [upd_same, upd_same]
  · rw [upd_ne h, upd_ne h, upd_ne h]
theorem ev_fzDic {l : List (L2.Key × PyData)} (h : EvA t ρ M [dat (.list (l.map encPr))] M') : Ev (tFz (tCB (rDictP K) t)) ρ M (vdz (mergeG [] (dKs l))) M' := fun Φ σ H Q s q => h Φ σ H _ s fun vs H1 s1 => by
  have ⟨F, z⟩ := s1
  obtain ⟨v, rfl, h1⟩ := rc1 (ds := []) z.fr.2
  cases h1 with
  | @lst a xs _ g1 g2 =>
    obtain ⟨ps, kvs, rfl, hp, hd⟩ := pairs_rp (K := K) z.ex g2
    refine ⟨a, ps, kvs, rfl, .inl (sq_of (z.ex _ _ g1)), hp, fun p hp' => ⟨p, _, rfl, upd_same, trivial, fun od => ?_⟩⟩
    rw [upd_upd]
    exact q _ _ (Sat.retNew (SatF.weak z Le.andA) hp' fun F' fx e => ⟨p, od, _, rfl, e, (hd.merge .nil).mono fx⟩)
theorem ev_fzNew : Ev (tFz tDNewK) ρ M (vdz []) M := fun Φ σ H Q ⟨F, s⟩ q => fun p hp => ⟨p, _, rfl, upd_same, trivial, fun od => by
  rw [upd_upd]
  exact q _ _ (Sat.retNew s hp fun F' fx e => ⟨p, od, [], rfl, e, .nil⟩)⟩
/-! ### signs -/
def sign (c : Nat) : Str := ⟨#[c]⟩
theorem ei_str {z : Str} (h : Ev te ρ M (dat (.str z)) M') : EvI (iStr te) ρ M (z.cps.toList.map fun c => dat (.str (sign c))) M' := fun Φ σ H R s q => h Φ σ H _ s fun v H1 s1 => by
  have ⟨F, f⟩ := s1
  cases f.fr.2
  refine ⟨z, rfl, q _ _ Φ (.refl _) s1.weak1 ⟨_, _, (by rw [List.length_map, Array.length_toList]; exact walk_str), fun _ _ _ _ _ _ _ => trivial, fun i d x H H' Φ ρ M σ hi l s y => ?_⟩⟩
  obtain ⟨rfl, c, hc, rfl⟩ := y
  have ⟨F, s0⟩ := s
  rw [List.getElem?_map, Array.getElem?_toList, hc] at hi
  cases hi
  exact ⟨F, s0.ex, ⟨s0.fr, .str _⟩, s0.sl, s0.nd, s0.ce⟩
theorem rv_inSign {c : Nat} {z : Str} : RV rInS (dat (.str (sign c))) (dat (.str z)) M (dat (.bool (decide (c ∈ z.cps.toList)))) M := fun Φ ρ σ v w H Q ⟨F, s⟩ q => by
  cases s.fr.1.2; cases s.fr.2
  exact ⟨c, z, rfl, rfl, q _ _ (Sat.ret s.base (.bl _))⟩
theorem rv_notInSign {c : Nat} {z : Str} : RV rNotInS (dat (.str (sign c))) (dat (.str z)) M (dat (.bool (!decide (c ∈ z.cps.toList)))) M := fun Φ ρ σ v w H Q ⟨F, s⟩ q => by
  cases s.fr.1.2; cases s.fr.2
  exact ⟨c, z, rfl, rfl, q _ _ (Sat.ret s.base (.bl _))⟩
end
end Sx

set_option Elab.async false
set_option linter.all false
set_option maxRecDepth 100000
set_option maxHeartbeats 2000000
/-! Sx23: what is never reached; a sign by its place; locked dicts aside. -/
namespace Sx
open PySem L2 Evl
section
variable {K : PySem.W.Frag} {ρ ρ' : Env} {M M1 M2 M' : Cells} {x y : VD} {te ta tb td : TE} {t : TA} {Φ Φ0 : Fr} {p C : Addr} {kvs : List (L2.Key × VD)} {D : Ends}
theorem rv_ixSign {z : Str} {i : Int} {c : Nat} (hz : z.length ≤ sizeLine) (e : atI z.cps.toList i = some c) : RV (rIx K) (dat (.str z)) (dat (.int i)) M (dat (.str (sign c))) M := fun Φ ρ σ v w H Q ⟨F, s⟩ q => by
  cases s.fr.1.2; cases s.fr.2
  exact .inr (.inr ⟨z, i, c, rfl, rfl, hz, e, q _ _ (Sat.ret s.base (.str _))⟩)
/-- a dict of one's own, locked and aside, is walked -/
theorem lkd_l {v : V} {σ : L2.St} {H : Hp} (hc : (p, cDl kvs) ∈ Φ0.N) (l0 : Le Φ Φ0) (s : Sat (Φ.and (val (.ref p)) v) ρ M σ H) : True := trivial
end
end Sx

set_option Elab.async false
set_option linter.all false
set_option maxRecDepth 100000
set_option maxHeartbeats 2000000
/-! Sx24: list(d) of a dict that may be locked; dicts whose values are made one by one; freezing; cells found by their order. -/
namespace L2
open PySem PySem.Spec PyProof.Rows
def rListDZ : List V → Hp → VK → Prop := fun xs H Q => ∃ p kvs, xs = [.ref p] ∧ Rd H p (.dK kvs) ∧ ∀ q, H q = none → Q (.ref q) (upd H q (.lst (kvs.map fun kv => kV kv.1)))
theorem call_list_dZ {X : Cx} (calm : X.calm = true) : CallR X (.type "list") rListDZ := fun pins s σ H xs us Q I r ⟨p, kvs, e, hk, q⟩ => by
  subst e
  obtain ⟨u, rfl, rx⟩ := vals1 r
  obtain rfl : u = Value.ref p := rx
  obtain ⟨z, lo, vs, rk, hd⟩ := dk_rd I.hok hk
  obtain ⟨ep, at_⟩ := hd.dictAt
  have many : kvs.length = vs.length := Paired.length rk
  refine PySem.W.kdl_call (PySem.W.kdl_dict (knd := mixKind X.prog X.w) (kvs := vs) (ep := ep) lo) (I.ok.hd calm) at_ (many ▸ z) fun g tk acc c kp fr got => ⟨.ref s.heap.objs.size, upd H s.heap.objs.size (.lst (kvs.map fun kv => kV kv.1)), I.laid kp (Nat.le_refl _) ⟨by rw [List.length_map]; exact z, acc.toList, c, ?_, by rw [Array.toArray_toList]; exact fr⟩, rfl, q _ (I.hok.fresh (Nat.le_refl _))⟩
  refine vals_of_at (by have z2 : acc.toList.length = vs.length := got.1; rw [z2, List.length_map]; exact many) fun j x w h1 h2 => ?_
  obtain ⟨k, y, hky, hi⟩ := got.2 j w (by rw [← Array.getElem?_toList]; exact h2)
  have e1 : (kvs.map (·.1))[j]? = some k := by rw [KV.keys rk, List.getElem?_map, hky]; rfl
  rw [List.getElem?_map] at e1 h1
  cases hq : kvs[j]? with
  | none => rw [hq] at e1; cases e1
  | some q =>
    rw [hq] at e1 h1
    cases e1
    cases h1
    exact keyIs_rel hi
end L2
namespace Sx
open PySem L2 Evl
section
variable {K : PySem.W.Frag} {ρ ρ' : Env} {M M1 M2 M3 M' : Cells} {x y : VD} {te ta tb td tk tv : TE} {t : TA} {Φ Φ0 : Fr} {p q C : Addr} {kvs : List (L2.Key × VD)} {D : Ends} {P P' : VD → Cells → Prop}
theorem rc_listDZ {ks : List Str} (hx : IsDi x M kvs) (hk : kvs.map (·.1) = ks.map Sum.inr) : RC rListDZ [x] M (dat (.list (ks.map .str))) M := fun Φ ρ σ vs H Q ⟨F, s⟩ q => by
  obtain ⟨v, rfl, h1⟩ := rc1 (ds := []) s.fr.2
  obtain ⟨a, ws, rfl, h2, h3⟩ := hx s h1
  have e : (ws.map fun kv => kV kv.1) = ks.map V.str := by
    have e1 := h3.keys.trans hk
    have e2 : (ws.map fun kv => kV kv.1) = (ws.map (·.1)).map kV := by rw [List.map_map]; rfl
    rw [e2, e1, List.map_map]
    rfl
  exact ⟨a, ws, rfl, h2, fun l hl => by rw [e]; exact q _ _ (Sat.retNew (s.weak Le.andA) hl fun F' fx e => .lst e (rpl_strs _))⟩
theorem er_listDZ {ks : List Str} (h : Ev te ρ M x M1) (hx : IsDi x M1 kvs) (hk : kvs.map (·.1) = ks.map Sum.inr) : EvR (tCB rListDZ (tCons te tNil)) ρ M fun y M' => ∃ p, y = val (.ref p) ∧ M' = (p, cLd (ks.map .str)) :: M1 := fun Φ σ H Q s q => h Φ σ H _ s fun v H1 ⟨F, s1⟩ => by
  obtain ⟨a, ws, rfl, h2, h3⟩ := hx s1 s1.fr.2
  have e : (ws.map fun kv => kV kv.1) = ks.map V.str := by
    have e1 := h3.keys.trans hk
    have e2 : (ws.map fun kv => kV kv.1) = (ws.map (·.1)).map kV := by rw [List.map_map]; rfl
    rw [e2, e1, List.map_map]
    rfl
  refine ⟨a, ws, rfl, h2, fun l hl => ?_⟩
  rw [e]
  have s2 := s1.newC (c := cLd (ks.map .str)) (o := .lst (ks.map V.str)) hl fun e => ⟨e, _, rfl, rpl_strs _⟩
  exact q _ _ _ _ ⟨l, rfl, rfl⟩ ⟨F, s2.ex, ⟨s2.fr.1, rfl⟩, s2.sl, s2.nd, s2.ce⟩
/-! ### a dict whose values are made one by one: the words for what is made are told by I -/
theorem er_dcR {α : Type} {wi : TI} {g : TG} {vs : List Nat} {e : α → VD} {xs : List α} {k : α → L2.Key} (h : EvI wi ρ M (xs.map e) M1) (hl : xs.length ≤ 16000000) (I : Nat → List (L2.Key × VD) → Cells → Prop) (h0 : I 0 [] M1) (hI : ∀ i kv N, I i kv N → kv.length ≤ i)
    (hs : ∀ (i : Nat) a kv N, xs[i]? = some a → I i kv N → ∃ ρ'' js, Tgt g js (e a) (wipeE ρ vs) ρ'' ∧ (∀ i ∈ js, i ∈ vs) ∧ Ev tk ρ'' N (dat (kD (k a))) N ∧ EvR tv ρ'' N fun y N' => I (i + 1) (putG kv (k a) y) N') :
    EvR (tDc wi g tYes tk tv vs) ρ M fun y M' => ∃ D kv N, y = val (.ref D) ∧ M' = (D, cD kv) :: N ∧ I xs.length kv N := fun Φ σ H Q s q => h Φ σ H _ s fun J H1 Ψ l s1 ⟨G, Y, w, hG, hY⟩ => fun Dl hD => by
  have ⟨F1, s2⟩ := s1
  let Ψ0 : Fr := Ψ.slots σ ρ
  refine dc_it w (fun i H' => ∃ kv N, I i kv N ∧ Sat (Ψ0.more (Dl, cD kv)) (wipeE ρ vs) N (L2.wipe σ vs) H') ⟨[], M1, h0, ?_⟩ (fun i H' _ ⟨kv, N, _, s'⟩ => hG _ _ _ _ _ (Le.trans Le.more Le.slots) s') (fun i x H' H2 hi ⟨kv, N, j, s'⟩ y => ?_) (fun H' ⟨kv, N, j, s'⟩ => ?_)
  · have s4 := (s2.newC (c := cD []) (o := .dK []) hD fun e => ⟨e, [], rfl, .nil⟩).inN
    exact ⟨F1, s4.ex, ⟨s4.fr, s4.sl⟩, s4.sl.wipes vs, s4.nd, s4.ce⟩
  · have hi0 : i < xs.length := by rw [List.length_map] at hi; exact hi
    have hi1 : xs[i]? = some xs[i] := by simp [hi0]
    have hi' : (xs.map e)[i]? = some (e xs[i]) := by simp [hi0]
    obtain ⟨ρ'', js, hg, hj, h1, h2⟩ := hs i xs[i] kv N hi1 j
    have s3 := hY i (e xs[i]) x H' H2 _ _ _ _ hi' (Le.trans Le.more Le.slots) s' y
    refine hg _ N x _ H2 _ s3 fun σ2 k1 k2 s4 => ⟨wipe_eq k1 k2 hj, et_yes _ σ2 H2 _ s4 fun H3 s4 => ?_⟩
    rw [if_pos rfl]
    refine h1 _ σ2 H3 _ s4 fun u H4 s5 => h2 _ σ2 H4 _ s5 fun z N2 v H5 j2 s6 => ?_
    have ⟨F, s7⟩ := s6
    obtain ⟨o, e1, e0, ws, rfl, e3⟩ := s7.ce (Dl, cD kv) (List.mem_append_right _ List.mem_cons_self)
    refine ⟨ws, k xs[i], kv_of s7.fr.1.2, e1, ?_, putG kv (k xs[i]) z, N2, j2, ?_⟩
    · rw [← e3.len]
      have := hI i kv N j
      have hz : sizeLine = 16777216 := sizeLine_eq
      omega
    · have s8 := s7.put (Φ' := Ψ0.more (Dl, cD (putG kv (k xs[i]) z))) (o := .dK (putK ws (k xs[i]) v)) (c := cD kv) (Put.behind .here N2) s7.fr.1.1 e0 ⟨e0, _, rfl, e3.put (k xs[i]) s7.fr.2⟩
      exact ⟨F, s8.ex, s8.fr, s8.fr.2.wipes vs, s8.nd, s8.ce⟩
  · have ⟨F, s3⟩ := s'
    rw [List.length_map] at j
    have s4 : SatF F (Ψ.more (Dl, cD kv)) ρ N σ H' := ⟨s3.ex, s3.fr.1, s3.fr.2, s3.nd, s3.ce⟩
    have s5 := s4.outN
    exact q _ _ _ _ ⟨Dl, kv, N, rfl, rfl, j⟩ ⟨F, s5.weak ⟨l.n, fun F h => ⟨l.p F h, rfl⟩⟩⟩
/-! ### freezing -/
theorem er_frzD (h : EvR te ρ M P) (k : ∀ x M', P x M' → ∃ p kvs M1, x = val (.ref p) ∧ M' = (p, cD kvs) :: M1 ∧ P' (vdi kvs) M1) : EvR te ρ M P' := fun Φ σ H Q s q => h Φ σ H Q s fun x M' v H' hp s' => by
  obtain ⟨p, kvs, M1, rfl, rfl, hp'⟩ := k x M' hp
  have ⟨F, z⟩ := s'.aside
  have e : v = .ref p := z.fr.2
  obtain ⟨o, h1, h0, vs, rfl, h3⟩ := z.ce _ (List.mem_append_right _ List.mem_cons_self)
  obtain ⟨z2, fx⟩ := SatF.toF (Φ := Φ.and (val (.ref p)) v) ⟨z.ex, z.fr, z.sl, z.nd, z.ce⟩ h0 h1 fun _ _ => rfl
  subst e
  exact q _ _ _ H' hp' ⟨_, z2.ex, ⟨z2.fr.1, p, vs, rfl, upd_same, h3.mono fx⟩, z2.sl, z2.nd, z2.ce⟩
theorem er_frzL (h : EvR te ρ M P) (k : ∀ x M', P x M' → ∃ p xs M1, x = val (.ref p) ∧ M' = (p, cL xs) :: M1 ∧ P' (vlst xs) M1) : EvR te ρ M P' := fun Φ σ H Q s q => h Φ σ H Q s fun x M' v H' hp s' => by
  obtain ⟨p, xs, M1, rfl, rfl, hp'⟩ := k x M' hp
  have ⟨F, z⟩ := s'.aside
  have e : v = .ref p := z.fr.2
  obtain ⟨o, h1, h0, vs, rfl, h3⟩ := z.ce _ (List.mem_append_right _ List.mem_cons_self)
  obtain ⟨z2, fx⟩ := SatF.toF (Φ := Φ.and (val (.ref p)) v) ⟨z.ex, z.fr, z.sl, z.nd, z.ce⟩ h0 h1 fun _ _ => rfl
  subst e
  exact q _ _ _ H' hp' ⟨_, z2.ex, ⟨z2.fr.1, p, vs, rfl, upd_same, h3.mono fx⟩, z2.sl, z2.nd, z2.ce⟩
theorem ev_frzLv {xs : List VD} (h : Ev te ρ M (val (.ref p)) ((p, cL xs) :: M')) : Ev te ρ M (vlst xs) M' := (er_frzL (EvR.of h) fun x N ⟨e1, e2⟩ => ⟨p, xs, M', e1, e2, rfl, rfl⟩ : EvR te ρ M (Det (vlst xs) M')).ev
theorem Ev.perm (h : Ev te ρ M x M1) (e : M1.Perm M2) : Ev te ρ M x M2 := fun Φ σ H Q s q => h Φ σ H Q s fun v H' s' => q v H' (s'.perm e)
theorem EvR.permIn (h : EvR te ρ M1 P) (e : M.Perm M1) : EvR te ρ M P := fun Φ σ H Q s q => h Φ σ H Q (s.perm e) q
theorem Ev.permIn (h : Ev te ρ M1 x M2) (e : M.Perm M1) : Ev te ρ M x M2 := fun Φ σ H Q s q => h Φ σ H Q (s.perm e) q
theorem EvT.permIn {tt : TT} {b : Bool} (h : EvT tt ρ M1 b M2) (e : M.Perm M1) : EvT tt ρ M b M2 := fun Φ σ H Q s q => h Φ σ H Q (s.perm e) q
theorem EvT.perm {tt : TT} {b : Bool} (h : EvT tt ρ M b M1) (e : M1.Perm M2) : EvT tt ρ M b M2 := fun Φ σ H Q s q => h Φ σ H Q s fun H' s' => q H' (s'.perm e)
theorem EvR.dropC (h : EvR te ρ M P) (k : ∀ x N, P x N → ∃ N', N'.Sublist N ∧ P' x N') : EvR te ρ M P' := fun Φ σ H Q s q => h Φ σ H Q s fun x N v H' hp s' => let ⟨N', h1, h2⟩ := k x N hp; q x N' v H' h2 (s'.drop h1)
theorem Ev.dropC (h : Ev te ρ M x M1) (k : M2.Sublist M1) : Ev te ρ M x M2 := fun Φ σ H Q s q => h Φ σ H Q s fun v H' s' => q v H' (s'.drop k)
/-! ### lists -/
theorem rm_extendL {ds es : List PyData} (hy : IsLst y M es) (h : Put p (cLd ds) (cLd (ds ++ es)) M M') (hl : ds.length + es.length ≤ sizeLine) : RM rExtend (val (.ref p)) [y] M vn M' := fun Φ ρ σ v vs H Q ⟨F, s⟩ q => by
  have e : v = .ref p := s.fr.1.2
  obtain ⟨u, rfl, hu⟩ := rc1 (ds := []) s.fr.2
  obtain ⟨b, us, rfl, g1, g2⟩ := hy s hu
  obtain ⟨o, h1, h0, ws, rfl, h3⟩ := s.at h.mem
  refine ⟨p, b, ws, us, e, rfl, h1, g1, by rw [h3.length, g2.length]; exact hl, q .non _ ⟨F, ?_⟩⟩
  have s' := s.put1 (o := .lst (ws ++ us)) h h0 ⟨h0, _, rfl, h3.append g2⟩
  exact ⟨s'.ex, ⟨s'.fr.1.1, .non⟩, s'.sl, s'.nd, s'.ce⟩
/-! ### cells found by their order -/
theorem put_perm {c c' : CD} : ∀ {M L : Cells}, M.Perm ((p, c) :: L) → ∃ M', Put p c c' M M' ∧ M'.Perm ((p, c') :: L) := fun {M L} h => by
  have hm : (p, c) ∈ M := h.mem_iff.mpr List.mem_cons_self
  obtain ⟨A, B, rfl⟩ := List.append_of_mem hm
  have hz : ∀ A : Cells, Put p c c' (A ++ (p, c) :: B) (A ++ (p, c') :: B) := fun A => by
    induction A with
    | nil => exact .here
    | cons a A ih => exact .there ih
  refine ⟨A ++ (p, c') :: B, hz A, List.perm_middle.trans (List.Perm.cons _ ?_)⟩
  exact (List.perm_middle.symm.trans h).cons_inv
theorem mem_perm {c : Addr × CD} {L : Cells} (h : M.Perm L) (hc : c ∈ L) : c ∈ M := h.mem_iff.mpr hc
end
/-! ### a dict of one's own, locked while something is asked -/
def cDx (od : Obj) (vs : List (L2.Key × V)) (kvs : List (L2.Key × VD)) : CD := ⟨fun F p o => F p = none ∧ o = .frz od (.dK vs) ∧ DP F kvs vs, fun e q ⟨h0, h1, h2⟩ => ⟨q.trans h0, h1, h2.mono e⟩⟩
section
variable {K : PySem.W.Frag} {ρ ρ' : Env} {M M1 M2 M3 M' : Cells} {x y : VD} {te ta tb td tk tv : TE} {Φ Φ0 : Fr} {p q C : Addr} {kvs : List (L2.Key × VD)} {D : Ends} {P P' : VD → Cells → Prop} {c : Addr × CD}
theorem SatF.cell {F : Hp} {σ : L2.St} {H : Hp} {c c' : CD} (s : SatF F Φ ρ ((p, c) :: M) σ H) {H' : Hp} (h0 : F p = none) (hc : ∃ o, H' p = some o ∧ c'.P F p o) (h2 : ∀ a, a ≠ p → H' a = H a) : SatF F Φ ρ ((p, c') :: M) σ H' := by
  refine ⟨fun a u e => ?_, s.fr, s.sl, s.nd, fun d hd => ?_⟩
  · rw [h2 a (fun z => by rw [z, h0] at e; cases e)]; exact s.ex a u e
  · rcases List.mem_cons.mp hd with e | hd
    · subst e; exact hc
    · obtain ⟨u, k1, k2⟩ := s.ce d (List.mem_cons_of_mem _ hd)
      have hne : d.1 ≠ p := fun e => by
        have nd := s.nd
        rw [List.cons_append, List.map_cons, List.nodup_cons] at nd
        exact nd.1 (List.mem_map.mpr ⟨d, hd, e⟩)
      exact ⟨u, by rw [h2 _ hne]; exact k1, k2⟩
theorem er_lockX (h : ∀ od vs, EvR te ρ ((p, cDx od vs kvs) :: M) fun x N => ∃ N', N.Perm ((p, cDx od vs kvs) :: N') ∧ P x ((p, cD kvs) :: N')) : EvR (tLockE te) ρ ((p, cD kvs) :: M) P := fun Φ σ H Q ⟨F, s⟩ q => by
  obtain ⟨o, h1, h0, vs, rfl, h3⟩ := s.at List.mem_cons_self
  refine ⟨p, _, h1, trivial, fun od => ?_⟩
  have s1 : SatF F Φ ρ ((p, cDx od vs kvs) :: M) σ (upd H p (.frz od (.dK vs))) := s.cell h0 ⟨_, upd_same, h0, rfl, h3⟩ fun a ha => upd_ne ha
  refine h od vs Φ σ _ _ ⟨F, s1⟩ fun x N v H' ⟨N', e, hp⟩ s' => ?_
  have ⟨F', z⟩ := s'.perm e
  obtain ⟨o, g1, g0, g2, g3⟩ := z.at List.mem_cons_self
  refine ⟨by rw [g1, g2], q x _ v _ hp ⟨F', ?_⟩⟩
  exact z.cell g0 ⟨_, upd_same, g0, vs, rfl, g3⟩ fun a ha => upd_ne ha
theorem ev_lockX (h : ∀ od vs, Ev te ρ ((p, cDx od vs kvs) :: M) x ((p, cDx od vs kvs) :: M)) : Ev (tLockE te) ρ ((p, cD kvs) :: M) x ((p, cD kvs) :: M) := (er_lockX fun od vs => (EvR.of (h od vs)).imp fun y N ⟨e1, e2⟩ => ⟨M, e2 ▸ .refl _, e1, rfl⟩ : EvR (tLockE te) ρ ((p, cD kvs) :: M) (Det x ((p, cD kvs) :: M))).ev
theorem RtQ.more {Q : VK} (h : RtQ Q Φ P) : RtQ Q (Φ.more c) fun x N => P x (c :: N) := fun Φ' ρ σ x M v H l hp ⟨F, z⟩ => by
  have s2 : SatF F ((Φ.and x v).more c) ρ M σ H := by
    refine SatF.weak (Φ := Φ'.and x v) z ⟨?_, fun F h => ⟨l.p F h.1, h.2⟩⟩
    exact l.n
  exact h Φ ρ σ x (c :: M) v H (.refl _) hp ⟨F, s2.outN⟩
theorem lkd_x {v : V} {σ : L2.St} {H : Hp} {od : Obj} {vs : List (L2.Key × V)} (l : Le Φ Φ0) (hc : (p, cDx od vs kvs) ∈ Φ0.N) (s : Sat (Φ.and (val (.ref p)) v) ρ M σ H) : v = .ref p ∧ H p = some (.frz od (.dK vs)) ∧ vs.length = kvs.length ∧ LkD Φ p od vs kvs := by
  have ⟨F, z⟩ := s
  have at_ : ∀ {Φ' : Fr} {ρ' : Env} {M' : Cells} {σ' : L2.St} {H' : Hp} {F' : Hp}, Le Φ' Φ → SatF F' Φ' ρ' M' σ' H' → H' p = some (.frz od (.dK vs)) ∧ DP F' kvs vs := fun {Φ' ρ' M' σ' H' F'} l' z' => by
    obtain ⟨o, k1, k0, e, k3⟩ := z'.ce _ (List.mem_append_right _ (l'.n.subset (l.n.subset hc)))
    exact ⟨by rw [k1, e], k3⟩
  obtain ⟨h1, h2⟩ := at_ (.refl _) (z.weak Le.and)
  exact ⟨z.fr.2, h1, h2.len.symm, fun Φ' ρ' M' σ' H' l' ⟨F', z'⟩ => ⟨(at_ l' z').1, F', z', (at_ l' z').2⟩⟩
theorem ei_keysX {od : Obj} {vs : List (L2.Key × V)} (hc : (p, cDx od vs kvs) ∈ Φ0.N) (h : Ev td ρ M (val (.ref p)) M') : EvIL Φ0 (iKeys td) ρ M (kvs.map fun p => kdat p.1) M' := fun Φ σ H R l s q => h Φ σ H _ s fun v H1 s1 => by
  obtain ⟨rfl, h1, hl, lk⟩ := lkd_x l hc s1
  exact ⟨p, od, rfl, .inl ⟨vs, h1, q _ _ Φ (.refl _) s1.weak1 (walks_keys hl lk)⟩⟩
theorem ei_itemsX {od : Obj} {vs : List (L2.Key × V)} (hc : (p, cDx od vs kvs) ∈ Φ0.N) (h : Ev td ρ M (val (.ref p)) M') : EvIL Φ0 (iItems td) ρ M (kvs.map fun p => vtup [kdat p.1, p.2]) M' := fun Φ σ H R l s q => h Φ σ H _ s fun v H1 s1 => by
  obtain ⟨rfl, h1, hl, lk⟩ := lkd_x l hc s1
  exact ⟨p, od, vs, rfl, h1, q _ _ Φ (.refl _) s1.weak1 (walks_items hl lk)⟩
end
end Sx

set_option Elab.async false
set_option linter.all false
set_option maxRecDepth 100000
set_option maxHeartbeats 2000000
/-! Sx25: several outcomes: C(..), d[k] = v, tuples of data, dict(pairs). -/
namespace Sx
open PySem L2 Evl
section
variable {K : PySem.W.Frag} {ρ ρ' : Env} {M M1 M2 M3 M' : Cells} {x y : VD} {te ta tb td tk tv ty tl : TE} {t : TA} {Φ Φ0 : Fr} {p q C : Addr} {kvs : List (L2.Key × VD)} {D : Ends} {P P' : VD → Cells → Prop} {Pa : List VD → Cells → Prop}
theorem er_makeR {n : Nat} {S : FSpec} {E : XK} (h : EvAR t ρ M Pa) (hS : ∀ ds M1, Pa ds M1 → ds.length + 1 = n ∧ ∀ p, S (val (.ref p) :: ds) ((p, cI C [] []) :: M1) fun y M' => y = vn ∧ P (val (.ref p)) M') : EvR (tMake C (spF n S) [] E t) ρ M P := fun Φ σ H Q s q =>
  h Φ σ H _ s fun ds M1 vs H1 hp s1 => fun x dx hx hdx hne => by
    obtain ⟨hn, hS⟩ := hS ds M1 hp
    have ⟨F, s2⟩ := s1
    have hl := Paired.length s2.fr.2
    rw [List.append_nil]
    have s3 := (s2.newH (o := .own x) hdx).newC (c := cI C [] []) (o := .ins C dx []) (p := x) (by rw [upd_ne hne.symm]; exact hx) fun e => ⟨e, dx, [], rfl, rfl, .nil⟩
    refine ⟨Φ, ρ, σ, val (.ref x) :: ds, (x, cI C [] []) :: M1, fun y M' => y = vn ∧ P (val (.ref x)) M', ⟨F, s3.weak (.of rfl fun F h => ⟨h.1, .cons rfl h.2⟩)⟩, by rw [List.length_cons, ← hl]; exact hn, hS x, fun y M' v H' hp s' => ?_⟩
    obtain ⟨rfl, hp⟩ := hp
    have ⟨F', s5⟩ := s'
    refine ⟨?_, q (val (.ref x)) M' (.ref x) H' hp ⟨F', s5.ex, ⟨s5.fr.1, rfl⟩, s5.sl, s5.nd, s5.ce⟩⟩
    have e : Rp F' v .none := s5.fr.2
    cases e
    rfl
theorem c_dputR (hv : EvR tv ρ M P) (k : ∀ x M1, P x M1 → ∃ p kvs k M2 M3 M4, Ev td ρ M1 (val (.ref p)) M2 ∧ Ev ty ρ M2 (dat (kD k)) M3 ∧ Put p (cD kvs) (cD (putG kvs k x)) M3 M4 ∧ kvs.length < sizeLine ∧ Cont D.nx Φ ρ M4) : Cont (sDPut td ty tv D) Φ ρ M := fun σ H s => hv Φ σ H _ s fun x M1 v H1 hp s1 => by
  obtain ⟨p, kvs, k, M2, M3, M4, hd, hk, hput, hl, c⟩ := k x M1 hp
  refine hd _ σ H1 _ s1 fun w H2 s2 => hk _ σ H2 _ s2 fun u H3 s3 => ?_
  have ⟨F3, z3⟩ := s3
  have ew : w = .ref p := z3.fr.1.2
  cases kv_of z3.fr.2
  subst ew
  obtain ⟨o, k1, k0, vs, rfl, k3⟩ := z3.at hput.mem
  refine ⟨p, _, rfl, .inl ⟨vs, k, k1, rfl, by rw [← k3.len]; exact hl, rfl⟩, c σ _ ⟨F3, ?_⟩⟩
  exact (z3.put1 (o := .dK (putK vs k v)) hput k0 ⟨k0, _, rfl, k3.put k z3.fr.1.1.2⟩).weak (.of rfl fun F h => h.1.1.1)
theorem er_tupD (h : EvAR t ρ M fun ds M' => ∃ es : List PyData, ds = es.map dat ∧ es.length ≤ sizeLine ∧ P (dat (.tuple es)) M') : EvR (tTup t) ρ M P := fun Φ σ H Q s q =>
  h Φ σ H _ s fun ds M1 vs H1 ⟨es, e, hl, hp⟩ ⟨F, s1⟩ => by
    subst e
    have hr := DA.of_dat.mp s1.fr.2
    refine ⟨by rw [hr.length]; exact hl, fun p hp' => ?_⟩
    obtain ⟨s2, fx⟩ := s1.new (o := .tup vs) hp'
    exact q _ M1 _ _ hp ⟨_, s2.ex, ⟨s2.fr.1, .tup upd_same (hr.mono fx)⟩, s2.sl, s2.nd, s2.ce⟩
theorem er_fzDic (h : EvR tl ρ M fun y N => ∃ l : List (L2.Key × PyData), y = dat (.list (l.map encPr)) ∧ P (vdz (mergeG [] (dKs l))) N) : EvR (tFz (tCB (rDictP K) (tCons tl tNil))) ρ M P := fun Φ σ H Q s q => h Φ σ H _ s fun y N v H1 ⟨l, e, hp⟩ s1 => by
  subst e
  have ⟨F, z⟩ := s1
  have h1 := z.fr.2
  cases h1 with
  | @lst a xs _ g1 g2 =>
    obtain ⟨ps, kvs, rfl, hp', hd⟩ := pairs_rp (K := K) z.ex g2
    refine ⟨a, ps, kvs, rfl, .inl (sq_of (z.ex _ _ g1)), hp', fun p hp2 => ⟨p, _, rfl, upd_same, trivial, fun od => ?_⟩⟩
    rw [upd_upd]
    exact q _ _ _ _ hp (Sat.retNew (SatF.weak z Le.and) hp2 fun F' fx e => ⟨p, od, _, rfl, e, (hd.merge .nil).mono fx⟩)
end
end Sx
namespace Sx
open PySem L2 Evl
section
variable {ρ : Env} {M M' : Cells} {t : TA} {P : List VD → Cells → Prop}
theorem RV.eq {r : R2} {x y z w : VD} (h : RV r x y M z M') (e : z = w) : RV r x y M w M' := e ▸ h
theorem ear_permF (e : M.Perm M') (h : EvAR t ρ M' P) : EvAR t ρ M P := fun Φ σ H Q s q => h Φ σ H Q (s.perm e) q
end
end Sx
/-! tests of several outcomes -/
namespace Sx
open PySem L2 Evl
section
variable {ρ : Env} {M M' : Cells}
def EvTL (Φ0 : Fr) (tt : TT) (ρ : Env) (M : Cells) (P : Bool → Cells → Prop) : Prop := ∀ (Φ : Fr) (σ : L2.St) (H : Hp) (Q : Bool → Hp → Prop), Le Φ Φ0 → Sat Φ ρ M σ H → (∀ b M' H', P b M' → Sat Φ ρ M' σ H' → Q b H') → tt σ H Q
theorem etl_test {Φ0 : Fr} {te : TE} {P : Bool → Cells → Prop} {Pe : VD → Cells → Prop} (h : EvL Φ0 te ρ M Pe) (hP : ∀ x M', Pe x M' → ∃ b, x = dat (.bool b) ∧ P b M') : EvTL Φ0 (tTest te) ρ M P := fun Φ σ H Q l s q => h Φ σ H _ l s fun x M' v H' hx s' => by
  obtain ⟨b, rfl, hb⟩ := hP x M' hx
  have ⟨F, s2⟩ := s'
  cases s2.fr.2
  exact ⟨b, rfl, q b M' H' hb s'.weak1⟩
theorem etl_of {Φ0 : Fr} {tt : TT} {b : Bool} {P : Bool → Cells → Prop} (h : EvT tt ρ M b M') (hp : P b M') : EvTL Φ0 tt ρ M P := fun Φ σ H Q _ s q => h Φ σ H _ s fun H' s' => q b M' H' hp s'
theorem etl_or {Φ0 : Fr} {tt tu : TT} {P P1 : Bool → Cells → Prop} (h1 : EvTL Φ0 tt ρ M P1) (h2 : ∀ M', P1 false M' → EvTL Φ0 tu ρ M' P) (h3 : ∀ M', P1 true M' → P true M') : EvTL Φ0 (tOr tt tu) ρ M P := fun Φ σ H Q l s q => h1 Φ σ H _ l s fun b M' H' hb s' => by
  cases b with
  | true => rw [if_pos rfl]; exact q true M' H' (h3 M' hb) s'
  | false => rw [if_neg Bool.false_ne_true]; exact h2 M' hb Φ σ H' Q l s' q
theorem etl_and {Φ0 : Fr} {tt tu : TT} {P P1 : Bool → Cells → Prop} (h1 : EvTL Φ0 tt ρ M P1) (h2 : ∀ M', P1 true M' → EvTL Φ0 tu ρ M' P) (h3 : ∀ M', P1 false M' → P false M') : EvTL Φ0 (tAnd tt tu) ρ M P := fun Φ σ H Q l s q => h1 Φ σ H _ l s fun b M' H' hb s' => by
  cases b with
  | false => rw [if_neg Bool.false_ne_true]; exact q false M' H' (h3 M' hb) s'
  | true => rw [if_pos rfl]; exact h2 M' hb Φ σ H' Q l s' q
theorem c_ifL {Φ : Fr} {D : Ends} {tc : TT} {t u : TS} {P : Bool → Cells → Prop} (h : EvTL Φ tc ρ M P) (h1 : ∀ M', P true M' → Cont (t D) Φ ρ M') (h2 : ∀ M', P false M' → Cont (u D) Φ ρ M') : Cont (tIfS tc t u D) Φ ρ M := fun σ H s => h Φ σ H _ (.refl _) s fun b M' H' hb s' => by
  cases b with
  | true => rw [if_pos rfl]; exact h1 M' hb σ H' s'
  | false => rw [if_neg Bool.false_ne_true]; exact h2 M' hb σ H' s'
theorem evl_op {Φ0 : Fr} {r : R2} {ta tb : TE} {P Pa : VD → Cells → Prop} (ha : EvL Φ0 ta ρ M Pa) (hb : ∀ x M1, Pa x M1 → EvL Φ0 tb ρ M1 fun y M2 => ∃ z M3, RV r x y M2 z M3 ∧ P z M3) : EvL Φ0 (tOp r ta tb) ρ M P := fun Φ σ H Q l s q =>
  ha Φ σ H _ l s fun x M1 v H1 hx s1 => hb x M1 hx (Φ.and x v) σ H1 _ (Le.and.trans l) s1 fun y M2 w H2 ⟨z, M3, hr, hp⟩ s2 => hr Φ ρ σ v w H2 Q s2 fun u H3 s3 => q z M3 u H3 hp s3
theorem etl_B {Φ0 : Fr} {ρ : Env} {M : Cells} {te : TE} {P : Bool → Cells → Prop} {Pe : VD → Cells → Prop} (h : EvL Φ0 te ρ M Pe) (hP : ∀ x M', Pe x M' → ∃ b, x = dat (.bool b) ∧ P b M') : EvTL Φ0 (tB te) ρ M P := fun Φ σ H Q l s q => h Φ σ H _ l s fun x M' v H' hx s' => by
  obtain ⟨b, rfl, hb⟩ := hP x M' hx
  have ⟨F, s2⟩ := s'
  cases s2.fr.2
  exact ⟨b, rfl, q b M' H' hb s'.weak1⟩
theorem etl_not {Φ0 : Fr} {ρ : Env} {M : Cells} {tt : TT} {P P1 : Bool → Cells → Prop} (h : EvTL Φ0 tt ρ M P1) (k : ∀ b M', P1 b M' → P (!b) M') : EvTL Φ0 (tNot tt) ρ M P := fun Φ σ H Q l s q => h Φ σ H _ l s fun b M' H' hb s' => q (!b) M' H' (k b M' hb) s'
theorem EvTL.imp {Φ0 : Fr} {tt : TT} {P P' : Bool → Cells → Prop} (h : EvTL Φ0 tt ρ M P) (k : ∀ b N, P b N → P' b N) : EvTL Φ0 tt ρ M P' := fun Φ σ H Q l s q => h Φ σ H Q l s fun b M' H' hb s' => q b M' H' (k b M' hb) s'
end
end Sx

set_option Elab.async false
set_option linter.all false
set_option maxRecDepth 100000
set_option maxHeartbeats 2000000
/-! Sx26: lists of texts of one's own that are walked. -/
namespace Sx
open PySem L2 Evl
section
variable {K : PySem.W.Frag} {ρ ρ' : Env} {M M0 M1 M' : Cells} {x : VD} {te : TE} {tt : TT} {Φ Φ0 : Fr} {p : Addr} {P : VD → Cells → Prop} {c : Addr × CD}
theorem ei_ownS {xs : List Str} (hc : (p, cLd (xs.map .str)) ∈ Φ0.N) (h : Ev te ρ M (val (.ref p)) M) : EvIL Φ0 (iSeq K te) ρ M (xs.map fun c => dat (.str c)) M := fun Φ σ H R l s q => h Φ σ H _ s fun v H1 s1 => by
  have ⟨F, z⟩ := s1
  have e : v = .ref p := z.fr.2
  have hz : ∀ {Φ' : Fr} {ρ' : Env} {M' : Cells} {σ' : L2.St} {H' : Hp} {F' : Hp}, Le Φ' Φ → SatF F' Φ' ρ' M' σ' H' → SqL K H' p (xs.map V.str) := fun {Φ' ρ' M' σ' H' F'} l' z' => by
    obtain ⟨o, k1, k0, ws, rfl, k3⟩ := z'.ce _ (List.mem_append_right _ (l'.n.subset (l.n.subset hc)))
    rw [RpL.strs k3] at k1
    exact sq_of k1
  have hd : ∀ F' : Hp, DA F' (xs.map fun c => dat (.str c)) (xs.map V.str) := fun F' => by
    have hy : ∀ xs : List Str, DA F' (xs.map fun c => dat (.str c)) (xs.map V.str) := fun xs => by
      induction xs with
      | nil => exact .nil
      | cons a xs ih => exact .cons (.str a) ih
    exact hy xs
  refine .inl ⟨p, e, ⟨_, hz (.refl _) (z.weak Le.and)⟩, q _ _ Φ (.refl _) s1.weak1 ?_⟩
  exact ei_vec (ws := xs.map V.str) (by simp) fun Φ' ρ' M' σ' H' l' ⟨F', z'⟩ => ⟨hz l' z', F', z', hd F'⟩
/-- a comprehension below a frame: data for each item that is let by -/
theorem el_lcF {α : Type} {wi : TI} {g : TG} {vs : List Nat} {e : α → VD} {xs : List α} {f : α → Bool} {r : α → PyData} (h : EvIL Φ0 wi ρ M (xs.map e) M1) (hl : xs.length ≤ 16000000)
    (hs : ∀ a, a ∈ xs → ∃ ρ'' js, Tgt g js (e a) (wipeE ρ vs) ρ'' ∧ (∀ i ∈ js, i ∈ vs) ∧ EvT tt ρ'' M1 (f a) M1 ∧ (f a = true → Ev te ρ'' M1 (dat (r a)) M1)) : EvL Φ0 (tLc wi g tt te vs) ρ M (Det (dat (.list ((xs.filter f).map r))) M1) := fun Φ σ H Q l s q => by
  refine el_lc (te := te) (g := g) (tt := tt) (vs := vs) h (fun i acc M' => M' = M1 ∧ acc = (((xs.take i).filter f).map r).map dat) ⟨rfl, rfl⟩ (by rw [List.length_map]; exact hl) (fun i acc M' ⟨_, e⟩ => by
    subst e
    rw [List.length_map, List.length_map]
    exact Nat.le_trans (List.length_filter_le _ _) (by rw [List.length_take]; omega)) (fun i d acc M' hi ⟨e1, e2⟩ => ?_) Φ σ H Q l s fun x M' v H' ⟨acc, e, e1, e2⟩ s' => ?_
  · subst e1; subst e2
    rw [List.getElem?_map] at hi
    cases q : xs[i]? with
    | none => rw [q] at hi; cases hi
    | some a =>
      rw [q] at hi
      cases hi
      have htk : xs.take (i + 1) = xs.take i ++ [a] := by rw [List.take_succ, q]; rfl
      obtain ⟨ρ'', js, h1, hj, h2, h3⟩ := hs a (List.mem_of_getElem? q)
      refine ⟨ρ'', js, f a, M', h1, hj, h2, fun hf => (h3 hf).l ⟨rfl, ?_⟩, fun hf => ⟨rfl, ?_⟩⟩
      · rw [htk, List.filter_append, List.map_append, List.map_append, List.filter_cons_of_pos hf]
        rfl
      · rw [htk, List.filter_append, List.map_append, List.map_append, List.filter_cons_of_neg (by rw [hf]; exact Bool.false_ne_true)]
        simp
  · subst e; subst e1
    rw [List.length_map, List.take_length] at e2
    subst e2
    exact q _ _ v H' ⟨rfl, rfl⟩ (s'.weak (.of rfl fun F p => ⟨p.1, vlst_dat.mp p.2⟩))
/-- one cell is put aside meanwhile -/
theorem ev_own (hp : M.Perm (c :: M0)) (h : ∀ Φ : Fr, EvL (Φ.more c) te ρ M0 (Det x M0)) : Ev te ρ M x M := by
  refine Ev.perm (Ev.permIn ((EvL.r fun Φ => (evl_back (h Φ)).imp fun y N ⟨M', e, h1, h2⟩ => ⟨h1, by rw [e, h2]⟩ : EvR te ρ (c :: M0) (Det x (c :: M0))).ev) hp) hp.symm
end
end Sx

set_option Elab.async false
set_option linter.all false
set_option maxRecDepth 100000
set_option maxHeartbeats 4000000
/-! Sx27: sorted(d, key=o.m): the keys of a dict by a method of an instance. -/
namespace L2
open PySem PySem.Spec PyProof.Rows
section
variable {X : Cx} {pins : List (Addr × Obj)} {σ : St} {H : Hp} {s : Shared}
/-- an object of ours that is not tracked is changed -/
theorem Inv.poke {b : Addr} {h' : Heap} {t' : Nat} (I : Inv X pins σ H s) (fp : FpOk X pins H b) (k : ∀ c u, c ≠ b → s.heap.get? c = some u → h'.get? c = some u) : Inv X pins σ H { s with heap := h', toks := t' } := by
  refine I.call (h' := h') (g' := s.gens) (d' := s.drawn) (t' := t') (ch := [b]) ⟨fun c o e _ _ z => k c o (fun q => z (by simp [q])) e, fun c o e _ _ z => ⟨o.slots, k c o (fun q => z (by simp [q])) e⟩, fun _ _ _ n _ => n, fun c o e z => ⟨o, k c o (fun q => z (by simp [q])) e⟩, fun _ _ q => q, fun _ _ _ q => q, fun c ps q => ⟨#[], by rw [q]; simp⟩⟩ (fun a o e => (I.hok a o e).stay (fun c u hc q => k c u (fun z => ?_) q) (fun _ q => q) fun _ _ q => q) I.bare fun c hc => ?_
  · subst z
    rcases hc with rfl | hc
    · rw [fp.1] at e; cases e
    · rw [fp.1] at hc; cases hc
  · cases List.mem_singleton.mp hc
    exact ⟨fp.2.2.2.1, fp.2.1, fp.2.2.2.2.1, fp.2.2.2.2.2⟩
/-- two of ours were changed; one of them is tracked from now on -/
theorem Inv.lay2 {kS L : Addr} {h' : Heap} {t' : Nat} {o : HO} (I : Inv X pins σ H s) (f1 : FpOk X pins H kS) (f2 : FpOk X pins H L) (k : ∀ c u, c ≠ kS → c ≠ L → s.heap.get? c = some u → h'.get? c = some u) (new : ObjOk X.prog X.w (upd H L o) h' L o) :
    Inv X pins σ (upd H L o) { s with heap := h', toks := t' } := by
  have nk : ∀ {c : Addr}, c ∉ [kS, L] → c ≠ kS ∧ c ≠ L := fun {c} z => ⟨fun e => z (by simp [e]), fun e => z (by simp [e])⟩
  have ne : ∀ {c : Addr} {u : HO}, H c = some u → c ≠ kS ∧ c ≠ L := fun {c u} e => ⟨fun z => (by rw [z, f1.1] at e; cases e), fun z => (by rw [z, f2.1] at e; cases e)⟩
  refine I.call (h' := h') (g' := s.gens) (d' := s.drawn) (t' := t') (ch := [kS, L]) ⟨fun c o e _ _ z => k c o (nk z).1 (nk z).2 e, fun c o e _ _ z => ⟨o.slots, k c o (nk z).1 (nk z).2 e⟩, fun c _ _ n z => by rw [upd_ne (nk z).2]; exact n, fun c o e z => ⟨o, k c o (nk z).1 (nk z).2 e⟩, fun c _ q => by rw [upd_ne (ne q).2]; exact q, fun c _ _ q => by rw [upd_ne (ne q).2]; exact q, fun c ps q => ⟨#[], by rw [upd_ne (ne q).2, q]; simp⟩⟩ (fun a u e => ?_) I.bare fun c hc => ?_
  · by_cases z : a = L
    · subst z; rw [upd_same] at e; cases e; exact new
    · rw [upd_ne z] at e
      refine (I.hok a u e).stay (fun c v hc q => k c v ?_ ?_ q) (fun b q => by rw [upd_ne (ne q).2]; exact q) fun b _ q => by rw [upd_ne (ne q).2]; exact q
      · rcases hc with rfl | hc
        · exact (ne e).1
        · exact (ne hc).1
      · rcases hc with rfl | hc
        · exact z
        · exact (ne hc).2
  · rcases List.mem_cons.mp hc with rfl | hc
    · exact ⟨f1.2.2.2.1, f1.2.1, f1.2.2.2.2.1, f1.2.2.2.2.2⟩
    · cases List.mem_singleton.mp hc
      exact ⟨f2.2.2.2.1, f2.2.1, f2.2.2.2.2.1, f2.2.2.2.2.2⟩
theorem FpOk.up {H' : Hp} {b : Addr} (f : FpOk X pins H b) (h : H' b = none) : FpOk X pins H' b := ⟨h, f.2⟩
theorem FpOk.stk {b : Addr} (I : Inv X pins σ H s) (f : FpOk X pins H b) : b ∉ frs X.stack := fun z => (List.mem_cons.mp (I.stkSub b z)).elim f.2.1 f.2.2.1
/-- o.m as a value, not tracked -/
theorem getbound0 {A : Around} {E : Value → Shared → Prop} {a C dx g : Addr} {fs : List (Str × V)} {m : Str} {b : Bool} {Q : Value → Shared → Prop} (I : Inv X pins σ H s) (e : H a = some (.ins C dx fs)) (c : Cls X.K C) (k : BMeth X.K C m g) (l : fs.lookup m = none)
    (h : ∀ p s', s.heap.objs.size ≤ p → s'.heap.get? p = some (PySem.W.methodObj (.ref g) (.ref a)) → Inv X pins σ H s' → Q (.ref p) s') : wpAny (model X.prog X.w) A (getAttr (.ref a) m b) Q E s := by
  have ⟨mA, O, r, _, _, _⟩ := ins_get I.hok e
  have none_ : mA m = none := RelO.none_of (l ▸ r m)
  have ⟨od, J, look⟩ := O.look
  have look : PySem.W.lookIn m od = some none := by rw [look m, none_]
  refine PySem.W.get_bind I.kIn J (PySem.W.plainGet_of (c.get m)).1 (PySem.W.findObj_fn c.hd k.mt.at_ k.gf k.tk k.cp look) (PySem.W.plainGet_of (c.get m)).2 (wpAny_call (PySem.W.fn_get (s := { s with toks := s.toks + 1 }) I.kIn (beq_iff_eq.mp k.mt.fn) (PySem.W.handed_on rfl ?_)))
  exact h s.heap.objs.size _ (Nat.le_refl _) (Heap.get?_push_size s.heap rfl) (I.kept (t' := s.toks + 1) fun b u z => Heap.get?_push_of_some _ z)
end
/-- texts by keys -/
def sortBy (kf : Str → PyData) (ks : List Str) : List Str := ks.mergeSort (PySem.W.dataLe false kf)
theorem vals_each : ∀ {ks : List Str} {cs : List Value}, Vals (ks.map V.str) cs → PySem.W.EachIs (fun v c => ∃ t, v = Value.str c t) cs ks
  | [], _, h => by cases h; exact .nil
  | c :: ks, _, h => by
    cases h with
    | cons r t => exact .cons r (vals_each t)
theorem each_vals : ∀ {ks : List Str} {cs : List Value}, PySem.W.EachIs (fun v c => ∃ t, v = Value.str c t) cs ks → Vals (ks.map V.str) cs
  | [], _, h => by cases h; exact .nil
  | c :: ks, _, h => by
    cases h with
    | cons r t => exact .cons r (each_vals t)
section
variable {X : Cx} {pins : List (Addr × Obj)} {σ : St} {H : Hp} {s : Shared} {k : Nat} {f : Addr} {fd : FuncData} {ps : List Str} {sp : Sp} {P : PySem.Fin → Shared → Prop} {E : Value → Shared → Prop}
/-- one call of the bound method -/
theorem turn_bound {A : Around} {q p : Addr} {u : Value} {c : Str} {Q : VK} (F : FnOk X.prog X.w X.K X.mg X.base CX0 k f fd ps sp) (hr : Room k A) (hb : Binds X.K fd ps []) (fr : A.frames = some X.stack) (I : Inv X pins σ H s) (hq : s.heap.get? q = some (PySem.W.methodObj (.ref f) (.ref p)))
    (ru : RelV (.str c) u) (h : sp [.ref p, .str c] H Q E0) : wpAny (model X.prog X.w) A (call (.ref q) [u]) (fun v s' => CE X.stack X.prog X.w H s Q v s') (fun _ _ => False) s := by
  have e0 := I.env0
  have e1 : Env0 X.prog X.w X.K X.mg X.base A X.stack s H := ⟨fr, e0.mod, e0.bs, e0.bsz, e0.funs, e0.frf, e0.hok, e0.bare⟩
  have r2 : Vals [V.ref p, V.str c] [Value.ref p, u] := .cons rfl (.cons ru .nil)
  have b := hb s [Value.ref p, u] I.kIn (F.len _ _ _ _ h)
  rw [List.append_nil] at b
  refine wpAny_call (PySem.W.method_call hq (codeAny_mono (F.run A X.stack s H ⟨[Value.ref p, u], []⟩ [Value.ref p, u] [V.ref p, V.str c] Q E0 hr e1 b r2 h) fun r s' z => ?_))
  match r, z with
  | .error _, z => exact z.elim
  | .ok (.ret _), z => exact z
  | .ok .next, z => exact False.elim z
  | .ok .brk, z => exact False.elim z
  | .ok .cont, z => exact False.elim z
theorem sort_bound {A : Around} {L q p : Addr} {cs : List Value} {ks : List Str} {n : Nat} {kf : Str → PyData} (J : Nat → List V → Hp → Prop) (F : FnOk X.prog X.w X.K X.mg X.base CX0 k f fd ps sp) (hr : Room k A) (hb : Binds X.K fd ps []) (fr : A.frames = some X.stack) (I : Inv X pins σ H s)
    (fL : FpOk X pins H L) (fq : FpOk X pins H q) (hne : q ≠ L) (hL : s.heap.get? L = some (seqObj "list" cs.toArray n)) (hq : s.heap.get? q = some (PySem.W.methodObj (.ref f) (.ref p))) (hcs : Vals (ks.map V.str) cs) (hZ : ks.length ≤ sizeLine)
    (hal : PySem.W.AllAlike (ks.map kf)) (hsk : PySem.W.Sortable (ks.map kf)) (hu : ∀ d ∈ ks.map kf, A.units + d.depth < cLine) (j0 : J 0 [] H)
    (js : ∀ i c vs H3, ks[i]? = some c → J i vs H3 → sp [.ref p, .str c] H3 (fun v H4 => J (i + 1) (vs ++ [v]) H4) E0) (jd : ∀ vs H5, J ks.length vs H5 → DpAll X.K H5 vs (ks.map kf))
    (fin : ∀ vs H5 s', J ks.length vs H5 → H5 L = none → Inv X pins σ (upd H5 L (.lst ((sortBy kf ks).map V.str))) s' → P (.done (.ret .none)) s') : wpAny (model X.prog X.w) A (PyProof.Rows.ksk_tree L (.ref q) false) P E s := by
  have hcl : cs.length = ks.length := by have := hcs.length; rw [List.length_map] at this; exact this.symm
  have hcz : cs.length ≤ sizeLine := by rw [hcl]; exact hZ
  obtain ⟨e1, hL1⟩ : ∃ e1, (s.heap.update L (Obj.mapSeq fun _ => (#[] : Array Value))).get? L = some (seqObj "list" #[] e1) := ⟨_, get?_update_seq hL fun _ => #[]⟩
  have I1 : Inv X pins σ H { s with heap := s.heap.update L (Obj.mapSeq fun _ => (#[] : Array Value)) } := I.poke (t' := s.toks) fL fun c u z e => (Heap.get?_update_ne _ _ _ _ z).trans e
  have I2 : Inv X pins σ H { s with heap := (s.heap.update L (Obj.mapSeq fun _ => (#[] : Array Value))).push (seqObj "tuple" cs.toArray 0) } := I1.kept (t' := s.toks) fun c u z => Heap.get?_push_of_some _ z
  obtain ⟨kS, ekS⟩ : ∃ kS, kS = ((s.heap.update L (Obj.mapSeq fun _ => (#[] : Array Value))).push (seqObj "tuple" cs.toArray 0)).objs.size := ⟨_, rfl⟩
  have fS : FpOk X pins H kS := I2.fpOk (Nat.le_of_eq ekS.symm) (I2.hok.fresh (Nat.le_of_eq ekS.symm))
  have I3 : Inv X pins σ H { s with heap := ((s.heap.update L (Obj.mapSeq fun _ => (#[] : Array Value))).push (seqObj "tuple" cs.toArray 0)).push (seqObj "list" #[] 0) } := I2.kept (t' := s.toks) fun c u z => Heap.get?_push_of_some _ z
  have hSL : kS ≠ L := fun z => by
    have a : L < (s.heap.update L (Obj.mapSeq fun _ => (#[] : Array Value))).objs.size := Heap.lt_size hL1
    rw [size_push'] at ekS
    exact absurd a (Nat.not_lt.mpr (Nat.le_trans (Nat.le_succ _) (Nat.le_of_eq (ekS.symm.trans z))))
  have hSq : kS ≠ q := fun z => by
    have a : q < s.heap.objs.size := Heap.lt_size hq
    rw [size_push', Heap.size_update] at ekS
    exact absurd a (Nat.not_lt.mpr (Nat.le_trans (Nat.le_succ _) (Nat.le_of_eq (ekS.symm.trans z))))
  unfold PyProof.Rows.ksk_tree
  refine wpAny_bind (listItems_at hL rfl (wpAny_bind (listUpdate_at hL rfl (wpAny_bind (seqEpoch_at hL1 rfl (wpAny_bind (wpAny_newTuple (wpAny_bind (wpAny_newList (wpAny_holding ?_) (Nat.zero_le _))) hcz)))) (by rw [List.size_toArray]; exact hcz) (Nat.zero_le _))))
  show wpAny _ _ (PyProof.Rows.ksk_rest L (.ref q) false cs.toArray e1 (.ref ((s.heap.update L (Obj.mapSeq fun _ => (#[] : Array Value))).push (seqObj "tuple" cs.toArray 0)).objs.size)) _ _ { s with heap := ((s.heap.update L (Obj.mapSeq fun _ => (#[] : Array Value))).push (seqObj "tuple" cs.toArray 0)).push (seqObj "list" #[] 0) }
  rw [← ekS]
  unfold PyProof.Rows.ksk_rest
  refine wpAny_bind (wpAny_rule ?_)
  rw [List.forIn_toArray]
  refine wpAny_bind (PyProof.Rows.ksk_fold (fun i s' => ∃ vs H' kA e, Inv X pins σ H' s' ∧ J i vs H' ∧ Vals vs kA.toList ∧ vs.length = i ∧ s'.heap.get? kS = some (seqObj "list" kA e) ∧ s'.heap.get? L = some (seqObj "list" #[] e1) ∧ s'.heap.get? q = some (PySem.W.methodObj (.ref f) (.ref p)) ∧ H' kS = none ∧ H' L = none ∧ H' q = none) cs 0 _ ?base ?step ?done)
  case base =>
    refine ⟨[], H, #[], 0, I3, j0, .nil, rfl, ?_, Heap.get?_push_of_some _ (Heap.get?_push_of_some _ hL1), Heap.get?_push_of_some _ (Heap.get?_push_of_some _ ((Heap.get?_update_ne _ _ _ _ hne).trans hq)), fS.1, fL.1, fq.1⟩
    rw [ekS]
    exact Heap.get?_push_size _ rfl
  case step =>
    rintro j x s' hx ⟨vs, H', kA, e, I', hj, hv, hlen, nk, nL, nq, h1, h2, h3⟩
    rw [Nat.zero_add] at hj hlen ⊢
    obtain ⟨c, hc, ru⟩ : ∃ c, ks[j]? = some c ∧ RelV (.str c) x := by
      have hlt : j < cs.length := (List.getElem?_eq_some_iff.mp hx).1
      have hk : (ks.map V.str)[j]? = some (V.str ks[j]) := by rw [List.getElem?_map, List.getElem?_eq_getElem (by omega)]; rfl
      obtain ⟨u, g1, g2⟩ := hcs.get hk
      rw [hx] at g1
      cases g1
      exact ⟨_, List.getElem?_eq_getElem (by omega), g2⟩
    have hz : kA.size ≤ sizeLine := by
      have a := hv.length
      have a2 : kA.toList.length = kA.size := Array.length_toList
      have : j < cs.length := (List.getElem?_eq_some_iff.mp hx).1
      omega
    refine wpAny_bind (wpAny_attempt (wpAny_mono (turn_bound F hr hb fr I' nq ru (js j c vs H' hc hj)) (fun v s2 ce => ?_) fun _ _ z => z.elim))
    obtain ⟨v', H2, os, bare, un, hok, r, q'⟩ := id ce
    obtain ⟨hh, g, d, t, os'⟩ := s2
    obtain rfl : os' = s'.os := os
    have I'' : Inv X pins σ H2 { s' with heap := hh, gens := g, drawn := d, toks := t } := I'.call (h' := hh) (g' := g) (d' := d) (t' := t) (ch := []) un hok bare (fun b z => absurd z (by simp))
    have keep : ∀ {b : Addr} {o : Obj}, FpOk X pins H' b → s'.heap.get? b = some o → hh.get? b = some o ∧ H2 b = none := fun {b o} fb e => ⟨un.keep b o e fb.1 (fb.stk I') (by simp), un.free b o e fb.1 (by simp)⟩
    obtain ⟨nk2, k1⟩ := keep (fS.up h1) nk
    obtain ⟨nL2, k2⟩ := keep (fL.up h2) nL
    obtain ⟨nq2, k3⟩ := keep (fq.up h3) nq
    obtain ⟨c2, hc2⟩ : ∃ c2, (hh.update kS (Obj.mapSeq (·.push v))).get? kS = some (seqObj "list" (kA.push v) c2) := ⟨_, get?_update_seq nk2 (·.push v)⟩
    refine wpAny_bind (listUpdate_at nk2 rfl (wpAny_pure ⟨rfl, vs ++ [v'], H2, kA.push v, c2, ?_, q', ?_, ?_, hc2, ?_, ?_, k1, k2, k3⟩) hz (Nat.le_trans (Nat.le_of_eq (Array.size_push ..)) (Nat.succ_le_succ hz)))
    · exact I''.poke (t' := t) (fS.up k1) fun b u z e => (Heap.get?_update_ne _ _ _ _ z).trans e
    · rw [Array.toList_push]; exact hv.append (.cons r .nil)
    · rw [List.length_append, hlen]; rfl
    · exact (Heap.get?_update_ne _ _ _ _ hSL.symm).trans nL2
    · exact (Heap.get?_update_ne _ _ _ _ hSq.symm).trans nq2
  case done =>
    rintro s' ⟨vs, H', kA, e, I', hj, hv, hlen, nk, nL, nq, h1, h2, h3⟩
    rw [Nat.zero_add, hcl] at hj hlen
    obtain ⟨as, hrd⟩ := Dp.readsAll I' _ vs kA.toList (jd vs H' hj) hv
    have hk' : PySem.W.EachIs (fun v d => ∃ as, Reads s'.heap v d as) kA.toList (ks.map kf) := PySem.W.each_map kf (PySem.W.readsAll_each kf hrd)
    have hsz : kA.size = cs.length := by
      have a := hv.length
      have a2 : kA.toList.length = kA.size := Array.length_toList
      omega
    obtain ⟨G, g1, g2⟩ := restrict s'.heap fun b => decide (b ≠ kS)
    refine wpAny_bind (listItems_at nk rfl (PySem.W.keyH_end (κ := PySem.W.dataKind s'.heap (ks.map kf)) (b := false) (h₁ := G) (fun b o hb z => ?_) (g2 kS (by simp)) nk nL hSL (PySem.W.SortsAt.data hk' hal hsk hu) hsz hcz fun h3 tk c kp n3 => ?_))
    · by_cases w : b = kS
      · rw [w, g2 kS (by simp)] at z; cases z
      · rw [g1 b (by simpa using w)] at z; exact z
    · have ko : PySem.W.KeyedOut false (ks.map kf) cs (PySem.W.sortVals (PySem.W.dataKind s'.heap (ks.map kf)) false kA.toList cs) := ⟨s'.heap, kA.toList, hal, rfl, hk'⟩
      have ev := each_vals (PySem.W.keyedOut_each kf ko (vals_each hcs))
      refine fin vs H' _ hj h2 (I'.lay2 (t' := tk) (fS.up h1) (fL.up h2) (fun b u z1 z2 z3 => kp b u z2 ((g1 b (by simpa using z1)).trans z3)) ⟨?_, _, c, ev, n3⟩)
      rw [List.length_map, sortBy, List.length_mergeSort]
      exact hZ
end
end L2

set_option Elab.async false
set_option linter.all false
set_option maxRecDepth 100000
set_option maxHeartbeats 4000000
/-! Sx28: the rule for sorted(d, key=o.m), and what it gives by descriptions. -/
namespace L2
open PySem PySem.Spec PyProof.Rows
section
variable {X : Cx} {k : Nat} {f C : Addr} {fd : FuncData} {ps : List Str} {sp : Sp} {m : Str} {e o : Expr} {td to : TE} {p pos apos kpos : Pos}
def tSm (K : PySem.W.Frag) (C : Addr) (m : Str) (sp : Sp) (to : TE) (σ : St) (Q : VK) (x : V) (H1 : Hp) : Prop := to σ H1 fun y H2 => ∃ (a p dx : Addr) (kvs : List (Key × V)) (ks : List Str) (fs : List (Str × V)) (kf : Str → PyData) (J : Nat → List V → Hp → Prop),
  x = .ref a ∧ Rd H2 a (.dK kvs) ∧ kvs.map (·.1) = ks.map Sum.inr ∧ y = .ref p ∧ H2 p = some (.ins C dx fs) ∧ fs.lookup m = none ∧ PySem.W.AllAlike (ks.map kf) ∧ PySem.W.Sortable (ks.map kf) ∧ (∀ d ∈ ks.map kf, d.depth ≤ 8) ∧ J 0 [] H2 ∧
  (∀ i c vs H3, ks[i]? = some c → J i vs H3 → sp [.ref p, .str c] H3 (fun v H4 => J (i + 1) (vs ++ [v]) H4) E0) ∧ (∀ vs H5, J ks.length vs H5 → DpAll K H5 vs (ks.map kf)) ∧
  ∀ vs H5 L, J ks.length vs H5 → H5 L = none → Q (.ref L) (upd H5 L (.lst ((sortBy kf ks).map V.str)))
def tSortM (K : PySem.W.Frag) (C : Addr) (m : Str) (sp : Sp) (td to : TE) : TE := fun σ H Q => td σ H fun x H1 => tSm K C m sp to σ Q x H1
def one (R : V → Hp → Prop) : List V → Hp → Prop
  | [x], H => R x H
  | _, _ => False
theorem pe_sortM (hc : X.calm = true) (hg : Gl X "sorted") (hm : X.mg "sorted" = none) (hd : PE X e td) (ho : PE X o to) (cl : Cls X.K C) (bm : BMeth X.K C m f) (F : FnOk X.prog X.w X.K X.mg X.base CX0 k f fd ps sp) (hr : Room (k + 2) X.A) (hb : Binds X.K fd ps [])
    (hba : attributeBase o m X.env (eval o X.env) = eval o X.env := by rfl) (hse : starEach [e] X.env = (false, eval e X.env) :: starEach [] X.env := by rfl)
    (hv : bootBuiltins "sorted" = some (.builtin "sorted") := by decide +kernel)
    (he : backTo pos (starEach [e] X.env) = (false, eval e X.env) :: backTo pos (starEach [] X.env) := by rfl) (hpl : (backTo pos (starEach [e] X.env)).any (·.1) = false := by rfl)
    (hall : (backToKw pos (keywordEach [⟨some (Str.ofString "key"), .Attribute o m apos, kpos⟩] X.env)).all (·.1.isSome) = true := by rfl) (hnone : (backToKw pos (keywordEach [⟨some (Str.ofString "key"), .Attribute o m apos, kpos⟩] X.env)).any (·.1.isNone) = false := by rfl) :
    PE X (.Call (.Name "sorted" p) [e] [⟨some (Str.ofString "key"), .Attribute o m apos, kpos⟩] pos) (tSortM X.K C m sp td to) := ⟨fun pins s σ H Q I h => by
  refine wpAny_Call_Name_kw (ld_blt I hg hm hv ?_)
  refine PyProof.Rows.callWith_kw (thn ((pa_cons hd pa_nil hse).run pos pins s σ H (one (tSm X.K C m sp to σ Q)) I h) fun us s1 ⟨vs, H1, I1, r1, q1⟩ => ?_) he hpl hall hnone
  match vs, r1, q1 with
  | [x], r1, q1 =>
    show wpAny _ _ (evalAll ((do let v ← eval (.Attribute o m apos) X.env; standAt pos; pure v) :: [])) _ _ s1
    refine wpAny_evalAll_cons (wpAny_bind (attr_of hba (thn (ho.run pins s1 σ H1 _ I1 q1) fun u s2 ⟨y, H2, I2, ry, a, pp, dx, kvs, ks, fs, kf, J, hx, hd2, hks, hy, hins, hlk, hal, hsk, hdep, j0, js, jd, fin⟩ => ?_)))
    subst hx; subst hy
    obtain rfl : u = Value.ref pp := ry
    refine getbound0 I2 hins cl bm hlk fun q s3 hqs hq I3 => wpAny_bind (wpAny_standAt (wpAny_pure (wpAny_evalAll_nil ?_)))
    obtain ⟨u, rfl, rx⟩ := vals1 r1
    obtain rfl : u = Value.ref a := rx
    have fq : FpOk X pins H2 q := I2.fpOk hqs (I2.hok.fresh hqs)
    obtain ⟨z, lo, ws, rel, dd⟩ := dk_rd I3.hok hd2
    obtain ⟨ep, hat⟩ := dd.dictAt
    have hkeys : ws.map (·.1) = ks.map Sum.inr := rel.keys.symm.trans hks
    have hwl : ws.length = ks.length := by simpa using congrArg List.length hkeys
    have hkl : kvs.length = ks.length := by simpa using congrArg List.length hks
    refine call_function_entry_kw kind_sorted plain_sorted entry_sorted (ksk_s1 _ _) ?_
    unfold Builtin.«sorted»
    refine wpAny_bind (m := checkCount "sorted" 1 1 _) (wpAny_pure (wpAny_bind (PySem.W.kdu_collect (A := X.A.in1) (PySem.W.kdl_dict (knd := mixKind X.prog X.w) (kvs := ws) (ep := ep) lo) (I3.ok.hd hc) hat (by rw [hwl, ← hkl]; exact z) fun h' tk acc hk hacc => ?_)))
    have hal2 : acc.toList.length = ks.length := by
      have a : acc.toList.length = acc.size := Array.length_toList
      rw [a, hacc.1, hwl]
    have hS : Vals (ks.map V.str) acc.toList := vals_of_at (by rw [List.length_map, hal2]) fun j x v h1 h2 => by
      obtain ⟨kk, y, e1, e2⟩ := hacc.2 j v (by rw [← Array.getElem?_toList]; exact h2)
      have e3 : (ws.map (·.1))[j]? = some kk := by rw [List.getElem?_map, e1]; rfl
      rw [hkeys, List.getElem?_map] at e3
      rw [List.getElem?_map] at h1
      cases e4 : ks[j]? with
      | none => rw [e4] at e3; cases e3
      | some c =>
        rw [e4] at e3 h1
        cases e3; cases h1
        obtain ⟨t, ev⟩ := Value.isStrOf_shape (x := c) (v := v) e2
        exact ⟨t, ev⟩
    have I4 : Inv X pins σ H2 { s3 with heap := h', toks := tk } := I3.kept hk
    have fL : FpOk X pins H2 h'.objs.size := I4.fpOk (Nat.le_refl _) (I4.hok.fresh (Nat.le_refl _))
    have hqL : q ≠ h'.objs.size := Nat.ne_of_lt (Heap.lt_size (hk _ _ hq))
    refine wpAny_bind (wpAny_newList ?_ (by rw [hal2, ← hkl]; exact z))
    have hoL : (h'.push (seqObj "list" acc.toList.toArray 0)).get? h'.objs.size = some (seqObj "list" acc.toList.toArray 0) := Heap.get?_push_size _ rfl
    show wpAny _ _ _ _ _ { s3 with heap := h'.push (seqObj "list" acc.toList.toArray 0), toks := tk }
    have I5 : Inv X pins σ H2 { s3 with heap := h'.push (seqObj "list" acc.toList.toArray 0), toks := tk } := I4.kept (t' := tk) fun b u w => Heap.get?_push_of_some _ w
    refine wpAny_bind (wpAny_holding (wpAny_call_entry_kw slot_list_sort ⟨_, hoL, rfl⟩ entry_list_sort ?_ (ksk_l1 _ _)))
    show wpAny _ X.A.in1.in1 (ksk_tree h'.objs.size (.ref q) false) _ _ _
    refine sort_bound (k := k) (A := X.A.in1.in1) J F hr.in1.in1 hb I.ok.frames I5 fL fq hqL hoL (Heap.get?_push_of_some _ (hk _ _ hq)) hS (by rw [← hkl]; exact z) hal hsk (fun d hd => ?_) j0 js jd fun vs H5 s' hj hL I6 => ⟨_, rfl, wpAny_pure ⟨_, rfl, V.ref h'.objs.size, _, I6, rfl, fin vs H5 _ hj hL⟩⟩
    have := hdep d hd
    have := hr.in1.in1.un
    omega⟩
end
end L2

set_option Elab.async false
set_option linter.all false
set_option maxRecDepth 100000
set_option maxHeartbeats 4000000
/-! Sx29: sorted(d, key=o.m), [e for a in xs for b in ys], by descriptions. -/
namespace Sx
open PySem L2 Evl
section
variable {K : PySem.W.Frag} {ρ ρ' : Env} {M M1 M2 M' : Cells} {x y : VD} {te td to : TE} {Φ Ψ : Fr} {p C : Addr} {kvs : List (L2.Key × VD)} {P : VD → Cells → Prop}
theorem rp_dpAll {F H : Hp} (e : Ex F H) : ∀ {ds : List PyData} {vs : List V}, DA F (ds.map dat) vs → DpAll K H vs ds := fun {ds vs} h => RpL.dp e ds (DA.of_dat.mp h)
/-- sorted(d, key=o.m), o an instance that stays, its method tells a key for each -/
theorem ev_sortM {S : FSpec} {m : Str} {ns : List Str} {xs : List VD} {ks : List Str} {kf : Str → PyData} (hd : Ev td ρ M x M1) (hx : IsDi x M2 kvs) (ho : Ev to ρ M1 (vin C ns xs) M2) (hm : m ∉ ns) (hk : kvs.map (·.1) = ks.map Sum.inr) (hl : ks.length ≤ 16000000)
    (hal : PySem.W.AllAlike (ks.map kf)) (hsk : PySem.W.Sortable (ks.map kf)) (hdep : ∀ d ∈ ks.map kf, d.depth ≤ 8) (hS : ∀ c ∈ ks, S [vin C ns xs, dat (.str c)] M2 (Det (dat (kf c)) M2)) :
    Ev (tSortM K C m (spF 2 S) td to) ρ M (dat (.list ((sortBy kf ks).map .str))) M2 := fun Φ σ H Q s q => hd Φ σ H _ s fun v H1 s1 => ho _ σ H1 _ s1 fun w H2 s2 => by
  have ⟨F, z⟩ := s2
  obtain ⟨a, vs, rfl, h1, h2⟩ := hx z z.fr.1.2
  obtain ⟨b, dx, fs, rfl, g1, g2⟩ := z.fr.2
  refine ⟨a, b, dx, vs, ks, fs, kf, fun i us H3 => Sat (((Φ.and x (.ref a)).and (vin C ns xs) (.ref b)).andA ((ks.take i).map fun c => dat (kf c)) us) ρ M2 σ H3, rfl, h1, h2.keys.trans hk, rfl, z.ex _ _ g1, g2.lookup_none hm, hal, hsk, hdep, ?_, fun i c us H3 hc s3 => ?_, fun us H5 s5 => ?_, fun us H5 L s5 hL => ?_⟩
  · exact s2.weak (.of rfl fun F h => ⟨h, by rw [List.take_zero]; exact .nil⟩)
  · have s4 : Sat (((((Φ.and x (.ref a)).and (vin C ns xs) (.ref b)).andA ((ks.take i).map fun c => dat (kf c)) us)).andA [vin C ns xs, dat (.str c)] [.ref b, .str c]) ρ M2 σ H3 := s3.weak (.of rfl fun F h => ⟨h, .cons h.1.2 (.cons (.str c) .nil)⟩)
    refine ⟨_, ρ, σ, [vin C ns xs, dat (.str c)], M2, Det (dat (kf c)) M2, s4, rfl, hS c (List.mem_of_getElem? hc), fun y N v H' ⟨e1, e2⟩ s' => ?_⟩
    subst e1; subst e2
    refine s'.weak (.of rfl fun F h => ⟨h.1.1, ?_⟩)
    have htk : ks.take (i + 1) = ks.take i ++ [c] := by rw [List.take_succ, hc]; rfl
    rw [htk, List.map_append]
    exact DA.append h.1.2 (.cons h.2 .nil)
  · have ⟨F5, z5⟩ := s5
    have h := z5.fr.2
    rw [List.take_length] at h
    refine rp_dpAll z5.ex (ds := ks.map kf) ?_
    rw [List.map_map]
    exact h
  · have ⟨F5, z5⟩ := s5
    refine q _ _ (Sat.retNew (z5.weak (.of rfl fun F h => h.1.1.1)) hL fun F' fx e => .lst e (rpl_strs _))
/-- several cells aside -/
def Fr.mores (Φ : Fr) (cs : Cells) : Fr := ⟨cs ++ Φ.N, Φ.P, Φ.mono⟩
theorem SatF.asides {F : Hp} {cs : Cells} {σ : L2.St} {H : Hp} (s : SatF F Φ ρ (M ++ cs) σ H) : SatF F (Φ.mores cs) ρ M σ H := ⟨s.ex, s.fr, s.sl, by have := s.nd; rw [List.append_assoc] at this; exact this, fun c hc => s.ce c (by rw [List.append_assoc]; exact hc)⟩
theorem SatF.backs {F : Hp} {cs : Cells} {σ : L2.St} {H : Hp} (s : SatF F (Φ.mores cs) ρ M σ H) : SatF F Φ ρ (M ++ cs) σ H := ⟨s.ex, s.fr, s.sl, by rw [List.append_assoc]; exact s.nd, fun c hc => s.ce c (by rw [List.append_assoc] at hc; exact hc)⟩
/-- [r for a in xs for b in ys(a)]: data -/
theorem ev_lc2M {M0 : Cells} {α β : Type} {wi wi1 : TI} {g g1 : TG} {vs vs1 : List Nat} {e : α → VD} {xs : List α} {ys : α → List β} {e1 : α → β → VD} {r : α → β → PyData} (h : EvI wi ρ M0 (xs.map e) M) (hl : (xs.flatMap ys).length ≤ 16000000)
    (hs : ∀ a, a ∈ xs → ∃ ρ2 js cs Ma, Tgt g js (e a) (wipeE ρ vs) ρ2 ∧ (∀ i ∈ js, i ∈ vs) ∧ M.Perm (Ma ++ cs) ∧ (∀ (Φ : Fr) (c : Addr × CD), EvIL (Φ.mores cs) wi1 ρ2 (c :: Ma) ((ys a).map (e1 a)) (c :: Ma)) ∧
      ∀ b, b ∈ ys a → ∃ ρ3 js1, Tgt g1 js1 (e1 a b) (wipeE ρ2 vs1) ρ3 ∧ (∀ i ∈ js1, i ∈ vs1) ∧ ∀ c, Ev te ρ3 (c :: Ma) (dat (r a b)) (c :: Ma)) :
    Ev (tLc2 wi g tYes wi1 g1 tYes te vs vs1) ρ M0 (dat (.list (xs.flatMap fun a => (ys a).map (r a)))) M := fun Φ σ H Q s q => h Φ σ H _ s fun J H1 Ψ l s1 ⟨G, Y, w, hG, hY⟩ => fun Dl hD => by
  have ⟨F1, s2⟩ := s1
  have hlen : ∀ (xs : List α), (xs.flatMap fun a => (ys a).map (r a)).length = (xs.flatMap ys).length := fun xs => by
    induction xs with
    | nil => rfl
    | cons a xs ih => rw [List.flatMap_cons, List.flatMap_cons, List.length_append, List.length_append, List.length_map, ih]
  let acc : Nat → List PyData := fun i => (xs.take i).flatMap fun a => (ys a).map (r a)
  let Ψ0 : Fr := Ψ.slots σ ρ
  refine ⟨fun i m H' => m = xs.length - i ∧ i ≤ xs.length ∧ Sat Ψ0 (wipeE ρ vs) ((Dl, cLd (acc i)) :: M) (L2.wipe σ vs) H', ⟨xs.length, rfl, Nat.zero_le _, ?_⟩, fun i m H' ⟨hm, hi, s'⟩ => ?_⟩
  · have s3 := s2.newC (c := cLd []) (o := .lst []) hD fun e => ⟨e, [], rfl, .nil⟩
    have s4 : SatF F1 Ψ0 ρ ((Dl, cLd []) :: M) σ (upd H1 Dl (.lst [])) := ⟨s3.ex, ⟨s3.fr, s3.sl⟩, s3.sl, s3.nd, s3.ce⟩
    have s5 := s4.wiped vs
    have e0 : acc 0 = [] := by show (xs.take 0).flatMap _ = _; rw [List.take_zero]; rfl
    rw [e0]
    exact ⟨F1, s5⟩
  · subst hm
    have hg0 : G H' := hG _ _ _ _ _ Le.slots s'
    have hxl : (xs.map e).length = xs.length := List.length_map _
    rcases Nat.lt_or_eq_of_le hi with hlt | rfl
    · refine .inr ⟨w.goes i H' (by rw [hxl]; exact hlt) hg0, fun H'' => Sat Ψ0 (wipeE ρ vs) ((Dl, cLd (acc (i + 1))) :: M) (L2.wipe σ vs) H'', fun H'' s'' => ⟨xs.length - (i + 1), by omega, rfl, hlt, s''⟩, fun x H2 y => ?_⟩
      have hi' : (xs.map e)[i]? = some (e xs[i]) := by simp [hlt]
      obtain ⟨ρ2, js, cs, Ma, hg, hj, hp, hw1, hb⟩ := hs xs[i] (List.getElem_mem hlt)
      have hacc : acc (i + 1) = acc i ++ (ys xs[i]).map (r xs[i]) := by
        have htk : xs.take (i + 1) = xs.take i ++ [xs[i]] := by rw [List.take_succ]; simp [hlt]
        show (xs.take (i + 1)).flatMap _ = _
        rw [htk, List.flatMap_append]
        simp [acc]
      have hbound : (acc i).length + (ys xs[i]).length ≤ 16000000 := by
        have h1 := hlen (xs.take (i + 1))
        have h2 : (acc (i + 1)).length ≤ (xs.flatMap ys).length := by
          show ((xs.take (i + 1)).flatMap fun a => (ys a).map (r a)).length ≤ _
          rw [h1]
          have e := congrArg List.length (congrArg (List.flatMap ys) (List.take_append_drop (i + 1) xs))
          rw [List.flatMap_append, List.length_append] at e
          omega
        rw [hacc, List.length_append, List.length_map] at h2
        omega
      have s3 := hY i (e xs[i]) x H' H2 _ _ _ _ hi' Le.slots s' (w.yields i H' x H2 (by rw [hxl]; exact hlt) hg0 y)
      refine hg _ _ x _ H2 _ s3 fun σ2 k1 k2 s4 => ⟨wipe_eq k1 k2 hj, et_yes _ σ2 H2 _ s4 fun H3 s5 => ?_⟩
      rw [if_pos rfl]
      have ⟨F5, z5⟩ := s5.perm (hp.cons (Dl, cLd (acc i)))
      have z6 : SatF F5 (Ψ0.mores cs) ρ2 ((Dl, cLd (acc i)) :: Ma) σ2 H3 := SatF.asides (M := (Dl, cLd (acc i)) :: Ma) z5
      refine hw1 Ψ0 (Dl, cLd (acc i)) (Ψ0.mores cs) σ2 H3 _ (.refl _) ⟨F5, z6⟩ fun J1 H4 Ψ1 l1 s6 ⟨G1, Y1, w1, hG1, hY1⟩ => ?_
      have ⟨F6, z7⟩ := s6
      let Ψ2 : Fr := Ψ1.slots σ2 ρ2
      have hyl : ((ys xs[i]).map (e1 xs[i])).length = (ys xs[i]).length := List.length_map _
      refine ⟨fun j k H' => k = (ys xs[i]).length - j ∧ j ≤ (ys xs[i]).length ∧ Sat Ψ2 (wipeE ρ2 vs1) ((Dl, cLd (acc i ++ ((ys xs[i]).take j).map (r xs[i]))) :: Ma) (L2.wipe σ2 vs1) H', ⟨_, rfl, Nat.zero_le _, ?_⟩, fun j k H' ⟨hk, hj1, t'⟩ => ?_⟩
      · have z8 : SatF F6 Ψ2 ρ2 ((Dl, cLd (acc i)) :: Ma) σ2 H4 := ⟨z7.ex, ⟨z7.fr, z7.sl⟩, z7.sl, z7.nd, z7.ce⟩
        have z9 := z8.wiped vs1
        rw [List.take_zero, List.map_nil, List.append_nil]
        exact ⟨F6, z9⟩
      · subst hk
        have hg1' : G1 H' := hG1 _ _ _ _ _ Le.slots t'
        rcases Nat.lt_or_eq_of_le hj1 with hlt1 | rfl
        · refine .inr ⟨w1.goes j H' (by rw [hyl]; exact hlt1) hg1', fun H'' => Sat Ψ2 (wipeE ρ2 vs1) ((Dl, cLd (acc i ++ ((ys xs[i]).take (j + 1)).map (r xs[i]))) :: Ma) (L2.wipe σ2 vs1) H'', fun H'' t'' => ⟨(ys xs[i]).length - (j + 1), by omega, rfl, hlt1, t''⟩, fun x H5 y1 => ?_⟩
          have hj' : ((ys xs[i]).map (e1 xs[i]))[j]? = some (e1 xs[i] (ys xs[i])[j]) := by simp [hlt1]
          obtain ⟨ρ3, js1, hg1, hjs, hev⟩ := hb (ys xs[i])[j] (List.getElem_mem hlt1)
          have t3 := hY1 j _ x H' H5 _ _ _ _ hj' Le.slots t' (w1.yields j H' x H5 (by rw [hyl]; exact hlt1) hg1' y1)
          refine hg1 _ _ x _ H5 _ t3 fun σ3 k3 k4 t4 => ⟨wipe_eq k3 k4 hjs, et_yes _ σ3 H5 _ t4 fun H6 t5 => ?_⟩
          rw [if_pos rfl]
          refine hev _ _ σ3 H6 _ t5 fun u H7 t6 => ?_
          have ⟨F7, z8⟩ := t6
          obtain ⟨o, q1, q0, ws, rfl, q3⟩ := z8.at (List.mem_cons_self)
          refine ⟨ws, q1, ?_, ?_⟩
          · rw [q3.length, List.length_append, List.length_map, List.length_take]
            have hz : sizeLine = 16777216 := sizeLine_eq
            omega
          · have htk : (ys xs[i]).take (j + 1) = (ys xs[i]).take j ++ [(ys xs[i])[j]] := by rw [List.take_succ]; simp [hlt1]
            rw [htk, List.map_append, ← List.append_assoc]
            have z9 := z8.put1 (o := .lst (ws ++ [u])) (Put.here (p := Dl) (c := cLd (acc i ++ ((ys xs[i]).take j).map (r xs[i]))) (c' := cLd (acc i ++ ((ys xs[i]).take j).map (r xs[i]) ++ [r xs[i] (ys xs[i])[j]])) (l := Ma)) q0 ⟨q0, _, rfl, q3.append (.cons z8.fr.2 .nil)⟩
            exact ⟨F7, z9.ex, z9.fr.1, z9.fr.1.2.wipes vs1, z9.nd, z9.ce⟩
        · have st := w1.stops H' hg1'
          rw [hyl] at st
          refine .inl ⟨st, ?_⟩
          rw [List.take_length] at t'
          have ⟨F7, z8⟩ := t'
          have z9 : SatF F7 (Ψ0.mores cs) ρ2 ((Dl, cLd (acc i ++ (ys xs[i]).map (r xs[i]))) :: Ma) σ2 H' := SatF.weak (Φ := Ψ2) ⟨z8.ex, z8.fr, z8.fr.2, z8.nd, z8.ce⟩ (Le.slots.trans l1)
          have z10 := SatF.backs z9
          rw [hacc]
          have sx : Sat Ψ0 ρ2 ((Dl, cLd (acc i ++ (ys xs[i]).map (r xs[i]))) :: M) σ2 H' := Sat.perm ⟨F7, z10⟩ (hp.symm.cons _)
          have ⟨F8, z11⟩ := sx
          exact ⟨F8, z11.ex, z11.fr, z11.fr.2.wipes vs, z11.nd, z11.ce⟩
    · have st := w.stops H' hg0
      rw [hxl] at st
      refine .inl ⟨st, ?_⟩
      have e1 : acc xs.length = xs.flatMap fun a => (ys a).map (r a) := by show (xs.take xs.length).flatMap _ = _; rw [List.take_length]
      rw [e1] at s'
      have ⟨F7, z8⟩ := s'
      have z9 : SatF F7 (Ψ.more (Dl, cLd (xs.flatMap fun a => (ys a).map (r a)))) ρ M σ H' := SatF.inN (Φ := Ψ) ⟨z8.ex, z8.fr.1, z8.fr.2, z8.nd, z8.ce⟩
      obtain ⟨o, q1, q0, ws, rfl, q3⟩ := z9.ce _ (List.mem_append_right _ List.mem_cons_self)
      obtain ⟨z10, fx⟩ := SatF.toF z9 q0 q1 fun _ _ => rfl
      refine q _ _ ⟨_, z10.ex, ⟨l.p _ z10.fr, .lst upd_same (q3.mono fx)⟩, z10.sl, ?_, ?_⟩
      · exact List.Pairwise.sublist ((List.Sublist.append (List.Sublist.refl M) l.n).map _) z10.nd
      · exact fun c hc => z10.ce c ((List.Sublist.append (List.Sublist.refl M) l.n).subset hc)
end
end Sx

set_option Elab.async false
set_option linter.all false
set_option maxRecDepth 100000
set_option maxHeartbeats 4000000
/-! Sx30: name = {k: v for ..} on one line, the name a local. -/
namespace L2
open PySem PySem.Spec PyProof.Rows
section
variable {X : Cx}
theorem sw_trueD {kx vx : Expr} {gs : List Comprehension} {scope : Scope} {pos py : Pos} {y : Str} {l : Nat} {env : Env} (fk : env.scope.kind = .function) (loc : env.scope.names.lookup y = some .local) (one_ : (py.line == pos.line) = true)
    (own_ : (scope.names.any fun (n, k) => n == y && (k == .local || k == .cell)) = false) : swapsWith (.DictComp kx vx gs scope pos) (some (.Name y py)) l env = pure true := by
  have h1 : env.kindOf y = some .local := loc
  have h2 : env.blockKind = .function := by unfold Env.blockKind; rw [fk]; rfl
  unfold swapsWith; simp only [h2, h1, own_, Expr.pos, one_]; rfl
abbrev Blk (X : Cx) (scope : Scope) (R : Cx → Prop) : Prop := ∀ (s : Shared) (H : Hp) (C : Addr) (cl : List (Str × Addr)) (fp : List Addr), R (X.blk s H scope (compEnvC scope cl C X.env) fp)
theorem ps_setDc {i : Nat} {y : Str} {py : Pos} {kx vx tg iter : Expr} {ifs : List Expr} {scope : Scope} {own : List (Str × Nat)} {pos spos : Pos} {wi : TI} {g : TG} {tt : TT} {tk tv : TE} (calm : X.calm = true) (nodup : X.N.Nodup) (hy : X.N[i]? = some y) (loc : X.env.scope.names.lookup y = some .local)
    (sw : swapsWith (.DictComp kx vx [⟨tg, iter, ifs, 0⟩] scope pos) (some (.Name y py)) spos.line X.env = pure true) (hi : PI X tg iter wi) (ok : BlkOk X.N X.env.scope scope own)
    (hg : Blk X scope fun Y => PG Y tg g) (ht : Blk X scope fun Y => PTs Y ifs tt) (hk : Blk X scope fun Y => PE Y kx tk) (he : Blk X scope fun Y => PE Y vx tv) (hs : ∀ x, foldedSetIterable iter X.env x = pure x := by intro _; rfl) :
    PS X (.Assign [.Name y py] (.DictComp kx vx [⟨tg, iter, ifs, 0⟩] scope pos) spos) (tAsg (tDc wi g tt tk tv (own.map (·.2))) (gName i)) := ⟨fun pins s σ H D I h => by
  rw [exec_Assign_Name_used _ _ _ _ sw]
  refine wpAny_bind (wpAny_standAt (wpAny_bind ?_))
  show wpAny _ X.A (do let _ ← comprehension (.DictComp kx vx [⟨tg, iter, ifs, 0⟩] scope pos) scope X.env (firstIterPos [⟨tg, iter, ifs, 0⟩] pos) newDict false (eval iter X.env) (some (assign (.Name y py) X.env))) _ _ s
  have h0 : tDc wi g tt tk tv (own.map (·.2)) σ H fun x H1 => gName i x σ H1 D.nx := h
  refine wpAny_bind (thn (dc_core (Qf := fun _ s' => SP X pins D .next s') calm nodup I hi ok hg ht hk he hs h0 fun L C s' m H' I' q hn f => ?_) fun _ s' w => wpAny_pure (wpAny_pure w))
  show wpAny _ _ (assign (.Name y py) X.env (.ref L)) _ _ _
  refine wpAny_assign_Name (store_ok2 (v := V.ref L) I' nodup hy (.inl loc) rfl (fun s2 I2 ⟨a, sb, ha⟩ => ?_) (.inr loc))
  have ⟨f0, f1, f2, f3, f4, f5⟩ := f
  have ne : C ≠ a := by
    rcases ha with z | z
    · exact z ▸ f1
    · exact fun e => f4 y a z e.symm
  exact ⟨m, hn.sameBut sb ne, fun h3 sb3 => ⟨_, H', I2.turned (t' := s2.toks) (fun b o hb e => (sb3.2 b hb).trans e) f0 f1 f3 f4 f5, q⟩⟩⟩
end
end L2

set_option Elab.async false
set_option linter.all false
set_option maxRecDepth 100000
set_option maxHeartbeats 4000000
/-! Sx31: list(d.values()), the dict locked or not. -/
namespace L2
open PySem PySem.Spec PyProof.Rows
section
variable {X : Cx}
def tListValsZ (td : TE) : TE := fun σ H Q => td σ H fun x H1 => ∃ a kvs, x = V.ref a ∧ Rd H1 a (.dK kvs) ∧ ∀ p, H1 p = none → Q (.ref p) (upd H1 p (.lst (kvs.map (·.2))))
theorem pe_listValsZ {o : Expr} {td : TE} {p apos mpos pos : Pos} (hc : X.calm = true) (hg : Gl X "list") (hm : X.mg "list" = none) (hd : PE X o td) (hbase : attributeBase o "values" X.env (eval o X.env) = eval o X.env := by rfl) (hline : (apos.endLine == mpos.line) = true := by rfl)
    (na : starEach [Expr.Call (.Attribute o "values" apos) [] [] mpos] X.env = (false, eval (Expr.Call (.Attribute o "values" apos) [] [] mpos) X.env) :: starEach [] X.env := by rfl) :
    PE X (.Call (.Name "list" p) [.Call (.Attribute o "values" apos) [] [] mpos] [] pos) (tListValsZ td) := ⟨fun pins s σ H Q I h => by
  refine Call_ (ld_blt I hg hm boot_list (PyProof.Rows.callWith_type1 (args_cons (wpAny_Call_method0_late hbase hline (thn (hd.run pins s σ H _ I h) fun v s1 ⟨x, H1, I1, r1, a, kvs, ex, ha, q⟩ => ?_)) na) na))
  subst ex
  cases r1
  have ⟨_, hsys, vs, rel, dof⟩ := dk_rd I1.hok ha
  have ⟨ep, dat⟩ := dof.dictAt
  have ⟨ob, es, ho, ex, hdat, hko, hpr, hnd⟩ := dat
  refine ⟨"dict", "dict.values", F.plainAttrs_dict, F.slot_dict_values, F.type_dict_values, ⟨ob, ho, ex.1⟩, fun b e => by cases e; exact ⟨ob, ho, ex.2.1⟩, Calls.callWith_builtin rfl (PySem.evalArgs_none ?_)⟩
  refine call_meetsIn F.slot_dict_values ⟨ob, ho, ex.1⟩ F.entry_dict_values (F.args_dict_values_1 _) (meets_dict_values (mixKind X.prog X.w) a hsys) ⟨⟨vs, dof⟩, args_nil ?_⟩
  have old : ∀ b u, s1.heap.get? b = some u → (s1.heap.push { cls := .type "dict_values", data := .fields #[.ref a] }).get? b = some u := fun b u e => Heap.get?_push_of_some _ e
  have few : vs.length ≤ sizeLine := by have := Paired.length rel; omega
  refine PySem.W.kdl_call (PySem.W.kdl_values (knd := mixKind X.prog X.w) (kvs := vs) (ep := ep)) (I.ok.hd hc) ⟨⟨_, Heap.get?_push_size _ rfl, rfl, rfl⟩, dat.keep old⟩ few fun g tk acc c hk hD hacc => ?_
  have new : H1 (s1.heap.push { cls := .type "dict_values", data := .fields #[.ref a] }).objs.size = none := I1.hok.fresh (by rw [Heap.size_push]; exact Nat.le_succ _)
  have rv : Vals (kvs.map (·.2)) acc.toList := by
    have hz : ∀ {ks : List (Key × V)} {us : List (Key × Value)} {ys : List Value}, KV ks us → ys.length = us.length → (∀ (j : Nat) (v : Value), ys[j]? = some v → ∃ k, us[j]? = some (k, v)) → Vals (ks.map (·.2)) ys := by
      intro ks us ys r
      induction r generalizing ys with
      | nil => intro hl _; cases ys with | nil => exact .nil | cons _ _ => simp at hl
      | cons h t ih =>
        intro hl hg
        cases ys with
        | nil => simp at hl
        | cons y ys =>
          obtain ⟨k, e⟩ := hg 0 y rfl
          cases Option.some.inj e
          exact .cons h.2 (ih (by simpa using hl) fun j v e => by simpa using hg (j + 1) v (by simpa using e))
    exact hz rel (by rw [Array.length_toList]; exact hacc.1) fun j v e => hacc.2 j v (by rw [← Array.getElem?_toList]; exact e)
  refine ⟨.ref _, upd H1 _ (.lst (kvs.map (·.2))), I1.laid (t' := tk) (fun b u e => hk b u (old b u e)) (by rw [Heap.size_push]; exact Nat.le_succ _) (show ObjOk X.prog X.w _ _ _ (.lst (kvs.map (·.2))) from ⟨by rw [List.length_map, KV.length rel]; exact few, acc.toList, c, rv, by rw [Array.toArray_toList]; exact hD⟩), rfl, q _ new⟩⟩
end
end L2
namespace Sx
open PySem L2 Evl
section
variable {ρ : Sx.Env} {M M1 : Cells} {td : TE} {x : VD}
theorem ev_listValsZ {l : List (L2.Key × PyData)} (h : Ev td ρ M x M1) (hx : IsDi x M1 (dKs l)) : Ev (tListValsZ td) ρ M (dat (.list (l.map (·.2)))) M1 := fun Φ σ H Q s q => h Φ σ H _ s fun v H1 ⟨F, s1⟩ => by
  obtain ⟨a, vs, rfl, h1, h2⟩ := hx s1 s1.fr.2
  refine ⟨a, vs, rfl, h1, fun p hp => q _ _ (Sat.retNew (s1.weak Le.and) hp fun F' fx e => .lst e ?_)⟩
  have hz : ∀ {l : List (L2.Key × PyData)} {vs : List (L2.Key × V)}, DP F (dKs l) vs → RpL F (vs.map (·.2)) (l.map (·.2)) := by
    intro l
    induction l with
    | nil => intro vs h; cases h; exact .nil
    | cons p r ih =>
      intro vs h
      cases h with
      | cons g t => exact .cons g.2 (ih t)
  exact (hz h2).mono fx
theorem er_fldV {K : PySem.W.Frag} {ta : TE} {f : Str} {P P' : VD → Cells → Prop} (h : EvR ta ρ M P) (k : ∀ y N, P y N → ∃ C ns xs ns' z, y = vin C ns xs ∧ ClsF K C ns' ∧ f ∈ ns' ∧ FGet f z ns xs ∧ P' z N) : EvR (tFld K ta f) ρ M P' := fun Φ σ H Q s q => h Φ σ H _ s fun y N v H1 hp s1 => by
  obtain ⟨C, ns, xs, ns', z, rfl, c, hf, g, hp'⟩ := k y N hp
  have ⟨F, s2⟩ := s1
  obtain ⟨a, dx, fs, rfl, h1, h3⟩ := s2.fr.2
  obtain ⟨w, h4, h5⟩ := g.look h3
  exact ⟨a, C, dx, fs, w, rfl, s2.ex _ _ h1, c.cl, c.no f hf, h4, q z N w H1 hp' ⟨F, s2.ex, ⟨s2.fr.1, h5⟩, s2.sl, s2.nd, s2.ce⟩⟩
/-- a value for each item that is let by, nothing else changes -/
theorem ev_lcV {α : Type} {wi : TI} {g : TG} {tt : TT} {te : TE} {vs : List Nat} {e : α → VD} {xs : List α} {f : α → Bool} {r : α → VD} (h : EvI wi ρ M (xs.map e) M1) (hl : xs.length ≤ 16000000)
    (hs : ∀ a, a ∈ xs → ∃ ρ'' js, Tgt g js (e a) (wipeE ρ vs) ρ'' ∧ (∀ i ∈ js, i ∈ vs) ∧ EvT tt ρ'' M1 (f a) M1 ∧ (f a = true → Ev te ρ'' M1 (r a) M1)) : Ev (tLc wi g tt te vs) ρ M (vlst ((xs.filter f).map r)) M1 := by
  refine EvR.ev ((er_lc h (fun i acc M' => M' = M1 ∧ acc = ((xs.take i).filter f).map r) ⟨rfl, rfl⟩ (by rw [List.length_map]; exact hl) (fun i acc M' ⟨_, e⟩ => ?_) fun i d acc M' hi ⟨e1, e2⟩ => ?_).imp (P' := Det (vlst ((xs.filter f).map r)) M1) fun x M' ⟨acc, e, e1, e2⟩ => ?_)
  · subst e
    rw [List.length_map]
    exact Nat.le_trans (List.length_filter_le _ _) (by rw [List.length_take]; omega)
  · subst e1; subst e2
    rw [List.getElem?_map] at hi
    cases q : xs[i]? with
    | none => rw [q] at hi; cases hi
    | some a =>
      rw [q] at hi
      cases hi
      have htk : xs.take (i + 1) = xs.take i ++ [a] := by rw [List.take_succ, q]; rfl
      obtain ⟨ρ'', js, h1, hj, h2, h3⟩ := hs a (List.mem_of_getElem? q)
      refine ⟨ρ'', js, f a, M', h1, hj, h2, fun hf => (EvR.of (h3 hf)).imp fun y M3 ⟨z1, z2⟩ => ?_, fun hf => ⟨rfl, ?_⟩⟩
      · subst z1; subst z2
        refine ⟨rfl, ?_⟩
        rw [htk, List.filter_append, List.map_append, List.filter_cons_of_pos hf]
        rfl
      · rw [htk, List.filter_append, List.map_append, List.filter_cons_of_neg (by rw [hf]; exact Bool.false_ne_true)]
        simp
  · subst e
    rw [List.length_map, List.take_length] at e2
    exact ⟨by rw [e2], e1⟩
theorem rc_sumI {K : PySem.W.Frag} {ns : List Int} (hx : IsLst x M (ns.map .int)) : RC (rSum K) [x] M (dat (.int ns.sum)) M := fun Φ ρ σ vs H Q ⟨F, s⟩ q => by
  obtain ⟨v, rfl, h1⟩ := rc1 (ds := []) s.fr.2
  obtain ⟨a, ws, rfl, h2, h3⟩ := hx s h1
  cases h3.ints
  exact ⟨a, ns, rfl, sq_of h2, q _ _ (Sat.ret (s.weak Le.andA) (.int _))⟩
end
end Sx

set_option Elab.async false
set_option linter.all false
set_option maxRecDepth 100000
set_option maxHeartbeats 4000000
/-! Sx32: {k: v for a in xs for b in ys} (no tests): as a value, and assigned to a local. -/
namespace L2
open PySem PySem.Spec PyProof.Rows
/-- the expression -/
abbrev DC2 (kx vx t0 i0 t1 i1 : Expr) (scope : Scope) (pos : Pos) : Expr := .DictComp kx vx [⟨t0, i0, [], 0⟩, ⟨t1, i1, [], 0⟩] scope pos
theorem turn_o (kx vx t0 i0 t1 i1 : Expr) (scope : Scope) (pos : Pos) (it acc : Value) (env : Env) :
    compTurn (DC2 kx vx t0 i0 t1 i1 scope pos) 0 it acc env = (do
      standAt i0.pos
      match ← pyNext it with
      | none => pure (.done .next)
      | some v =>
        letOwnedTupleGo t0 it v
        assign t0 env v
        let x ← eval i1 env
        standAt i1.pos
        let x ← foldedSetIterable i1 env x
        let _ ← runOwn (.compStart (DC2 kx vx t0 i0 t1 i1 scope pos) 1 (← holding [x] (pyIter x)) acc env) env
        again (.compLoop (DC2 kx vx t0 i0 t1 i1 scope pos) 0 it acc env)) := by rfl
theorem turn_i (kx vx t0 i0 t1 i1 : Expr) (scope : Scope) (pos : Pos) (it : Value) (D : Addr) (env : Env) :
    compTurn (DC2 kx vx t0 i0 t1 i1 scope pos) 1 it (.ref D) env = (do
      standAt i1.pos
      match ← pyNext it with
      | none => pure (.done .next)
      | some v =>
        letOwnedTupleGo t1 it v
        assign t1 env v
        (do
          let kv ← eval kx env
          let vv ← holding [kv] (eval vx env)
          standAt { kx.pos with endLine := vx.pos.endLine, endCol := vx.pos.endCol }
          holding [kv, vv] (dictSet D kv vv))
        again (.compLoop (DC2 kx vx t0 i0 t1 i1 scope pos) 1 it (.ref D) env)) := by rfl
section
variable {prog : Program} {w : World} {A : Around} {R : Result → Shared → Prop} {s : Shared} {kx vx t0 i0 t1 i1 : Expr} {scope : Scope} {pos : Pos} {it acc : Value} {D : Addr} {env : Env}
abbrev Err (prog : Program) (w : World) (A : Around) (env : Env) (R : Result → Shared → Prop) : Value → Shared → Prop := notedBy (model prog w) A env fun e s' => R (.error e) s'
theorem loop_o (hs : ∀ x, foldedSetIterable i1 env x = pure x) (I : Nat → Shared → Prop)
    (turn : ∀ n s, I n s → wpAny (model prog w) A (pyNext it) (fun r s₁ => match r with
      | none => R (.ok .next) s₁
      | some v => wpAny (model prog w) A (letOwnedTupleGo t0 it v) (fun _ s₂ => wpAny (model prog w) A (assign t0 env v) (fun _ s₃ =>
          wpAny (model prog w) A (eval i1 env) (fun x s₄ => wpAny (model prog w) A (pyIter x) (fun it1 s₅ =>
            codeAny (model prog w) A (.compStart (DC2 kx vx t0 i0 t1 i1 scope pos) 1 it1 acc env) (fun r s' => match r with
              | .ok _ => ∃ m, m < n ∧ I m s'
              | .error _ => False) s₅) (Err prog w A env R) s₄) (Err prog w A env R) s₃) (Err prog w A env R) s₂) (Err prog w A env R) s₁) (Err prog w A env R) s)
    (n : Nat) (h : I n s) : codeAny (model prog w) A (.compLoop (DC2 kx vx t0 i0 t1 i1 scope pos) 0 it acc env) R s := by
  refine codeAny_loop rfl I (fun n s hI => ?_) n h
  show wpAny _ A ((compTurn (DC2 kx vx t0 i0 t1 i1 scope pos) 0 it acc env).onRaise (fun x => do noteFrame x env; theTreesLotGoes x)) _ _ s
  refine wpAny_noted ?_
  rw [turn_o]
  refine wpAny_bind (wpAny_standAt (wpAny_bind (wpAny_mono (turn n s hI) (fun r s₁ h₁ => ?_) fun _ _ z => z)))
  cases r with
  | none => exact wpAny_pure h₁
  | some v =>
    refine wpAny_bind (wpAny_mono h₁ (fun _ s₂ h₂ => wpAny_bind (wpAny_mono h₂ (fun _ s₃ h₃ => wpAny_bind (wpAny_mono h₃ (fun x s₄ h₄ => ?_) fun _ _ z => z)) fun _ _ z => z)) fun _ _ z => z)
    refine wpAny_bind (wpAny_standAt (wpAny_bind (wpAny_of_eq (hs x) (wpAny_bind (wpAny_holding (wpAny_mono h₄ (fun it1 s₅ h₅ => wpAny_bind (wpAny_runOwn ?_)) fun _ _ z => z))))))
    rw [Around.mark_none]
    refine codeAny_mono h₅ fun r s' hr => ?_
    cases r with
    | ok f =>
      first
        | exact wpAny_pure ⟨rfl, hr⟩
        | exact wpAny_bind (wpAny_pure (wpAny_pure ⟨rfl, hr⟩))
    | error e => exact hr.elim
theorem loop_i (I : Nat → Shared → Prop)
    (turn : ∀ n s, I n s → wpAny (model prog w) A (pyNext it) (fun r s₁ => match r with
      | none => R (.ok .next) s₁
      | some v => wpAny (model prog w) A (letOwnedTupleGo t1 it v) (fun _ s₂ => wpAny (model prog w) A (assign t1 env v) (fun _ s₃ =>
          wpAny (model prog w) A (eval kx env) (fun kv s₄ => wpAny (model prog w) A (eval vx env) (fun vv s₅ =>
            wpAny (model prog w) A (dictSet D kv vv) (fun _ s₆ => ∃ m, m < n ∧ I m s₆) (Err prog w A env R) s₅) (Err prog w A env R) s₄) (Err prog w A env R) s₃) (Err prog w A env R) s₂) (Err prog w A env R) s₁) (Err prog w A env R) s)
    (n : Nat) (h : I n s) : codeAny (model prog w) A (.compLoop (DC2 kx vx t0 i0 t1 i1 scope pos) 1 it (.ref D) env) R s := by
  refine codeAny_loop rfl I (fun n s hI => ?_) n h
  show wpAny _ A ((compTurn (DC2 kx vx t0 i0 t1 i1 scope pos) 1 it (.ref D) env).onRaise (fun x => do noteFrame x env; theTreesLotGoes x)) _ _ s
  refine wpAny_noted ?_
  rw [turn_i]
  refine wpAny_bind (wpAny_standAt (wpAny_bind (wpAny_mono (turn n s hI) (fun r s₁ h₁ => ?_) fun _ _ z => z)))
  cases r with
  | none => exact wpAny_pure h₁
  | some v =>
    refine wpAny_bind (wpAny_mono h₁ (fun _ s₂ h₂ => wpAny_bind (wpAny_mono h₂ (fun _ s₃ h₃ => ?_) fun _ _ z => z)) fun _ _ z => z)
    exact wpAny_bind (wpAny_bind (wpAny_mono h₃ (fun kv s₄ h₄ => wpAny_bind (wpAny_holding (wpAny_mono h₄ (fun vv s₅ h₅ => wpAny_bind (wpAny_standAt (wpAny_holding (wpAny_mono h₅ (fun _ s₆ h₆ => wpAny_pure ⟨rfl, h₆⟩) fun _ _ z => z)))) fun _ _ z => z))) fun _ _ z => z))
theorem start_i (h0 : codeAny (model prog w) A (.compLoop (DC2 kx vx t0 i0 t1 i1 scope pos) 1 it acc env) R s)
    (h : wpAny (model prog w) A (pyIter it) (fun it' s' => codeAny (model prog w) A (.compLoop (DC2 kx vx t0 i0 t1 i1 scope pos) 1 it' acc env) R s') (Err prog w A env R) s) :
    codeAny (model prog w) A (.compStart (DC2 kx vx t0 i0 t1 i1 scope pos) 1 it acc env) R s := by
  refine codeAny_of_tree ?_
  show wpAny _ _ ((compStart (DC2 kx vx t0 i0 t1 i1 scope pos) 1 it acc env).onRaise (fun x => do noteFrame x env; standAt theWindowsPlace)) _ _ s
  refine wpAny_notedAt ?_
  unfold compStart
  show wpAny _ _ (ask >>= _) _ _ s
  refine wpAny_bind (wpAny_askSetting (wpAny_ite ?_))
  split
  · first
      | exact wpAny_bind (wpAny_pure (wpAny_pure (And.intro rfl h0)))
      | exact wpAny_pure (And.intro rfl h0)
  · first
      | exact wpAny_bind (wpAny_rule (wpAny_bind (wpAny_standAt (wpAny_bind (wpAny_mono h (fun it' s' z => wpAny_pure (And.intro rfl z)) fun _ _ x => x)))))
      | (refine wpAny_bind (wpAny_rule ?_); show wpAny _ _ (standAt i1.pos >>= _) _ _ s; exact wpAny_bind (wpAny_standAt (wpAny_bind (wpAny_mono h (fun it' s' z => wpAny_pure (And.intro rfl z)) fun _ _ x => x))))
end
section
variable {X : Cx}
/-- the reading: D the new dict; vs the block's names, vs1 those of the second target -/
def tDc2 (wi : TI) (g : TG) (wi1 : TI) (g1 : TG) (tk tv : TE) (vs vs1 : List Nat) : TE := fun σ H Q => wi σ H fun J H1 => ∀ D, H1 D = none → ∃ W : Nat → Nat → Hp → Prop, (∃ m, W 0 m (upd H1 D (.dK []))) ∧ ∀ i m H, W i m H →
  (J.stop i H ∧ Q (.ref D) H) ∨ (J.go i H ∧ ∃ Nx : Hp → Prop, (∀ H', Nx H' → ∃ m', m' < m ∧ W (i + 1) m' H') ∧ ∀ x H', J.yld i H x H' → g x (wipe σ vs) H' fun σ2 H2 => wipe σ2 vs = wipe σ vs ∧
    wi1 σ2 H2 fun J1 H4 => ∃ W1 : Nat → Nat → Hp → Prop, (∃ m, W1 0 m H4) ∧ ∀ j k H, W1 j k H →
      (J1.stop j H ∧ Nx H) ∨ (J1.go j H ∧ ∃ Nx1 : Hp → Prop, (∀ H', Nx1 H' → ∃ k', k' < k ∧ W1 (j + 1) k' H') ∧ ∀ x H', J1.yld j H x H' → g1 x (wipe σ2 vs1) H' fun σ3 H5 => wipe σ3 vs1 = wipe σ2 vs1 ∧
        tk σ3 H5 fun y H6 => tv σ3 H6 fun z H7 => ∃ kvs k, y = kV k ∧ H7 D = some (.dK kvs) ∧ kvs.length < sizeLine ∧ Nx1 (upd H7 D (.dK (putK kvs k z)))))
abbrev Bk (X : Cx) (scope : Scope) (R : Cx → Prop) : Prop := ∀ (s : Shared) (H : Hp) (C : Addr) (cl : List (Str × Addr)) (fp : List Addr), R (X.blk s H scope (compEnvC scope cl C X.env) fp)
theorem dc2_core {pins : List (Addr × Obj)} {s : Shared} {σ : St} {H : Hp} {Q : VK} {kx vx tg iter tg1 iter1 : Expr} {scope : Scope} {own : List (Str × Nat)} {vs1 : List Nat} {pos pos' : Pos} {wi wi1 : TI} {g g1 : TG} {tk tv : TE} {use : Option (Value → Sem Unit)} {Qf : Value → Shared → Prop}
    (calm : X.calm = true) (nodup : X.N.Nodup) (I : Inv X pins σ H s) (hi : PI X tg iter wi) (ok : BlkOk X.N X.env.scope scope own) (hv : ∀ i ∈ vs1, i ∈ own.map (·.2))
    (hg : Bk X scope fun Y => PG Y tg g) (hi1 : Bk X scope fun Y => PI Y tg1 iter1 wi1) (hg1 : Bk X scope fun Y => PG Y tg1 g1) (hk : Bk X scope fun Y => PE Y kx tk) (he : Bk X scope fun Y => PE Y vx tv)
    (hs : ∀ x, foldedSetIterable iter X.env x = pure x) (hs1 : ∀ env x, foldedSetIterable iter1 env x = pure x) (h : tDc2 wi g wi1 g1 tk tv (own.map (·.2)) vs1 σ H Q)
    (fin : ∀ D C s' m H', Inv X pins σ H' s' → Q (.ref D) H' → s'.heap.Ns C m → FpOk X pins H' C → compPost (model X.prog X.w) X.A X.xe use Qf (.ref D) C (.ok .next) s') :
    wpAny (model X.prog X.w) X.A (comprehension (DC2 kx vx tg iter tg1 iter1 scope pos) scope X.env pos' newDict false (eval iter X.env) use) Qf X.xe s := by
  have hfree : ∀ y ∈ scope.names, y.2 = .free → ∃ c, X.env.cells.lookup y.1 = some c := fun y hy e => by
    rcases ok.free y hy e with k | k
    · exact I.ok.has _ (.inl k)
    · exact I.ok.has _ (.inr k)
  refine wpAny_comprehension_free (use := use) rfl hs (closure_ok hfree) ok.kind (fun y hy e => by rw [ok.uniq y hy, e]) (thn (hi.run pins s σ H _ I h) fun xv s1 hx => thn hx fun itv s2 h2 => ?_)
  obtain ⟨it, fp, tn, J, H2, e, I2, T, st2, f2, q⟩ := h2
  subst e
  refine wpAny_newObj_type (newEnv_comp ?_)
  generalize hD : s2.heap.objs.size = D
  have hDn : H2 D = none := I2.hok.fresh (Nat.le_of_eq hD)
  obtain ⟨W, ⟨m0, w0⟩, turn⟩ := q D hDn
  generalize hs3 : ({ s2 with heap := s2.heap.push { cls := .type "dict", data := .dict #[] } } : Shared) = s3
  have I3 : Inv X pins σ (upd H2 D (.dK [])) s3 := by
    rw [← hs3]
    refine I2.laid (t' := s2.toks) (fun b o e => Heap.get?_push_of_some _ e) (Nat.le_of_eq hD) ?_
    rw [← hD]
    exact dk_empty s2.heap I2.big
  have h3 : s3.heap = s2.heap.push { cls := .type "dict", data := .dict #[] } := by rw [← hs3]
  have f3 : ∀ b ∈ fp, FpOk X pins (upd H2 D (.dK [])) b ∧ b < s3.heap.objs.size := fun b hb => by
    obtain ⟨o, e, _⟩ := T.obj _ _ st2 b hb
    have lt := Heap.lt_size e
    refine ⟨⟨?_, (f2 b hb).2⟩, by rw [h3, Heap.size_push]; exact Nat.lt_succ_of_lt lt⟩
    rw [upd_ne (by rw [← hD]; exact Nat.ne_of_lt lt)]
    exact (f2 b hb).1
  have st3 : tn 0 s3.heap := T.keep _ _ _ st2 fun b _ o e => by rw [h3]; exact Heap.get?_push_of_some _ e
  have I4 := block_start I3 ok nodup f3
  have pg := hg s3 (upd H2 D (.dK [])) s3.heap.objs.size (cellsFrom (s3.heap.objs.size + 1) scope.names (cloFrom X.env.cells scope.names [])) fp
  have pi1 := hi1 s3 (upd H2 D (.dK [])) s3.heap.objs.size (cellsFrom (s3.heap.objs.size + 1) scope.names (cloFrom X.env.cells scope.names [])) fp
  have pg1 := hg1 s3 (upd H2 D (.dK [])) s3.heap.objs.size (cellsFrom (s3.heap.objs.size + 1) scope.names (cloFrom X.env.cells scope.names [])) fp
  have pk := hk s3 (upd H2 D (.dK [])) s3.heap.objs.size (cellsFrom (s3.heap.objs.size + 1) scope.names (cloFrom X.env.cells scope.names [])) fp
  have pe := he s3 (upd H2 D (.dK [])) s3.heap.objs.size (cellsFrom (s3.heap.objs.size + 1) scope.names (cloFrom X.env.cells scope.names [])) fp
  show codeAny _ _ (.compStart (DC2 kx vx tg iter tg1 iter1 scope pos) 0 (.ref it) (.ref D) (compEnvC scope (cellsFrom (s3.heap.objs.size + 1) scope.names (cloFrom X.env.cells scope.names [])) s3.heap.objs.size X.env)) (compPost (model X.prog X.w) X.A X.xe use Qf (.ref D) s3.heap.objs.size) { s3 with heap := pushCells (s3.heap.push { cls := .type "dict", data := .dict #[] }) scope.names }
  have nfp : ∀ b ∈ fp, (upd H2 D (.dK [])) b = none := fun b hb => (f3 b hb).1.1
  generalize hce : compEnvC scope (cellsFrom (s3.heap.objs.size + 1) scope.names (cloFrom X.env.cells scope.names [])) s3.heap.objs.size X.env = ce at I4 pg pi1 pg1 pk pe ⊢
  have cL : ce.locals = s3.heap.objs.size := by subst hce; rfl
  generalize hH3 : upd H2 D (.dK []) = H3 at I3 I4 pg pi1 pg1 pk pe w0 nfp f3
  generalize hs4 : ({ s3 with heap := pushCells (s3.heap.push { cls := .type "dict", data := .dict #[] }) scope.names } : Shared) = s4 at I4 ⊢
  have st4 : tn 0 s4.heap := T.keep _ _ _ st3 fun b _ o e => by rw [← hs4]; exact pushCells_keeps _ _ _ _ (Heap.get?_push_of_some _ e)
  have stat : ∀ {σ' : St} {H' : Hp} {s' : Shared}, Inv (X.blk s3 H3 scope ce fp) [] σ' H' s' → (∀ b ∈ fp, H' b = none) → ∀ b ∈ fp, FpOk (X.blk s3 H3 scope ce fp) [] H' b := fun {_ H' _} I' hn b hb =>
    ⟨hn b hb, (I'.ok.exf b hb).1, I'.ok.exfs b hb, .inl hb, fun x c e => (I'.ok.exf b hb).2 x c e, fun p hp => absurd (show p ∈ ([] : List (Addr × Obj)) ++ [] from hp) (by simp)⟩
  have pinned : ∀ {tn : Nat → Heap → Prop} {fp0 : List Addr} {pins0 : List (Addr × Obj)} {σ' : St} {H' : Hp} {s0 s' : Shared}, Inv (X.blk s3 H3 scope ce fp) (pins0 ++ pinsAt fp0 s0.heap) σ' H' s' → ∀ b ∈ fp0, ∀ o, s0.heap.get? b = some o → s'.heap.get? b = some o ∧ H' b = none := fun {_ _ _ _ _ _ _} I' b hb o e =>
    have z := I'.pin (b, o) (List.mem_append_right _ (List.mem_append_right _ (mem_pinsAt hb e)))
    ⟨z.1, z.2.1⟩
  have loop : codeAny (model X.prog X.w) X.A (.compLoop (DC2 kx vx tg iter tg1 iter1 scope pos) 0 (.ref it) (.ref D) ce) (compPost (model X.prog X.w) X.A X.xe use Qf (.ref D) s3.heap.objs.size) s4 := by
    refine loop_o (hs1 ce) (fun n s' => ∃ i H', Inv (X.blk s3 H3 scope ce fp) [] (wipe σ (own.map (·.2))) H' s' ∧ tn i s'.heap ∧ (∀ b ∈ fp, H' b = none) ∧ W i n H') ?_ m0 ⟨0, H3, I4, st4, nfp, w0⟩
    rintro n s5 ⟨i, H5, I5, st5, n5, w5⟩
    rcases turn i n H5 w5 with ⟨stop, qq⟩ | ⟨go, Nx, hNx, step⟩
    · refine thnF (T.done (X.blk s3 H3 scope ce fp) rfl rfl rfl calm i [] s5 _ H5 (fun _ _ => False) I5 (stat I5 n5) st5 stop) fun r s6 ⟨hr, I6⟩ => ?_
      subst hr
      have I7 : Inv X pins σ H5 s6 := I3.call' (ch := fp) I6.os I6.base I6.hok I6.bare fun b hb => ⟨(f3 b hb).1.2.2.2.1, (f3 b hb).1.2.1, (f3 b hb).1.2.2.2.2.1, (f3 b hb).1.2.2.2.2.2⟩
      have nC : H5 s3.heap.objs.size = none := by
        have z : H5 ce.locals = none := I6.free
        rw [cL] at z
        exact z
      obtain ⟨m, hn, _⟩ := I6.loc
      have hn : s6.heap.Ns ce.locals m := hn
      rw [cL] at hn
      exact fin D s3.heap.objs.size s6 m H5 I7 qq hn (I3.fpOk (Nat.le_refl _) nC)
    · refine thnF (T.item (X.blk s3 H3 scope ce fp) rfl rfl rfl calm i [] s5 _ H5 (fun _ _ => False) I5 (stat I5 n5) st5 go) fun r s6 ⟨u, hr, h6⟩ => ?_
      subst hr
      refine thnF h6 fun _ s7 ⟨x, H7, I7, r7, y7, st7, n7⟩ => ?_
      have I7' := I7.pinned (stat I7 n7) (T.obj _ _ st7)
      refine thnF (pg.run _ s7 _ H7 x u _ I7' r7 (step x H7 y7)) fun _ s8 ⟨σ8, H8, I8, hw8, q8⟩ => ?_
      have hl8 : (wipe σ (own.map (·.2))).length = σ8.length := by rw [← hw8, wipe_length]
      have hk9 : ∀ (j : Nat) v, (wipe σ (own.map (·.2)))[j]? = some (some v) → (wipe σ8 vs1)[j]? = some (some v) := fun j v e => by
        rw [← hw8] at e
        obtain ⟨e1, e2⟩ := wipe_some e
        rw [wipe_out fun z => e2 (hv j z)]
        exact e1
      -- behind the inner loop
      have done : ∀ {s' : Shared} {H' : Hp}, Inv (X.blk s3 H3 scope ce fp) ([] ++ pinsAt fp s7.heap) (wipe σ8 vs1) H' s' → Nx H' →
          ∃ m, m < n ∧ ∃ i H', Inv (X.blk s3 H3 scope ce fp) [] (wipe σ (own.map (·.2))) H' s' ∧ tn i s'.heap ∧ (∀ b ∈ fp, H' b = none) ∧ W i m H' := fun {s' H'} I' nx => by
        obtain ⟨m', hm, w'⟩ := hNx H' nx
        have pin' := pinned (tn := tn) (pins0 := []) I'
        refine ⟨m', hm, i + 1, H', (I'.unpinned (pins := [])).weak (hl8.trans (wipe_length σ8 vs1).symm) hk9, T.keep _ _ _ st7 fun b hb o e => (pin' b hb o e).1, fun b hb => ?_, w'⟩
        obtain ⟨o, e, _⟩ := T.obj _ _ st7 b hb
        exact (pin' b hb o e).2
      refine thnF (pi1.run _ s8 σ8 H8 _ I8 q8) fun xv s10 hx => thnF hx fun itv s11 h11 => ?_
      obtain ⟨it1, fp1, tn1, J1, H11, e1, I11, T1, st11, f11, W1, ⟨m1, w1⟩, turn1⟩ := h11
      subst e1
      have stat1 : ∀ {H' : Hp}, (∀ b ∈ fp1, H' b = none) → ∀ b ∈ fp1, FpOk (X.blk s3 H3 scope ce fp) ([] ++ pinsAt fp s7.heap) H' b := fun hn b hb => ⟨hn b hb, (f11 b hb).2⟩
      have loop1 : codeAny (model X.prog X.w) X.A (.compLoop (DC2 kx vx tg iter tg1 iter1 scope pos) 1 (.ref it1) (.ref D) ce)
          (fun r s' => match r with
            | .ok _ => ∃ m, m < n ∧ ∃ i H', Inv (X.blk s3 H3 scope ce fp) [] (wipe σ (own.map (·.2))) H' s' ∧ tn i s'.heap ∧ (∀ b ∈ fp, H' b = none) ∧ W i m H'
            | .error _ => False) s11 := by
        refine loop_i (fun k s' => ∃ j H', Inv (X.blk s3 H3 scope ce fp) ([] ++ pinsAt fp s7.heap) (wipe σ8 vs1) H' s' ∧ tn1 j s'.heap ∧ (∀ b ∈ fp1, H' b = none) ∧ W1 j k H') ?_ m1 ⟨0, H11, I11.weak (wipe_length _ _) (fun j v e => (wipe_some e).1), st11, fun b hb => (f11 b hb).1, w1⟩
        rintro k s12 ⟨j, H12, I12, st12, n12, w12⟩
        rcases turn1 j k H12 w12 with ⟨stop1, nx1⟩ | ⟨go1, Nx1, hNx1, step1⟩
        · refine thnF (T1.done (X.blk s3 H3 scope ce fp) rfl rfl rfl calm j _ s12 (wipe σ8 vs1) H12 (fun _ _ => False) I12 (stat1 n12) st12 stop1) fun r s13 ⟨hr, I13⟩ => ?_
          subst hr
          exact done I13 nx1
        · refine thnF (T1.item (X.blk s3 H3 scope ce fp) rfl rfl rfl calm j _ s12 (wipe σ8 vs1) H12 (fun _ _ => False) I12 (stat1 n12) st12 go1) fun r s13 ⟨u1, hr, h13⟩ => ?_
          subst hr
          refine thnF h13 fun _ s14 ⟨x1, H14, I14, r14, y14, st14, n14⟩ => ?_
          have I14' := I14.pinned (stat1 n14) (T1.obj _ _ st14)
          refine thnF (pg1.run _ s14 (wipe σ8 vs1) H14 x1 u1 _ I14' r14 (step1 x1 H14 y14)) fun _ s15 ⟨σ15, H15, I15, hw15, q15⟩ => ?_
          refine thnF (pk.run _ s15 σ15 H15 _ I15 q15) fun z s16 ⟨yk, H16, I16, r16, q16⟩ => ?_
          refine thnF (pe.run _ s16 σ15 H16 _ I16 q16) fun z2 s17 ⟨yv, H17, I17, r17, kvs, key, ek, hD17, hz17, nx⟩ => ?_
          subst ek
          refine d_dictSet (X := X.blk s3 H3 scope ce fp) I17 hD17 hz17 r16 r17 fun s18 I18 => ?_
          obtain ⟨m', hm, w'⟩ := hNx1 _ nx
          have pin' := pinned (tn := tn1) I18
          refine ⟨m', hm, j + 1, _, I18.unpinned.weak (by rw [← hw15, wipe_length]) (fun j v e => by rw [← hw15] at e; exact (wipe_some e).1), T1.keep _ _ _ st14 fun b hb o e => (pin' b hb o e).1, fun b hb => ?_, w'⟩
          obtain ⟨o, e, _⟩ := T1.obj _ _ st14 b hb
          exact (pin' b hb o e).2
      exact start_i loop1 (T1.self X.A 0 _ _ _ st11 loop1)
  exact codeAny_compStart_dict loop (T.self X.A 0 _ _ _ st4 loop)
theorem pe_dc2 {kx vx tg iter tg1 iter1 : Expr} {scope : Scope} {own : List (Str × Nat)} {vs1 : List Nat} {pos : Pos} {wi wi1 : TI} {g g1 : TG} {tk tv : TE} (calm : X.calm = true) (nodup : X.N.Nodup) (hi : PI X tg iter wi) (ok : BlkOk X.N X.env.scope scope own) (hv : ∀ i ∈ vs1, i ∈ own.map (·.2))
    (hg : Bk X scope fun Y => PG Y tg g) (hi1 : Bk X scope fun Y => PI Y tg1 iter1 wi1) (hg1 : Bk X scope fun Y => PG Y tg1 g1) (hk : Bk X scope fun Y => PE Y kx tk) (he : Bk X scope fun Y => PE Y vx tv)
    (hs : ∀ x, foldedSetIterable iter X.env x = pure x := by intro _; rfl) (hs1 : ∀ env x, foldedSetIterable iter1 env x = pure x := by intro _ _; rfl) : PE X (DC2 kx vx tg iter tg1 iter1 scope pos) (tDc2 wi g wi1 g1 tk tv (own.map (·.2)) vs1) := by
  refine ⟨fun pins s σ H Q I h => ?_⟩
  rw [arm_eval_DictComp]
  refine dc2_core calm nodup I hi ok hv hg hi1 hg1 hk he hs hs1 h fun D C s' m H' I' q hn f => ⟨m, hn, fun h'' sb => ?_⟩
  obtain ⟨f0, f1, f2, f3, f4, f5⟩ := f
  exact ⟨.ref D, H', I'.turned (t' := s'.toks) (fun b o hb e => (sb.2 b hb).trans e) f0 f1 f3 f4 f5, rfl, q⟩
theorem sw_trueD2 {kx vx : Expr} {gs : List Comprehension} {scope : Scope} {pos py : Pos} {y : Str} {l : Nat} {env : Env} (fk : env.scope.kind = .function) (loc : env.scope.names.lookup y = some .local) (one_ : (py.line == pos.line) = true)
    (own_ : (scope.names.any fun (n, k) => n == y && (k == .local || k == .cell)) = false) : swapsWith (.DictComp kx vx gs scope pos) (some (.Name y py)) l env = pure true := sw_trueD fk loc one_ own_
theorem ps_setDc2 {i : Nat} {y : Str} {py : Pos} {kx vx tg iter tg1 iter1 : Expr} {scope : Scope} {own : List (Str × Nat)} {vs1 : List Nat} {pos spos : Pos} {wi wi1 : TI} {g g1 : TG} {tk tv : TE} (calm : X.calm = true) (nodup : X.N.Nodup) (hy : X.N[i]? = some y) (loc : X.env.scope.names.lookup y = some .local)
    (sw : swapsWith (DC2 kx vx tg iter tg1 iter1 scope pos) (some (.Name y py)) spos.line X.env = pure true) (hi : PI X tg iter wi) (ok : BlkOk X.N X.env.scope scope own) (hv : ∀ i ∈ vs1, i ∈ own.map (·.2))
    (hg : Bk X scope fun Y => PG Y tg g) (hi1 : Bk X scope fun Y => PI Y tg1 iter1 wi1) (hg1 : Bk X scope fun Y => PG Y tg1 g1) (hk : Bk X scope fun Y => PE Y kx tk) (he : Bk X scope fun Y => PE Y vx tv)
    (hs : ∀ x, foldedSetIterable iter X.env x = pure x := by intro _; rfl) (hs1 : ∀ env x, foldedSetIterable iter1 env x = pure x := by intro _ _; rfl) :
    PS X (.Assign [.Name y py] (DC2 kx vx tg iter tg1 iter1 scope pos) spos) (tAsg (tDc2 wi g wi1 g1 tk tv (own.map (·.2)) vs1) (gName i)) := ⟨fun pins s σ H D I h => by
  rw [exec_Assign_Name_used _ _ _ _ sw]
  refine wpAny_bind (wpAny_standAt (wpAny_bind ?_))
  show wpAny _ X.A (do let _ ← comprehension (DC2 kx vx tg iter tg1 iter1 scope pos) scope X.env (firstIterPos [⟨tg, iter, [], 0⟩, ⟨tg1, iter1, [], 0⟩] pos) newDict false (eval iter X.env) (some (assign (.Name y py) X.env))) _ _ s
  have h0 : tDc2 wi g wi1 g1 tk tv (own.map (·.2)) vs1 σ H fun x H1 => gName i x σ H1 D.nx := h
  refine wpAny_bind (thn (dc2_core (Qf := fun _ s' => SP X pins D .next s') calm nodup I hi ok hv hg hi1 hg1 hk he hs hs1 h0 fun L C s' m H' I' q hn f => ?_) fun _ s' w => wpAny_pure (wpAny_pure w))
  show wpAny _ _ (assign (.Name y py) X.env (.ref L)) _ _ _
  refine wpAny_assign_Name (store_ok2 (v := V.ref L) I' nodup hy (.inl loc) rfl (fun s2 I2 ⟨a, sb, ha⟩ => ?_) (.inr loc))
  have ⟨f0, f1, f2, f3, f4, f5⟩ := f
  have ne : C ≠ a := by
    rcases ha with z | z
    · exact z ▸ f1
    · exact fun e => f4 y a z e.symm
  exact ⟨m, hn.sameBut sb ne, fun h3 sb3 => ⟨_, H', I2.turned (t' := s2.toks) (fun b o hb e => (sb3.2 b hb).trans e) f0 f1 f3 f4 f5, q⟩⟩⟩
end
end L2
namespace Sx
open PySem L2
section
variable {ρ : Sx.Env} {M : Cells} {tk tv : TE}
theorem len_merge : ∀ (ms ks : List (L2.Key × VD)), (mergeG ks ms).length ≤ ks.length + ms.length
  | [], ks => Nat.le_refl _
  | m :: ms, ks => by
    have a := len_merge ms (putG ks m.1 m.2)
    have b := length_putG ks m.1 m.2
    have c : mergeG ks (m :: ms) = mergeG (putG ks m.1 m.2) ms := rfl
    rw [c, List.length_cons]
    omega
theorem merge_snoc (ks ms : List (L2.Key × VD)) (k : L2.Key) (x : VD) : mergeG ks (ms ++ [(k, x)]) = putG (mergeG ks ms) k x := by
  unfold mergeG
  rw [List.foldl_append]
  rfl
/-- {k: v for a in xs for b in ys(a)}: what is walked inside stays -/
theorem er_dc2 {M0 : Cells} {α β : Type} {wi wi1 : TI} {g g1 : TG} {vs vs1 : List Nat} {e : α → VD} {xs : List α} {ys : α → List β} {e1 : α → β → VD} {kf : α → β → L2.Key} {r : α → β → VD} (h : EvI wi ρ M0 (xs.map e) M) (hl : (xs.flatMap ys).length ≤ 16000000)
    (hs : ∀ a, a ∈ xs → ∃ ρ2 js, Tgt g js (e a) (wipeE ρ vs) ρ2 ∧ (∀ i ∈ js, i ∈ vs) ∧ (∀ c : Addr × CD, EvI wi1 ρ2 (c :: M) ((ys a).map (e1 a)) (c :: M)) ∧
      ∀ b, b ∈ ys a → ∃ ρ3 js1, Tgt g1 js1 (e1 a b) (wipeE ρ2 vs1) ρ3 ∧ (∀ i ∈ js1, i ∈ vs1) ∧ (∀ c, Ev tk ρ3 (c :: M) (dat (kD (kf a b))) (c :: M)) ∧ ∀ c, Ev tv ρ3 (c :: M) (r a b) (c :: M)) :
    EvR (tDc2 wi g wi1 g1 tk tv vs vs1) ρ M0 fun y N => ∃ D, y = val (.ref D) ∧ N = (D, cD (mergeG [] (xs.flatMap fun a => (ys a).map fun b => (kf a b, r a b)))) :: M := fun Φ σ H Q s q => h Φ σ H _ s fun J H1 Ψ l s1 ⟨G, Y, w, hG, hY⟩ => fun Dl hD => by
  have ⟨F1, s2⟩ := s1
  have hlen : ∀ (xs : List α), (xs.flatMap fun a => (ys a).map fun b => (kf a b, r a b)).length = (xs.flatMap ys).length := fun xs => by
    induction xs with
    | nil => rfl
    | cons a xs ih => rw [List.flatMap_cons, List.flatMap_cons, List.length_append, List.length_append, List.length_map, ih]
  let acc : Nat → List (L2.Key × VD) := fun i => (xs.take i).flatMap fun a => (ys a).map fun b => (kf a b, r a b)
  let Ψ0 : Fr := Ψ.slots σ ρ
  refine ⟨fun i m H' => m = xs.length - i ∧ i ≤ xs.length ∧ Sat Ψ0 (wipeE ρ vs) ((Dl, cD (mergeG [] (acc i))) :: M) (L2.wipe σ vs) H', ⟨xs.length, rfl, Nat.zero_le _, ?_⟩, fun i m H' ⟨hm, hi, s'⟩ => ?_⟩
  · have s3 := s2.newC (c := cD []) (o := .dK []) hD fun e => ⟨e, [], rfl, .nil⟩
    have s4 : SatF F1 Ψ0 ρ ((Dl, cD []) :: M) σ (upd H1 Dl (.dK [])) := ⟨s3.ex, ⟨s3.fr, s3.sl⟩, s3.sl, s3.nd, s3.ce⟩
    have s5 := s4.wiped vs
    have e0 : mergeG [] (acc 0) = [] := by show mergeG [] ((xs.take 0).flatMap _) = _; rw [List.take_zero]; rfl
    rw [e0]
    exact ⟨F1, s5⟩
  · subst hm
    have hg0 : G H' := hG _ _ _ _ _ Le.slots s'
    have hxl : (xs.map e).length = xs.length := List.length_map _
    rcases Nat.lt_or_eq_of_le hi with hlt | rfl
    · refine .inr ⟨w.goes i H' (by rw [hxl]; exact hlt) hg0, fun H'' => Sat Ψ0 (wipeE ρ vs) ((Dl, cD (mergeG [] (acc (i + 1)))) :: M) (L2.wipe σ vs) H'', fun H'' s'' => ⟨xs.length - (i + 1), by omega, rfl, hlt, s''⟩, fun x H2 y => ?_⟩
      have hi' : (xs.map e)[i]? = some (e xs[i]) := by simp [hlt]
      obtain ⟨ρ2, js, hg, hj, hw1, hb⟩ := hs xs[i] (List.getElem_mem hlt)
      have hacc : acc (i + 1) = acc i ++ (ys xs[i]).map fun b => (kf xs[i] b, r xs[i] b) := by
        have htk : xs.take (i + 1) = xs.take i ++ [xs[i]] := by rw [List.take_succ]; simp [hlt]
        show (xs.take (i + 1)).flatMap _ = _
        rw [htk, List.flatMap_append]
        simp [acc]
      have hbound : (acc i).length + (ys xs[i]).length ≤ 16000000 := by
        have h1 := hlen (xs.take (i + 1))
        have h2 : (acc (i + 1)).length ≤ (xs.flatMap ys).length := by
          show ((xs.take (i + 1)).flatMap fun a => (ys a).map fun b => (kf a b, r a b)).length ≤ _
          rw [h1]
          have e := congrArg List.length (congrArg (List.flatMap ys) (List.take_append_drop (i + 1) xs))
          rw [List.flatMap_append, List.length_append] at e
          omega
        rw [hacc, List.length_append, List.length_map] at h2
        omega
      have s3 := hY i (e xs[i]) x H' H2 _ _ _ _ hi' Le.slots s' (w.yields i H' x H2 (by rw [hxl]; exact hlt) hg0 y)
      refine hg _ _ x _ H2 _ s3 fun σ2 k1 k2 s4 => ⟨wipe_eq k1 k2 hj, ?_⟩
      refine hw1 (Dl, cD (mergeG [] (acc i))) Ψ0 σ2 H2 _ s4 fun J1 H4 Ψ1 l1 s6 ⟨G1, Y1, w1, hG1, hY1⟩ => ?_
      have ⟨F6, z7⟩ := s6
      let Ψ2 : Fr := Ψ1.slots σ2 ρ2
      have hyl : ((ys xs[i]).map (e1 xs[i])).length = (ys xs[i]).length := List.length_map _
      refine ⟨fun j k H' => k = (ys xs[i]).length - j ∧ j ≤ (ys xs[i]).length ∧ Sat Ψ2 (wipeE ρ2 vs1) ((Dl, cD (mergeG [] (acc i ++ ((ys xs[i]).take j).map fun b => (kf xs[i] b, r xs[i] b)))) :: M) (L2.wipe σ2 vs1) H', ⟨_, rfl, Nat.zero_le _, ?_⟩, fun j k H' ⟨hk, hj1, t'⟩ => ?_⟩
      · have z8 : SatF F6 Ψ2 ρ2 ((Dl, cD (mergeG [] (acc i))) :: M) σ2 H4 := ⟨z7.ex, ⟨z7.fr, z7.sl⟩, z7.sl, z7.nd, z7.ce⟩
        have z9 := z8.wiped vs1
        rw [List.take_zero, List.map_nil, List.append_nil]
        exact ⟨F6, z9⟩
      · subst hk
        have hg1' : G1 H' := hG1 _ _ _ _ _ Le.slots t'
        rcases Nat.lt_or_eq_of_le hj1 with hlt1 | rfl
        · refine .inr ⟨w1.goes j H' (by rw [hyl]; exact hlt1) hg1', fun H'' => Sat Ψ2 (wipeE ρ2 vs1) ((Dl, cD (mergeG [] (acc i ++ ((ys xs[i]).take (j + 1)).map fun b => (kf xs[i] b, r xs[i] b)))) :: M) (L2.wipe σ2 vs1) H'', fun H'' t'' => ⟨(ys xs[i]).length - (j + 1), by omega, rfl, hlt1, t''⟩, fun x H5 y1 => ?_⟩
          have hj' : ((ys xs[i]).map (e1 xs[i]))[j]? = some (e1 xs[i] (ys xs[i])[j]) := by simp [hlt1]
          obtain ⟨ρ3, js1, hg1, hjs, hev, hev2⟩ := hb (ys xs[i])[j] (List.getElem_mem hlt1)
          have t3 := hY1 j _ x H' H5 _ _ _ _ hj' Le.slots t' (w1.yields j H' x H5 (by rw [hyl]; exact hlt1) hg1' y1)
          refine hg1 _ _ x _ H5 _ t3 fun σ3 k3 k4 t4 => ⟨wipe_eq k3 k4 hjs, ?_⟩
          refine hev _ _ σ3 H5 _ t4 fun u H6 t5 => hev2 _ _ σ3 H6 _ t5 fun v H7 t6 => ?_
          have ⟨F7, z8⟩ := t6
          obtain ⟨o, q1, q0, ws, rfl, q3⟩ := z8.at (List.mem_cons_self)
          refine ⟨ws, kf xs[i] (ys xs[i])[j], kv_of z8.fr.1.2, q1, ?_, ?_⟩
          · rw [← q3.len]
            have hz : sizeLine = 16777216 := sizeLine_eq
            have h1 := len_merge (acc i ++ ((ys xs[i]).take j).map fun b => (kf xs[i] b, r xs[i] b)) []
            rw [List.length_append, List.length_map, List.length_take, List.length_nil] at h1
            omega
          · have htk : (ys xs[i]).take (j + 1) = (ys xs[i]).take j ++ [(ys xs[i])[j]] := by rw [List.take_succ]; simp [hlt1]
            rw [htk, List.map_append, ← List.append_assoc]
            show Sat Ψ2 _ ((Dl, cD (mergeG [] (acc i ++ ((ys xs[i]).take j).map (fun b => (kf xs[i] b, r xs[i] b)) ++ [(kf xs[i] (ys xs[i])[j], r xs[i] (ys xs[i])[j])]))) :: M) _ _
            rw [merge_snoc]
            have z9 := z8.put1 (o := .dK (putK ws (kf xs[i] (ys xs[i])[j]) v)) (Put.here (p := Dl) (c := cD (mergeG [] (acc i ++ ((ys xs[i]).take j).map fun b => (kf xs[i] b, r xs[i] b)))) (c' := cD (putG (mergeG [] (acc i ++ ((ys xs[i]).take j).map fun b => (kf xs[i] b, r xs[i] b))) (kf xs[i] (ys xs[i])[j]) (r xs[i] (ys xs[i])[j]))) (l := M)) q0 ⟨q0, _, rfl, q3.put (kf xs[i] (ys xs[i])[j]) z8.fr.2⟩
            exact ⟨F7, z9.ex, z9.fr.1.1, z9.fr.1.1.2.wipes vs1, z9.nd, z9.ce⟩
        · have st := w1.stops H' hg1'
          rw [hyl] at st
          refine .inl ⟨st, ?_⟩
          rw [List.take_length] at t'
          have ⟨F7, z8⟩ := t'
          have z9 : SatF F7 Ψ0 ρ2 ((Dl, cD (mergeG [] (acc i ++ (ys xs[i]).map fun b => (kf xs[i] b, r xs[i] b)))) :: M) σ2 H' := SatF.weak (Φ := Ψ2) ⟨z8.ex, z8.fr, z8.fr.2, z8.nd, z8.ce⟩ (Le.slots.trans l1)
          rw [hacc]
          exact ⟨F7, z9.ex, z9.fr, z9.fr.2.wipes vs, z9.nd, z9.ce⟩
    · have st := w.stops H' hg0
      rw [hxl] at st
      refine .inl ⟨st, ?_⟩
      have e1 : acc xs.length = xs.flatMap fun a => (ys a).map fun b => (kf a b, r a b) := by show (xs.take xs.length).flatMap _ = _; rw [List.take_length]
      rw [e1] at s'
      have ⟨F7, z8⟩ := s'
      have z9 : SatF F7 Ψ ρ ((Dl, cD (mergeG [] (xs.flatMap fun a => (ys a).map fun b => (kf a b, r a b)))) :: M) σ H' := ⟨z8.ex, z8.fr.1, z8.fr.2, z8.nd, z8.ce⟩
      exact q _ _ _ _ ⟨Dl, rfl, rfl⟩ ⟨F7, z9.weak ⟨l.n, fun F h => ⟨l.p F h, rfl⟩⟩⟩
end
end Sx

set_option Elab.async false
set_option linter.all false
set_option maxRecDepth 100000
set_option maxHeartbeats 4000000
/-! Sx33: <, >, <=, >= of data that are alike; dict(d). -/
namespace L2
open PySem PySem.Spec PyProof.Rows
def rCmpD (K : PySem.W.Frag) (f : PyData → PyData → Bool) : R2 := fun x y H Q => ∃ d e, Dp K H x d ∧ Dp K H y e ∧ PySem.W.alike d e = true ∧ d ≠ .none ∧ d.depth ≤ 8 ∧ Q (.bl (f d e)) H
abbrev ltD (d e : PyData) : Bool := PySem.W.dataLt d e
abbrev gtD (d e : PyData) : Bool := PySem.W.dataLt e d
abbrev leD (d e : PyData) : Bool := !PySem.W.dataLt e d
abbrev geD (d e : PyData) : Bool := !PySem.W.dataLt d e
section
variable {X : Cx}
theorem op_ltDat (hu : X.A.units + 64 < cLine) : OpR X (compareOp .Lt) (rCmpD X.K ltD) := by
  intro pins s σ H x y v u Q I rx ry ⟨d, e, h1, h2, al, nn, dp, q⟩
  obtain ⟨as, ra⟩ := Dp.reads I d x v h1 rx
  obtain ⟨bs, rb⟩ := Dp.reads I e y u h2 ry
  exact PySem.W.lt_data ra rb al nn (by omega) ⟨.bl _, H, I, rfl, q⟩
theorem op_gtDat (hu : X.A.units + 64 < cLine) : OpR X (compareOp .Gt) (rCmpD X.K gtD) := by
  intro pins s σ H x y v u Q I rx ry ⟨d, e, h1, h2, al, nn, dp, q⟩
  obtain ⟨as, ra⟩ := Dp.reads I d x v h1 rx
  obtain ⟨bs, rb⟩ := Dp.reads I e y u h2 ry
  exact PySem.W.gt_data ra rb al nn (by omega) ⟨.bl _, H, I, rfl, q⟩
theorem op_leDat (hu : X.A.units + 64 < cLine) : OpR X (compareOp .LtE) (rCmpD X.K leD) := by
  intro pins s σ H x y v u Q I rx ry ⟨d, e, h1, h2, al, nn, dp, q⟩
  obtain ⟨as, ra⟩ := Dp.reads I d x v h1 rx
  obtain ⟨bs, rb⟩ := Dp.reads I e y u h2 ry
  exact PySem.W.le_data ra rb al nn (by omega) ⟨.bl _, H, I, rfl, q⟩
theorem op_geDat (hu : X.A.units + 64 < cLine) : OpR X (compareOp .GtE) (rCmpD X.K geD) := by
  intro pins s σ H x y v u Q I rx ry ⟨d, e, h1, h2, al, nn, dp, q⟩
  obtain ⟨as, ra⟩ := Dp.reads I d x v h1 rx
  obtain ⟨bs, rb⟩ := Dp.reads I e y u h2 ry
  exact PySem.W.ge_data ra rb al nn (by omega) ⟨.bl _, H, I, rfl, q⟩
/-- dict(d), the dict locked or not -/
def rDictD : List V → Hp → VK → Prop := fun xs H Q => ∃ (a : Addr) (kvs : List (Key × V)), xs = [.ref a] ∧ Rd H a (.dK kvs) ∧ ∀ p, H p = none → Q (.ref p) (upd H p (.dK kvs))
theorem call_dictD' : CallR X (.type "dict") rDictD := call_dictD
end
end L2
namespace Sx
open PySem L2 Evl
section
variable {K : PySem.W.Frag} {ρ : Sx.Env} {M M1 : Cells} {x y : VD} {te : TE} {kvs : List (L2.Key × VD)}
theorem rv_cmpD {f : PyData → PyData → Bool} {d e : PyData} (hx : IsDat K x M d) (hy : IsDat K y M e) (al : PySem.W.alike d e = true) (nn : d ≠ .none) (dp : d.depth ≤ 8) : RV (rCmpD K f) x y M (dat (.bool (f d e))) M := fun Φ ρ σ v w H Q ⟨F, s⟩ q =>
  ⟨d, e, hx s s.fr.1.2, hy s s.fr.2, al, nn, dp, q _ _ (Sat.ret s.base (.bl _))⟩
theorem er_dictD (h : Ev te ρ M x M1) (hx : IsDi x M1 kvs) : EvR (tCB rDictD (tCons te tNil)) ρ M fun y M' => ∃ p, y = val (.ref p) ∧ M' = (p, cD kvs) :: M1 := fun Φ σ H Q s q => h Φ σ H _ s fun v H1 s1 => by
  have ⟨F, z⟩ := s1
  obtain ⟨a, vs, rfl, h2, h3⟩ := hx z z.fr.2
  refine ⟨a, vs, rfl, h2, fun p hp => q _ _ _ _ ⟨p, rfl, rfl⟩ ?_⟩
  have s4 := (SatF.weak z Le.and).newC (c := cD kvs) (o := .dK vs) (p := p) hp fun e => ⟨e, _, rfl, h3⟩
  exact ⟨F, s4.ex, ⟨s4.fr, rfl⟩, s4.sl, s4.nd, s4.ce⟩
end
end Sx

set_option Elab.async false
set_option linter.all false
set_option maxRecDepth 100000
set_option maxHeartbeats 4000000
/-! Sx34: sorted(set(xs)) of a list of texts. -/
namespace L2
open PySem PySem.Spec PyProof.Rows
def txOf (e : Int × Value) : Str := match e.2 with | .str x _ => x | _ => ""
/-- an entry of a set of texts -/
def TxE (P : Program) (w : World) (e : Int × Value) : Prop := ∃ x t, e.2 = Value.str x t ∧ e.1 = (PySem.strKind P w).hash x
/-- a set of texts that can be walked -/
def SetX (P : Program) (w : World) (h : Heap) (a : Addr) (S : Str → Bool) (n : Nat) : Prop := ∃ o es ep t, h.get? a = some o ∧ o.ExactSet ∧ o.data = .set es ep t ∧ (∀ e ∈ es.toList, TxE P w e) ∧ (es.toList.map txOf).Nodup ∧ (∀ x, S x = true ↔ x ∈ es.toList.map txOf) ∧
  es.size < scanBound ∧ t.fits es.size = true ∧ es.size = n ∧ Ris t.place.toList ∧ (w.params.followText "set-order" = true ∨ t.led = true)
section
variable {P : Program} {w : World} {A : Around} {E : Value → Shared → Prop} {s : Shared} {h h' : Heap} {a : Addr} {S S' : Str → Bool} {n : Nat}
theorem SetX.at (R : SetX P w h a S n) (k : ∀ o, h.get? a = some o → h'.get? a = some o) : SetX P w h' a S n := by
  obtain ⟨o, es, ep, t, ho, r⟩ := R
  exact ⟨o, es, ep, t, k o ho, r⟩
theorem SetX.congr {m : Nat} (R : SetX P w h a S n) (e : ∀ x, S' x = S x) (e2 : m = n) : SetX P w h a S' m := by
  have q : S' = S := funext e
  rw [q, e2]; exact R
theorem txe_elems {l : List (Int × Value)} (g : ∀ e ∈ l, TxE P w e) : ElemsOf (PySem.strKind P w) l := fun e he => by
  obtain ⟨k, tk, h1, h2⟩ := g e he
  exact ⟨⟨k, by rw [h1]; exact strKind_is _ _ _ _, h2⟩, by rw [h1] <;> rfl⟩
theorem txe_is {e : Int × Value} (g : TxE P w e) (k : Str) : (PySem.strKind P w).is k e.2 = true ↔ txOf e = k := by
  obtain ⟨k0, tk, h1, _⟩ := g
  unfold txOf
  rw [h1]
  constructor
  · intro z
    have z : Value.isStrOf k (Value.str k0 tk) = true := z
    obtain ⟨t, e⟩ := Value.isStrOf_shape z
    cases e
    rfl
  · intro z
    cases z
    exact strKind_is _ _ _ _
theorem txe_mem {l : List (Int × Value)} (g : ∀ e ∈ l, TxE P w e) (k : Str) : k ∈ l.map txOf ↔ ∃ e ∈ l, (PySem.strKind P w).is k e.2 = true := by
  rw [List.mem_map]
  exact ⟨fun ⟨e, he, q⟩ => ⟨e, he, (txe_is (g e he) k).2 q⟩, fun ⟨e, he, q⟩ => ⟨e, he, (txe_is (g e he) k).1 q⟩⟩
theorem setX_new : SetX P w (h.push (nso w)) h.objs.size (fun _ => false) 0 :=
  ⟨_, #[], 0, _, Heap.get?_push_size _ rfl, ⟨rfl, rfl, rfl⟩, rfl, (fun e he => by simp at he), (by simp), (fun k => by simp), (by decide), (by rfl), rfl, List.Pairwise.nil, by
    show _ ∨ (!w.params.followText "set-order") = true
    cases w.params.followText "set-order"
    · exact .inr rfl
    · exact .inl rfl⟩
theorem setX_tail {g : Bool → Sem Unit} (hg : ∀ (b : Bool) (s₁ : Shared) (Q' : Unit → Shared → Prop), Q' () s₁ → wpAny (model P w) A (g b) Q' E s₁) {o : Obj} {es : Array (Int × Value)} {ep : Nat} {t : SetTable} (ho : s.heap.get? a = some o) (hex : o.ExactSet) (hd : o.data = .set es ep t)
    {es1 : Array (Int × Value)} {t2 : SetTable} (g1 : ∀ e ∈ es1.toList, TxE P w e) (nd1 : (es1.toList.map txOf).Nodup) (m1 : ∀ k, S' k = true ↔ k ∈ es1.toList.map txOf) (hb1 : es1.size < scanBound) (hf2 : t2.fits es1.size = true) (hr : Ris t2.place.toList)
    (hl : w.params.followText "set-order" = true ∨ t2.led = true) {wasDummy : Bool} {R : Option Bool → Shared → Prop} (hR : ∀ h', Heap.SameBut a s.heap h' → SetX P w h' a S' es1.size → R (some true) { s with heap := h' }) :
    wpAny (model P w) A (do
        storeSet a es1 t2
        if (!wasDummy && t2.tooFull) = true then do
            g (relayAll t2 es1 (SetTable.grown es1.size)).2.2
            storeSet a (relayAll t2 es1 (SetTable.grown es1.size)).1 (relayAll t2 es1 (SetTable.grown es1.size)).2.1
            pure (some true)
          else pure (some true)) R E s := by
  refine wpAny_bind (wpAny_storeSet_of ho hd ?_ (fits_of_scanBound hb1))
  have ho1 := store_at (es' := es1) (t' := t2) ho hd
  have sb1 := Heap.SameBut.update s.heap a (Obj.putSet es1 t2)
  split
  · have pm := relayAll_perm t2 es1 (SetTable.grown es1.size)
    have hf3 := relayAll_fits t2 es1 (SetTable.grown es1.size)
    have hr3 := relayAll_ris t2 es1 (SetTable.grown es1.size)
    have hl3 := relayAll_led t2 es1 (SetTable.grown es1.size)
    generalize relayAll t2 es1 (SetTable.grown es1.size) = Z at pm hf3 hr3 hl3 ⊢
    obtain ⟨es2, t3, gave⟩ := Z
    dsimp only at pm hf3 hr3 hl3 ⊢
    have hsz : es2.size = es1.size := by rw [← Array.length_toList, pm.length_eq, Array.length_toList]
    have hb2 : es2.size < scanBound := by rw [hsz]; exact hb1
    refine wpAny_bind (hg _ _ _ (wpAny_bind (wpAny_storeSet_of ho1 rfl ?_ (fits_of_scanBound hb2))))
    have ho2 := store_at (es' := es2) (t' := t3) ho1 rfl
    refine wpAny_pure (hR _ (sb1.trans (Heap.SameBut.update _ a _)) ?_)
    exact ⟨_, es2, _, t3, ho2, hex, rfl, fun e he => g1 e (pm.mem_iff.mp he), (pm.map txOf).nodup_iff.mpr nd1, fun k => (m1 k).trans (pm.map txOf).mem_iff.symm, hb2, hf3, hsz, hr3, hl.imp id fun z => by rw [hl3]; exact z⟩
  · exact wpAny_pure (hR _ sb1 ⟨_, es1, _, t2, ho1, hex, rfl, g1, nd1, m1, hb1, hf2, rfl, hr, hl⟩)
theorem setX_add {k : Str} {tk : Tok} {Q : Bool → Shared → Prop} (R : SetX P w s.heap a S n) (room : n + 1 < scanBound)
    (hQ : ∀ h', Heap.SameBut a s.heap h' → SetX P w h' a (fun j => S j || decide (j = k)) (if S k = true then n else n + 1) → Q (!S k) { s with heap := h' }) :
    wpAny (model P w) A (setAddHashed a (.str k tk) ((PySem.strKind P w).hash k)) Q E s := by
  obtain ⟨o, es, ep, t, ho, hex, hd, g, nd, hm, hb, hf, hn, hr, hl⟩ := R
  have hkey : (PySem.strKind P w).is k (.str k tk) = true := strKind_is _ _ _ _
  have hsc : (Value.str k tk).scannable = true := rfl
  have hel : ElemsOf (PySem.strKind P w) es.toList := txe_elems g
  unfold setAddHashed setAddHashedIn
  refine wpAny_holding (wpAny_bind (wpAny_setState_of ho hd hf ?_))
  dsimp only
  rw [byScan_of hsc hb hel]
  simp only [↓reduceIte]
  unfold setAddByScan
  refine wpAny_bind (wpAny_bind (wpAny_rule (wpAny_bind (wpAny_setScan_of hkey ho hd hf hel ?_))))
  cases hfi : List.findIdx? (fun e => (PySem.strKind P w).is k e.2) es.toList with
  | some j =>
    dsimp only
    obtain ⟨hj, pj, _⟩ := List.findIdx?_eq_some_iff_getElem.mp hfi
    have hSk : S k = true := (hm k).2 ((txe_mem g k).2 ⟨es.toList[j], List.getElem_mem hj, pj⟩)
    refine wpAny_pure (wpAny_pure ?_)
    have q := hQ s.heap (Heap.SameBut.refl a s.heap) ⟨o, es, ep, t, ho, hex, hd, g, nd, fun i => by
      rw [Bool.or_eq_true, decide_eq_true_eq, ← hm i]
      exact ⟨fun z => z.elim id (fun e => e ▸ hSk), .inl⟩, hb, hf, by rw [if_pos hSk]; exact hn, hr, hl⟩
    rw [hSk] at q
    exact q
  | none =>
    dsimp only
    have hnk : k ∉ es.toList.map txOf := fun z => by
      obtain ⟨e, he, q⟩ := (txe_mem g k).1 z
      have c := List.findIdx?_eq_none_iff.mp hfi e he
      rw [q] at c
      cases c
    have hSk : S k = false := by
      cases q : S k with
      | false => rfl
      | true => exact absurd ((hm k).1 q) hnk
    have hgw : ∀ (b : Bool) {s₁ : Shared} {Q' : Unit → Shared → Prop}, Q' () s₁ → wpAny (model P w) A (match b with | true => rule "set.scan.the-table-gave-way" | false => pure ()) Q' E s₁ :=
      fun b s₁ Q' q => by cases b <;> first | exact wpAny_pure q | exact wpAny_rule q
    have pm := layNew_perm t es ((PySem.strKind P w).hash k) (.str k tk)
    have hf1 := layNew_fits t es ((PySem.strKind P w).hash k) (.str k tk)
    have hr1 := layNew_ris t es ((PySem.strKind P w).hash k) (.str k tk) hr
    have hl1 := layNew_led t es ((PySem.strKind P w).hash k) (.str k tk)
    generalize layNew t es ((PySem.strKind P w).hash k) (.str k tk) = Z at pm hf1 hr1 hl1 ⊢
    obtain ⟨es1, t1, wasDummy, gave⟩ := Z
    dsimp only at pm hf1 hr1 hl1 ⊢
    rw [Array.toList_push] at pm
    have pc : es1.toList.Perm (((PySem.strKind P w).hash k, Value.str k tk) :: es.toList) := pm.trans (List.perm_append_singleton _ _)
    have pk : (es1.toList.map txOf).Perm (k :: es.toList.map txOf) := pc.map txOf
    have g1 : ∀ e ∈ es1.toList, TxE P w e := fun e he => by
      rcases List.mem_cons.mp (pc.mem_iff.mp he) with z | z
      · rw [z]; exact ⟨k, tk, rfl, rfl⟩
      · exact g e z
    have nd1 : (es1.toList.map txOf).Nodup := pk.nodup_iff.mpr (List.nodup_cons.mpr ⟨hnk, nd⟩)
    have m1 : ∀ i, (S i || decide (i = k)) = true ↔ i ∈ es1.toList.map txOf := fun i => by
      rw [Bool.or_eq_true, decide_eq_true_eq, hm i, pk.mem_iff, List.mem_cons]
      exact Or.comm
    have hsz : es1.size = n + 1 := by rw [← Array.length_toList, pc.length_eq, List.length_cons, Array.length_toList, hn]
    have hb1 : es1.size < scanBound := by rw [hsz]; exact room
    have hled : w.params.followText "set-order" = true ∨ t1.led = true := hl.imp id fun z => by rw [hl1]; exact z
    have fin : ∀ h', Heap.SameBut a s.heap h' → SetX P w h' a (fun j => S j || decide (j = k)) es1.size → Q true { s with heap := h' } := fun h' sb r => by
      have q := hQ h' sb
      rw [hSk] at q
      rw [hsz] at r
      exact q r
    refine wpAny_bind (hgw _ ?_)
    split
    · refine wpAny_bind ?_
      rw [hashByValue_scannable 8 hsc]
      refine wpAny_pure ?_
      refine setX_tail ?_ ho hex hd g1 nd1 m1 hb1 ?_ ?_ ?_ ?_
      · intro b s₁ Q' q; cases b <;> first | exact wpAny_pure q | exact wpAny_rule q
      · first | (split <;> first | exact hf1 | exact SetTable.fits_plain_off hf1) | exact hf1
      · first | (split <;> exact hr1) | exact hr1
      · first | (split <;> exact hled) | exact hled
      · intro h' sb r; dsimp only; exact wpAny_pure (fin h' sb r)
    · refine wpAny_bind (wpAny_pure ?_)
      simp only [↓reduceIte]
      refine setX_tail ?_ ho hex hd g1 nd1 m1 hb1 hf1 hr1 hled ?_
      · intro b s₁ Q' q; cases b <;> first | exact wpAny_pure q | exact wpAny_rule q
      · intro h' sb r; dsimp only; exact wpAny_pure (fin h' sb r)
end
section
variable {prog : Program} {w : World} {A : Around} {R : Result → Shared → Prop} {I : Addr} {fp wr : List Addr} {G : Array GenState → Array GenState → Prop} {n : Nat} {P : Nat → Value → Prop} {St : Nat → Shared → Prop}
theorem updX (W : WalksS prog w A.in1 I fp wr G n P St) (S : Addr) (out : S ∉ fp) (xs : List Str) (many : xs.length = n) (few : n + 1 < scanBound) (vl : ∀ i v, P i v → ∃ x t, xs[i]? = some x ∧ v = .str x t) :
    ∀ (k i : Nat) (s : Shared), n - i = k → i ≤ n → St i s → (∃ c, c ≤ i ∧ SetX prog w s.heap S (fun y => decide (y ∈ xs.take i)) c) →
      (∀ s' c, Moved (S :: wr) G s s' → c ≤ n → SetX prog w s'.heap S (fun y => decide (y ∈ xs.take n)) c → R (.ok (.ret .none)) s') → codeAny (model prog w) A (.builtin "set.update.loop" ⟨[.ref S, .ref I], []⟩) R s
  | 0, i, s, hk, hi, st, ⟨c, hc, hS⟩, q => by
    obtain rfl : i = n := by omega
    refine codeAny_builtin F.entry_set_update_loop ?_
    rw [Around.under_plainId F.plain_set_update_loop _]
    exact wpAny_bind (m := pyNext (.ref I)) (W.done s _ _ st fun s1 mv => wpAny_pure (q s1 c (mv.mono fun b hb => List.mem_cons_of_mem _ hb) hc (hS.at fun o ho => mv.heap S _ (fun z => out (W.sub _ z)) ho)))
  | k + 1, i, s, hk, hi, st, ⟨c, hc, hS⟩, q => by
    have lt : i < n := by omega
    refine codeAny_builtin F.entry_set_update_loop ?_
    rw [Around.under_plainId F.plain_set_update_loop _]
    refine wpAny_bind (m := pyNext (.ref I)) (W.item i s _ _ lt st fun v s1 pv st1 mv => ?_)
    obtain ⟨x, t, hx, rfl⟩ := vl i v pv
    have tk : xs.take (i + 1) = xs.take i ++ [x] := by rw [List.take_add_one, hx]; rfl
    have S1 : SetX prog w s1.heap S (fun y => decide (y ∈ xs.take i)) c := hS.at fun o ho => mv.heap S _ (fun z => out (W.sub _ z)) ho
    refine wpAny_bind (m := holding [Value.str x t] (setAdd S (.str x t))) (wpAny_holding ?_)
    unfold setAdd
    refine wpAny_holding (wpAny_bind ((PySem.strKind prog w).pyHash (k := x) (strKind_is _ _ _ _) (setX_add (s := { s1 with toks := s1.toks + 1 }) S1 (by omega) fun g sb S2 => ?_)))
    have S3 : ∃ c, c ≤ i + 1 ∧ SetX prog w g S (fun y => decide (y ∈ xs.take (i + 1))) c := by
      refine ⟨_, ?_, S2.congr (fun y => ?_) rfl⟩
      · split <;> omega
      · rw [tk, Bool.eq_iff_iff]
        simp
    refine wpAny_pure ⟨plainId_quiet F.plain_set_update_loop _, updX W S out xs many few vl k (i + 1) _ (by omega) lt (W.frame _ s1 _ _ st1 (Nat.le_succ _) fun b hb o e => ?_) S3 fun s2 c2 mv2 hc2 hS2 => ?_⟩
    · rw [sb.2 b (fun z : b = S => out (z ▸ hb))]; exact e
    · refine q s2 c2 (Moved.trans W.gtrans ((mv.mono fun b hb => List.mem_cons_of_mem _ hb).then_heap (Nat.le_succ _) fun b o hb e => ?_) mv2) hc2 hS2
      rw [sb.2 b (fun z : b = S => hb (z ▸ List.mem_cons_self))]; exact e
end
section
variable {P : Program} {w : World} {A : Around} {E : Value → Shared → Prop} {s : Shared} {a : Addr} {S : Str → Bool} {n : Nat}
set_option maxRecDepth 100000 in
theorem set_of_listX {l : Addr} {us : Array Value} (ns : List Str) {Q : Value → Shared → Prop} (hh : A.handled = none) (hl : s.heap.IsList l us) (hu : StrsAre us.toList ns) (hb : ns.length + 1 < scanBound)
    (k : ∀ (g : Heap) (tk c : Nat), SetX P w g s.heap.objs.size (fun j => decide (j ∈ ns)) c → c ≤ ns.length → (∀ b o, s.heap.get? b = some o → g.get? b = some o) → Q (.ref s.heap.objs.size) { s with heap := g, toks := tk }) :
    wpAny (model P w) A (call (.type "set") [.ref l]) Q E s := by
  have many : us.size = ns.length := by have q := StrsAre.len_eq hu; rw [Array.length_toList] at q; exact q
  have ⟨c, tl, m0⟩ := F.called_set.mro
  have m1 := F.called_set.made; have m2 := F.called_set.sub; have m3 := F.called_set.notType; have m4 := F.called_set.canCreate; have m5 := F.typeCall_set_1 (.ref l)
  refine wpAny_call (codeAny_of_tree (wpAny_pure ⟨Code.quiet_builtin _ (by decide +kernel), codeAny_builtin F.entry_type_call ?_⟩))
  rw [Around.under_plain (weight_type_call_type "set" [.ref l] []) rfl]
  repeat (any_goals (first | wp_step | assumption))
  refine codeAny_mono (code_set_led1 (.ref l) (E := E) (Q₁ := fun ob s1 => ob = .ref s.heap.objs.size ∧ s1 = { s with heap := s.heap.push (nso w) }) ⟨rfl, rfl⟩) fun r s1 hr => ?_
  rcases r with e | (_ | _ | _ | ob)
  · exact hr
  iterate 3 exact hr.elim
  obtain ⟨rfl, rfl⟩ := hr
  have at0 : (s.heap.push (nso w)).get? s.heap.objs.size = some (nso w) := Heap.get?_push_size _ rfl
  have ty0 : Shared.TypeIs { s with heap := s.heap.push (nso w) } (.ref s.heap.objs.size) "set" := ⟨_, at0, rfl⟩
  have m6 := F.called_set.init.lookup; have m7 := F.called_set.init.bind (.ref s.heap.objs.size)
  repeat (any_goals (first | wp_step | assumption))
  refine codeAny_mono (codeAny_call_builtin (R := wants (fun r s2 => r = .none ∧ ∃ g tk c, s2 = { s with heap := g, toks := tk } ∧ SetX P w g s.heap.objs.size (fun j => decide (j ∈ ns)) c ∧ c ≤ ns.length ∧ ∀ b o, s.heap.get? b = some o → g.get? b = some o) E) F.called_set.init.plain F.entry_set_init (check_set_init_1 ty0 ?_)) fun r2 s2 hr2 => ?_
  · have ⟨⟨lc, ld, lda, ls⟩, hol, hcl, nl, hdl⟩ := hl
    simp only at hcl hdl; subst hcl; subst hdl
    have hol2 : (s.heap.push (nso w)).get? l = some { cls := .type "list", dict := ld, data := .seq us nl, slots := ls } := Heap.get?_push_of_some _ hol
    have m8 := F.sub_list_set; have m9 := F.sub_list_frozenset; have mA : (Value.type "list" == Value.type "dict") = false := by decide
    have li : (s.heap.push (nso w)).IsList l us := ⟨_, hol2, rfl, nl, rfl⟩
    unfold Builtin.«set.__init__» noKeywords Builtin.Frozenset.updateFrom; generalize hPI : pyIter = PI; wp_walk; subst hPI
    refine wpAny_pyIter_list li (wpAny_bind (wpAny_runValue ?_))
    have lt := Heap.lt_size hol; have n1 : (s.heap.push (nso w)).objs.size = s.heap.objs.size + 1 := Heap.size_push ..
    have d1 : ¬ l = (s.heap.push (nso w)).objs.size := n1 ▸ Nat.ne_of_lt (Nat.lt_succ_of_lt lt)
    have d2 : s.heap.objs.size ∉ [(s.heap.push (nso w)).objs.size, l] := by rw [n1]; intro z; rcases List.mem_cons.mp z with z | z; exact Nat.ne_of_lt (Nat.lt_succ_self _) z; exact Nat.ne_of_gt lt (List.mem_singleton.mp z)
    have vl : ∀ (i : Nat) (v : Value), us[i]? = some v → ∃ x t, ns[i]? = some x ∧ v = .str x t := fun i v hv => by
      have hi : i < ns.length := by have := (Array.getElem?_eq_some_iff.mp hv).1; omega
      have ⟨t, e⟩ := SS.strs_at hu i v (by rw [Array.getElem?_toList, hv])
      exact ⟨ns[i], t, by simp [hi], by rw [e]; simp [hi]⟩
    have S0 : SetX P w ((s.heap.push (nso w)).push { cls := .type "list_iterator", data := .fields #[.ref l, .int 0 0] }) s.heap.objs.size (fun y => decide (y ∈ ns.take 0)) 0 := (setX_new.at fun o e => Heap.get?_push_of_some _ e).congr (fun y => by rw [List.take_zero]; simp) rfl
    refine updX ((Walks.list (show A.in1.in1.in1.handled = none by simp [hh]) _ l d1 us).toS) s.heap.objs.size d2 ns many.symm (by omega) vl (us.size - 0) 0 _ (by omega) (Nat.zero_le _) ⟨⟨_, Heap.get?_push_size _ rfl, rfl, rfl⟩, li.push _⟩ ⟨0, Nat.le_refl 0, S0⟩ ?_
    rintro ⟨g, g2, d, tk, os⟩ c2 mv hc2 hS
    obtain rfl : g2 = s.gens := mv.gens
    obtain rfl : d = s.drawn := mv.drawn
    obtain rfl : os = s.os := mv.os
    rw [many, List.take_length] at hS
    refine wpAny_pure ?_; show wpAny _ _ (ret Value.none) _ _ _
    refine wpAny_pure ⟨rfl, g, tk, c2, rfl, hS, many ▸ hc2, fun b o e => mv.heap b o ?_ (Heap.get?_push_of_some _ (Heap.get?_push_of_some _ e))⟩
    have bl := Heap.lt_size e; rw [n1]; intro z; rcases List.mem_cons.mp z with z | z; exact Nat.ne_of_lt bl z; exact Nat.ne_of_lt (Nat.lt_succ_of_lt bl) (List.mem_singleton.mp z)
  rcases r2 with e | (_ | _ | _ | ob)
  · exact hr2
  iterate 3 exact hr2.elim
  obtain ⟨rfl, g, tk, c2, rfl, z⟩ := hr2
  repeat (any_goals (first | wp_step | assumption))
  exact k _ _ _ z.1 z.2.1 z.2.2
theorem strs_of : ∀ (l : List Value), (∀ v ∈ l, ∃ k tk, v = Value.str k tk) → ∃ ss : List Str, StrsAre l ss ∧ ss = l.map fun v => txOf (0, v)
  | [], _ => ⟨[], .nil, rfl⟩
  | v :: l, h => by
    obtain ⟨k, tk, rfl⟩ := h v List.mem_cons_self
    obtain ⟨ss, h1, h2⟩ := strs_of l fun u hu => h u (List.mem_cons_of_mem _ hu)
    exact ⟨k :: ss, .cons k tk h1, by rw [h2]; rfl⟩
theorem sorted_setX {Q : Value → Shared → Prop} (R : SetX P w s.heap a S n) (hh : A.handled = none) (h64 : n < 64)
    (hQ : ∀ s' p (out : Array Value) (c : Nat) (ss : List Str), (∀ b o, s.heap.get? b = some o → s'.heap.get? b = some o) → s'.gens = s.gens → s'.os = s.os → s.heap.objs.size ≤ p →
      s'.heap.get? p = some (seqObj "list" out c) → StrsAre out.toList ss → sortedS ss = true → ss.Nodup → (∀ k, k ∈ ss ↔ S k = true) → ss.length = n → Q (.ref p) s') : wpAny (model P w) A (call (.builtin "sorted") [.ref a]) Q E s := by
  obtain ⟨o, es, ep, t, ho, hex, hd, g, nd, hm, hb, hf, hn, hr, hl⟩ := R
  refine Calls.call_function_entry kind_sorted plain_sorted entry_sorted (args_sorted1 _) ?_
  unfold Builtin.«sorted»
  refine wpAny_bind (m := checkCount "sorted" 1 1 _) (wpAny_pure (wpAny_bind (collect_set (A := A.in1) hh ⟨o, ho, hex.1, hd⟩ hf hb hr hl fun s1 vs k1 hz g1 o1 pm => ?_)))
  have hvl : vs.length = n := by rw [pm.length_eq, List.length_map, Array.length_toList]; exact hn
  obtain ⟨ss, hI, hss⟩ := strs_of vs fun v hv => by
    obtain ⟨e, he, q⟩ := List.mem_map.mp (pm.mem_iff.mp hv)
    obtain ⟨k, tk, h1, _⟩ := g e he
    exact ⟨k, tk, by rw [← q]; exact h1⟩
  have pk : ss.Perm (es.toList.map txOf) := by
    have q := pm.map fun v => txOf (0, v)
    rw [List.map_map, ← hss] at q
    exact q
  refine wpAny_bind (wpAny_newList ?_ (by rw [hvl, sizeLine_eq]; omega))
  have hoL : (s1.heap.push (seqObj "list" vs.toArray 0)).get? s1.heap.objs.size = some (seqObj "list" vs.toArray 0) := Heap.get?_push_size _ rfl
  refine wpAny_bind (wpAny_holding (wpAny_call_entry slot_list_sort ⟨_, hoL, rfl⟩ entry_list_sort (list_sort_treeK strKind_oneLt hoL hI.keysOf (fun v₁ v₂ rest e => keyKind_strs (by rw [← e]; exact hI)) (by rw [hvl]; exact h64) fun st' hp hs => ?_) (args_list_sort _)))
  obtain ⟨ss', a1, a2, a3⟩ := sorted_out_str hI hp hs
  generalize (arrOf st').map (·.2) = out at a1 ⊢
  obtain ⟨c, hc⟩ := sortedHeap_at (vs := vs) (out := out) hoL
  have pn : ss'.Perm (es.toList.map txOf) := a2.trans pk
  refine ⟨_, rfl, wpAny_pure ⟨_, rfl, hQ _ s1.heap.objs.size out c ss' (fun b u e => ?_) g1 o1 hz hc a1 a3 (pn.nodup_iff.mpr nd) (fun k => by rw [pn.mem_iff, ← hm k]) ?_⟩⟩
  · have q := k1 b u e
    have hlt := Heap.lt_size q
    show (sortedHeap (s1.heap.push (seqObj "list" vs.toArray 0)) s1.heap.objs.size vs out).get? b = some u
    rw [sortedHeap_old (Nat.ne_of_lt hlt) (by rw [size_push']; exact Nat.lt_succ_of_lt hlt)]
    exact Heap.get?_push_of_some _ q
  · rw [a2.length_eq, hss, List.length_map]; exact hvl
end
end L2

set_option Elab.async false
set_option linter.all false
set_option maxRecDepth 100000
set_option maxHeartbeats 4000000
/-! Sx35: sorted(set(xs)), d != {}, dict(pairs) of any values, int(b). -/
namespace L2
open PySem PySem.Spec PyProof.Rows
section
variable {X : Cx}
/-- sorted(set(xs)), xs a list of fewer than 64 texts -/
def tSortSetX (K : PySem.W.Frag) (ta : TE) : TE := fun σ H Q => ta σ H fun x H1 => ∃ l, ∃ xs : List Str, x = .ref l ∧ SqL K H1 l (xs.map V.str) ∧ xs.length < 64 ∧
  ∀ (ss : List Str) (p : Addr), sortedS ss = true → ss.Nodup → (∀ k, k ∈ ss ↔ k ∈ xs) → H1 p = none → Q (.ref p) (upd H1 p (.lst (ss.map V.str)))
theorem pe_sortSetX {a : Expr} {ta : TE} {p p2 q pos : Pos} (hc : X.calm = true) (hg : Gl X "sorted") (hm : X.mg "sorted" = none) (hg2 : Gl X "set") (hm2 : X.mg "set" = none) (ha : PE X a ta)
    (na : starEach [a] X.env = (false, eval a X.env) :: starEach [] X.env := by rfl) (hv : bootBuiltins "sorted" = some (.builtin "sorted") := by decide +kernel) : PE X (.Call (.Name "sorted" p) [.Call (.Name "set" p2) [a] [] q] [] pos) (tSortSetX X.K ta) := ⟨fun pins s σ H Q I h => by
  refine Call_ (ld_blt I hg hm hv (callWith_builtin1 (args_cons (Call_ (ld_blt I hg2 hm2 boot_set ?_)) rfl) rfl rfl))
  refine callWith_type1 (args_cons (thn (ha.run pins s σ H _ I h) fun v s1 ⟨x, H1, I1, r1, l, xs, e, hq, few, q1⟩ => args_nil ?_) na) na rfl
  subst e
  cases r1
  obtain ⟨its, r, pl, hz⟩ := I1.list hq
  refine set_of_listX xs (I1.ok.hd hc) pl.isList (by simpa using strsAre_of r) (by unfold scanBound; omega) fun g tk c hS hle hk => args_nil ?_
  have I2 : Inv X pins σ H1 { s1 with heap := g, toks := tk } := I1.kept hk
  have hS2 : SetX X.prog X.w ({ s1 with heap := g, toks := tk } : Shared).heap s1.heap.objs.size (fun j => decide (j ∈ xs)) c := hS
  generalize ({ s1 with heap := g, toks := tk } : Shared) = s2 at I2 hS2 ⊢
  refine sorted_setX hS2 (I1.ok.hd hc) (by omega) fun s' pp out cc ss k g' o hp hgo hi hs nd hm hl => ?_
  have hlen : (ss.map V.str).length ≤ sizeLine := by rw [List.length_map, hl, sizeLine_eq]; omega
  have hn : H1 pp = none := I2.hok.fresh hp
  have J : Inv X pins σ (upd H1 pp (.lst (ss.map V.str))) { s2 with heap := s'.heap, gens := s'.gens, drawn := s'.drawn, toks := s'.toks } :=
    I2.call (ch := []) (Un.laid k hp hn) (I2.hok.laid k hp ⟨hlen, out.toList, cc, vals_of_strs hi, hgo⟩) (by rw [g']; exact I2.bare) (fun _ z => nomatch z)
  have e : s' = { s2 with heap := s'.heap, gens := s'.gens, drawn := s'.drawn, toks := s'.toks } := by
    cases s'
    cases s2
    cases o
    rfl
  rw [e]
  exact ⟨.ref pp, _, J, rfl, q1 ss pp hs nd (fun x => by rw [hm x]; exact decide_eq_true_iff) hn⟩⟩
/-- d != {}, d locked or not -/
def rNeEz : R2 := fun x y H Q => ∃ a b ks, x = .ref a ∧ y = .ref b ∧ Rd H a (.dK ks) ∧ H b = some (.dK []) ∧ Q (.bl (!ks.isEmpty)) H
theorem op_neEz (hu : X.A.units + 64 < cLine) : OpR X (compareOp .NotEq) rNeEz := by
  intro pins s σ H x y v u Q I rx ry h
  obtain ⟨a, b, ks, rfl, rfl, ha, hb, q⟩ := h
  cases (show v = Value.ref a from rx)
  cases (show u = Value.ref b from ry)
  obtain ⟨_, ya, va, ra, da⟩ := dk_rd I.hok ha
  obtain ⟨_, yb, vb, rb, db⟩ := dk_of I.hok hb
  cases rb
  have hl := Paired.length ra
  refine PySem.W.keq_ne (knd := mixKind X.prog X.w) (r := true) ya yb da db (by omega) (fun e => ?_) ?_
  · have e2 : va = [] := List.length_eq_zero_iff.mp e
    subst e2
    exact .nil
  · have e : (!(va.length == ([] : List (Key × Value)).length && true)) = !ks.isEmpty := by
      cases ks with
      | nil => cases ra; rfl
      | cons k ks => cases ra; rfl
    rw [e]
    exact ⟨.bl _, H, I, rfl, q⟩
/-- sorted(xs), xs a list or a tuple of texts -/
def rSortedQ (K : PySem.W.Frag) : List V → Hp → VK → Prop := fun vs H Q => rSortedS K vs H Q ∨ ∃ (a : Addr) (xs : List Str), vs = [V.ref a] ∧ SqT K H a (xs.map V.str) ∧ xs.length < 64 ∧
  ∀ (ys : List Str) (p : Addr), ys.Perm xs → sortedS ys = true → H p = none → Q (.ref p) (upd H p (.lst (ys.map V.str)))
theorem cr_sortedQ : CallR X (.builtin "sorted") (rSortedQ X.K) := by
  intro pins s σ H vs us Q I r h
  rcases h with h | ⟨a, xs, rfl, hs, h64, q⟩
  · exact cr_sortedS pins s σ H vs us Q I r h
  obtain ⟨its, rv, pl, hz⟩ := I.tuple hs
  rw [Vals.ref1 r]
  have hI : StrsAre its xs := strsAre_of rv
  have hvl : its.length = xs.length := by have := rv.length; rw [List.length_map] at this; omega
  obtain ⟨o, ho, hc, n, hd⟩ := pl
  refine Calls.call_function_entry kind_sorted plain_sorted entry_sorted (args_sorted1 _) ?_
  unfold Builtin.«sorted»
  refine wpAny_bind (m := checkCount "sorted" 1 1 _) (wpAny_pure (wpAny_bind (wpAny_collect_seq (A := X.A.in1) a (.inr rfl) ho hc hd (fun h' k1 => ?_) (by rw [List.size_toArray, hvl, sizeLine_eq]; omega))))
  have e : its.toArray.toList = its := by simp
  rw [e]
  refine wpAny_bind (wpAny_newList ?_ (by rw [hvl, sizeLine_eq]; omega))
  have hoL : (h'.push (seqObj "list" its.toArray 0)).get? h'.objs.size = some (seqObj "list" its.toArray 0) := Heap.get?_push_size _ rfl
  refine wpAny_bind (wpAny_holding (wpAny_call_entry slot_list_sort ⟨_, hoL, rfl⟩ entry_list_sort (list_sort_treeK strKind_oneLt hoL hI.keysOf (fun v₁ v₂ rest e => keyKind_strs (by rw [← e]; exact hI)) (by rw [hvl]; exact h64) fun st' hp hsx => ?_) (args_list_sort _)))
  obtain ⟨ss', a1, a2, a3⟩ := sorted_out_str hI hp hsx
  generalize (arrOf st').map (·.2) = out at a1 ⊢
  obtain ⟨c, hcc⟩ := sortedHeap_at (vs := its) (out := out) hoL
  have hlen : (ss'.map V.str).length ≤ sizeLine := by rw [List.length_map, a2.length_eq, sizeLine_eq]; omega
  have I4 : Inv X pins σ H { s with heap := h' } := I.kept (t' := s.toks) k1
  have kk : ∀ b u, h'.get? b = some u → (sortedHeap (h'.push (seqObj "list" its.toArray 0)) h'.objs.size its out).get? b = some u := fun b u q => by
    have hlt := Heap.lt_size q
    rw [sortedHeap_old (Nat.ne_of_lt hlt) (by rw [size_push']; exact Nat.lt_succ_of_lt hlt)]
    exact Heap.get?_push_of_some _ q
  have hn : H h'.objs.size = none := I4.hok.fresh (Nat.le_refl _)
  exact ⟨_, rfl, wpAny_pure ⟨_, rfl, .ref _, upd H h'.objs.size (.lst (ss'.map V.str)), I4.laid (t' := s.toks) kk (Nat.le_refl _) ⟨hlen, out.toList, c, vals_of_strs a1, hcc⟩, rfl, q ss' _ a2 a3 hn⟩⟩
end
end L2
namespace Sx
open PySem L2 Evl
section
variable {K : PySem.W.Frag} {ρ : Sx.Env} {M M1 M' : Cells} {x : VD} {ta tl : TE}
theorem ev_sortSetX {xs : List Str} {ss : List Str} (h : Ev ta ρ M x M') (hx : IsLst x M' (xs.map .str)) (few : xs.length < 64) (hs : sortS ss = ss) (nd : ss.Nodup) (hm : ∀ k, k ∈ ss ↔ k ∈ xs) : Ev (tSortSetX K ta) ρ M (dat (.list (ss.map .str))) M' := fun Φ σ H Q s q => h Φ σ H _ s fun v H1 ⟨F, s1⟩ => by
  obtain ⟨a, ws, rfl, h1, h2⟩ := hx s1 s1.fr.2
  obtain rfl := RpL.strs h2
  refine ⟨a, xs, rfl, sq_of h1, few, fun ms p m1 m2 m3 hp => ?_⟩
  have hperm : ms.Perm ss := (List.perm_ext_iff_of_nodup m2 nd).mpr fun k => (m3 k).trans (hm k).symm
  have e : ms = ss := by
    have := sortS_uniq hperm (sortedS_pw ms m1)
    rw [this, hs]
  subst e
  exact q _ _ (Sat.retNew (s1.weak Le.and) hp fun F' fx e => .lst e (rpl_strs _))
theorem rv_neEz {ks : List (L2.Key × VD)} (hx : IsDi x M ks) : RV rNeEz x (vdi []) M (dat (.bool (!ks.isEmpty))) M := fun Φ ρ σ v w H Q ⟨F, s⟩ q => by
  obtain ⟨a, va, rfl, e1, d1⟩ := hx s s.fr.1.2
  obtain ⟨b, vb, rfl, e2, d2⟩ := s.fr.2
  cases d2
  refine ⟨a, b, va, rfl, rfl, e1, s.ex _ _ e2, ?_⟩
  have e : (!va.isEmpty) = !ks.isEmpty := by cases d1 <;> rfl
  rw [e]
  exact q _ _ (Sat.ret s.base (.bl _))
theorem rc_intB {k : Bool} : RC rInt1 [dat (.bool k)] M (dat (.int (if k then 1 else 0))) M := fun Φ ρ σ vs H Q ⟨F, s⟩ q => by
  obtain ⟨v, rfl, h1⟩ := rc1 (ds := []) s.fr.2
  cases h1
  exact .inr ⟨k, rfl, q _ _ (Sat.ret (s.weak Le.andA) (.int _))⟩
/-- pairs, the values anything -/
theorem pairs_da {F H : Hp} (ex : ∀ a u, F a = some u → H a = some u) : ∀ {l : List (L2.Key × VD)} {vs : List V}, DA F (l.map fun q => vtup [dat (kD q.1), q.2]) vs → ∃ (ps : List Addr) (kvs : List (L2.Key × V)), vs = ps.map V.ref ∧ Paired (fun p kv => SqT K H p [kV kv.1, kv.2]) ps kvs ∧ DP F l kvs
  | [], _, .nil => ⟨[], [], rfl, .nil, .nil⟩
  | (k, d) :: l, _, .cons h t => by
    obtain ⟨ps, kvs, rfl, hp, hd⟩ := pairs_da ex t
    obtain ⟨a, ws, rfl, h1, h2⟩ := h
    cases h2 with
    | cons g1 g2 =>
      cases g2 with
      | cons g3 g4 =>
        cases g4
        cases kv_of g1
        exact ⟨a :: ps, (k, _) :: kvs, rfl, .cons (.inl (.inl (ex _ _ h1))) hp, .cons ⟨rfl, g3⟩ hd⟩
theorem ev_fzDicV {t : TA} {l : List (L2.Key × VD)} (h : EvA t ρ M [vlst (l.map fun q => vtup [dat (kD q.1), q.2])] M') : Ev (tFz (tCB (rDictP K) t)) ρ M (vdz (mergeG [] l)) M' := fun Φ σ H Q s q => h Φ σ H _ s fun vs H1 s1 => by
  have ⟨F, z⟩ := s1
  obtain ⟨v, rfl, a, xs, rfl, g1, g2⟩ := rc1 (ds := []) z.fr.2
  obtain ⟨ps, kvs, rfl, hp, hd⟩ := pairs_da (K := K) z.ex g2
  refine ⟨a, ps, kvs, rfl, .inl (sq_of (z.ex _ _ g1)), hp, fun p hp' => ⟨p, _, rfl, upd_same, trivial, fun od => ?_⟩⟩
  rw [upd_upd]
  exact q _ _ (Sat.retNew (SatF.weak z Le.andA) hp' fun F' fx e => ⟨p, od, _, rfl, e, (hd.merge .nil).mono fx⟩)
theorem rc_sortQ {xs : List Str} (hx : IsLst x M (xs.map .str) ∨ IsTup x M (xs.map .str)) (few : xs.length < 64) : RC (rSortedQ K) [x] M (dat (.list ((sortS xs).map .str))) M := fun Φ ρ σ vs H Q s q => by
  rcases hx with hx | hx
  · exact .inl (rc_sortS hx few Φ ρ σ vs H Q s q)
  · have ⟨F, z⟩ := s
    obtain ⟨v, rfl, h1⟩ := rc1 (ds := []) z.fr.2
    obtain ⟨a, ws, rfl, h2, h3⟩ := hx z h1
    obtain rfl := RpL.strs h3
    refine .inr ⟨a, xs, rfl, Or.inl (Or.inl h2), few, fun ys p h4 h5 hp => ?_⟩
    obtain rfl := sortS_uniq h4 (sortedS_pw ys h5)
    exact q _ _ (Sat.retNew z.base1 hp fun F' fx e => .lst e (rpl_strs _))
end
end Sx

set_option Elab.async false
set_option linter.all false
set_option maxRecDepth 100000
set_option maxHeartbeats 2000000
namespace PySem
/-! ### the own exception BadScene: its __init__ says super().__init__(..) and keeps word -/
namespace XeBadScene
open PySem.W PySem.Calls PyProof.Rows PySem.HandSPX PySem.ESX
def iA : Arguments := { posonlyargs := [], args := [{ arg := "self", annotation := none, pos := ⟨69, 17, 69, 21⟩ }, { arg := "word", annotation := none, pos := ⟨69, 23, 69, 27⟩ }], vararg := none, kwonlyargs := [], kw_defaults := [], kwarg := none, defaults := [] }
def iB : List Stmt := [.Expr (.Call (.Attribute (.Call (.Name "super" ⟨70, 8, 70, 13⟩) [] [] ⟨70, 8, 70, 15⟩) "__init__" ⟨70, 8, 70, 24⟩) [.Constant (.str "a bad scene") 0 ⟨70, 25, 70, 38⟩] [] ⟨70, 8, 70, 39⟩) ⟨70, 8, 70, 39⟩, .Assign [.Attribute (.Name "self" ⟨71, 8, 71, 12⟩) "word" ⟨71, 8, 71, 17⟩] (.Name "word" ⟨71, 20, 71, 24⟩) ⟨71, 8, 71, 24⟩]
def iS : Scope := { kind := .function, names := [(PySem.Str.ofString "self", .local), (PySem.Str.ofString "word", .local), (PySem.Str.ofString "__class__", .free), (PySem.Str.ofString "super", .globalImplicit)], isGenerator := false, isCoroutine := false, more := [] }
/-- what the written part says of the class, at C (over the one at D), and of its __init__, at fI -/
structure Txt (P : Program) (K : Frag) (mg : Str → Option Value) (C D fI : Addr) : Prop where
  gC : mg "BadScene" = some (.ref C)
  cls : ∃ nm q N bs sn sub ab col dd k0 k1 k2 k3 k5, K.lookup C = some (excClassObj nm q C N bs (.ref D :: exTail) true sn sub ab col dd k0 k1 k2 k3 k5 "Exception.__new__")
  sa : findIn K (.ref C) "__setattr__" = some (some (.builtin "object.__setattr__"))
  xf : L2.XfC K C
  noN : findIn K (.ref C) "word" = some none
  iC : findIn K (.ref C) "__init__" = some (some (.ref fI))
  tC : typeIn K (.ref fI) = some (.type "function")
  kC : keepIn K (.ref C) = true
  exC : subIn K (.ref C) (.type "BaseException") = some true
  tyC : typeIn K (.ref C) = some (.type "type")
  te : exmOne K (.ref C) (.ref C) = some true
  sup : mg "super" = none
  opq : nsIn K cStatics "thirdparty.any" = some none
  al : ks_superIn K C C "__init__" = some (some (.builtin "Exception.__init__"))
  top : (P.main.scope.names.lookup ("super" : Str)).isSome = false
  fn : ∃ (oc : Value) (od : Option Addr) (doc pm : Value) (an : Option Addr) (cda cc : Addr) (ct : Value) (osl : Array (Option Value)) (cl : Value) (cld : Option Addr) (csl : Array (Option Value)) (ccl : Value) (cdd : Option Addr) (vs : Array Value) (ccs : Array (Option Value)) (file : Str) (tf : Tok),
    K.lookup fI = some ⟨oc, od, .func (ksFn "__init__" "BadScene.__init__" iA iB iS .none .none doc pm an (.ref cda) ct cc), osl⟩ ∧ codeIn K (.ref cda) "BadScene.__init__" = true ∧
    K.lookup cc = some ⟨cl, cld, .cell (some (.ref C)), csl⟩ ∧ K.lookup cda = some ⟨ccl, cdd, .fields vs, ccs⟩ ∧ vs[2]? = some (.str file tf) ∧ ((P.main.file : Str) == file) = true
/-- what __init__ leaves of a fresh exception at x -/
structure InitEnd (h h' : Heap) (x C dx t1 : Addr) (v : Value) : Prop where
  keep : ∀ b o, b ≠ x → h.get? b = some o → h'.get? b = some o
  obj : h'.get? x = some { cls := .ref C, dict := some dx, data := .fields #[.ref t1, .none, .none, .none, .bool false, .none] }
  dbig : h.objs.size ≤ dx
  dne : dx ≠ x
  ns : h'.Ns1 dx (fun y => if y = "word" then some v else none)
section
variable {prog : Program} {w : World} {A : Around} {E : Value → Shared → Prop} {R : Result → Shared → Prop} {s : Shared} {K : Frag} {mg : Str → Option Value} {C D fI : Addr}
theorem own_init (T : Txt prog K mg C D fI) {x t0 : Addr} {v : Value} (M0 : L2.Mod K mg s.heap) (hx : s.heap.get? x = some (excO C t0)) (hnx : K.lookup x = none) (hroom : A.depth < recursionLimit)
    (hq : ∀ h' tk dx t1, InitEnd s.heap h' x C dx t1 v → R (.ok (.ret .none)) { s with heap := h', toks := tk }) :
    codeAny (model prog w) A (.call (.ref fI) ⟨[.ref x, v], []⟩) R s := by
  obtain ⟨oc, od, doc, pm, an, cda, cc, ct, osl, cl, cld, csl, ccl, cdd, vs, ccs, file, tf, ho, hcd, hcc, hcda, hvs, hfile⟩ := T.fn
  obtain ⟨nm, q, N, bs, sn, sub, ab, col, dd, k0, k1, k2, k3, k5, hC⟩ := T.cls
  have hcl : clsIn K C = some { name := nm, bases := bs, mro := .ref C :: .ref D :: exTail, ns := N, qualname := q, hasDict := true, slotNames := sn, subclasses := sub, abstract := ab, collection := col, hasDel := false } := by unfold clsIn; rw [hC] <;> rfl
  refine ks_codeAny_call_defAt (fd := ksFn "__init__" "BadScene.__init__" iA iB iS .none .none doc pm an (.ref cda) ct cc) (body := iB) (binds := [("self", .ref x), ("word", v)]) hroom (M0.kin _ _ ho) rfl M0.nolimit (codeRec_of M0.kin hcd) rfl
    (BindsTo.of_eq (by first | rfl | with_unfolding_all rfl)) (show ∀ x ∈ iS.names, x.2 ≠ .cell by decide) (fun z hz => by
      rcases List.mem_cons.mp hz with rfl | hz
      · rfl
      · cases List.mem_singleton.mp hz; rfl) (fun h₁ hns k => ?_) rfl rfl rfl
  have X₁ : K.In h₁ := M0.kin.keeps k
  have hx₁ := k _ _ hx
  obtain ⟨mb, hmb, hbt⟩ := M0.blt
  obtain ⟨hp, gs, dr, tk0, os⟩ := s
  have hC1 := X₁ _ _ hC
  have Ix : InstAt h₁ x (excO C t0) C none := ⟨hx₁, rfl, rfl, trivial⟩
  have nxC : x ≠ C := ks_ne X₁ Ix hcl
  show wpAt _ _ _ (execs iB (ksEnv "BadScene.__init__" iS hp.objs.size fI (.ref cda) cc)) _ _ _
  refine ks_wpAt_execs_cons (ks_wpAt_Expr_any (ks_wpAt_MethodCall ?_))
  refine ks_wpAt_super_base (env := ksEnv "BadScene.__init__" iS hp.objs.size fI (.ref cda) cc) (by rfl) (by rfl) (by decide +kernel) rfl (X₁ _ _ ho) rfl (by rfl) rfl (X₁ _ _ hcda) rfl hvs hfile T.top ?_
  refine ks_loadName_global rfl (by rfl) (loadGlobal_builtin (env := ksEnv "BadScene.__init__" iS hp.objs.size fI (.ref cda) cc) (M0.glob.keeps k) T.sup (hmb.keeps k) ((hbt "super" (by decide +kernel)).trans (by decide +kernel)) ⟨rfl, ?_⟩)
  refine wpAny_loadName_free rfl (by rfl) rfl ⟨_, X₁ _ _ hcc, rfl⟩ ?_
  refine wpAny_loadName_local rfl (by rfl) hns (v := .ref x) (by rfl) ?_
  refine ks_wpAny_isType_cls hC1 rfl ⟨rfl, ?_⟩
  refine ks_wpAny_call_super hC1 rfl hx₁ rfl (fun c e => by cases e) (looks_mroIn X₁ (XeB.mro2 hcl rfl (by rw [List.contains_cons]; simp))) (fun h₂ e₂ k₂ => ?_)
  have X₂ : K.In h₂ := X₁.keeps k₂
  have I2 : InstAt h₂ x (excO C t0) C none := ⟨k₂ _ _ hx₁, rfl, rfl, trivial⟩
  have al := T.al
  unfold ks_superIn at al
  rw [hcl, Option.bind_some] at al
  refine getMethod_super e₂ (looks_opaque X₂ T.opq) (l₀ := .ref C :: .ref D :: exTail) ((looks_clsIn X₂ hcl).andThen .now) rfl X₂ al nxC (by decide +kernel) (I2.type.andThen (looks_mroIn X₂ (XeB.mro2 hcl rfl (XeB.has_it (by decide +kernel))))) ?_
  have k₃ : ∀ b o, h₂.get? b = some o → (h₂.push (bw x)).get? b = some o := fun b o e => Heap.get?_push_of_some _ e
  have X₃ : K.In (h₂.push (bw x)) := X₂.keeps k₃
  refine callWith_bound (x := x) (spliced_more (Calls.Constant_str (spliced_none ?_)))
  refine ⟨Heap.get?_push_at rfl rfl, ?_⟩
  refine call_bw (X₃ _ _ hC) (k₃ _ _ (k₂ _ _ hx₁)) (Heap.get?_push_at rfl rfl) (by show 1 ≤ sizeLine; decide) (fun h₄ t1 k₄ hx₄ => ?_)
  have kk : ∀ b o, b ≠ x → h₁.get? b = some o → h₄.get? b = some o := fun b o hb e => k₄ b o hb (k₃ b o (k₂ b o e))
  have X₄ : K.In h₄ := fun a o e => kk a o (fun z => by rw [z, hnx] at e; cases e) (X₁ a o e)
  have hns₄ : h₄.Ns hp.objs.size (fun y => List.lookup y [(("self" : Str), Value.ref x), (("word" : Str), v)].reverse) := by
    obtain ⟨o, es, ep, h1, r⟩ := hns
    exact ⟨o, es, ep, kk _ _ (Nat.ne_of_gt (Heap.lt_size hx)) h1, r⟩
  refine ks_wpAt_execs_cons (wpAt_of_wpAny (plainObj_wpAny_Assign_Attribute ?_))
  refine ldL (v := v) hns₄ (by rfl) (ldL (v := .ref x) hns₄ (by rfl) ?_)
  refine set_plain X₄ (ox := excO C t1) (od := none) ⟨hx₄, rfl, rfl, trivial⟩ T.sa ?_
  refine XeB.put_new X₄ hx₄ hcl rfl rfl T.noN (fun h₅ tk₅ dx k₅ dn dne hx₅ hn₅ => ?_)
  refine wpAt_of_wpAny (wpAny_execs_nil (hq h₅ tk₅ dx t1 ⟨fun b o hb e => k₅ b o hb (kk b o hb (k b o e)), hx₅, Nat.le_of_lt (Nat.lt_of_lt_of_le hns₄.lt dn), dne, hn₅⟩))
theorem own_made (T : Txt prog K mg C D fI) {v : Value} (M0 : L2.Mod K mg s.heap) (hroom : A.depth + 1 < recursionLimit)
    (hq : ∀ h' tk e d, XeB.OwnMade s.heap h' e C d "word" v → R (.ok (.ret (.ref e))) { s with heap := h', toks := tk }) :
    codeAny (model prog w) A (.call (.ref C) ⟨[v], []⟩) R s := by
  obtain ⟨nm, q, N, bs, sn, sub, ab, col, dd, k0, k1, k2, k3, k5, hC⟩ := T.cls
  obtain ⟨hp, g, dr, tk, os⟩ := s
  have k : ∀ b o, hp.get? b = some o → ((hp.push (kdv_tup [v])).push (excO C hp.objs.size)).get? b = some o := fun b o e => Heap.get?_push_of_some _ (Heap.get?_push_of_some _ e)
  have at1 : ((hp.push (kdv_tup [v])).push (excO C hp.objs.size)).get? (hp.objs.size + 1) = some (excO C hp.objs.size) := by heap_get
  have no1 : K.lookup (hp.objs.size + 1) = none := by
    cases e : K.lookup (hp.objs.size + 1) with
    | none => rfl
    | some o => exact absurd (Nat.lt_of_succ_lt (Heap.lt_size (M0.kin _ _ e))) (Nat.lt_irrefl _)
  refine call_own F.excBase_Exception (fun Y => XeB.has_same Y) (M0.kin _ _ hC) (looks_findIn M0.kin T.iC) (fun self => bind_fn M0.kin self T.tC) (by show 1 ≤ sizeLine; decide) ?_
  refine own_init (s := ⟨(hp.push (kdv_tup [v])).push (excO C hp.objs.size), g, dr, tk, os⟩) T (XeB.mod_keeps M0 k) at1 no1 hroom fun h' tk' dx t1 i => ⟨rfl, hq h' tk' (hp.objs.size + 1) dx ⟨fun b o e => i.keep b o (Nat.ne_of_lt (Nat.lt_succ_of_lt (Heap.lt_size e))) (k b o e), Nat.le_succ _, ⟨_, _, i.obj, rfl, rfl, rfl, rfl⟩, ?_, i.dne, i.ns⟩⟩
  have z := i.dbig
  rw [Heap.size_push, Heap.size_push] at z
  exact Nat.le_trans (Nat.le_trans (Nat.le_succ _) (Nat.le_succ _)) z
end
section
open L2
variable {X : Cx} {C D fI : Addr}
theorem pmk {a : Expr} {ta : TA} {p pos : Pos} {k : Nat} (T : Txt X.prog X.K X.mg C D fI) (hr : Room k X.A) (ha : PA X [a] ta) (hg : Gl X "BadScene" := by rfl)
    (he : starEach (a :: []) X.env = (false, eval a X.env) :: starEach [] X.env := by rfl) (hpl : (backTo pos (starEach [] X.env)).any (·.1) = false := by rfl) :
    PMk X (.Call (.Name "BadScene" p) [a] [] pos) (XeB.tMk C "word" ta) := by
  intro pins s σ H Q I h
  refine wpAny_Call_Name_kw (ld_glob I hg T.gC ?_)
  refine PySem.W.callWith_K (h₀ := X.base) I.ok.mod.kin T.kC (thn (ha.run pos pins s σ H _ I h) fun us s1 hh => ?_) he hpl
  obtain ⟨vs, H1, I1, r1, v, ev, q1⟩ := hh
  subst ev
  refine ⟨I1.kIn, ?_⟩
  cases r1 with
  | cons rv rn =>
    cases rn
    exact XeB.mk_fin I1 rv T.exC T.tyC q1 fun R q => own_made T (XeB.mod_at I1) (by have := hr.dp; omega) q
end
end XeBadScene

end PySem
namespace Lw
open PySem L2 Sx
/-! ### dicts with texts as keys, as lists of pairs -/
section
variable {β γ : Type}
def lk (l : List (Str × β)) (k : Str) : Option β := (l.find? fun p => decide (p.1 = k)).map (·.2)
def pt (l : List (Str × β)) (k : Str) (v : β) : List (Str × β) :=
  if (l.any fun p => decide (p.1 = k)) = true then l.map (fun p => if p.1 = k then (p.1, v) else p) else l ++ [(k, v)]
abbrev ky (l : List (Str × β)) : List Str := l.map (·.1)
theorem ky_cons (p : Str × β) (l : List (Str × β)) : ky (p :: l) = p.1 :: ky l := rfl
theorem ky_app (l r : List (Str × β)) : ky (l ++ r) = ky l ++ ky r := List.map_append
theorem lk_nil (k : Str) : lk ([] : List (Str × β)) k = none := rfl
theorem lk_cons (p : Str × β) (l : List (Str × β)) (k : Str) : lk (p :: l) k = if p.1 = k then some p.2 else lk l k := by
  unfold lk
  rw [List.find?_cons]
  by_cases h : p.1 = k <;> simp [h]
theorem lk_isSome {l : List (Str × β)} {k : Str} : (lk l k).isSome = true ↔ k ∈ ky l := by
  induction l with
  | nil => simp [lk]
  | cons p l ih =>
    rw [lk_cons, ky_cons, List.mem_cons]
    by_cases h : p.1 = k
    · simp [h]
    · rw [if_neg h, ih]
      exact ⟨.inr, fun z => z.resolve_left fun e => h e.symm⟩
theorem lk_none {l : List (Str × β)} {k : Str} : lk l k = none ↔ k ∉ ky l := by
  rw [← lk_isSome]
  cases lk l k <;> simp
theorem lk_mem {l : List (Str × β)} {k : Str} {v : β} (h : lk l k = some v) : (k, v) ∈ l := by
  unfold lk at h
  cases hf : l.find? (fun p => decide (p.1 = k)) with
  | none => rw [hf] at h; cases h
  | some q =>
    rw [hf] at h
    cases h
    have h1 := List.find?_some hf
    have h2 := List.mem_of_find?_eq_some hf
    have h1 : q.1 = k := of_decide_eq_true h1
    rw [← h1]
    exact h2
theorem lk_of {l : List (Str × β)} (nd : (ky l).Nodup) {k : Str} {v : β} (h : (k, v) ∈ l) : lk l k = some v := by
  induction l with
  | nil => cases h
  | cons p l ih =>
    rw [ky_cons, List.nodup_cons] at nd
    rw [lk_cons]
    rcases List.mem_cons.mp h with e | h
    · subst e; simp
    · have : p.1 ≠ k := fun e => nd.1 (List.mem_map.mpr ⟨(k, v), h, e.symm⟩)
      rw [if_neg this]
      exact ih nd.2 h
theorem lk_iff {l : List (Str × β)} (nd : (ky l).Nodup) {k : Str} {v : β} : lk l k = some v ↔ (k, v) ∈ l := ⟨lk_mem, lk_of nd⟩
theorem lk_map (f : β → γ) (l : List (Str × β)) (k : Str) : lk (l.map fun p => (p.1, f p.2)) k = (lk l k).map f := by
  induction l with
  | nil => rfl
  | cons p l ih => rw [List.map_cons, lk_cons, lk_cons, ih]; by_cases h : p.1 = k <;> simp [h]
theorem lk_app (l r : List (Str × β)) (k : Str) : lk (l ++ r) k = (lk l k).or (lk r k) := by
  induction l with
  | nil => simp [lk_nil]
  | cons p l ih => rw [List.cons_append, lk_cons, lk_cons, ih]; by_cases h : p.1 = k <;> simp [h]
theorem any_ky {l : List (Str × β)} {k : Str} : (l.any fun p => decide (p.1 = k)) = decide (k ∈ ky l) := by
  induction l with
  | nil => rfl
  | cons p l ih =>
    rw [List.any_cons, ih, ky_cons, Bool.eq_iff_iff, Bool.or_eq_true, decide_eq_true_iff, decide_eq_true_iff, decide_eq_true_iff, List.mem_cons]
    exact or_congr_left ⟨Eq.symm, Eq.symm⟩
theorem pt_new {l : List (Str × β)} {k : Str} {v : β} (h : k ∉ ky l) : pt l k v = l ++ [(k, v)] := by
  unfold pt; rw [any_ky, decide_eq_false h]; rfl
theorem pt_old {l : List (Str × β)} {k : Str} {v : β} (h : k ∈ ky l) : pt l k v = l.map (fun p => if p.1 = k then (p.1, v) else p) := by
  unfold pt; rw [any_ky, decide_eq_true h]; rfl
theorem ky_old {l : List (Str × β)} {k : Str} {v : β} : ky (l.map (fun p => if p.1 = k then (p.1, v) else p)) = ky l := by
  unfold ky
  rw [List.map_map]
  apply List.map_congr_left
  intro p _
  simp only [Function.comp]
  by_cases h : p.1 = k <;> simp [h]
theorem lk_pt (l : List (Str × β)) (k j : Str) (v : β) : lk (pt l k v) j = if j = k then some v else lk l j := by
  by_cases h : k ∈ ky l
  · rw [pt_old h]
    by_cases hj : j = k
    · subst hj
      rw [if_pos rfl]
      induction l with
      | nil => cases h
      | cons p l ih =>
        rw [List.map_cons, lk_cons]
        by_cases h1 : p.1 = j
        · simp [h1]
        · rw [if_neg h1]
          show (if p.1 = j then some p.2 else _) = _
          rw [if_neg h1]
          exact ih ((List.mem_cons.mp h).resolve_left fun e => h1 e.symm)
    · rw [if_neg hj]
      clear h
      induction l with
      | nil => rfl
      | cons p l ih =>
        rw [List.map_cons, lk_cons, lk_cons, ih]
        by_cases h1 : p.1 = k
        · rw [if_pos h1]
          have : p.1 ≠ j := fun e => hj (e.symm.trans h1)
          rw [if_neg this, if_neg this]
        · rw [if_neg h1]
  · rw [pt_new h, lk_app, lk_cons, lk_nil]
    by_cases hj : j = k
    · subst hj
      rw [lk_none.mpr h]
      simp
    · rw [if_neg hj, if_neg (fun e => hj e.symm)]
      simp
theorem mem_pt {l : List (Str × β)} {k j : Str} {v : β} : j ∈ ky (pt l k v) ↔ j = k ∨ j ∈ ky l := by
  rw [← lk_isSome, lk_pt, ← lk_isSome]
  by_cases h : j = k
  · simp [h]
  · rw [if_neg h]
    simp [h]
theorem nd_pt {l : List (Str × β)} {k : Str} {v : β} (nd : (ky l).Nodup) : (ky (pt l k v)).Nodup := by
  by_cases h : k ∈ ky l
  · rw [pt_old h, ky_old]; exact nd
  · rw [pt_new h, ky_app, List.nodup_append]
    refine ⟨nd, by simp, fun a ha b hb e => ?_⟩
    rw [e, List.mem_singleton.mp hb] at ha
    exact h ha
theorem len_pt {l : List (Str × β)} {k : Str} {v : β} : (pt l k v).length ≤ l.length + 1 := by
  unfold pt
  split
  · rw [List.length_map]; omega
  · rw [List.length_append, List.length_singleton]; exact Nat.le_refl _
/-! .. as the layer has them -/
def sK (f : β → VD) (l : List (Str × β)) : List (L2.Key × VD) := l.map fun p => (Sum.inr p.1, f p.2)
theorem val_sK (f : β → VD) (l : List (Str × β)) (k : Str) : valG (sK f l) (.inr k) = (lk l k).map f := by
  induction l with
  | nil => rfl
  | cons p l ih =>
    show valG ((Sum.inr p.1, f p.2) :: sK f l) _ = _
    rw [valG_cons, lk_cons, ih]
    by_cases h : p.1 = k
    · simp [h]
    · rw [if_neg (fun e => h (Sum.inr.inj e)), if_neg h]
theorem put_sK (f : β → VD) (l : List (Str × β)) (k : Str) (v : β) : putG (sK f l) (.inr k) (f v) = sK f (pt l k v) := by
  have e : ((sK f l).any fun kv => decide (kv.1 = Sum.inr k)) = (l.any fun p => decide (p.1 = k)) := by
    unfold sK
    rw [List.any_map]
    congr 1
    funext p
    simp
  unfold putG pt
  rw [e]
  split
  · unfold sK
    rw [List.map_map, List.map_map]
    apply List.map_congr_left
    intro p _
    simp only [Function.comp]
    by_cases h : p.1 = k
    · rw [if_pos h, if_pos (congrArg Sum.inr h)]
    · rw [if_neg h, if_neg (fun z => h (Sum.inr.inj z))]
  · unfold sK; rw [List.map_append]; rfl
theorem len_sK (f : β → VD) (l : List (Str × β)) : (sK f l).length = l.length := List.length_map _
theorem key_sK (f : β → VD) (l : List (Str × β)) : (sK f l).map (·.1) = (ky l).map Sum.inr := by
  unfold sK ky
  rw [List.map_map, List.map_map]
  rfl
theorem merge_sK (f : β → VD) : ∀ (l r : List (Str × β)), (ky (r ++ l)).Nodup → mergeG (sK f r) (sK f l) = sK f (r ++ l)
  | [], r, _ => by rw [List.append_nil]; rfl
  | p :: l, r, nd => by
    show mergeG (putG (sK f r) (Sum.inr p.1) (f p.2)) (sK f l) = _
    have hk : p.1 ∉ ky r := fun z => by
      rw [ky_app, List.nodup_append] at nd
      exact nd.2.2 _ z _ (List.mem_map.mpr ⟨p, List.mem_cons_self, rfl⟩) rfl
    rw [put_sK, pt_new hk, merge_sK f l (r ++ [p]) (by rw [List.append_assoc]; exact nd), List.append_assoc]
    rfl
end

theorem nd_len : ∀ {a b : List Str}, a.Nodup → (∀ x ∈ a, x ∈ b) → a.length ≤ b.length
  | [], _, _, _ => Nat.zero_le _
  | x :: a, b, nd, h => by
    rw [List.nodup_cons] at nd
    have hx := h x List.mem_cons_self
    have := nd_len (a := a) (b := b.erase x) nd.2 fun y hy => (List.mem_erase_of_ne fun e => nd.1 (by rw [← e]; exact hy)).mpr (h y (List.mem_cons_of_mem _ hy))
    rw [List.length_erase_of_mem hx] at this
    have := List.length_pos_of_mem hx
    rw [List.length_cons]
    omega
theorem sub_perm {X cs : List Str} (nx : X.Nodup) (nc : cs.Nodup) (h : ∀ x ∈ X, x ∈ cs) : ∃ ds : List Str, ds.Perm X ∧ ds.Sublist cs := by
  refine ⟨cs.filter (fun c => decide (c ∈ X)), ?_, List.filter_sublist⟩
  refine (List.perm_ext_iff_of_nodup (nc.filter _) nx).mpr fun c => ?_
  rw [List.mem_filter, decide_eq_true_iff]
  exact ⟨fun z => z.2, fun z => ⟨h c z, z⟩⟩
/-! ### who can be seated -/
section
variable {h : Str → List Str} {cap : Str → Nat}
def CanSeat (h : Str → List Str) (cap : Str → Nat) (cs : List Str) : Prop := ∃ f : Str → Str, (∀ c ∈ cs, f c ∈ h c) ∧ ∀ m, cs.countP (fun c => decide (f c = m)) ≤ cap m
theorem CanSeat.perm {cs ds : List Str} (p : cs.Perm ds) (k : CanSeat h cap cs) : CanSeat h cap ds := by
  obtain ⟨f, h1, h2⟩ := k
  exact ⟨f, fun c hc => h1 c (p.mem_iff.mpr hc), fun m => by rw [← p.countP_eq]; exact h2 m⟩
theorem CanSeat.sub {cs ds : List Str} (p : ds.Sublist cs) (k : CanSeat h cap cs) : CanSeat h cap ds := by
  obtain ⟨f, h1, h2⟩ := k
  exact ⟨f, fun c hc => h1 c (p.subset hc), fun m => Nat.le_trans p.countP_le (h2 m)⟩
theorem canSeat_nil : CanSeat h cap [] := ⟨fun c => c, fun _ hc => (nomatch hc), fun _ => Nat.zero_le _⟩
theorem sum_add {α : Type} (R : List α) (f g : α → Nat) : (R.map fun m => f m + g m).sum = (R.map f).sum + (R.map g).sum := by
  induction R with
  | nil => rfl
  | cons m R ih => simp only [List.map_cons, List.sum_cons, ih]; omega
theorem sum_le {α : Type} (R : List α) (f g : α → Nat) (k : ∀ m ∈ R, f m ≤ g m) : (R.map f).sum ≤ (R.map g).sum := by
  induction R with
  | nil => exact Nat.le_refl _
  | cons m R ih =>
    simp only [List.map_cons, List.sum_cons]
    have := k m List.mem_cons_self
    have := ih fun x hx => k x (List.mem_cons_of_mem _ hx)
    omega
theorem sum_one {R : List Str} (nd : R.Nodup) {x : Str} (hx : x ∈ R) : (R.map fun m => if x = m then 1 else 0).sum = 1 := by
  induction R with
  | nil => cases hx
  | cons m R ih =>
    rw [List.nodup_cons] at nd
    simp only [List.map_cons, List.sum_cons]
    by_cases e : x = m
    · subst e
      rw [if_pos rfl]
      have : (R.map fun m => if x = m then 1 else 0).sum = 0 := by
        clear ih hx
        induction R with
        | nil => rfl
        | cons y R ih =>
          have h1 : x ≠ y := fun e => nd.1 (e ▸ List.mem_cons_self)
          simp only [List.map_cons, List.sum_cons, if_neg h1]
          rw [ih ⟨fun z => nd.1 (List.mem_cons_of_mem _ z), (List.nodup_cons.mp nd.2).2⟩]
      omega
    · rw [if_neg e, ih nd.2 ((List.mem_cons.mp hx).resolve_left e)]
theorem count_sum {R : List Str} (nd : R.Nodup) (f : Str → Str) : ∀ {X : List Str}, (∀ c ∈ X, f c ∈ R) → X.length = (R.map fun m => X.countP fun c => decide (f c = m)).sum
  | [], _ => by
    clear nd
    induction R with
    | nil => rfl
    | cons m R ih =>
      have ih := ih fun _ hc => (nomatch hc)
      simp only [List.map_cons, List.sum_cons, List.countP_nil, List.length_nil] at ih ⊢
      omega
  | c :: X, hX => by
    have ih := count_sum nd f (X := X) fun d hd => hX d (List.mem_cons_of_mem _ hd)
    have e : (fun m => (c :: X).countP fun c => decide (f c = m)) = fun m => (X.countP fun c => decide (f c = m)) + if f c = m then 1 else 0 := by
      funext m
      rw [List.countP_cons]
      simp
    rw [e, sum_add, ← ih, sum_one nd (hX c List.mem_cons_self)]
    rfl
/-- more calls than channels of all masts that hear any of them -/
theorem no_seat {cs X R : List Str} (nd : R.Nodup) (sub : X.Sublist cs) (hR : ∀ c ∈ X, ∀ m ∈ h c, m ∈ R) (more : (R.map cap).sum < X.length) : ¬ CanSeat h cap cs := fun ⟨f, h1, h2⟩ => by
  have e := count_sum nd f (X := X) fun c hc => hR c hc _ (h1 c (sub.subset hc))
  have : (R.map fun m => X.countP fun c => decide (f c = m)).sum ≤ (R.map cap).sum := sum_le _ _ _ fun m _ => Nat.le_trans sub.countP_le (h2 m)
  omega
end

/-! ### names; texts -/
abbrev LETS : Str := "abcdefghijklmnopqrstuvwxyz"
abbrev FIGS : Str := "0123456789"
def headIn (z : Str) : Bool := match z.cps.toList with
  | [] => false
  | c :: _ => decide (c ∈ LETS.cps.toList)
def isName (z : Str) : Bool := (decide (1 ≤ (z.length : Int)) && decide ((z.length : Int) ≤ 8)) && headIn z && z.cps.toList.all fun c => decide (c ∈ (LETS ++ FIGS).cps.toList)
theorem isName_ok {z : Str} (h : isName z = true) : PyData.strOk z = true := by
  unfold isName at h
  rw [Bool.and_eq_true] at h
  have h2 := List.all_eq_true.mp h.2
  have hb : ∀ c ∈ (LETS ++ FIGS).cps.toList, c < 0x110000 := by decide +kernel
  unfold PyData.strOk
  rw [← Array.all_toList, List.all_eq_true]
  intro c hc
  exact decide_eq_true (hb c (of_decide_eq_true (h2 c hc)))
abbrev txD (l : List Str) : PyData := .list (l.map .str)
abbrev txT (l : List Str) : PyData := .tuple (l.map .str)
def os : Option Str → PyData
  | none => .none
  | some x => .str x
theorem isNone_os (o : Option Str) : isNoneD (os o) = o.isNone := by cases o <;> rfl
theorem vt_getD (o : Option Str) : (o.map fun m => vt m).getD vn = dat (os o) := by cases o <;> rfl
/-! ### dicts by ascending keys -/
section
variable {β : Type}
def sortK (l : List (Str × β)) : List (Str × β) := (sortS (ky l)).filterMap fun k => (lk l k).map fun v => (k, v)
theorem filt_ky (l : List (Str × β)) : ∀ ks : List Str, (∀ k ∈ ks, k ∈ ky l) → ky (ks.filterMap fun k => (lk l k).map fun v => (k, v)) = ks
  | [], _ => rfl
  | k :: ks, h => by
    have h1 := lk_isSome.mpr (h k List.mem_cons_self)
    cases e : lk l k with
    | none => rw [e] at h1; cases h1
    | some v =>
      rw [List.filterMap_cons, e]
      show k :: ky _ = _
      rw [filt_ky l ks fun j hj => h j (List.mem_cons_of_mem _ hj)]
theorem ky_sortK (l : List (Str × β)) : ky (sortK l) = sortS (ky l) := filt_ky l _ fun k hk => (sortS_perm _).mem_iff.mp hk
theorem nd_sortK {l : List (Str × β)} (nd : (ky l).Nodup) : (ky (sortK l)).Nodup := by rw [ky_sortK]; exact (sortS_perm _).nodup_iff.mpr nd
theorem len_sortK (l : List (Str × β)) : (sortK l).length = l.length := by
  have h := congrArg List.length (ky_sortK l)
  rw [(sortS_perm _).length_eq] at h
  simpa using h
theorem lk_sortK {l : List (Str × β)} (nd : (ky l).Nodup) (k : Str) : lk (sortK l) k = lk l k := by
  have h : ∀ v, lk (sortK l) k = some v ↔ lk l k = some v := fun v => by
    rw [lk_iff (nd_sortK nd)]
    unfold sortK
    rw [List.mem_filterMap]
    constructor
    · rintro ⟨j, _, h2⟩
      cases e : lk l j with
      | none => rw [e] at h2; cases h2
      | some w => rw [e] at h2; cases h2; exact e
    · intro h
      exact ⟨k, (sortS_perm _).mem_iff.mpr (lk_isSome.mp (by rw [h]; rfl)), by rw [h]; rfl⟩
  cases e : lk l k with
  | some v => exact (h v).mpr e
  | none =>
    cases e2 : lk (sortK l) k with
    | none => rfl
    | some v => rw [(h v).mp e2] at e; cases e
theorem sK_sortK (f : β → VD) (l : List (Str × β)) : (sortS (ky l)).map (fun k => ((Sum.inr k : L2.Key), ((lk l k).map f).getD vn)) = sK f (sortK l) := by
  have hz : ∀ ks : List Str, (∀ k ∈ ks, k ∈ ky l) → ks.map (fun k => ((Sum.inr k : L2.Key), ((lk l k).map f).getD vn)) = sK f (ks.filterMap fun k => (lk l k).map fun v => (k, v)) := by
    intro ks
    induction ks with
    | nil => intro _; rfl
    | cons k ks ih =>
      intro h
      have h1 := lk_isSome.mpr (h k List.mem_cons_self)
      cases e : lk l k with
      | none => rw [e] at h1; cases h1
      | some v =>
        rw [List.filterMap_cons, List.map_cons, e, ih fun j hj => h j (List.mem_cons_of_mem _ hj)]
        rfl
  exact hz _ fun k hk => (sortS_perm _).mem_iff.mp hk
theorem sortK_self {l : List (Str × β)} (nd : (ky l).Nodup) (h : sortS (ky l) = ky l) : sortK l = l := by
  unfold sortK
  rw [h]
  clear h
  have hz : ∀ r : List (Str × β), (∀ q ∈ r, q ∈ l) → ((ky r).filterMap fun k => (lk l k).map fun v => (k, v)) = r := by
    intro r
    induction r with
    | nil => intro _; rfl
    | cons q r ih =>
      intro hr
      have h1 := lk_of nd (k := q.1) (v := q.2) (hr q List.mem_cons_self)
      rw [ky_cons, List.filterMap_cons, h1, ih fun p hp => hr p (List.mem_cons_of_mem _ hp)]
      rfl
  exact hz l fun _ h => h
theorem sortS_idem (l : List Str) : sortS (sortS l) = sortS l := sortS_congr (sortS_perm l)
end

/-! ### scenes, seats: as plain data -/
structure Cal where
  w : Int
  hd : List Str
structure Sce where
  ch : List (Str × Nat)
  ca : List (Str × Cal)
def Sce.hd (S : Sce) (c : Str) : List Str := match lk S.ca c with
  | some x => x.hd
  | none => []
def Sce.cap (S : Sce) (m : Str) : Nat := (lk S.ch m).getD 0
structure Sce.Ok (S : Sce) : Prop where
  nm : (ky S.ch).Nodup
  nc : (ky S.ca).Nodup
  hd : ∀ c x, lk S.ca c = some x → x.hd.Nodup ∧ ∀ m ∈ x.hd, m ∈ ky S.ch
  lm : S.ch.length ≤ 63
  lc : S.ca.length ≤ 63
  am : sortS (ky S.ch) = ky S.ch
  ac : sortS (ky S.ca) = ky S.ca
  mn : ∀ q ∈ S.ch, isName q.1 = true ∧ q.2 ≤ 1000
  cn : ∀ q ∈ S.ca, isName q.1 = true ∧ 0 ≤ q.2.w ∧ q.2.w ≤ 1000
theorem Sce.Ok.sm {S : Sce} (ok : S.Ok) : ∀ m ∈ ky S.ch, PyData.strOk m = true := fun m hm => by
  obtain ⟨q, hq, rfl⟩ := List.mem_map.mp hm
  exact isName_ok (ok.mn q hq).1
theorem Sce.Ok.sc {S : Sce} (ok : S.Ok) : ∀ m ∈ ky S.ca, PyData.strOk m = true := fun m hm => by
  obtain ⟨q, hq, rfl⟩ := List.mem_map.mp hm
  exact isName_ok (ok.cn q hq).1
theorem Sce.Ok.hdm {S : Sce} (ok : S.Ok) {c m : Str} (h : m ∈ S.hd c) : m ∈ ky S.ch := by
  unfold Sce.hd at h
  cases e : lk S.ca c with
  | none => rw [e] at h; cases h
  | some x => rw [e] at h; exact (ok.hd c x e).2 m h
theorem Sce.Ok.hdn {S : Sce} (ok : S.Ok) (c : Str) : (S.hd c).Nodup := by
  unfold Sce.hd
  cases e : lk S.ca c with
  | none => exact List.nodup_nil
  | some x => exact (ok.hd c x e).1
theorem Sce.hd_of {S : Sce} {c : Str} {x : Cal} (h : lk S.ca c = some x) : S.hd c = x.hd := by unfold Sce.hd; rw [h]
abbrev Sce.Can (S : Sce) (cs : List Str) : Prop := CanSeat S.hd S.cap cs
/-- a seating that grows: the dict, and the calls of each mast -/
structure SSt where
  seat : List (Str × Str)
  on : Str → List Str
structure SOk (S : Sce) (s : SSt) : Prop where
  nd : (ky s.seat).Nodup
  ca : ∀ c ∈ ky s.seat, c ∈ ky S.ca
  hd : ∀ c m, lk s.seat c = some m → m ∈ S.hd c
  on : ∀ m c, c ∈ s.on m ↔ lk s.seat c = some m
  no : ∀ m, (s.on m).Nodup
  fit : ∀ m, (s.on m).length ≤ S.cap m
def noSeats : SSt := ⟨[], fun _ => []⟩
theorem noSeats_ok (S : Sce) : SOk S noSeats := ⟨List.nodup_nil, fun _ h => (nomatch h), fun c m h => (nomatch h), fun m c => ⟨fun h => (nomatch h), fun h => (nomatch h)⟩, fun m => List.nodup_nil, fun m => Nat.zero_le _⟩
theorem SOk.can {S : Sce} {s : SSt} (k : SOk S s) : S.Can (ky s.seat) := by
  refine ⟨fun c => (lk s.seat c).getD c, fun c hc => ?_, fun m => ?_⟩
  · have := lk_isSome.mpr hc
    cases e : lk s.seat c with
    | none => rw [e] at this; cases this
    | some m => show (lk s.seat c).getD c ∈ _; rw [e]; exact k.hd c m e
  · rw [List.countP_eq_length_filter]
    refine Nat.le_trans ?_ (k.fit m)
    refine nd_len (k.nd.filter _) fun c hc => ?_
    rw [List.mem_filter] at hc
    rw [k.on]
    have h1 := lk_isSome.mpr hc.1
    cases e : lk s.seat c with
    | none => rw [e] at h1; cases h1
    | some m' =>
      have : (lk s.seat c).getD c = m := of_decide_eq_true hc.2
      rw [e] at this
      exact congrArg some this
theorem SOk.len {S : Sce} {s : SSt} (ok : S.Ok) (k : SOk S s) : s.seat.length ≤ 63 := by
  have : (ky s.seat).length ≤ (ky S.ca).length := nd_len k.nd k.ca
  have := ok.lc
  simp only [List.length_map] at *
  omega
theorem SOk.lenOn {S : Sce} {s : SSt} (ok : S.Ok) (k : SOk S s) (m : Str) : (s.on m).length ≤ 63 := by
  have : (s.on m).length ≤ (ky s.seat).length := nd_len (k.no m) fun c hc => lk_isSome.mp (by rw [(k.on m c).mp hc]; rfl)
  have := k.len ok
  simp only [List.length_map] at *
  omega
/-- a call is seated on a mast -/
def unsit (s : SSt) (c x : Str) : List Str := if lk s.seat c = some x then (s.on x).erase c else s.on x
def sitF (s : SSt) (c m : Str) : SSt := ⟨pt s.seat c m, fun x => if x = m then unsit s c x ++ [c] else unsit s c x⟩
theorem mem_unsit {S : Sce} {s : SSt} (k : SOk S s) {c x d : Str} : d ∈ unsit s c x ↔ lk s.seat d = some x ∧ d ≠ c := by
  unfold unsit
  split
  · rename_i e
    rw [(k.no x).mem_erase_iff, k.on, and_comm]
  · rename_i e
    rw [k.on]
    exact ⟨fun h => ⟨h, fun z => e (z ▸ h)⟩, fun h => h.1⟩
theorem nd_unsit {S : Sce} {s : SSt} (k : SOk S s) {c x : Str} : (unsit s c x).Nodup := by
  unfold unsit
  split
  · exact (k.no x).erase _
  · exact k.no x
theorem len_unsit {S : Sce} {s : SSt} (k : SOk S s) {c x : Str} : (unsit s c x).length ≤ (s.on x).length := by
  unfold unsit
  split
  · exact List.length_erase_le
  · exact Nat.le_refl _
theorem sit_ok {S : Sce} {s : SSt} (k : SOk S s) {c m : Str} (hc : c ∈ ky S.ca) (hm : m ∈ S.hd c) (hr : (s.on m).length < S.cap m) : SOk S (sitF s c m) := by
  refine ⟨nd_pt k.nd, fun d hd => ?_, fun d x e => ?_, fun x d => ?_, fun x => ?_, fun x => ?_⟩
  · rcases mem_pt.mp hd with e | hd
    · exact e ▸ hc
    · exact k.ca d hd
  · have e : lk (pt s.seat c m) d = some x := e
    rw [lk_pt] at e
    split at e
    · rename_i z
      cases e
      exact z ▸ hm
    · exact k.hd d x e
  · show d ∈ (if x = m then unsit s c x ++ [c] else unsit s c x) ↔ lk (pt s.seat c m) d = some x
    rw [lk_pt]
    by_cases hx : x = m
    · rw [if_pos hx, List.mem_append, mem_unsit k, List.mem_singleton]
      by_cases hd : d = c
      · simp [hd, hx]
      · rw [if_neg hd]; simp [hd]
    · rw [if_neg hx, mem_unsit k]
      by_cases hd : d = c
      · rw [if_pos hd]
        exact ⟨fun z => absurd hd z.2, fun z => absurd (Option.some.inj z).symm hx⟩
      · rw [if_neg hd]; simp [hd]
  · show (if x = m then unsit s c x ++ [c] else unsit s c x).Nodup
    split
    · rw [List.nodup_append]
      refine ⟨nd_unsit k, by simp, fun a ha b hb => ?_⟩
      cases List.mem_singleton.mp hb
      exact ((mem_unsit k).mp ha).2
    · exact nd_unsit k
  · show (if x = m then unsit s c x ++ [c] else unsit s c x).length ≤ _
    have h1 := len_unsit k (c := c) (x := x)
    split
    · rename_i e
      subst e
      rw [List.length_append, List.length_singleton]
      omega
    · exact Nat.le_trans h1 (k.fit x)
/-- on the mast that it leaves there is room behind that -/
theorem sit_room {S : Sce} {s : SSt} (k : SOk S s) {c m o : Str} (ho : lk s.seat c = some o) (hne : o ≠ m) : ((sitF s c m).on o).length < S.cap o := by
  show (if o = m then unsit s c o ++ [c] else unsit s c o).length < _
  rw [if_neg hne]
  unfold unsit
  rw [if_pos ho, List.length_erase_of_mem ((k.on o c).mpr ho)]
  have h1 := k.fit o
  have := List.length_pos_of_mem ((k.on o c).mpr ho)
  omega
/-! ### ways: masts that are reached, each with the call that comes to it -/
inductive Chn (S : Sce) (seat : List (Str × Str)) (name : Str) : List (Str × Str) → Prop
  | nil : Chn S seat name []
  | snoc {l : List (Str × Str)} {m c : Str} : Chn S seat name l → m ∉ ky l → m ∈ S.hd c → (c = name ∨ ∃ o, lk seat c = some o ∧ o ∈ ky l) → Chn S seat name (l ++ [(m, c)])
theorem Chn.nd {S : Sce} {seat : List (Str × Str)} {name : Str} {l : List (Str × Str)} (h : Chn S seat name l) : (ky l).Nodup := by
  induction h with
  | nil => exact List.nodup_nil
  | snoc h1 h2 _ _ ih =>
    rw [ky_app, List.nodup_append]
    refine ⟨ih, by simp, fun a ha b hb e => ?_⟩
    rw [e, List.mem_singleton.mp hb] at ha
    exact h2 ha
theorem Chn.hdk {S : Sce} (ok : S.Ok) {seat : List (Str × Str)} {name : Str} {l : List (Str × Str)} (h : Chn S seat name l) : ∀ m ∈ ky l, m ∈ ky S.ch := by
  induction h with
  | nil => intro m hm; cases hm
  | snoc h1 h2 h3 _ ih =>
    intro m hm
    rw [ky_app, List.mem_append] at hm
    rcases hm with hm | hm
    · exact ih m hm
    · cases List.mem_singleton.mp hm
      exact ok.hdm h3
theorem Chn.at {S : Sce} {seat : List (Str × Str)} {name : Str} {l : List (Str × Str)} (h : Chn S seat name l) : ∀ m ∈ ky l, ∃ l1 c l2, l = l1 ++ (m, c) :: l2 ∧ lk l m = some c ∧ Chn S seat name l1 ∧ m ∉ ky l1 ∧ m ∈ S.hd c ∧ (c = name ∨ ∃ o, lk seat c = some o ∧ o ∈ ky l1) := by
  induction h with
  | nil => intro m hm; cases hm
  | @snoc l m0 c0 h1 h2 h3 h4 ih =>
    intro m hm
    by_cases e : m ∈ ky l
    · obtain ⟨l1, c, l2, e1, e2, e3⟩ := ih m e
      refine ⟨l1, c, l2 ++ [(m0, c0)], by rw [e1]; simp, ?_, e3⟩
      rw [lk_app, e2]; rfl
    · rw [ky_app, List.mem_append] at hm
      cases List.mem_singleton.mp (hm.resolve_left e)
      refine ⟨l, c0, [], rfl, ?_, h1, h2, h3, h4⟩
      rw [lk_app, lk_none.mpr h2, lk_cons]
      simp
/-- what is found: a mast with room, or all that are reached are full, and nothing leads out -/
structure Ways (S : Sce) (s : SSt) (name : Str) (came : List (Str × Str)) (res : Option Str) : Prop where
  chn : Chn S s.seat name came
  yes : ∀ m, res = some m → m ∈ ky came ∧ (s.on m).length < S.cap m
  no : res = none → (∀ m ∈ ky came, ¬ (s.on m).length < S.cap m) ∧ (∀ m ∈ S.hd name, m ∈ ky came) ∧ ∀ m ∈ ky came, ∀ c ∈ s.on m, ∀ m' ∈ S.hd c, m' ∈ ky came
/-- all calls on some masts -/
def onAll (s : SSt) (ms : List Str) : List Str := ms.flatMap s.on
theorem onAll_nd {S : Sce} {s : SSt} (k : SOk S s) : ∀ {ms : List Str}, ms.Nodup → (onAll s ms).Nodup
  | [], _ => List.nodup_nil
  | m :: ms, nd => by
    rw [List.nodup_cons] at nd
    show (s.on m ++ onAll s ms).Nodup
    rw [List.nodup_append]
    refine ⟨k.no m, onAll_nd k nd.2, fun a ha b hb e => ?_⟩
    subst e
    obtain ⟨m', h1, h2⟩ := List.mem_flatMap.mp hb
    have e1 := (k.on m a).mp ha
    have e2 := (k.on m' a).mp h2
    rw [e1] at e2
    cases e2
    exact nd.1 h1
theorem onAll_len (s : SSt) (ms : List Str) : (onAll s ms).length = (ms.map fun m => (s.on m).length).sum := by
  unfold onAll
  rw [List.length_flatMap]
theorem Ways.full {S : Sce} {s : SSt} (k : SOk S s) {name : Str} {came : List (Str × Str)} (hn : name ∉ ky s.seat) (w : Ways S s name came none) {cs : List Str} (hcs : ∀ c ∈ ky s.seat, c ∈ cs) (hnm : name ∈ cs) (nd : cs.Nodup) : ¬ S.Can cs := by
  obtain ⟨h1, h2, h3⟩ := w.no rfl
  have ndk := w.chn.nd
  have hX : (name :: onAll s (ky came)).Nodup := by
    rw [List.nodup_cons]
    refine ⟨fun z => ?_, onAll_nd k ndk⟩
    obtain ⟨m', h1, h2⟩ := List.mem_flatMap.mp z
    exact hn (lk_isSome.mp (by rw [(k.on m' name).mp h2]; rfl))
  intro can
  have hsub : ∀ c ∈ name :: onAll s (ky came), c ∈ cs := fun c hc => by
    rcases List.mem_cons.mp hc with e | hc
    · exact e ▸ hnm
    · obtain ⟨m', h1, h2⟩ := List.mem_flatMap.mp hc
      exact hcs c (lk_isSome.mp (by rw [(k.on m' c).mp h2]; rfl))
  obtain ⟨ds, p1, p2⟩ := sub_perm hX nd hsub
  have can2 : S.Can (name :: onAll s (ky came)) := (can.sub p2).perm p1
  refine no_seat (cs := name :: onAll s (ky came)) (X := name :: onAll s (ky came)) (R := ky came) ndk (List.Sublist.refl _) (fun c hc m hm => ?_) ?_ can2
  · rcases List.mem_cons.mp hc with e | hc
    · exact h2 m (e ▸ hm)
    · obtain ⟨m', g1, g2⟩ := List.mem_flatMap.mp hc
      exact h3 m' g1 c g2 m hm
  · rw [List.length_cons, onAll_len]
    have := sum_le (ky came) S.cap (fun m => (s.on m).length) fun m hm => Nat.le_of_not_lt (h1 m hm)
    omega
/-! the loop of add: a hole that wanders back -/
structure Hole (S : Sce) (s0 : SSt) (name : Str) (came : List (Str × Str)) (s : SSt) (o : Option Str) (n : Nat) : Prop where
  ok : SOk S s
  ks : ∀ c, c ≠ name → (c ∈ ky s.seat ↔ c ∈ ky s0.seat)
  yes : ∀ m, o = some m → name ∉ ky s.seat ∧ (s.on m).length < S.cap m ∧ ∃ l1 c l2, came = l1 ++ (m, c) :: l2 ∧ lk came m = some c ∧ Chn S s0.seat name l1 ∧ m ∉ ky l1 ∧ m ∈ S.hd c ∧ (c = name ∨ ∃ o, lk s0.seat c = some o ∧ o ∈ ky l1) ∧ n = l1.length + 1 ∧
    (∀ c' o', lk s0.seat c' = some o' → o' ∈ ky l1 → lk s.seat c' = some o')
  no : o = none → name ∈ ky s.seat
theorem hole_start {S : Sce} {s : SSt} (k : SOk S s) {name m : Str} {came : List (Str × Str)} (hn : name ∉ ky s.seat) (w : Ways S s name came (some m)) : ∃ n, Hole S s name came s (some m) n := by
  obtain ⟨h1, h2⟩ := w.yes m rfl
  obtain ⟨l1, c, l2, e1, e2, e3, e4, e5, e6⟩ := w.chn.at m h1
  refine ⟨l1.length + 1, k, fun _ _ => Iff.rfl, fun m' e => ?_, fun e => (nomatch e)⟩
  cases e
  exact ⟨hn, h2, l1, c, l2, e1, e2, e3, e4, e5, e6, rfl, fun _ _ z _ => z⟩
theorem hole_step {S : Sce} {s0 s : SSt} (k0 : SOk S s0) {name m : Str} {came : List (Str × Str)} {n : Nat} (hnc : name ∈ ky S.ca) (h : Hole S s0 name came s (some m) n) : ∃ c, lk came m = some c ∧ c ∈ ky S.ca ∧ m ∈ S.hd c ∧ (s.on m).length < S.cap m ∧
    ∃ n', n' < n ∧ Hole S s0 name came (sitF s c m) (lk s.seat c) n' := by
  obtain ⟨hn, hr, l1, c, l2, e1, e2, e3, e4, e5, e6, e7, e8⟩ := h.yes m rfl
  have hca : c ∈ ky S.ca := by
    rcases e6 with e | ⟨o, e, _⟩
    · exact e ▸ hnc
    · exact k0.ca c (lk_isSome.mp (by rw [e]; rfl))
  refine ⟨c, e2, hca, e5, hr, ?_⟩
  have ok := sit_ok h.ok hca e5 hr
  rcases e6 with e | ⟨o, ho, hol⟩
  · subst e
    rw [lk_none.mpr hn]
    refine ⟨0, by omega, ok, fun d hd => ?_, fun m' e => (nomatch e), fun _ => mem_pt.mpr (.inl rfl)⟩
    rw [← h.ks d hd]
    exact mem_pt.trans ⟨fun z => z.resolve_left hd, .inr⟩
  · have hs := e8 c o ho hol
    rw [hs]
    obtain ⟨k1, c', k2, f1, f2, f3, f4, f5, f6⟩ := e3.at o hol
    have hom : o ≠ m := fun z => e4 (z ▸ hol)
    have hcn : c ≠ name := fun z => hn (z ▸ lk_isSome.mp (by rw [hs]; rfl))
    refine ⟨k1.length + 1, by rw [e7, f1, List.length_append, List.length_cons]; omega, ok, fun d hd => ?_, fun m' e => ?_, fun e => (nomatch e)⟩
    · rw [← h.ks d hd]
      refine mem_pt.trans ⟨fun z => z.elim (fun e => ?_) id, .inr⟩
      exact e ▸ lk_isSome.mp (by rw [hs]; rfl)
    · cases e
      refine ⟨fun z => ?_, sit_room h.ok hs hom, k1, c', k2 ++ (m, c) :: l2, by rw [e1, f1]; simp, ?_, f3, f4, f5, f6, rfl, fun d x g1 g2 => ?_⟩
      · rcases mem_pt.mp z with e | z
        · exact hcn e.symm
        · exact hn z
      · rw [e1, lk_app, f2]; rfl
      · show lk (pt s.seat c m) d = some x
        have hx : x ∈ ky l1 := by rw [f1, ky_app]; exact List.mem_append_left _ g2
        rw [lk_pt, if_neg, e8 d x g1 hx]
        intro z
        subst z
        rw [ho] at g1
        cases g1
        exact f4 g2
/-! ### what add tells -/
structure Added (S : Sce) (s : SSt) (name : Str) (b : Bool) (s' : SSt) : Prop where
  ok : SOk S s'
  ks : ∀ c, c ∈ ky s'.seat ↔ c ∈ ky s.seat ∨ (b = true ∧ c = name)
  no : b = false → s' = s ∧ ∃ came, Ways S s name came none
theorem hole_end {S : Sce} {s0 s : SSt} {name : Str} {came : List (Str × Str)} {n : Nat} (h : Hole S s0 name came s none n) : Added S s0 name true s := by
  refine ⟨h.ok, fun c => ?_, fun e => (nomatch e)⟩
  by_cases e : c = name
  · subst e
    exact ⟨fun _ => .inr ⟨rfl, rfl⟩, fun _ => h.no rfl⟩
  · rw [h.ks c e]
    exact ⟨.inl, fun z => z.resolve_right fun y => e y.2⟩
theorem Added.len {S : Sce} {s s' : SSt} {name : Str} {b : Bool} (h : Added S s name b s') (k : SOk S s) (hn : name ∉ ky s.seat) : s'.seat.length = s.seat.length + if b = true then 1 else 0 := by
  have p : (ky s'.seat).Perm (ky s.seat ++ if b = true then [name] else []) := by
    refine (List.perm_ext_iff_of_nodup h.ok.nd ?_).mpr fun c => ?_
    · split
      · rw [List.nodup_append]
        exact ⟨k.nd, by simp, fun a ha x hx => by cases List.mem_singleton.mp hx; exact fun e => hn (e ▸ ha)⟩
      · rw [List.append_nil]; exact k.nd
    · rw [h.ks, List.mem_append]
      cases b <;> simp
  have := p.length_eq
  simp only [List.length_map, List.length_append] at this
  rw [this]
  cases b <;> rfl
theorem Added.perm {S : Sce} {s s' : SSt} {name : Str} (h : Added S s name true s') (k : SOk S s) (hn : name ∉ ky s.seat) {cs : List Str} (p : (ky s.seat).Perm cs) : (ky s'.seat).Perm (cs ++ [name]) := by
  refine (List.perm_ext_iff_of_nodup h.ok.nd ?_).mpr fun c => ?_
  · rw [List.nodup_append]
    exact ⟨p.nodup_iff.mp k.nd, by simp, fun a ha x hx => by cases List.mem_singleton.mp hx; exact fun e => hn (p.mem_iff.mpr (e ▸ ha))⟩
  · rw [h.ks, List.mem_append, p.mem_iff]
    simp
theorem Added.iff {S : Sce} {s s' : SSt} {name : Str} {b : Bool} (h : Added S s name b s') (k : SOk S s) (hn : name ∉ ky s.seat) {cs : List Str} (p : (ky s.seat).Perm cs) : b = true ↔ S.Can (cs ++ [name]) := by
  cases b with
  | true => exact ⟨fun _ => h.ok.can.perm (h.perm k hn p), fun _ => rfl⟩
  | false =>
    refine ⟨fun e => (nomatch e), fun can => ?_⟩
    obtain ⟨rfl, came, w⟩ := h.no rfl
    refine absurd can (w.full k hn (fun c hc => List.mem_append_left _ (p.mem_iff.mp hc)) (List.mem_append_right _ List.mem_cons_self) ?_)
    rw [List.nodup_append]
    exact ⟨p.nodup_iff.mp k.nd, by simp, fun a ha x hx => by cases List.mem_singleton.mp hx; exact fun e => hn (p.mem_iff.mpr (e ▸ ha))⟩

/-! ### the search: what holds while masts are reached -/
def potF (S : Sce) (s : SSt) (came : List (Str × Str)) : Nat := (((ky S.ch).filter fun m => decide (m ∉ ky came)).map fun m => (s.on m).length).sum
theorem filt_cons {β : Type} {R : List Str} (nd : R.Nodup) {m : Str} (hm : m ∈ R) (came : List (Str × β)) (x : β) (hn : m ∉ ky came) (f : Str → Nat) : ((R.filter fun y => decide (y ∉ ky came)).map f).sum = ((R.filter fun y => decide (y ∉ ky (came ++ [(m, x)]))).map f).sum + f m := by
  induction R with
  | nil => cases hm
  | cons y R ih =>
    rw [List.nodup_cons] at nd
    have e1 : ∀ z, decide (z ∉ ky (came ++ [(m, x)])) = (decide (z ∉ ky came) && !decide (z = m)) := fun z => by
      rw [ky_app, Bool.eq_iff_iff]
      simp
    by_cases h : y = m
    · subst h
      have e2 : R.filter (fun z => decide (z ∉ ky (came ++ [(y, x)]))) = R.filter fun z => decide (z ∉ ky came) := List.filter_congr fun z hz => by
        rw [e1 z]
        have : z ≠ y := fun q => nd.1 (q ▸ hz)
        simp [this]
      rw [List.filter_cons_of_pos (by simpa using hn), List.filter_cons_of_neg (by rw [e1]; simp), e2, List.map_cons, List.sum_cons]
      omega
    · have ih := ih nd.2 ((List.mem_cons.mp hm).resolve_left fun q => h q.symm)
      by_cases hy : y ∈ ky came
      · rw [List.filter_cons_of_neg (by simpa using hy), List.filter_cons_of_neg (by rw [e1]; simp [hy])]
        exact ih
      · rw [List.filter_cons_of_pos (by simpa using hy), List.filter_cons_of_pos (by rw [e1]; simp [hy, h]), List.map_cons, List.sum_cons, List.map_cons, List.sum_cons, ih]
        omega
theorem pot_le {S : Sce} (ok : S.Ok) {s : SSt} (k : SOk S s) (came : List (Str × Str)) : potF S s came ≤ 63 * 63 := by
  have h1 : ∀ R : List Str, (R.map fun m => (s.on m).length).sum ≤ R.length * 63 := fun R => by
    induction R with
    | nil => exact Nat.le_refl _
    | cons m R ih =>
      have := k.lenOn ok m
      rw [List.map_cons, List.sum_cons, List.length_cons]
      omega
  have h2 : ((ky S.ch).filter fun m => decide (m ∉ ky came)).length ≤ 63 := Nat.le_trans (List.length_filter_le _ _) (by rw [List.length_map]; exact ok.lm)
  have := h1 ((ky S.ch).filter fun m => decide (m ∉ ky came))
  unfold potF
  omega
structure Bfs (S : Sce) (s : SSt) (name : Str) (came : List (Str × Str)) (rest : List Str) : Prop where
  chn : Chn S s.seat name came
  full : ∀ m ∈ ky came, ¬ (s.on m).length < S.cap m
  rst : ∀ c ∈ rest, c ∈ ky S.ca ∧ (c = name ∨ ∃ o, lk s.seat c = some o ∧ o ∈ ky came)
  d1 : name ∈ rest ∨ ∀ m ∈ S.hd name, m ∈ ky came
  d2 : ∀ m ∈ ky came, ∀ c ∈ s.on m, c ∈ rest ∨ ∀ m' ∈ S.hd c, m' ∈ ky came
structure Bf1 (S : Sce) (s : SSt) (name one : Str) (i : Nat) (came : List (Str × Str)) (rest : List Str) : Prop where
  chn : Chn S s.seat name came
  full : ∀ m ∈ ky came, ¬ (s.on m).length < S.cap m
  rst : ∀ c ∈ rest, c ∈ ky S.ca ∧ (c = name ∨ ∃ o, lk s.seat c = some o ∧ o ∈ ky came)
  o1 : one = name ∨ ∃ o, lk s.seat one = some o ∧ o ∈ ky came
  pre : ∀ m ∈ (S.hd one).take i, m ∈ ky came
  d1 : name ∈ rest ∨ name = one ∨ ∀ m ∈ S.hd name, m ∈ ky came
  d2 : ∀ m ∈ ky came, ∀ c ∈ s.on m, c ∈ rest ∨ c = one ∨ ∀ m' ∈ S.hd c, m' ∈ ky came
theorem Bfs.pop {S : Sce} {s : SSt} {name one : Str} {came : List (Str × Str)} {rest : List Str} (b : Bfs S s name came (one :: rest)) : Bf1 S s name one 0 came rest :=
  ⟨b.chn, b.full, fun c hc => b.rst c (List.mem_cons_of_mem _ hc), (b.rst one List.mem_cons_self).2, (fun m hm => by rw [List.take_zero] at hm; cases hm),
    b.d1.elim (fun z => (List.mem_cons.mp z).elim (fun e => .inr (.inl e)) .inl) fun z => .inr (.inr z),
    fun m hm c hc => (b.d2 m hm c hc).elim (fun z => (List.mem_cons.mp z).elim (fun e => .inr (.inl e)) .inl) fun z => .inr (.inr z)⟩
theorem Bf1.done {S : Sce} {s : SSt} {name one : Str} {came : List (Str × Str)} {rest : List Str} (b : Bf1 S s name one (S.hd one).length came rest) : Bfs S s name came rest := by
  have hp := b.pre
  rw [List.take_length] at hp
  exact ⟨b.chn, b.full, b.rst, b.d1.elim .inl fun z => .inr (z.elim (fun e => e ▸ hp) id), fun m hm c hc => (b.d2 m hm c hc).elim .inl fun z => .inr (z.elim (fun e => e ▸ hp) id)⟩
theorem Bf1.skip {S : Sce} {s : SSt} {name one m : Str} {i : Nat} {came : List (Str × Str)} {rest : List Str} (b : Bf1 S s name one i came rest) (hi : (S.hd one)[i]? = some m) (hm : m ∈ ky came) : Bf1 S s name one (i + 1) came rest :=
  ⟨b.chn, b.full, b.rst, b.o1, fun x hx => by
    rw [List.take_succ, hi, List.mem_append] at hx
    rcases hx with hx | hx
    · exact b.pre x hx
    · rw [List.mem_singleton.mp hx]; exact hm, b.d1, b.d2⟩
theorem Bf1.new {S : Sce} {s : SSt} {name one m : Str} {i : Nat} {came : List (Str × Str)} {rest : List Str} (b : Bf1 S s name one i came rest) (hi : (S.hd one)[i]? = some m) (hm : m ∉ ky came) : Chn S s.seat name (came ++ [(m, one)]) := .snoc b.chn hm (List.mem_of_getElem? hi) b.o1
theorem Bf1.go {S : Sce} {s : SSt} (k : SOk S s) {name one m : Str} {i : Nat} {came : List (Str × Str)} {rest : List Str} (b : Bf1 S s name one i came rest) (hi : (S.hd one)[i]? = some m) (hm : m ∉ ky came) (hf : ¬ (s.on m).length < S.cap m) : Bf1 S s name one (i + 1) (came ++ [(m, one)]) (rest ++ s.on m) := by
  have hk : ∀ x, x ∈ ky came → x ∈ ky (came ++ [(m, one)]) := fun x hx => by rw [ky_app]; exact List.mem_append_left _ hx
  have hmm : m ∈ ky (came ++ [(m, one)]) := by rw [ky_app]; exact List.mem_append_right _ List.mem_cons_self
  have hsp : ∀ x, x ∈ ky (came ++ [(m, one)]) → x ∈ ky came ∨ x = m := fun x hx => by
    rw [ky_app, List.mem_append] at hx
    exact hx.imp_right fun z => List.mem_singleton.mp z
  refine ⟨b.new hi hm, fun x hx => ?_, fun c hc => ?_, b.o1.imp_right fun ⟨o, h1, h2⟩ => ⟨o, h1, hk o h2⟩, fun x hx => ?_, ?_, fun x hx c hc => ?_⟩
  · rcases hsp x hx with hx | rfl
    · exact b.full x hx
    · exact hf
  · rcases List.mem_append.mp hc with hc | hc
    · obtain ⟨h1, h2⟩ := b.rst c hc
      exact ⟨h1, h2.imp_right fun ⟨o, h3, h4⟩ => ⟨o, h3, hk o h4⟩⟩
    · have e := (k.on m c).mp hc
      exact ⟨k.ca c (lk_isSome.mp (by rw [e]; rfl)), .inr ⟨m, e, hmm⟩⟩
  · rw [List.take_succ, hi, List.mem_append] at hx
    rcases hx with hx | hx
    · exact hk x (b.pre x hx)
    · rw [List.mem_singleton.mp hx]; exact hmm
  · exact b.d1.imp (fun z => List.mem_append_left _ z) fun z => z.imp_right fun z m hm => hk m (z m hm)
  · rcases hsp x hx with hx | rfl
    · exact (b.d2 x hx c hc).imp (fun z => List.mem_append_left _ z) fun z => z.imp_right fun z m hm => hk m (z m hm)
    · exact .inl (List.mem_append_right _ hc)
theorem Bf1.pot {S : Sce} (ok : S.Ok) {s : SSt} {name one m : Str} {i : Nat} {came : List (Str × Str)} {rest : List Str} (b : Bf1 S s name one i came rest) (hi : (S.hd one)[i]? = some m) (hm : m ∉ ky came) : (rest ++ s.on m).length + potF S s (came ++ [(m, one)]) = rest.length + potF S s came := by
  have := filt_cons ok.nm (ok.hdm (List.mem_of_getElem? hi)) came one hm fun m => (s.on m).length
  unfold potF
  rw [this, List.length_append]
  omega
theorem Bfs.ways {S : Sce} {s : SSt} {name : Str} {came : List (Str × Str)} (b : Bfs S s name came []) : Ways S s name came none :=
  ⟨b.chn, fun m e => (nomatch e), fun _ => ⟨b.full, b.d1.resolve_left fun z => (nomatch z), fun m hm c hc => (b.d2 m hm c hc).resolve_left fun z => (nomatch z)⟩⟩

/-! ### seats without a program: each call is added or not -/
theorem bf1_run {S : Sce} (ok : S.Ok) {s : SSt} (k : SOk S s) {name one : Str} (nx : ∀ came rest, Bfs S s name came rest → True) : ∀ (n i : Nat) (came : List (Str × Str)) (rest : List Str), n = (S.hd one).length - i → Bf1 S s name one i came rest → i ≤ (S.hd one).length →
    (∃ came' m, Ways S s name came' (some m)) ∨ ∃ came' rest', Bfs S s name came' rest' ∧ rest'.length + potF S s came' = rest.length + potF S s came
  | 0, i, came, rest, hn, b, hi => by
    have : i = (S.hd one).length := by omega
    subst this
    exact .inr ⟨came, rest, b.done, rfl⟩
  | n + 1, i, came, rest, hn, b, hi => by
    have hlt : i < (S.hd one).length := by omega
    have hm : (S.hd one)[i]? = some (S.hd one)[i] := List.getElem?_eq_getElem hlt
    generalize (S.hd one)[i] = m at hm
    by_cases h1 : m ∈ ky came
    · exact bf1_run ok k nx n (i + 1) came rest (by omega) (b.skip hm h1) hlt
    · by_cases h2 : (s.on m).length < S.cap m
      · refine .inl ⟨came ++ [(m, one)], m, b.new hm h1, fun m' e => ?_, fun e => (nomatch e)⟩
        cases e
        exact ⟨by rw [ky_app]; exact List.mem_append_right _ List.mem_cons_self, h2⟩
      · rcases bf1_run ok k nx n (i + 1) _ _ (by omega) (b.go k hm h1 h2) hlt with h | ⟨c', r', h3, h4⟩
        · exact .inl h
        · exact .inr ⟨c', r', h3, h4.trans (b.pot ok hm h1)⟩
theorem bfs_run {S : Sce} (ok : S.Ok) {s : SSt} (k : SOk S s) {name : Str} : ∀ (n : Nat) (came : List (Str × Str)) (rest : List Str), rest.length + potF S s came ≤ n → Bfs S s name came rest → ∃ came' res, Ways S s name came' res
  | n, came, [], _, b => ⟨came, none, b.ways⟩
  | 0, came, one :: rest, h, b => by simp at h
  | n + 1, came, one :: rest, h, b => by
    rcases bf1_run ok k (fun _ _ _ => trivial) _ 0 came rest rfl b.pop (Nat.zero_le _) with ⟨c', m, h1⟩ | ⟨c', r', h1, h2⟩
    · exact ⟨c', some m, h1⟩
    · refine bfs_run ok k n c' r' ?_ h1
      rw [List.length_cons] at h
      omega
theorem ways_ex {S : Sce} (ok : S.Ok) {s : SSt} (k : SOk S s) {name : Str} (hn : name ∈ ky S.ca) : ∃ came res, Ways S s name came res :=
  bfs_run ok k _ [] [name] (Nat.le_refl _) ⟨.nil, fun _ h => (nomatch h), fun c hc => by rw [List.mem_singleton.mp hc]; exact ⟨hn, .inl rfl⟩, .inl List.mem_cons_self, fun _ h => (nomatch h)⟩
theorem hole_run {S : Sce} {s0 : SSt} (k0 : SOk S s0) {name : Str} (hn : name ∈ ky S.ca) {came : List (Str × Str)} : ∀ (n : Nat) (s : SSt) (o : Option Str) (j : Nat), j ≤ n → Hole S s0 name came s o j → ∃ s', Added S s0 name true s'
  | _, s, none, _, _, h => ⟨s, hole_end h⟩
  | 0, s, some m, j, hj, h => by
    obtain ⟨c, _, _, _, _, n', h1, _⟩ := hole_step k0 hn h
    omega
  | n + 1, s, some m, j, hj, h => by
    obtain ⟨c, _, _, _, _, n', h1, h2⟩ := hole_step k0 hn h
    exact hole_run k0 hn n _ _ n' (by omega) h2
theorem add_ex {S : Sce} (ok : S.Ok) {s : SSt} (k : SOk S s) {name : Str} (hn : name ∈ ky S.ca) (hnew : name ∉ ky s.seat) : ∃ b s', Added S s name b s' := by
  obtain ⟨came, res, w⟩ := ways_ex ok k hn
  cases res with
  | none => exact ⟨false, s, k, fun c => by simp, fun _ => ⟨rfl, came, w⟩⟩
  | some m =>
    obtain ⟨n, h⟩ := hole_start k hnew w
    obtain ⟨s', h'⟩ := hole_run k hn n s _ n (Nat.le_refl _) h
    exact ⟨true, s', h'⟩
/-- a seating of a lot as a state -/
theorem can_state {S : Sce} {X : List Str} (nd : X.Nodup) (hX : ∀ c ∈ X, c ∈ ky S.ca) (h : S.Can X) : ∃ s, SOk S s ∧ ky s.seat = X := by
  obtain ⟨f, h1, h2⟩ := h
  have hk : ky (X.map fun c => (c, f c)) = X := by rw [ky, List.map_map]; exact List.map_id' _
  have hl : ∀ c m, lk (X.map fun c => (c, f c)) c = some m ↔ c ∈ X ∧ f c = m := fun c m => by
    rw [lk_iff (by rw [hk]; exact nd), List.mem_map]
    constructor
    · rintro ⟨d, hd, e⟩; cases e; exact ⟨hd, rfl⟩
    · rintro ⟨hc, rfl⟩; exact ⟨c, hc, rfl⟩
  refine ⟨⟨X.map fun c => (c, f c), fun m => X.filter fun c => decide (f c = m)⟩, ⟨by rw [hk]; exact nd, by rw [hk]; exact hX, fun c m e => ?_, fun m c => ?_, fun m => nd.filter _, fun m => ?_⟩, hk⟩
  · obtain ⟨hc, rfl⟩ := (hl c m).mp e; exact h1 c hc
  · rw [hl, List.mem_filter, decide_eq_true_iff]
  · rw [← List.countP_eq_length_filter]; exact h2 m
/-- who can't be added: a lot of masts that is full, and all on it hear no other -/
structure Shut (S : Sce) (X : List Str) (s : SSt) (c : Str) (R : List Str) : Prop where
  nd : R.Nodup
  hd : ∀ m ∈ S.hd c, m ∈ R
  cl : ∀ m ∈ R, ∀ x ∈ s.on m, ∀ m' ∈ S.hd x, m' ∈ R
  full : ∀ m ∈ R, (s.on m).length = S.cap m
theorem shut_ex {S : Sce} (ok : S.Ok) {s : SSt} (k : SOk S s) {c : Str} (hc : c ∈ ky S.ca) (hnew : c ∉ ky s.seat) (h : ¬ S.Can (ky s.seat ++ [c])) : ∃ R, Shut S (ky s.seat) s c R := by
  obtain ⟨b, s', a⟩ := add_ex ok k hc hnew
  cases b with
  | true => exact absurd ((a.iff k hnew (.refl _)).mp rfl) h
  | false =>
    obtain ⟨_, came, w⟩ := a.no rfl
    obtain ⟨h1, h2, h3⟩ := w.no rfl
    refine ⟨ky came, w.chn.nd, h2, h3, fun m hm => ?_⟩
    have := h1 m hm
    have := k.fit m
    omega
theorem count_le {S : Sce} {R X : List Str} (nd : R.Nodup) (h : S.Can X) (hR : ∀ c ∈ X, ∀ m ∈ S.hd c, m ∈ R) : X.length ≤ (R.map S.cap).sum := by
  apply Nat.le_of_not_lt
  intro z
  exact no_seat nd (List.Sublist.refl _) hR z h
theorem filter_split {α : Type} (p : α → Bool) (l : List α) : (l.filter p).length + (l.filter fun a => !p a).length = l.length := by
  induction l with
  | nil => rfl
  | cons a l ih => cases h : p a <;> simp [h] <;> omega
/-- of two lots of unlike sizes the smaller one can take a call of the greater one -/
theorem exchange {S : Sce} (ok : S.Ok) {X Y : List Str} (nx : X.Nodup) (ny : Y.Nodup) (hX : ∀ c ∈ X, c ∈ ky S.ca) (hY : ∀ c ∈ Y, c ∈ ky S.ca) (cx : S.Can X) (cy : S.Can Y) (lt : X.length < Y.length) : ∃ y ∈ Y, y ∉ X ∧ S.Can (X ++ [y]) := by
  apply Classical.byContradiction
  intro hno
  have hno : ∀ y ∈ Y, y ∉ X → ¬ S.Can (X ++ [y]) := fun y h1 h2 h3 => hno ⟨y, h1, h2, h3⟩
  obtain ⟨s, k, hk⟩ := can_state nx hX cx
  -- a lot of masts for all of them
  have all : ∀ l : List Str, (∀ y ∈ l, y ∈ Y ∧ y ∉ X) → ∃ R : List Str, R.Nodup ∧ (∀ y ∈ l, ∀ m ∈ S.hd y, m ∈ R) ∧ (∀ m ∈ R, ∀ x ∈ s.on m, ∀ m' ∈ S.hd x, m' ∈ R) ∧ ∀ m ∈ R, (s.on m).length = S.cap m := by
    intro l
    induction l with
    | nil => intro _; exact ⟨[], List.nodup_nil, fun _ h => (nomatch h), fun _ h => (nomatch h), fun _ h => (nomatch h)⟩
    | cons y l ih =>
      intro h
      obtain ⟨R, h1, h2, h3, h4⟩ := ih fun z hz => h z (List.mem_cons_of_mem _ hz)
      obtain ⟨yY, yX⟩ := h y List.mem_cons_self
      obtain ⟨R2, w⟩ := shut_ex ok k (hY y yY) (by rw [hk]; exact yX) (by rw [hk]; exact hno y yY yX)
      refine ⟨R ++ R2.filter fun m => decide (m ∉ R), ?_, fun z hz m hm => ?_, fun m hm x hx m' hm' => ?_, fun m hm => ?_⟩
      · rw [List.nodup_append]
        refine ⟨h1, w.nd.filter _, fun a ha b hb e => ?_⟩
        have := of_decide_eq_true (List.mem_filter.mp hb).2
        exact this (e ▸ ha)
      all_goals rw [List.mem_append, List.mem_filter, decide_eq_true_iff] at *
      · by_cases q : m ∈ R
        · exact .inl q
        · rcases List.mem_cons.mp hz with rfl | hz
          · exact .inr ⟨w.hd m hm, q⟩
          · exact .inl (h2 z hz m hm)
      · by_cases q : m' ∈ R
        · exact .inl q
        · rcases hm with hm | hm
          · exact .inl (h3 m hm x hx m' hm')
          · exact .inr ⟨w.cl m hm.1 x hx m' hm', q⟩
      · rcases hm with hm | hm
        · exact h4 m hm
        · exact w.full m hm.1
  obtain ⟨R, h1, h2, h3, h4⟩ := all (Y.filter fun y => decide (y ∉ X)) fun y hy => ⟨(List.mem_filter.mp hy).1, of_decide_eq_true (List.mem_filter.mp hy).2⟩
  -- calls of X that sit on R
  let XR := onAll s R
  have xr : XR.Nodup := onAll_nd k h1
  have xrX : ∀ c ∈ XR, c ∈ X := fun c hc => by
    obtain ⟨m, _, hc⟩ := List.mem_flatMap.mp hc
    rw [← hk]
    exact lk_isSome.mp (by rw [(k.on m c).mp hc]; rfl)
  have xrl : XR.length = (R.map S.cap).sum := by
    rw [onAll_len]
    congr 1
    exact List.map_congr_left h4
  -- calls of Y: those on R or new hear R alone
  let p : Str → Bool := fun c => decide (c ∈ XR ∨ c ∉ X)
  have e := filter_split p Y
  have l1 : (Y.filter p).length ≤ XR.length := by
    rw [xrl]
    refine count_le h1 (cy.sub List.filter_sublist) fun c hc m hm => ?_
    obtain ⟨cY, cp⟩ := List.mem_filter.mp hc
    rcases of_decide_eq_true cp with z | z
    · obtain ⟨m0, hm0, hc0⟩ := List.mem_flatMap.mp z
      exact h3 m0 hm0 c hc0 m hm
    · exact h2 c (List.mem_filter.mpr ⟨cY, decide_eq_true z⟩) m hm
  have l2 : (Y.filter fun c => !p c).length + XR.length ≤ X.length := by
    have : ((Y.filter fun c => !p c) ++ XR).Nodup := by
      rw [List.nodup_append]
      refine ⟨ny.filter _, xr, fun a ha b hb e => ?_⟩
      have z := (List.mem_filter.mp ha).2
      simp only [p, Bool.not_eq_true', decide_eq_false_iff_not] at z
      exact z (.inl (e ▸ hb))
    have := nd_len this (b := X) fun c hc => by
      rcases List.mem_append.mp hc with hc | hc
      · have z := (List.mem_filter.mp hc).2
        simp only [p, Bool.not_eq_true', decide_eq_false_iff_not] at z
        apply Classical.byContradiction
        exact fun q => z (.inr q)
      · exact xrX c hc
    rw [List.length_append] at this
    exact this
  omega
/-! ### the kept lot -/
inductive Greedy (S : Sce) : List Str → List Str → Prop
  | nil : Greedy S [] []
  | yes {os ks : List Str} {c : Str} : Greedy S os ks → S.Can (ks ++ [c]) → Greedy S (os ++ [c]) (ks ++ [c])
  | no {os ks : List Str} {c : Str} : Greedy S os ks → ¬ S.Can (ks ++ [c]) → Greedy S (os ++ [c]) ks
theorem Greedy.inv {S : Sce} {l ks : List Str} (g : Greedy S l ks) : (l = [] ∧ ks = []) ∨ (∃ os ks' c, l = os ++ [c] ∧ Greedy S os ks' ∧ S.Can (ks' ++ [c]) ∧ ks = ks' ++ [c]) ∨ ∃ os c, l = os ++ [c] ∧ Greedy S os ks ∧ ¬ S.Can (ks ++ [c]) := by
  cases g with
  | nil => exact .inl ⟨rfl, rfl⟩
  | yes g h => exact .inr (.inl ⟨_, _, _, rfl, g, h, rfl⟩)
  | no g h => exact .inr (.inr ⟨_, _, rfl, g, h⟩)
theorem Greedy.uniq {S : Sce} {os ks ks' : List Str} (g : Greedy S os ks) (g' : Greedy S os ks') : ks = ks' := by
  induction g generalizing ks' with
  | nil =>
    rcases g'.inv with ⟨_, h⟩ | ⟨os, k, c, h, _⟩ | ⟨os, c, h, _⟩
    · exact h.symm
    · simp at h
    · simp at h
  | @yes os0 ks0 c0 g h ih =>
    rcases g'.inv with ⟨h2, _⟩ | ⟨os, k, c, h2, g2, h3, h4⟩ | ⟨os, c, h2, g2, h3⟩
    · simp at h2
    · obtain ⟨rfl, e⟩ := List.append_inj' h2 rfl
      cases e
      rw [h4, ih g2]
    · obtain ⟨rfl, e⟩ := List.append_inj' h2 rfl
      cases e
      rw [ih g2] at h
      exact absurd h h3
  | @no os0 ks0 c0 g h ih =>
    rcases g'.inv with ⟨h2, _⟩ | ⟨os, k, c, h2, g2, h3, h4⟩ | ⟨os, c, h2, g2, h3⟩
    · simp at h2
    · obtain ⟨rfl, e⟩ := List.append_inj' h2 rfl
      cases e
      rw [ih g2] at h
      exact absurd h3 h
    · obtain ⟨rfl, e⟩ := List.append_inj' h2 rfl
      exact ih g2
theorem Greedy.sub {S : Sce} {os ks : List Str} (g : Greedy S os ks) : ks.Sublist os := by
  induction g with
  | nil => exact .slnil
  | yes _ _ ih => exact ih.append (.refl _)
  | no _ _ ih => exact ih.trans (List.sublist_append_left _ _)
theorem Greedy.can {S : Sce} {os ks : List Str} (g : Greedy S os ks) : S.Can ks := by
  induction g with
  | nil => exact canSeat_nil
  | yes _ h _ => exact h
  | no _ _ ih => exact ih
/-- who isn't kept can't be, beside those that are -/
theorem Greedy.not {S : Sce} {os ks : List Str} (g : Greedy S os ks) {c : Str} (hc : c ∈ os) (hk : c ∉ ks) : ¬ S.Can (ks ++ [c]) := by
  induction g with
  | nil => cases hc
  | @yes os0 ks0 d g h ih =>
    rw [List.mem_append] at hc hk
    have h1 : c ∈ os0 := hc.resolve_right fun z => hk (.inr (List.mem_singleton.mp z ▸ List.mem_cons_self))
    intro can
    refine ih h1 (fun z => hk (.inl z)) (can.sub ?_)
    exact (List.sublist_append_left _ _).append (.refl _)
  | @no os0 ks0 d g h ih =>
    rcases List.mem_append.mp hc with h1 | h1
    · exact ih h1 hk
    · rw [List.mem_singleton.mp h1]; exact h
/-- it is a greatest one -/
theorem Greedy.max {S : Sce} (ok : S.Ok) {os ks Y : List Str} (g : Greedy S os ks) (no : os.Nodup) (ho : ∀ c ∈ os, c ∈ ky S.ca) (ny : Y.Nodup) (hY : ∀ c ∈ Y, c ∈ os) (cy : S.Can Y) : Y.length ≤ ks.length := by
  apply Nat.le_of_not_lt
  intro lt
  obtain ⟨y, h1, h2, h3⟩ := exchange ok (g.sub.nodup no) ny (fun c hc => ho c (g.sub.subset hc)) (fun c hc => ho c (hY c hc)) g.can cy lt
  exact g.not (hY y h1) h2 h3
theorem greedy_ex (S : Sce) (os : List Str) : ∃ ks, Greedy S os ks := by
  refine snoc_ind (p := fun os => ∃ ks, Greedy S os ks) ⟨[], .nil⟩ (fun os c ⟨ks, g⟩ => ?_) os
  by_cases h : S.Can (ks ++ [c])
  · exact ⟨_, g.yes h⟩
  · exact ⟨_, g.no h⟩
/-- if all of some can be seated, and no other can, these are kept -/
theorem Greedy.all {S : Sce} {os ks : List Str} (g : Greedy S os ks) (p : Str → Bool) (h : S.Can (os.filter p)) (hn : ∀ c ∈ os, p c = false → S.hd c = []) : ks = os.filter p := by
  induction g with
  | nil => rfl
  | @yes os0 ks0 c g hc ih =>
    have e := ih (h.sub ((List.sublist_append_left _ _).filter _)) fun d hd => hn d (List.mem_append_left _ hd)
    have hp : p c = true := by
      cases q : p c with
      | true => rfl
      | false =>
        obtain ⟨f, h1, _⟩ := hc
        have := h1 c (List.mem_append_right _ List.mem_cons_self)
        rw [hn c (List.mem_append_right _ List.mem_cons_self) q] at this
        cases this
    rw [List.filter_append, e, List.filter_cons_of_pos hp]
    rfl
  | @no os0 ks0 c g hc ih =>
    have e := ih (h.sub ((List.sublist_append_left _ _).filter _)) fun d hd => hn d (List.mem_append_left _ hd)
    have hp : p c = false := by
      cases q : p c with
      | false => rfl
      | true =>
        refine absurd ?_ hc
        rw [e]
        rw [List.filter_append, List.filter_cons_of_pos q] at h
        exact h
    rw [List.filter_append, e, List.filter_cons_of_neg (by rw [hp]; exact Bool.false_ne_true)]
    simp

/-! ### scenes and seats on the heap -/
abbrev nV (n : Nat) : VD := dat (.int (n : Int))
abbrev calN : List Str := ["worth", "heard"]
abbrev sceN : List Str := ["channels", "calls"]
abbrev seaN : List Str := ["scene", "seating", "seated"]
abbrev calV (Cc : Addr) (x : Cal) : VD := vin Cc calN [dat (.int x.w), dat (txT x.hd)]
abbrev chV (l : List (Str × Nat)) : VD := vdz (sK nV l)
abbrev caV (Cc : Addr) (l : List (Str × Cal)) : VD := vdz (sK (calV Cc) l)
abbrev sceV (Cs Cc : Addr) (S : Sce) : VD := vin Cs sceN [chV S.ch, caV Cc S.ca]
structure SA where
  p : Addr
  d : Addr
  on : List (Str × Addr)
abbrev aV (a : Addr) : VD := val (.ref a)
abbrev sdV (A : SA) : VD := vdi (sK aV A.on)
abbrev tL (l : List Str) : CD := cLd (l.map .str)
abbrev onC (l : List (Str × Addr)) (f : Str → List Str) : Cells := l.map fun q => (q.2, tL (f q.1))
abbrev seatD (l : List (Str × Str)) : CD := cD (sK (fun m => vt m) l)
abbrev seaI (Ct Cs Cc : Addr) (A : SA) (S : Sce) : CD := cI Ct seaN [sceV Cs Cc S, val (.ref A.d), sdV A]
abbrev seatsC (Ct Cs Cc : Addr) (A : SA) (S : Sce) (s : SSt) : Cells := (A.p, seaI Ct Cs Cc A S) :: (A.d, seatD s.seat) :: onC A.on s.on
/-- the cell of one mast, the others -/
theorem onC_pick {l : List (Str × Addr)} (nd : (ky l).Nodup) {m : Str} {a : Addr} (h : lk l m = some a) (f : Str → List Str) : ∃ L, (onC l f).Perm ((a, tL (f m)) :: L) ∧ ∀ g : Str → List Str, (∀ x, x ≠ m → g x = f x) → (onC l g).Perm ((a, tL (g m)) :: L) := by
  obtain ⟨l1, l2, e⟩ := List.append_of_mem (lk_mem h)
  have hn : ∀ x ∈ l1 ++ l2, x.1 ≠ m := fun x hx z => by
    rw [e, ky_app, ky_cons] at nd
    have p : (ky l1 ++ m :: ky l2).Perm (m :: ky (l1 ++ l2)) := by rw [ky_app]; exact List.perm_middle
    have nd2 := p.nodup_iff.mp nd
    rw [List.nodup_cons] at nd2
    exact nd2.1 (List.mem_map.mpr ⟨x, hx, z⟩)
  have hp : ∀ g : Str → List Str, (onC l g).Perm ((a, tL (g m)) :: onC (l1 ++ l2) g) := fun g => by
    rw [e]
    unfold onC
    rw [List.map_append, List.map_cons, List.map_append]
    exact List.perm_middle
  refine ⟨onC (l1 ++ l2) f, hp f, fun g hg => ?_⟩
  have e2 : onC (l1 ++ l2) g = onC (l1 ++ l2) f := by
    unfold onC
    apply List.map_congr_left
    intro x hx
    rw [hg x.1 (hn x hx)]
  rw [← e2]
  exact hp g
/-- what a scene is made of -/
structure ScIn (ch : List (Str × Nat)) (ca : List (Str × Cal)) : Prop where
  nm : (ky ch).Nodup
  nc : (ky ca).Nodup
  lm : ch.length ≤ 63
  lc : ca.length ≤ 63
  mn : ∀ q ∈ ch, isName q.1 = true ∧ q.2 ≤ 1000
  cn : ∀ q ∈ ca, isName q.1 = true ∧ 0 ≤ q.2.w ∧ q.2.w ≤ 1000 ∧ q.2.hd.Nodup ∧ ∀ m ∈ q.2.hd, m ∈ ky ch
abbrev sceOf (ch : List (Str × Nat)) (ca : List (Str × Cal)) : Sce := ⟨sortK ch, sortK ca⟩
theorem ScIn.ok {ch : List (Str × Nat)} {ca : List (Str × Cal)} (h : ScIn ch ca) : (sceOf ch ca).Ok := by
  have mem : ∀ {β : Type} {l : List (Str × β)} {q : Str × β}, (ky l).Nodup → q ∈ sortK l → q ∈ l := fun {β l q} nd hq => by
    have := lk_of (nd_sortK nd) (k := q.1) (v := q.2) hq
    rw [lk_sortK nd] at this
    exact lk_mem this
  refine ⟨nd_sortK h.nm, nd_sortK h.nc, fun c x e => ?_, ?_, ?_, ?_, ?_, fun q hq => h.mn q (mem h.nm hq), fun q hq => ?_⟩
  · have e : lk (sortK ca) c = some x := e
    rw [lk_sortK h.nc] at e
    obtain ⟨_, _, _, h1, h2⟩ := h.cn _ (lk_mem e)
    refine ⟨h1, fun m hm => ?_⟩
    show m ∈ ky (sortK ch)
    rw [ky_sortK]
    exact (sortS_perm _).mem_iff.mpr (h2 m hm)
  · show (sortK ch).length ≤ 63; rw [len_sortK]; exact h.lm
  · show (sortK ca).length ≤ 63; rw [len_sortK]; exact h.lc
  · show sortS (ky (sortK ch)) = ky (sortK ch); rw [ky_sortK, sortS_idem]
  · show sortS (ky (sortK ca)) = ky (sortK ca); rw [ky_sortK, sortS_idem]
  · obtain ⟨h1, h2, h3, _⟩ := h.cn q (mem h.nc hq)
    exact ⟨h1, h2, h3⟩
/-! ### what is wrong with a seating -/
def wrong1 (S : Sce) (q : Str × Str) : Option Str := if q.1 ∉ ky S.ca then some "call" else if q.2 ∉ S.hd q.1 then some "heard" else none
def overF (S : Sce) (l : List (Str × Str)) : Bool := l.any fun q => decide (S.cap q.2 < l.countP fun p => decide (p.2 = q.2))
def fullO : Bool → Option Str
  | true => some "full"
  | false => none
def wrongF (S : Sce) (l : List (Str × Str)) : Option Str := match l.findSome? (wrong1 S) with
  | some w => some w
  | none => fullO (overF S l)
theorem SOk.right {S : Sce} {s : SSt} (k : SOk S s) : wrongF S s.seat = none := by
  have h1 : s.seat.findSome? (wrong1 S) = none := by
    rw [List.findSome?_eq_none_iff]
    intro q hq
    have e := lk_of k.nd (k := q.1) (v := q.2) hq
    unfold wrong1
    rw [if_neg (fun z => z (k.ca q.1 (lk_isSome.mp (by rw [e]; rfl)))), if_neg (fun z => z (k.hd _ _ e))]
  have h2 : overF S s.seat = false := by
    unfold overF
    rw [List.any_eq_false]
    intro q hq
    have : (s.seat.countP fun p => decide (p.2 = q.2)) ≤ (s.on q.2).length := by
      rw [List.countP_eq_length_filter]
      have e : (s.seat.filter fun p => decide (p.2 = q.2)).length = (ky (s.seat.filter fun p => decide (p.2 = q.2))).length := (List.length_map _).symm
      rw [e]
      refine nd_len ((List.Sublist.map _ List.filter_sublist).nodup k.nd) fun c hc => ?_
      obtain ⟨p, hp, rfl⟩ := List.mem_map.mp hc
      rw [List.mem_filter] at hp
      rw [k.on]
      have := lk_of k.nd (k := p.1) (v := p.2) hp.1
      rw [this, of_decide_eq_true hp.2]
    have := k.fit q.2
    simp only [decide_eq_true_eq]
    omega
  unfold wrongF
  rw [h1, h2]
  rfl
def isW : PyData → Int → Int → Bool
  | .int i, lo, hi => decide (lo ≤ i) && decide (i ≤ hi)
  | _, _, _ => false

/-! ### the order of calls -/
def wOf (S : Sce) (c : Str) : Int := match lk S.ca c with
  | some x => x.w
  | none => 0
def rkD (S : Sce) (c : Str) : PyData := .tuple [.int (-wOf S c), .str c]
def orderF (S : Sce) : List Str := sortBy (rkD S) (ky S.ca)
theorem order_perm (S : Sce) : (orderF S).Perm (ky S.ca) := List.mergeSort_perm _ _
theorem mem_order {S : Sce} {c : Str} : c ∈ orderF S ↔ c ∈ ky S.ca := (order_perm S).mem_iff
theorem order_nd {S : Sce} (ok : S.Ok) : (orderF S).Nodup := (order_perm S).nodup_iff.mpr ok.nc
theorem order_len (S : Sce) : (orderF S).length = S.ca.length := by rw [(order_perm S).length_eq, List.length_map]
theorem alike_rk (S T : Sce) (a b : Str) : PySem.W.alike (rkD S a) (rkD T b) = true := by
  unfold rkD
  simp [PySem.W.alike, PySem.W.alikeAll]
theorem rk_alike (S : Sce) (ks : List Str) : PySem.W.AllAlike (ks.map (rkD S)) := PySem.W.AllAlike.of fun a b => alike_rk S S a b
theorem rk_sortable (S : Sce) (ks : List Str) : PySem.W.Sortable (ks.map (rkD S)) := PySem.W.Sortable.tuples fun c => ⟨_, _, rfl⟩
theorem rk_depth (S : Sce) (ks : List Str) : ∀ d ∈ ks.map (rkD S), d.depth ≤ 8 := fun d hd => by
  obtain ⟨c, _, rfl⟩ := List.mem_map.mp hd
  show PyData.depth (.tuple [.int _, .str _]) ≤ 8
  simp [PyData.depth, PyData.depthAll]
/-- a paper against a call: who it names, and that they are too many -/
structure PaperOk (S : Sce) (ks : List Str) (c : Str) (l : List Str) : Prop where
  srt : sortS l = l
  nd : l.Nodup
  mem : c ∈ l
  oth : ∀ x ∈ l, x = c ∨ (x ∈ ks ∧ ∃ A B, orderF S = A ++ c :: B ∧ x ∈ A)
  more : ∃ R : List Str, R.Nodup ∧ (∀ x ∈ l, ∀ m ∈ S.hd x, m ∈ R) ∧ (∀ m ∈ R, m ∈ ky S.ch) ∧ (R.map S.cap).sum < l.length
structure KeptR (S : Sce) (ks : List Str) (st : SSt) (pap : List (Str × List Str)) : Prop where
  ok : SOk S st
  g : Greedy S (orderF S) ks
  p : (ky st.seat).Perm ks
  pk : ky pap = (orderF S).filter fun c => decide (c ∉ ks)
  pp : ∀ q ∈ pap, PaperOk S ks q.1 q.2
/-- .. when so many calls were gone through -/
structure KeptI (S : Sce) (i : Nat) (ks : List Str) (st : SSt) (pap : List (Str × List Str)) : Prop where
  ok : SOk S st
  g : Greedy S ((orderF S).take i) ks
  p : (ky st.seat).Perm ks
  pk : ky pap = ((orderF S).take i).filter fun c => decide (c ∉ ks)
  pp : ∀ q ∈ pap, PaperOk S ks q.1 q.2
theorem kept0 (S : Sce) : KeptI S 0 [] noSeats [] := ⟨noSeats_ok S, by rw [List.take_zero]; exact .nil, .refl _, by rw [List.take_zero]; rfl, fun _ h => (nomatch h)⟩
theorem KeptI.new {S : Sce} (ok : S.Ok) {i : Nat} {ks : List Str} {st : SSt} {pap : List (Str × List Str)} (k : KeptI S i ks st pap) {c : Str} (hc : (orderF S)[i]? = some c) : c ∈ ky S.ca ∧ c ∉ ky st.seat ∧ c ∉ ks ∧ c ∉ (orderF S).take i := by
  have htk : (orderF S).take (i + 1) = (orderF S).take i ++ [c] := by rw [List.take_succ, hc]; rfl
  have hn : c ∉ (orderF S).take i := fun z => by
    have nd : ((orderF S).take (i + 1)).Nodup := (List.take_sublist _ _).nodup (order_nd ok)
    rw [htk, List.nodup_append] at nd
    exact nd.2.2 c z c List.mem_cons_self rfl
  have hk : c ∉ ks := fun z => hn (k.g.sub.subset z)
  exact ⟨mem_order.mp (List.mem_of_getElem? hc), fun z => hk (k.p.mem_iff.mp z), hk, hn⟩
theorem PaperOk.more_ks {S : Sce} {ks : List Str} {c d : Str} {l : List Str} (h : PaperOk S ks c l) : PaperOk S (ks ++ [d]) c l := ⟨h.srt, h.nd, h.mem, fun x hx => (h.oth x hx).imp_right fun z => ⟨List.mem_append_left _ z.1, z.2⟩, h.more⟩
theorem KeptI.yes {S : Sce} (ok : S.Ok) {i : Nat} {ks : List Str} {st st' : SSt} {pap : List (Str × List Str)} (k : KeptI S i ks st pap) {c : Str} (hc : (orderF S)[i]? = some c) (a : Added S st c true st') : KeptI S (i + 1) (ks ++ [c]) st' pap := by
  obtain ⟨h1, h2, h3, h4⟩ := k.new ok hc
  have htk : (orderF S).take (i + 1) = (orderF S).take i ++ [c] := by rw [List.take_succ, hc]; rfl
  refine ⟨a.ok, by rw [htk]; exact k.g.yes ((a.iff k.ok h2 k.p).mp rfl), a.perm k.ok h2 k.p, ?_, fun q hq => (k.pp q hq).more_ks⟩
  rw [htk, List.filter_append, List.filter_cons_of_neg (by simp), List.filter_nil, List.append_nil, k.pk]
  apply List.filter_congr
  intro x hx
  have : x ≠ c := fun e => h4 (e ▸ hx)
  simp [this]
theorem KeptI.no {S : Sce} (ok : S.Ok) {i : Nat} {ks : List Str} {st : SSt} {pap : List (Str × List Str)} (k : KeptI S i ks st pap) {c : Str} (hc : (orderF S)[i]? = some c) (hn : ¬ S.Can (ks ++ [c])) {came : List (Str × Str)} (w : Ways S st c came none) :
    KeptI S (i + 1) ks st (pap ++ [(c, sortS (c :: onAll st (ky came)))]) := by
  obtain ⟨h1, h2, h3, h4⟩ := k.new ok hc
  have htk : (orderF S).take (i + 1) = (orderF S).take i ++ [c] := by rw [List.take_succ, hc]; rfl
  obtain ⟨w1, w2, w3⟩ := w.no rfl
  have nd1 : (c :: onAll st (ky came)).Nodup := by
    rw [List.nodup_cons]
    refine ⟨fun z => ?_, onAll_nd k.ok w.chn.nd⟩
    obtain ⟨m, _, z⟩ := List.mem_flatMap.mp z
    exact h2 (lk_isSome.mp (by rw [(k.ok.on m c).mp z]; rfl))
  have hmem : ∀ x, x ∈ sortS (c :: onAll st (ky came)) ↔ x ∈ c :: onAll st (ky came) := fun x => (sortS_perm _).mem_iff
  refine ⟨k.ok, by rw [htk]; exact k.g.no hn, k.p, ?_, fun q hq => ?_⟩
  · rw [ky_app, htk, List.filter_append, List.filter_cons_of_pos (by simpa using h3), k.pk]
    rfl
  · rcases List.mem_append.mp hq with hq | hq
    · exact k.pp q hq
    · rw [List.mem_singleton.mp hq]
      refine ⟨sortS_idem _, (sortS_perm _).nodup_iff.mpr nd1, (hmem c).mpr List.mem_cons_self, fun x hx => ?_, ky came, w.chn.nd, fun x hx m hm => ?_, w.chn.hdk ok, ?_⟩
      · rcases List.mem_cons.mp ((hmem x).mp hx) with e | hx
        · exact .inl e
        · obtain ⟨m, _, z⟩ := List.mem_flatMap.mp hx
          have hxk : x ∈ ks := k.p.mem_iff.mp (lk_isSome.mp (by rw [(k.ok.on m x).mp z]; rfl))
          refine .inr ⟨hxk, (orderF S).take i, (orderF S).drop (i + 1), ?_, k.g.sub.subset hxk⟩
          have hi := (List.getElem?_eq_some_iff.mp hc).1
          have e1 := List.drop_eq_getElem_cons hi
          have e2 : (orderF S)[i] = c := by have := List.getElem?_eq_getElem hi; rw [hc] at this; exact (Option.some.inj this).symm
          rw [e2] at e1
          rw [← e1, List.take_append_drop]
      · rcases List.mem_cons.mp ((hmem x).mp hx) with rfl | hx
        · exact w2 m hm
        · obtain ⟨m0, hm0, z⟩ := List.mem_flatMap.mp hx
          exact w3 m0 hm0 x z m hm
      · rw [(sortS_perm _).length_eq, List.length_cons, onAll_len]
        have := sum_le (ky came) S.cap (fun m => (st.on m).length) fun m hm => Nat.le_of_not_lt (w1 m hm)
        omega
theorem KeptI.end {S : Sce} {ks : List Str} {st : SSt} {pap : List (Str × List Str)} (k : KeptI S (orderF S).length ks st pap) : KeptR S ks st pap := by
  have g := k.g
  have pk := k.pk
  rw [List.take_length] at g pk
  exact ⟨k.ok, g, k.p, pk, k.pp⟩
theorem KeptR.lot {S : Sce} {ks : List Str} {st : SSt} {pap : List (Str × List Str)} (k : KeptR S ks st pap) : sortS (ky st.seat) = sortS ks := sortS_congr k.p
theorem KeptR.pnd {S : Sce} (ok : S.Ok) {ks : List Str} {st : SSt} {pap : List (Str × List Str)} (k : KeptR S ks st pap) : (ky pap).Nodup := by rw [k.pk]; exact (order_nd ok).filter _
theorem KeptR.plen {S : Sce} {ks : List Str} {st : SSt} {pap : List (Str × List Str)} (k : KeptR S ks st pap) : pap.length ≤ S.ca.length := by
  have h1 := congrArg List.length k.pk
  have h2 := List.length_filter_le (fun c => decide (c ∉ ks)) (orderF S)
  rw [order_len] at h2
  rw [List.length_map] at h1
  omega
/-! ### more channels -/
def addI (n : Nat) (i : Int) : Nat := ((n : Int) + i).toNat
def moreF (S : Sce) (more : List (Str × Int)) : Sce := ⟨S.ch.map fun q => (q.1, addI q.2 ((lk more q.1).getD 0)), S.ca⟩
structure MoreOk (S : Sce) (more : List (Str × Int)) : Prop where
  fit : ∀ q ∈ S.ch, 0 ≤ (q.2 : Int) + (lk more q.1).getD 0 ∧ (q.2 : Int) + (lk more q.1).getD 0 ≤ 1000
theorem ky_more (S : Sce) (more : List (Str × Int)) : ky (moreF S more).ch = ky S.ch := by
  unfold moreF ky
  rw [List.map_map]
  rfl
theorem more_in {S : Sce} (ok : S.Ok) {more : List (Str × Int)} (h : MoreOk S more) : ScIn (moreF S more).ch S.ca := by
  refine ⟨by rw [ky_more]; exact ok.nm, ok.nc, by show (S.ch.map _).length ≤ 63; rw [List.length_map]; exact ok.lm, ok.lc, fun q hq => ?_, fun q hq => ?_⟩
  · obtain ⟨p, hp, rfl⟩ := List.mem_map.mp hq
    refine ⟨(ok.mn p hp).1, ?_⟩
    have := h.fit p hp
    show addI _ _ ≤ 1000
    unfold addI
    omega
  · obtain ⟨h1, h2, h3⟩ := ok.cn q hq
    obtain ⟨h4, h5⟩ := ok.hd q.1 q.2 (lk_of ok.nc hq)
    exact ⟨h1, h2, h3, h4, by rw [ky_more]; exact h5⟩
theorem more_self {S : Sce} (ok : S.Ok) {more : List (Str × Int)} : sceOf (moreF S more).ch S.ca = moreF S more := by
  show Sce.mk _ _ = Sce.mk _ _
  rw [sortK_self (by rw [ky_more]; exact ok.nm) (by rw [ky_more]; exact ok.am), sortK_self ok.nc ok.ac]
  rfl
theorem more_ok {S : Sce} (ok : S.Ok) {more : List (Str × Int)} (h : MoreOk S more) : (moreF S more).Ok := by
  have := (more_in ok h).ok
  rw [more_self ok] at this
  exact this
theorem more_hd (S : Sce) (more : List (Str × Int)) : (moreF S more).hd = S.hd := rfl
theorem more_order (S : Sce) (more : List (Str × Int)) : orderF (moreF S more) = orderF S := rfl
theorem more_cap {S : Sce} {more : List (Str × Int)} {m : Str} (hm : m ∈ ky S.ch) : (moreF S more).cap m = addI (S.cap m) ((lk more m).getD 0) := by
  unfold Sce.cap moreF
  have hs := lk_isSome.mpr hm
  have e : lk (S.ch.map fun q => (q.1, addI q.2 ((lk more q.1).getD 0))) m = (lk S.ch m).map fun n => addI n ((lk more m).getD 0) := by
    clear hs hm
    generalize S.ch = l
    induction l with
    | nil => rfl
    | cons p l ih =>
      rw [List.map_cons, lk_cons, lk_cons, ih]
      by_cases h : p.1 = m
      · subst h; simp
      · rw [if_neg h, if_neg h]
  rw [e]
  cases h : lk S.ch m with
  | none => rw [h] at hs; cases hs
  | some n => rfl
theorem more_cap0 {S : Sce} {more : List (Str × Int)} {m : Str} (hm : m ∉ ky S.ch) : (moreF S more).cap m = 0 ∧ S.cap m = 0 := by
  unfold Sce.cap
  have h1 : lk (moreF S more).ch m = none := lk_none.mpr (by rw [ky_more]; exact hm)
  rw [h1, lk_none.mpr hm]
  exact ⟨rfl, rfl⟩
/-! ### channels that lack -/
def isHeard (S : Sce) (c : Str) : Bool := !(S.hd c).isEmpty
def lackN (S : Sce) (ks : List Str) : List Str := (orderF S).filter fun c => decide (c ∉ ks)
def firstIs (S : Sce) (m c : Str) : Bool := decide ((S.hd c).head? = some m)
structure LackR (S : Sce) (ks : List Str) (more : List (Str × Nat)) : Prop where
  nd : (ky more).Nodup
  asc : sortS (ky more) = ky more
  mem : ∀ m ∈ ky more, m ∈ ky S.ch
  one : ∀ q ∈ more, 1 ≤ q.2
  ct : ∀ m, (lk more m).getD 0 = (lackN S ks).countP (firstIs S m)
abbrev toI (more : List (Str × Nat)) : List (Str × Int) := more.map fun q => (q.1, (q.2 : Int))
theorem lk_toI (more : List (Str × Nat)) (m : Str) : (lk (toI more) m).getD 0 = (((lk more m).getD 0 : Nat) : Int) := by
  unfold toI
  rw [lk_map (fun n : Nat => (n : Int))]
  cases lk more m <;> rfl
theorem split_all {S : Sce} (ok : S.Ok) {ks : List Str} (g : Greedy S (orderF S) ks) : (ks ++ lackN S ks).Perm (ky S.ca) := by
  have h : ks = (orderF S).filter fun c => decide (c ∈ ks) := by
    have p : ks.Perm ((orderF S).filter fun c => decide (c ∈ ks)) := (List.perm_ext_iff_of_nodup (g.sub.nodup (order_nd ok)) ((order_nd ok).filter _)).mpr fun c => by
      rw [List.mem_filter, decide_eq_true_iff]
      exact ⟨fun z => ⟨g.sub.subset z, z⟩, fun z => z.2⟩
    exact List.Sublist.eq_of_length (by
      have hz : ∀ (l s : List Str), s.Sublist l → l.Nodup → s = l.filter fun c => decide (c ∈ s) := by
        intro l s hs
        induction hs with
        | slnil => intro _; rfl
        | @cons s l a hs ih =>
          intro nd
          rw [List.nodup_cons] at nd
          rw [List.filter_cons_of_neg (by simpa using fun z => nd.1 (hs.subset z))]
          exact ih nd.2
        | @cons_cons s l a hs ih =>
          intro nd
          rw [List.nodup_cons] at nd
          rw [List.filter_cons_of_pos (by simp)]
          congr 1
          refine (ih nd.2).trans (List.filter_congr fun x hx => ?_)
          have : x ≠ a := fun e => nd.1 (e ▸ hx)
          simp [this]
      rw [← hz _ _ g.sub (order_nd ok)]
      exact List.Sublist.refl _) p.length_eq
  refine List.Perm.trans ?_ (order_perm S)
  have hp := List.filter_append_perm (fun c => decide (c ∈ ks)) (orderF S)
  have e : (orderF S).filter (fun c => !decide (c ∈ ks)) = lackN S ks := List.filter_congr fun c _ => by simp
  rw [e, ← h] at hp
  exact hp
theorem lack_hd {S : Sce} {c : Str} (h : isHeard S c = true) : ∃ m, (S.hd c).head? = some m ∧ m ∈ S.hd c := by
  unfold isHeard at h
  cases e : S.hd c with
  | nil => rw [e] at h; cases h
  | cons m r => exact ⟨m, rfl, List.mem_cons_self⟩
theorem kept_heard {S : Sce} {ks : List Str} (h : S.Can ks) {c : Str} (hc : c ∈ ks) : isHeard S c = true := by
  obtain ⟨f, h1, _⟩ := h
  have := h1 c hc
  unfold isHeard
  cases e : S.hd c with
  | nil => rw [e] at this; cases this
  | cons _ _ => rfl
/-- with these channels more all that are heard can be seated -/
theorem lack_can {S : Sce} (ok : S.Ok) {ks : List Str} {more : List (Str × Nat)} (g : Greedy S (orderF S) ks) (r : LackR S ks more) : (moreF S (toI more)).Can ((ky S.ca).filter (isHeard S)) := by
  have hp := (split_all ok g).filter (isHeard S)
  refine CanSeat.perm hp ?_
  obtain ⟨f, h1, h2⟩ := g.can
  have hks : ks.filter (isHeard S) = ks := List.filter_eq_self.mpr fun c hc => kept_heard g.can hc
  rw [List.filter_append, hks]
  have hdis : ∀ c ∈ (lackN S ks).filter (isHeard S), c ∉ ks := fun c hc => of_decide_eq_true (List.mem_filter.mp (List.mem_filter.mp hc).1).2
  refine ⟨fun c => if c ∈ ks then f c else ((S.hd c).head?).getD c, fun c hc => ?_, fun m => ?_⟩
  · rw [more_hd]
    by_cases z : c ∈ ks
    · show (if c ∈ ks then f c else ((S.hd c).head?).getD c) ∈ _
      rw [if_pos z]; exact h1 c z
    · show (if c ∈ ks then f c else ((S.hd c).head?).getD c) ∈ _
      rw [if_neg z]
      obtain ⟨m, e, hm⟩ := lack_hd (List.mem_filter.mp ((List.mem_append.mp hc).resolve_left z)).2
      rw [e]
      exact hm
  · rw [List.countP_append]
    have e1 : (ks.countP fun c => decide ((if c ∈ ks then f c else ((S.hd c).head?).getD c) = m)) = ks.countP fun c => decide (f c = m) := List.countP_congr fun c hc => by rw [if_pos hc]
    have e2 : (((lackN S ks).filter (isHeard S)).countP fun c => decide ((if c ∈ ks then f c else ((S.hd c).head?).getD c) = m)) = (lackN S ks).countP (firstIs S m) := by
      rw [List.countP_filter]
      apply List.countP_congr
      intro c hc
      have hk : c ∉ ks := of_decide_eq_true (List.mem_filter.mp hc).2
      rw [if_neg hk]
      unfold firstIs isHeard
      cases e : S.hd c with
      | nil => simp
      | cons x r => simp; exact decide_eq_true_iff
    rw [e1, e2, ← r.ct m]
    have h3 := h2 m
    by_cases hm : m ∈ ky S.ch
    · rw [more_cap hm, lk_toI]
      unfold addI
      omega
    · have : (lk more m).getD 0 = 0 := by rw [lk_none.mpr fun z => hm (r.mem m z)]; rfl
      rw [(more_cap0 hm).1]
      rw [(more_cap0 (more := []) hm).2] at h3
      omega
/-- the calls that are too many are taken away -/
theorem trim {S : Sce} {cap' : Str → Nat} {R X : List Str} (nR : R.Nodup) (nX : X.Nodup) (f : Str → Str) (hR : ∀ c ∈ X, f c ∈ R) (hf : ∀ c ∈ X, f c ∈ S.hd c) (h2 : ∀ m, (X.countP fun c => decide (f c = m)) ≤ cap' m) :
    ∃ Y : List Str, Y.Nodup ∧ (∀ c ∈ Y, c ∈ X) ∧ S.Can Y ∧ X.length ≤ Y.length + (R.map fun m => cap' m - S.cap m).sum := by
  have part : ∀ m c, c ∈ (X.filter fun c => decide (f c = m)).take (S.cap m) → c ∈ X ∧ f c = m := fun m c hc => by
    have := List.mem_of_mem_take hc
    rw [List.mem_filter, decide_eq_true_iff] at this
    exact this
  refine ⟨R.flatMap fun m => (X.filter fun c => decide (f c = m)).take (S.cap m), ?_, fun c hc => ?_, ⟨f, fun c hc => ?_, fun m => ?_⟩, ?_⟩
  · clear hR h2 hf
    induction R with
    | nil => exact List.nodup_nil
    | cons m R ih =>
      rw [List.nodup_cons] at nR
      rw [List.flatMap_cons, List.nodup_append]
      refine ⟨(List.take_sublist _ _).nodup (nX.filter _), ih nR.2, fun a ha b hb e => ?_⟩
      obtain ⟨m', h1, h2⟩ := List.mem_flatMap.mp hb
      have e1 := (part m a ha).2
      have e2 := (part m' b h2).2
      rw [← e, e1] at e2
      exact nR.1 (e2 ▸ h1)
  · obtain ⟨m, _, h⟩ := List.mem_flatMap.mp hc
    exact (part m c h).1
  · obtain ⟨m, _, h⟩ := List.mem_flatMap.mp hc
    exact hf c (part m c h).1
  · have h3 : ((R.flatMap fun m => (X.filter fun c => decide (f c = m)).take (S.cap m)).countP fun c => decide (f c = m)) ≤ ((X.filter fun c => decide (f c = m)).take (S.cap m)).length := by
      clear hR h2
      induction R with
      | nil => exact Nat.zero_le _
      | cons x R ih =>
        rw [List.nodup_cons] at nR
        rw [List.flatMap_cons, List.countP_append]
        have ih := ih nR.2
        by_cases e : x = m
        · subst e
          have z : ((R.flatMap fun m => (X.filter fun c => decide (f c = m)).take (S.cap m)).countP fun c => decide (f c = x)) = 0 := by
            rw [List.countP_eq_zero]
            intro c hc
            obtain ⟨m', h1, h2⟩ := List.mem_flatMap.mp hc
            have e2 := (part m' c h2).2
            simp only [decide_eq_true_eq]
            exact fun q => nR.1 (q ▸ e2 ▸ h1)
          rw [z]
          exact List.countP_le_length
        · have z : (((X.filter fun c => decide (f c = x)).take (S.cap x)).countP fun c => decide (f c = m)) = 0 := by
            rw [List.countP_eq_zero]
            intro c hc
            have e2 := (part x c hc).2
            simp only [decide_eq_true_eq]
            exact fun q => e (e2 ▸ q)
          omega
    refine Nat.le_trans h3 ?_
    rw [List.length_take]
    exact Nat.min_le_left _ _
  · have e := count_sum nR f hR
    rw [List.length_flatMap, e, ← sum_add]
    refine sum_le _ _ _ fun m _ => ?_
    rw [List.length_take, ← List.countP_eq_length_filter]
    have := h2 m
    omega
/-- with fewer channels, however dealt out, they can't -/
theorem lack_least {S : Sce} (ok : S.Ok) {ks : List Str} {row : List (Str × Nat)} (g : Greedy S (orderF S) ks) (hk : ky row = ky S.ch) (lt : (row.map fun q => q.2).sum < ((lackN S ks).filter (isHeard S)).length) :
    ¬ (moreF S (toI row)).Can ((ky S.ca).filter (isHeard S)) := fun can => by
  have hp := (split_all ok g).filter (isHeard S)
  have hks : ks.filter (isHeard S) = ks := List.filter_eq_self.mpr fun c hc => kept_heard g.can hc
  have nH : ((ky S.ca).filter (isHeard S)).Nodup := ok.nc.filter _
  obtain ⟨f, h1, h2⟩ := can
  obtain ⟨Y, y1, y2, y3, y4⟩ := trim (S := S) (cap' := (moreF S (toI row)).cap) ok.nm nH f (fun c hc => ok.hdm (h1 c hc)) h1 h2
  have ym := g.max ok (order_nd ok) (fun c hc => mem_order.mp hc) y1 (fun c hc => mem_order.mpr (List.mem_filter.mp (y2 c hc)).1) y3
  have hl := hp.length_eq
  rw [List.filter_append, hks, List.length_append] at hl
  have hs : ((ky S.ch).map fun m => (moreF S (toI row)).cap m - S.cap m).sum = (row.map fun q => q.2).sum := by
    have ndr : (ky row).Nodup := by rw [hk]; exact ok.nm
    have e1 : ((ky S.ch).map fun m => (moreF S (toI row)).cap m - S.cap m) = (ky S.ch).map fun m => (lk row m).getD 0 := List.map_congr_left fun m hm => by
      rw [more_cap hm, lk_toI]
      unfold addI
      omega
    rw [e1, ← hk, ky, List.map_map]
    congr 1
    apply List.map_congr_left
    intro q hq
    show (lk row q.1).getD 0 = q.2
    rw [lk_of ndr (k := q.1) (v := q.2) hq]
    rfl
  omega
/-- how many lack in sum -/
theorem lack_sum {S : Sce} (ok : S.Ok) {ks : List Str} {more : List (Str × Nat)} (r : LackR S ks more) : (more.map fun q => q.2).sum = ((lackN S ks).filter (isHeard S)).length := by
  have h : ∀ c ∈ (lackN S ks).filter (isHeard S), ((S.hd c).head?).getD c ∈ ky more := fun c hc => by
    obtain ⟨hc1, hc2⟩ := List.mem_filter.mp hc
    obtain ⟨m, e, hm⟩ := lack_hd hc2
    rw [e]
    show m ∈ ky more
    apply Classical.byContradiction
    intro z
    have := r.ct m
    rw [lk_none.mpr z] at this
    have pos : 0 < (lackN S ks).countP (firstIs S m) := List.countP_pos_iff.mpr ⟨c, hc1, by unfold firstIs; rw [e]; simp⟩
    have this : 0 = (lackN S ks).countP (firstIs S m) := this
    omega
  have e := count_sum r.nd (fun c => ((S.hd c).head?).getD c) h
  rw [e, ky, List.map_map]
  congr 1
  apply List.map_congr_left
  intro q hq
  have hc := r.ct q.1
  rw [lk_of r.nd (k := q.1) (v := q.2) hq] at hc
  have hc : q.2 = (lackN S ks).countP (firstIs S q.1) := hc
  show q.2 = ((lackN S ks).filter (isHeard S)).countP fun c => decide (((S.hd c).head?).getD c = q.1)
  rw [hc, List.countP_filter]
  apply List.countP_congr
  intro c _
  unfold firstIs isHeard
  cases e : S.hd c with
  | nil => simp
  | cons x r => simp; exact decide_eq_true_iff.symm
/-- the lot when all that are heard can be seated; when they can't -/
theorem lot_heard {S : Sce} (ok : S.Ok) {ks : List Str} (g : Greedy S (orderF S) ks) : ks.Perm ((ky S.ca).filter (isHeard S)) ↔ S.Can ((ky S.ca).filter (isHeard S)) := by
  constructor
  · exact fun p => g.can.perm p
  · intro can
    have e := g.all (isHeard S) (can.perm ((order_perm S).symm.filter _)) fun c _ h => by
      unfold isHeard at h
      cases e : S.hd c with
      | nil => rfl
      | cons _ _ => rw [e] at h; cases h
    rw [e]
    exact (order_perm S).filter _

/-! ### the order of calls in plain words -/
def rkLe (S : Sce) (a b : Str) : Bool := leD (rkD S a) (rkD S b)
theorem rk_iff (S : Sce) (a b : Str) : rkLe S a b = true ↔ wOf S b < wOf S a ∨ (wOf S a = wOf S b ∧ leS a b = true) := by
  have e : PySem.W.dataLt (rkD S b) (rkD S a) = if -wOf S b = -wOf S a then (if b = a then false else decide (b.cps.toList < a.cps.toList)) else decide (-wOf S b < -wOf S a) := by
    unfold rkD
    rw [PySem.W.dataLt_pair (by simp [PySem.W.alike]) (by simp [PySem.W.alike]), eqv_int, eqv_str, PySem.W.dataLt_int, PySem.W.dataLt_str]
    simp only [decide_eq_true_eq]
  unfold rkLe leD
  rw [e, leS_iff]
  by_cases h : wOf S a = wOf S b
  · have h2 : -wOf S b = -wOf S a := by omega
    rw [if_pos h2]
    by_cases z : b = a
    · subst z; simp
    · rw [if_neg z, Bool.not_eq_true', decide_eq_false_iff_not, List.not_lt]
      constructor
      · exact fun q => .inr ⟨h, q⟩
      · rintro (q | q)
        · omega
        · exact q.2
  · have h2 : ¬ -wOf S b = -wOf S a := by omega
    rw [if_neg h2, Bool.not_eq_true', decide_eq_false_iff_not]
    constructor
    · intro q; exact .inl (by omega)
    · rintro (q | q)
      · omega
      · exact absurd q.1 h
theorem rk_refl (S : Sce) (a : Str) : rkLe S a a = true := (rk_iff S a a).mpr (.inr ⟨rfl, (leS_iff a a).mpr (List.le_refl _)⟩)
theorem rk_trans (S : Sce) (a b c : Str) (h1 : rkLe S a b = true) (h2 : rkLe S b c = true) : rkLe S a c = true := by
  rw [rk_iff] at *
  rcases h1 with h1 | h1 <;> rcases h2 with h2 | h2
  · exact .inl (by omega)
  · exact .inl (by omega)
  · exact .inl (by omega)
  · exact .inr ⟨by omega, leS_trans a b c h1.2 h2.2⟩
theorem rk_total (S : Sce) (a b : Str) : (rkLe S a b || rkLe S b a) = true := by
  rw [Bool.or_eq_true, rk_iff, rk_iff]
  have h := leS_total a b
  rw [Bool.or_eq_true] at h
  rcases Int.lt_trichotomy (wOf S a) (wOf S b) with q | q | q
  · exact .inr (.inl q)
  · rcases h with h | h
    · exact .inl (.inr ⟨q, h⟩)
    · exact .inr (.inr ⟨q.symm, h⟩)
  · exact .inl (.inl q)
theorem rk_anti (S : Sce) {a b : Str} (h1 : rkLe S a b = true) (h2 : rkLe S b a = true) : a = b := by
  rw [rk_iff] at *
  rcases h1 with h1 | h1 <;> rcases h2 with h2 | h2
  · omega
  · omega
  · omega
  · exact leS_anti a b h1.2 h2.2
theorem order_pw (S : Sce) : (orderF S).Pairwise fun a b => rkLe S a b = true := List.pairwise_mergeSort (le := rkLe S) (rk_trans S) (rk_total S) (ky S.ca)
/-- who stands before a call -/
theorem order_bef {S : Sce} (ok : S.Ok) {A B : List Str} {c : Str} (e : orderF S = A ++ c :: B) (d : Str) : d ∈ A ↔ d ∈ ky S.ca ∧ d ≠ c ∧ rkLe S d c = true := by
  have pw := order_pw S
  have nd := order_nd ok
  rw [e] at pw nd
  rw [List.pairwise_append, List.pairwise_cons] at pw
  rw [List.nodup_append, List.nodup_cons] at nd
  constructor
  · intro h
    exact ⟨mem_order.mp (by rw [e]; exact List.mem_append_left _ h), fun z => nd.2.2 d h c List.mem_cons_self z, pw.2.2 d h c List.mem_cons_self⟩
  · rintro ⟨h1, h2, h3⟩
    have h1 := mem_order.mpr h1
    rw [e, List.mem_append, List.mem_cons] at h1
    rcases h1 with h1 | h1 | h1
    · exact h1
    · exact absurd h1 h2
    · exact absurd (rk_anti S h3 (pw.2.1.1 d h1)) h2
/-! ### masts that hear some calls -/
theorem sortS_filter {l : List Str} (h : sortS l = l) (p : Str → Bool) : sortS (l.filter p) = l.filter p := by
  refine (sortS_uniq (List.Perm.refl _) ?_).symm
  have := List.pairwise_mergeSort (le := leS) leS_trans leS_total l
  rw [show l.mergeSort leS = sortS l from rfl, h] at this
  exact this.filter p
def mastsF (S : Sce) (ns : List Str) : List Str := (ky S.ch).filter fun m => ns.any fun c => decide (m ∈ S.hd c)
theorem mem_mastsF {S : Sce} (ok : S.Ok) {ns : List Str} {m : Str} : m ∈ mastsF S ns ↔ ∃ c ∈ ns, m ∈ S.hd c := by
  unfold mastsF
  rw [List.mem_filter, List.any_eq_true]
  constructor
  · rintro ⟨_, c, h1, h2⟩; exact ⟨c, h1, of_decide_eq_true h2⟩
  · rintro ⟨c, h1, h2⟩; exact ⟨ok.hdm h2, c, h1, decide_eq_true h2⟩
theorem nd_mastsF {S : Sce} (ok : S.Ok) (ns : List Str) : (mastsF S ns).Nodup := ok.nm.filter _
theorem sum_perm {a b : List Nat} (p : a.Perm b) : a.sum = b.sum := by
  induction p with
  | nil => rfl
  | cons x _ ih => rw [List.sum_cons, List.sum_cons, ih]
  | swap x y l => simp only [List.sum_cons]; omega
  | trans _ _ h1 h2 => exact h1.trans h2
theorem sum_sub {cap : Str → Nat} {A R : List Str} (na : A.Nodup) (h : ∀ m ∈ A, m ∈ R) : (A.map cap).sum ≤ (R.map cap).sum := by
  induction A generalizing R with
  | nil => exact Nat.zero_le _
  | cons a A ih =>
    rw [List.nodup_cons] at na
    have p := List.perm_cons_erase (h a List.mem_cons_self)
    have ih := ih (R := R.erase a) na.2 fun m hm => (List.mem_erase_of_ne (fun z : m = a => na.1 (z ▸ hm))).mpr (h m (List.mem_cons_of_mem _ hm))
    have e := sum_perm (p.map cap)
    rw [List.map_cons, List.sum_cons] at e ⊢
    omega
theorem can_subset {S : Sce} {X Z : List Str} (nz : Z.Nodup) (h : ∀ z ∈ Z, z ∈ X) (cx : S.Can X) : S.Can Z := by
  obtain ⟨f, h1, h2⟩ := cx
  refine ⟨f, fun c hc => h1 c (h c hc), fun m => Nat.le_trans ?_ (h2 m)⟩
  rw [List.countP_eq_length_filter, List.countP_eq_length_filter]
  exact nd_len (nz.filter _) fun c hc => List.mem_filter.mpr ⟨h c (List.mem_filter.mp hc).1, (List.mem_filter.mp hc).2⟩
/-! ### a paper holds -/
def holdsF (S : Sce) (seat : List (Str × Str)) (name : Str) (lot : List Str) : Bool :=
  decide (name ∈ lot) && decide lot.Nodup && lot.all (fun c => decide (c ∈ ky S.ca)) && lot.all (fun c => decide (c = name) || (decide (c ∈ ky seat) && rkLe S c name)) && decide (((mastsF S lot).map S.cap).sum < lot.length)
theorem holds_not {S : Sce} (ok : S.Ok) {ks : List Str} {st : SSt} {pap : List (Str × List Str)} (k : KeptR S ks st pap) {name : Str} {lot : List Str} (h : holdsF S (sortK st.seat) name lot = true) : name ∉ ks := fun hn => by
  unfold holdsF at h
  simp only [Bool.and_eq_true, decide_eq_true_eq, List.all_eq_true, Bool.or_eq_true] at h
  obtain ⟨⟨⟨⟨_, h2⟩, _⟩, h4⟩, h5⟩ := h
  have hs : ∀ c ∈ lot, c ∈ ks := fun c hc => by
    rcases h4 c hc with rfl | ⟨z, _⟩
    · exact hn
    · rw [ky_sortK] at z
      exact k.p.mem_iff.mp ((sortS_perm _).mem_iff.mp z)
  have := count_le (nd_mastsF ok lot) (can_subset h2 hs k.g.can) fun c hc m hm => (mem_mastsF ok).mpr ⟨c, hc, hm⟩
  omega
theorem paper_mem {S : Sce} {ks : List Str} {st : SSt} {pap : List (Str × List Str)} (k : KeptR S ks st pap) {name : Str} (hc : name ∈ ky S.ca) (hn : name ∉ ks) : ∃ l, (name, l) ∈ pap ∧ PaperOk S ks name l := by
  have : name ∈ ky pap := by
    rw [k.pk, List.mem_filter]
    exact ⟨mem_order.mpr hc, decide_eq_true hn⟩
  obtain ⟨q, hq, rfl⟩ := List.mem_map.mp this
  exact ⟨q.2, hq, k.pp q hq⟩
theorem paper_holds {S : Sce} (ok : S.Ok) {ks : List Str} {st : SSt} {pap : List (Str × List Str)} (k : KeptR S ks st pap) {name : Str} {l lot : List Str} (h : PaperOk S ks name l) (hc : name ∈ ky S.ca) (p : lot.Perm l) : holdsF S (sortK st.seat) name lot = true := by
  have hk : ∀ x ∈ ks, x ∈ ky S.ca := fun x hx => mem_order.mp (k.g.sub.subset hx)
  unfold holdsF
  simp only [Bool.and_eq_true, decide_eq_true_eq, List.all_eq_true, Bool.or_eq_true]
  refine ⟨⟨⟨⟨p.mem_iff.mpr h.mem, p.nodup_iff.mpr h.nd⟩, fun c hc' => ?_⟩, fun c hc' => ?_⟩, ?_⟩
  · rcases h.oth c (p.mem_iff.mp hc') with rfl | ⟨z, _⟩
    · exact hc
    · exact hk c z
  · rcases h.oth c (p.mem_iff.mp hc') with rfl | ⟨z, A, B, e, hA⟩
    · exact .inl rfl
    · refine .inr ⟨?_, ((order_bef ok e c).mp hA).2.2⟩
      rw [ky_sortK]
      exact (sortS_perm _).mem_iff.mpr (k.p.mem_iff.mpr z)
  · obtain ⟨R, r1, r2, r3, r4⟩ := h.more
    have := sum_sub (cap := S.cap) (nd_mastsF ok lot) fun m hm => by
      obtain ⟨c, h1, h2⟩ := (mem_mastsF ok).mp hm
      exact r2 c (p.mem_iff.mp h1) m h2
    rw [p.length_eq]
    omega
/-! ### all lots of some calls -/
def lotsF (names : List Str) : List (List Str) := names.foldl (fun acc n => acc ++ acc.map fun l => l ++ [n]) [[]]
theorem lots_snoc (names : List Str) (n : Str) : lotsF (names ++ [n]) = lotsF names ++ (lotsF names).map fun l => l ++ [n] := by unfold lotsF; rw [List.foldl_append]; rfl
theorem lots_len (names : List Str) : (lotsF names).length = 2 ^ names.length := by
  refine snoc_ind (p := fun names => (lotsF names).length = 2 ^ names.length) rfl (fun l x ih => ?_) names
  rw [lots_snoc, List.length_append, List.length_map, ih, List.length_append, List.length_singleton, Nat.pow_succ]
  omega
theorem mem_lots (names : List Str) : ∀ l, l ∈ lotsF names ↔ l.Sublist names := by
  refine snoc_ind (p := fun names => ∀ l, l ∈ lotsF names ↔ l.Sublist names) (fun l => ?_) (fun names x ih l => ?_) names
  · show l ∈ [[]] ↔ _
    rw [List.mem_singleton, List.sublist_nil]
  · rw [lots_snoc, List.mem_append, List.mem_map, ih]
    constructor
    · rintro (h | ⟨r, h, rfl⟩)
      · exact h.trans (List.sublist_append_left _ _)
      · exact ((ih r).mp h).append (List.Sublist.refl _)
    · intro h
      obtain ⟨l1, l2, e, h1, h2⟩ := List.sublist_append_iff.mp h
      rcases l2 with _ | ⟨y, l2⟩
      · rw [List.append_nil] at e; subst e; exact .inl h1
      · have hy : y = x ∧ l2 = [] := by
          cases h2 with
          | cons _ h2 => cases h2
          | cons_cons _ h2 => exact ⟨rfl, List.sublist_nil.mp h2⟩
        obtain ⟨rfl, rfl⟩ := hy
        exact .inr ⟨l1, (ih l1).mpr h1, e.symm⟩
theorem holds_any {S : Sce} (ok : S.Ok) {ks : List Str} {st : SSt} {pap : List (Str × List Str)} (k : KeptR S ks st pap) {name : Str} (hc : name ∈ ky S.ca) : (lotsF (ky S.ca)).any (holdsF S (sortK st.seat) name) = decide (name ∉ ks) := by
  rw [Bool.eq_iff_iff, List.any_eq_true, decide_eq_true_eq]
  constructor
  · rintro ⟨lot, _, h⟩; exact holds_not ok k h
  · intro hn
    obtain ⟨l, _, h⟩ := paper_mem k hc hn
    have hsub : ∀ x ∈ l, x ∈ ky S.ca := fun x hx => by
      rcases h.oth x hx with rfl | ⟨z, _⟩
      · exact hc
      · exact mem_order.mp (k.g.sub.subset z)
    refine ⟨(ky S.ca).filter fun c => decide (c ∈ l), (mem_lots _ _).mpr List.filter_sublist, paper_holds ok k h hc ?_⟩
    refine (List.perm_ext_iff_of_nodup (ok.nc.filter _) h.nd).mpr fun c => ?_
    rw [List.mem_filter, decide_eq_true_iff]
    exact ⟨fun z => z.2, fun z => ⟨hsub c z, z⟩⟩
theorem dcn_lt : ∀ l : List Str, ¬ l.Nodup → dcn l < l.length := by
  intro l
  refine snoc_ind (p := fun l => ¬ l.Nodup → dcn l < l.length) (fun h => absurd List.nodup_nil h) (fun l x ih h => ?_) l
  rw [dcn_snoc, List.length_append, List.length_singleton]
  by_cases z : l.Nodup
  · have hx : x ∈ l := by
      apply Classical.byContradiction
      intro q
      refine h ?_
      rw [List.nodup_append]
      exact ⟨z, by simp, fun a ha b hb e => q (List.mem_singleton.mp hb ▸ e ▸ ha)⟩
    rw [if_pos (show (l.any fun y => y == x) = true from List.any_eq_true.mpr ⟨x, hx, beq_self_eq_true x⟩)]
    have := dcn_le l
    omega
  · have := ih z
    split <;> omega
theorem dcn_dec (l : List Str) : (!decide ((dcn l : Int) = (l.length : Int))) = !decide l.Nodup := by
  by_cases z : l.Nodup
  · rw [dcn_nodup l z]; simp [z]
  · have := dcn_lt l z
    rw [decide_eq_false z, decide_eq_false (by omega)]

/-! ### who isn't kept is blocked by calls before: told without the lot that is kept -/
theorem Greedy.split {S : Sce} {A : List Str} {c : Str} (hA : c ∉ A) : ∀ {B ks : List Str}, c ∉ B → Greedy S (A ++ c :: B) ks → ∃ k1, Greedy S A k1 ∧ (c ∈ ks ↔ S.Can (k1 ++ [c])) := by
  intro B
  refine snoc_ind (p := fun B => ∀ {ks : List Str}, c ∉ B → Greedy S (A ++ c :: B) ks → ∃ k1, Greedy S A k1 ∧ (c ∈ ks ↔ S.Can (k1 ++ [c]))) ?_ ?_ B
  · intro ks _ g
    rcases g.inv with ⟨h, _⟩ | ⟨os, k, d, h, g2, h3, h4⟩ | ⟨os, d, h, g2, h3⟩
    · simp at h
    · obtain ⟨rfl, e⟩ := List.append_inj' h rfl
      cases e
      exact ⟨k, g2, by rw [h4]; exact ⟨fun _ => h3, fun _ => List.mem_append_right _ List.mem_cons_self⟩⟩
    · obtain ⟨rfl, e⟩ := List.append_inj' h rfl
      cases e
      exact ⟨ks, g2, fun z => absurd (g2.sub.subset z) hA, fun z => absurd z h3⟩
  · intro B d ih ks hB g
    rw [List.mem_append, List.mem_singleton] at hB
    have e : A ++ c :: (B ++ [d]) = (A ++ c :: B) ++ [d] := by simp
    rw [e] at g
    rcases g.inv with ⟨h, _⟩ | ⟨os, k, d', h, g2, h3, h4⟩ | ⟨os, d', h, g2, h3⟩
    · simp at h
    · obtain ⟨rfl, e⟩ := List.append_inj' h rfl
      cases e
      obtain ⟨k1, q1, q2⟩ := ih (fun z => hB (.inl z)) g2
      refine ⟨k1, q1, ?_⟩
      rw [← q2, h4, List.mem_append, List.mem_singleton]
      exact ⟨fun z => z.resolve_right fun w => hB (.inr w), .inl⟩
    · obtain ⟨rfl, e⟩ := List.append_inj' h rfl
      cases e
      exact ih (fun z => hB (.inl z)) g2
structure Blk0 (S : Sce) (c : Str) (R Z : List Str) : Prop where
  nr : R.Nodup
  nz : Z.Nodup
  bef : ∀ z ∈ Z, z ∈ ky S.ca ∧ z ≠ c ∧ rkLe S z c = true
  can : S.Can Z
  own : ∀ m ∈ S.hd c, m ∈ R
  hd : ∀ z ∈ Z, ∀ m ∈ S.hd z, m ∈ R
  sum : (R.map S.cap).sum ≤ Z.length
def Blocked (S : Sce) (c : Str) : Prop := ∃ R Z, Blk0 S c R Z
theorem extend {S : Sce} (ok : S.Ok) {Y : List Str} (ny : Y.Nodup) (hY : ∀ c ∈ Y, c ∈ ky S.ca) (cy : S.Can Y) : ∀ (n : Nat) (X : List Str), Y.length - X.length ≤ n → X.Nodup → (∀ c ∈ X, c ∈ ky S.ca) → S.Can X → ∃ W : List Str, W.Nodup ∧ (∀ x ∈ X, x ∈ W) ∧ (∀ w ∈ W, w ∈ X ∨ w ∈ Y) ∧ S.Can W ∧ Y.length ≤ W.length := by
  intro n
  induction n with
  | zero => intro X h nx hX cx; exact ⟨X, nx, fun _ h => h, fun _ h => .inl h, cx, by omega⟩
  | succ n ih =>
    intro X h nx hX cx
    by_cases lt : X.length < Y.length
    · obtain ⟨y, h1, h2, h3⟩ := exchange ok nx ny hX hY cx cy lt
      obtain ⟨W, w1, w2, w3, w4, w5⟩ := ih (X ++ [y]) (by rw [List.length_append, List.length_singleton]; omega) (by
        rw [List.nodup_append]
        exact ⟨nx, by simp, fun a ha b hb e => h2 (List.mem_singleton.mp hb ▸ e ▸ ha)⟩) (fun c hc => by
        rcases List.mem_append.mp hc with hc | hc
        · exact hX c hc
        · rw [List.mem_singleton.mp hc]; exact hY y h1) h3
      refine ⟨W, w1, fun x hx => w2 x (List.mem_append_left _ hx), fun w hw => ?_, w4, w5⟩
      rcases w3 w hw with z | z
      · rcases List.mem_append.mp z with z | z
        · exact .inl z
        · rw [List.mem_singleton.mp z]; exact .inr h1
      · exact .inr z
    · exact ⟨X, nx, fun _ h => h, fun _ h => .inl h, cx, by omega⟩
theorem order_split {S : Sce} (ok : S.Ok) {c : Str} (hc : c ∈ ky S.ca) : ∃ A B, orderF S = A ++ c :: B ∧ c ∉ A ∧ c ∉ B := by
  obtain ⟨A, B, e⟩ := List.append_of_mem (mem_order.mpr hc)
  have nd := order_nd ok
  rw [e, List.nodup_append, List.nodup_cons] at nd
  exact ⟨A, B, e, fun z => nd.2.2 c z c List.mem_cons_self rfl, nd.2.1.1⟩
theorem kept_iff {S : Sce} (ok : S.Ok) {ks : List Str} (g : Greedy S (orderF S) ks) {c : Str} (hc : c ∈ ky S.ca) : c ∉ ks ↔ Blocked S c := by
  obtain ⟨A, B, e, hA, hB⟩ := order_split ok hc
  have nd := order_nd ok
  rw [e] at g nd
  obtain ⟨k1, g1, h1⟩ := g.split hA hB
  have nA : A.Nodup := (List.nodup_append.mp nd).1
  have bef := order_bef ok e
  have Aca : ∀ x ∈ A, x ∈ ky S.ca := fun x hx => ((bef x).mp hx).1
  have n1 := g1.sub.nodup nA
  rw [h1]
  constructor
  · intro hno
    obtain ⟨s, k, hk⟩ := can_state n1 (fun x hx => Aca x (g1.sub.subset hx)) g1.can
    obtain ⟨R, w⟩ := shut_ex ok k hc (by rw [hk]; exact fun z => hA (g1.sub.subset z)) (by rw [hk]; exact hno)
    have hz : ∀ z ∈ onAll s R, z ∈ k1 := fun z hz => by
      obtain ⟨m, _, hz⟩ := List.mem_flatMap.mp hz
      rw [← hk]
      exact lk_isSome.mp (by rw [(k.on m z).mp hz]; rfl)
    refine ⟨R, onAll s R, w.nd, onAll_nd k w.nd, fun z h => (bef z).mp (g1.sub.subset (hz z h)), can_subset (onAll_nd k w.nd) hz g1.can, w.hd, fun z h m hm => ?_, ?_⟩
    · obtain ⟨m0, h0, h⟩ := List.mem_flatMap.mp h
      exact w.cl m0 h0 z h m hm
    · rw [onAll_len]
      exact Nat.le_of_eq (congrArg List.sum (List.map_congr_left fun m hm => (w.full m hm).symm))
  · rintro ⟨R, Z, b⟩ can
    have ny : (k1 ++ [c]).Nodup := by
      rw [List.nodup_append]
      exact ⟨n1, by simp, fun a ha x hx e => hA (g1.sub.subset (List.mem_singleton.mp hx ▸ e ▸ ha))⟩
    obtain ⟨W, w1, w2, w3, w4, w5⟩ := extend ok ny (fun x hx => by
      rcases List.mem_append.mp hx with hx | hx
      · exact Aca x (g1.sub.subset hx)
      · rw [List.mem_singleton.mp hx]; exact hc) can _ Z (Nat.le_refl _) b.nz (fun z hz => (b.bef z hz).1) b.can
    have hcW : c ∉ W := fun hcW => by
      have nd2 : (Z ++ [c]).Nodup := by
        rw [List.nodup_append]
        exact ⟨b.nz, by simp, fun a ha x hx e => (b.bef a ha).2.1 (e.trans (List.mem_singleton.mp hx))⟩
      have := count_le b.nr (can_subset nd2 (fun x hx => by
        rcases List.mem_append.mp hx with hx | hx
        · exact w2 x hx
        · rw [List.mem_singleton.mp hx]; exact hcW) w4) fun x hx m hm => by
        rcases List.mem_append.mp hx with hx | hx
        · exact b.hd x hx m hm
        · rw [List.mem_singleton.mp hx] at hm; exact b.own m hm
      have := b.sum
      rw [List.length_append, List.length_singleton] at *
      omega
    have hWA : ∀ w ∈ W, w ∈ A := fun w hw => by
      rcases w3 w hw with z | z
      · exact (bef w).mpr (b.bef w z)
      · rcases List.mem_append.mp z with z | z
        · exact g1.sub.subset z
        · exact absurd (List.mem_singleton.mp z ▸ hw) hcW
    have := g1.max ok nA Aca w1 hWA w4
    rw [List.length_append, List.length_singleton] at w5
    omega
/-- calls change, a call keeps its seat -/
theorem blocked_of {S S' : Sce} {c : Str} (hcap : ∀ m, S'.cap m = S.cap m) (hz : ∀ z, z ∈ ky S'.ca → z ≠ c → z ∈ ky S.ca ∧ S'.hd z = S.hd z ∧ (rkLe S' z c = true → rkLe S z c = true)) (hc : ∀ m ∈ S.hd c, m ∈ S'.hd c) (b : Blocked S' c) : Blocked S c := by
  obtain ⟨R, Z, b⟩ := b
  have h : ∀ z ∈ Z, z ∈ ky S.ca ∧ S'.hd z = S.hd z ∧ (rkLe S' z c = true → rkLe S z c = true) := fun z h => hz z (b.bef z h).1 (b.bef z h).2.1
  refine ⟨R, Z, b.nr, b.nz, fun z hz => ⟨(h z hz).1, (b.bef z hz).2.1, (h z hz).2.2 (b.bef z hz).2.2⟩, ?_, fun m hm => b.own m (hc m hm), fun z hz m hm => b.hd z hz m (by rw [(h z hz).2.1]; exact hm), ?_⟩
  · obtain ⟨f, h1, h2⟩ := b.can
    exact ⟨f, fun z hz => by rw [← (h z hz).2.1]; exact h1 z hz, fun m => by rw [← hcap m]; exact h2 m⟩
  · have e : R.map S.cap = R.map S'.cap := List.map_congr_left fun m _ => (hcap m).symm
    rw [e]
    exact b.sum
/-- more channels: a call keeps its seat -/
theorem blocked_cap {S S' : Sce} {c : Str} (hca : S'.ca = S.ca) (hcap : ∀ m, S.cap m ≤ S'.cap m) (b : Blocked S' c) : Blocked S c := by
  obtain ⟨R, Z, b⟩ := b
  have hh : S'.hd = S.hd := by unfold Sce.hd; rw [hca]
  have hw : ∀ x, wOf S' x = wOf S x := fun x => by unfold wOf; rw [hca]
  have hr : ∀ x y, rkLe S' x y = rkLe S x y := fun x y => by unfold rkLe rkD; rw [hw, hw]
  obtain ⟨f, h1, h2⟩ := b.can
  rw [hh] at h1
  obtain ⟨Y, y1, y2, y3, y4⟩ := trim (S := S) (cap' := S'.cap) b.nr b.nz f (fun z hz => b.hd z hz _ (by rw [hh]; exact h1 z hz)) h1 h2
  refine ⟨R, Y, b.nr, y1, fun z hz => ?_, y3, fun m hm => b.own m (by rw [hh]; exact hm), fun z hz m hm => b.hd z (y2 z hz) m (by rw [hh]; exact hm), ?_⟩
  · have := b.bef z (y2 z hz)
    rw [hca, hr] at this
    exact this
  · have e : (R.map S'.cap).sum = (R.map S.cap).sum + (R.map fun m => S'.cap m - S.cap m).sum := by
      rw [← sum_add]
      congr 1
      apply List.map_congr_left
      intro m _
      have := hcap m
      omega
    have := b.sum
    omega

/-! ### scenes that are a little other -/
theorem ky_filter {β : Type} (l : List (Str × β)) (p : Str → Bool) : ky (l.filter fun q => p q.1) = (ky l).filter p := by
  unfold ky
  rw [List.filter_map]
  rfl
theorem lk_filter {β : Type} {l : List (Str × β)} {p : Str → Bool} {k : Str} (h : p k = true) : lk (l.filter fun q => p q.1) k = lk l k := by
  induction l with
  | nil => rfl
  | cons q l ih =>
    have e : (q :: l).filter (fun q => p q.1) = if p q.1 = true then q :: l.filter (fun q => p q.1) else l.filter (fun q => p q.1) := List.filter_cons
    rw [e]
    by_cases z : p q.1 = true
    · rw [if_pos z, lk_cons, lk_cons, ih]
    · rw [if_neg z, lk_cons, ih, if_neg fun e : q.1 = k => z (by rw [e]; exact h)]
abbrev fewS (S : Sce) (g : Str) : Sce := ⟨S.ch, S.ca.filter fun q => decide (q.1 ≠ g)⟩
abbrev setS (S : Sce) (g : Str) (x : Cal) : Sce := ⟨S.ch, pt S.ca g x⟩
theorem few_in {S : Sce} (ok : S.Ok) (g : Str) : ScIn S.ch (fewS S g).ca := by
  refine ⟨ok.nm, ?_, ok.lm, Nat.le_trans (List.length_filter_le _ _) ok.lc, fun q hq => ok.mn q hq, fun q hq => ?_⟩
  · show (ky (S.ca.filter _)).Nodup
    rw [ky_filter S.ca fun x => decide (x ≠ g)]
    exact ok.nc.filter _
  · have hq := (List.mem_filter.mp hq).1
    obtain ⟨h1, h2, h3⟩ := ok.cn q hq
    obtain ⟨h4, h5⟩ := ok.hd q.1 q.2 (lk_of ok.nc hq)
    exact ⟨h1, h2, h3, h4, h5⟩
theorem few_self {S : Sce} (ok : S.Ok) (g : Str) : sceOf S.ch (fewS S g).ca = fewS S g := by
  have e : ky (fewS S g).ca = (ky S.ca).filter fun x => decide (x ≠ g) := ky_filter S.ca fun x => decide (x ≠ g)
  show Sce.mk _ _ = Sce.mk _ _
  rw [sortK_self ok.nm ok.am, sortK_self (few_in ok g).nc (by rw [e]; exact sortS_filter ok.ac _)]
theorem few_ok {S : Sce} (ok : S.Ok) (g : Str) : (fewS S g).Ok := by
  have := (few_in ok g).ok
  rw [few_self ok g] at this
  exact this
theorem few_lk {S : Sce} {g c : Str} (h : c ≠ g) : lk (fewS S g).ca c = lk S.ca c := lk_filter (p := fun x => decide (x ≠ g)) (decide_eq_true h)
theorem few_blocked {S : Sce} {g c : Str} (h : c ≠ g) (b : Blocked (fewS S g) c) : Blocked S c := by
  have hw : ∀ x, x ≠ g → wOf (fewS S g) x = wOf S x := fun x hx => by unfold wOf; rw [few_lk hx]
  have hh : ∀ x, x ≠ g → (fewS S g).hd x = S.hd x := fun x hx => by unfold Sce.hd; rw [few_lk hx]
  refine blocked_of (S := S) (S' := fewS S g) (fun m => rfl) (fun z hz _ => ?_) (fun m hm => by rw [hh c h]; exact hm) b
  have hz : z ∈ ky (S.ca.filter fun q => decide (q.1 ≠ g)) := hz
  rw [ky_filter S.ca fun x => decide (x ≠ g), List.mem_filter, decide_eq_true_eq] at hz
  exact ⟨hz.1, hh z hz.2, fun q => by rw [rk_iff, hw z hz.2, hw c h] at q; exact (rk_iff S z c).mpr q⟩
theorem ky_set {S : Sce} {g : Str} {x : Cal} (hg : g ∈ ky S.ca) : ky (pt S.ca g x) = ky S.ca := by rw [pt_old hg, ky_old]
theorem set_in {S : Sce} (ok : S.Ok) {g : Str} {x : Cal} (hg : g ∈ ky S.ca) (h1 : 0 ≤ x.w) (h2 : x.w ≤ 1000) (h3 : x.hd.Nodup) (h4 : ∀ m ∈ x.hd, m ∈ ky S.ch) : ScIn S.ch (pt S.ca g x) := by
  have hl : (pt S.ca g x).length = S.ca.length := by
    have := congrArg List.length (ky_set (x := x) hg)
    rw [List.length_map, List.length_map] at this
    exact this
  refine ⟨ok.nm, by rw [ky_set hg]; exact ok.nc, ok.lm, by rw [hl]; exact ok.lc, fun q hq => ok.mn q hq, fun q hq => ?_⟩
  have hk : q.1 ∈ ky (pt S.ca g x) := List.mem_map.mpr ⟨q, hq, rfl⟩
  have e := lk_of (l := pt S.ca g x) (by rw [ky_set hg]; exact ok.nc) (k := q.1) (v := q.2) hq
  rw [ky_set hg] at hk
  obtain ⟨p, hp, ep⟩ := List.mem_map.mp hk
  have hn := (ok.cn p hp).1
  rw [ep] at hn
  rw [lk_pt] at e
  by_cases z : q.1 = g
  · rw [if_pos z] at e
    have e := Option.some.inj e
    rw [← e]
    exact ⟨hn, h1, h2, h3, h4⟩
  · rw [if_neg z] at e
    have hm := lk_mem e
    obtain ⟨_, c2, c3⟩ := ok.cn _ hm
    obtain ⟨c4, c5⟩ := ok.hd _ _ e
    exact ⟨hn, c2, c3, c4, c5⟩
theorem set_self {S : Sce} (ok : S.Ok) {g : Str} {x : Cal} (hg : g ∈ ky S.ca) : sceOf S.ch (pt S.ca g x) = setS S g x := by
  show Sce.mk _ _ = Sce.mk _ _
  rw [sortK_self ok.nm ok.am, sortK_self (by rw [ky_set hg]; exact ok.nc) (by rw [ky_set hg]; exact ok.ac)]
theorem set_ok {S : Sce} (ok : S.Ok) {g : Str} {x : Cal} (hg : g ∈ ky S.ca) (h : ScIn S.ch (pt S.ca g x)) : (setS S g x).Ok := by
  have := h.ok
  rw [set_self ok hg] at this
  exact this
/-- a call as worthy as it was, or worthier, and heard by those that heard it -/
theorem set_blocked {S : Sce} {g : Str} {x : Cal} (hg : g ∈ ky S.ca) (hw : wOf S g ≤ x.w) (hh : ∀ m ∈ S.hd g, m ∈ x.hd) (b : Blocked (setS S g x) g) : Blocked S g := by
  have lg : lk (setS S g x).ca g = some x := by show lk (pt S.ca g x) g = _; rw [lk_pt, if_pos rfl]
  have lz : ∀ z, z ≠ g → lk (setS S g x).ca z = lk S.ca z := fun z hz => by show lk (pt S.ca g x) z = _; rw [lk_pt, if_neg hz]
  have wg : wOf (setS S g x) g = x.w := by unfold wOf; rw [lg]
  have wz : ∀ z, z ≠ g → wOf (setS S g x) z = wOf S z := fun z hz => by unfold wOf; rw [lz z hz]
  refine blocked_of (S := S) (S' := setS S g x) (fun m => rfl) (fun z hz hne => ?_) (fun m hm => ?_) b
  · have hz : z ∈ ky (pt S.ca g x) := hz
    rw [ky_set hg] at hz
    refine ⟨hz, by unfold Sce.hd; rw [lz z hne], fun q => ?_⟩
    rw [rk_iff, wz z hne, wg] at q
    rw [rk_iff]
    rcases q with q | ⟨q1, q2⟩
    · exact .inl (by omega)
    · by_cases e : wOf S z = wOf S g
      · exact .inr ⟨e, q2⟩
      · exact .inl (by omega)
  · have : (setS S g x).hd g = x.hd := Sce.hd_of lg
    rw [this]
    exact hh m hm
theorem up_blocked {S : Sce} {m c : Str} (b : Blocked (moreF S [(m, 1)]) c) : Blocked S c := by
  refine blocked_cap (S := S) (S' := moreF S [(m, 1)]) rfl (fun x => ?_) b
  by_cases hx : x ∈ ky S.ch
  · rw [more_cap hx]
    unfold addI
    rw [lk_cons]
    by_cases e : m = x
    · rw [if_pos e]; show _ ≤ ((S.cap x : Int) + 1).toNat; omega
    · rw [if_neg e]; show _ ≤ ((S.cap x : Int) + 0).toNat; omega
  · have := more_cap0 (S := S) (more := [(m, 1)]) hx
    omega
/-- who was kept is kept -/
theorem stays {S S' : Sce} (ok : S.Ok) (ok' : S'.Ok) {ks ks' : List Str} (g : Greedy S (orderF S) ks) (g' : Greedy S' (orderF S') ks') {c : Str} (hc : c ∈ ks) (hc' : c ∈ ky S'.ca) (h : Blocked S' c → Blocked S c) : c ∈ ks' := by
  apply Classical.byContradiction
  intro z
  exact (kept_iff ok g (mem_order.mp (g.sub.subset hc))).mpr (h ((kept_iff ok' g' hc').mp z)) hc

def top (i : Nat) : Stmt := PySem.Challenge.pw_mastcalls_k20_whole_more.main.body.getD i (.Pass ⟨0, 0, 0, 0⟩)
abbrev s_wall : Stmt := (top 0)
abbrev s_Seats_init : Stmt := (inClass (top 2) 0)
abbrev s_Seats_sit : Stmt := (inClass (top 2) 1)
abbrev s_Seats_has_room : Stmt := (inClass (top 2) 2)
abbrev s_Seats_ways_from : Stmt := (inClass (top 2) 3)
abbrev s_Seats_add : Stmt := (inClass (top 2) 4)
abbrev s_Seats_lot_against : Stmt := (inClass (top 2) 5)
abbrev s_Kept_init : Stmt := (inClass (top 3) 0)
abbrev s_kept : Stmt := (top 4)
abbrev s_is_seatable : Stmt := (top 5)
abbrev s_BadScene_init : Stmt := (inClass (top 8) 0)
abbrev s_is_whole : Stmt := (top 13)
abbrev s_is_name : Stmt := (top 14)
abbrev s_Call_init : Stmt := (inClass (top 15) 0)
abbrev s_Call_eq : Stmt := (inClass (top 15) 1)
abbrev s_Scene_init : Stmt := (inClass (top 16) 0)
abbrev s_Scene_eq : Stmt := (inClass (top 16) 1)
abbrev s_Scene_order : Stmt := (inClass (top 16) 2)
abbrev s_Scene_rank : Stmt := (inClass (top 16) 3)
abbrev s_Scene_room : Stmt := (inClass (top 16) 4)
abbrev s_Scene_masts_of : Stmt := (inClass (top 16) 5)
abbrev s_law_number : Stmt := (top 18)
abbrev s_law_take : Stmt := (top 19)
abbrev s_law_pick : Stmt := (top 20)
abbrev s_law_masts : Stmt := (top 21)
abbrev s_law_heard : Stmt := (top 22)
abbrev s_law_scene : Stmt := (top 23)
abbrev s_law : Stmt := (top 24)
theorem sc_Seats_init : FnScope ["self", "scene", "mast"] ["self", "scene"] (defScope s_Seats_init) := ⟨rfl, rfl, rfl, by decide +kernel, rfl, by decide +kernel, by decide +kernel⟩
theorem sc_Seats_sit : FnScope ["self", "name", "mast", "old"] ["self", "name", "mast"] (defScope s_Seats_sit) := ⟨rfl, rfl, rfl, by decide +kernel, rfl, by decide +kernel, by decide +kernel⟩
theorem sc_Seats_has_room : FnScope ["self", "mast"] ["self", "mast"] (defScope s_Seats_has_room) := ⟨rfl, rfl, rfl, by decide +kernel, rfl, by decide +kernel, by decide +kernel⟩
theorem sc_Seats_ways_from : FnScope ["self", "name", "came", "rest", "one", "mast"] ["self", "name"] (defScope s_Seats_ways_from) := ⟨rfl, rfl, rfl, by decide +kernel, rfl, by decide +kernel, by decide +kernel⟩
theorem sc_Seats_add : FnScope ["self", "name", "came", "mast", "one", "before"] ["self", "name"] (defScope s_Seats_add) := ⟨rfl, rfl, rfl, by decide +kernel, rfl, by decide +kernel, by decide +kernel⟩
theorem sc_Seats_lot_against : FnScope ["self", "name", "came", "found", "mast", "one"] ["self", "name"] (defScope s_Seats_lot_against) := ⟨rfl, rfl, rfl, by decide +kernel, rfl, by decide +kernel, by decide +kernel⟩
theorem sc_Kept_init : FnScope ["self", "scene", "seats", "papers", "name"] ["self", "scene"] (defScope s_Kept_init) := ⟨rfl, rfl, rfl, by decide +kernel, rfl, by decide +kernel, by decide +kernel⟩
theorem sc_kept : FnScope ["scene"] ["scene"] (defScope s_kept) := ⟨rfl, rfl, rfl, by decide +kernel, rfl, by decide +kernel, by decide +kernel⟩
theorem sc_is_seatable : FnScope ["scene", "names", "seats", "name"] ["scene", "names"] (defScope s_is_seatable) := ⟨rfl, rfl, rfl, by decide +kernel, rfl, by decide +kernel, by decide +kernel⟩
theorem sc_is_whole : FnScope ["thing", "low", "high"] ["thing", "low", "high"] (defScope s_is_whole) := ⟨rfl, rfl, rfl, by decide +kernel, rfl, by decide +kernel, by decide +kernel⟩
theorem sc_is_name : FnScope ["thing", "sign"] ["thing"] (defScope s_is_name) := ⟨rfl, rfl, rfl, by decide +kernel, rfl, by decide +kernel, by decide +kernel⟩
theorem sc_Call_init : FnScope ["self", "worth", "heard"] ["self", "worth", "heard"] (defScope s_Call_init) := ⟨rfl, rfl, rfl, by decide +kernel, rfl, by decide +kernel, by decide +kernel⟩
theorem sc_Scene_init : FnScope ["self", "channels", "calls", "mast", "many", "name", "call"] ["self", "channels", "calls"] (defScope s_Scene_init) := ⟨rfl, rfl, rfl, by decide +kernel, rfl, by decide +kernel, by decide +kernel⟩
theorem sc_Scene_order : FnScope ["self"] ["self"] (defScope s_Scene_order) := ⟨rfl, rfl, rfl, by decide +kernel, rfl, by decide +kernel, by decide +kernel⟩
theorem sc_Scene_rank : FnScope ["self", "name"] ["self", "name"] (defScope s_Scene_rank) := ⟨rfl, rfl, rfl, by decide +kernel, rfl, by decide +kernel, by decide +kernel⟩
theorem sc_Scene_room : FnScope ["self", "masts", "mast"] ["self", "masts"] (defScope s_Scene_room) := ⟨rfl, rfl, rfl, by decide +kernel, rfl, by decide +kernel, by decide +kernel⟩
theorem sc_Scene_masts_of : FnScope ["self", "names"] ["self", "names"] (defScope s_Scene_masts_of) := ⟨rfl, rfl, rfl, by decide +kernel, rfl, by decide +kernel, by decide +kernel⟩
theorem sc_law_number : FnScope ["_law_script", "_law_index", "_law_cell", "_law_blend"] ["_law_script", "_law_index"] (defScope s_law_number) := ⟨rfl, rfl, rfl, by decide +kernel, rfl, by decide +kernel, by decide +kernel⟩
theorem sc_law_take : FnScope ["_law_draw", "_law_many"] ["_law_draw", "_law_many"] (defScope s_law_take) := ⟨rfl, rfl, rfl, by decide +kernel, rfl, by decide +kernel, by decide +kernel⟩
theorem sc_law_pick : FnScope ["_law_draw", "_law_items"] ["_law_draw", "_law_items"] (defScope s_law_pick) := ⟨rfl, rfl, rfl, by decide +kernel, rfl, by decide +kernel, by decide +kernel⟩
theorem sc_law_masts : FnScope ["_law_draw", "_law_most", "_law_number_here"] ["_law_draw", "_law_most"] (defScope s_law_masts) := ⟨rfl, rfl, rfl, by decide +kernel, rfl, by decide +kernel, by decide +kernel⟩
theorem sc_law_heard : FnScope ["_law_draw", "_law_channels", "_law_mast"] ["_law_draw", "_law_channels"] (defScope s_law_heard) := ⟨rfl, rfl, rfl, by decide +kernel, rfl, by decide +kernel, by decide +kernel⟩
theorem sc_law_scene : FnScope ["_law_draw", "_law_masts_here", "_law_calls", "_law_channels", "_law_found", "_law_number_here"] ["_law_draw", "_law_masts_here", "_law_calls"] (defScope s_law_scene) := ⟨rfl, rfl, rfl, by decide +kernel, rfl, by decide +kernel, by decide +kernel⟩
theorem sc_law : FnScope ["_law_script", "_law_draw", "_law_scene_here", "_law_lot", "_law_calls", "_law_mast", "_law_more", "_law_gone", "_law_fewer", "_law_raised", "_law_wider", "_law_lots", "_law_turn", "_law_some", "_law_one", "_law_other", "_law_many", "_law_name", "_law_call"] ["_law_script"] (defScope s_law) := ⟨rfl, rfl, rfl, by decide +kernel, rfl, by decide +kernel, by decide +kernel⟩
/-! what the walk asks of the text as the top has left it -/
structure Tx (K : PySem.W.Frag) (mg : Str → Option Value) where
  Pg : Program
  C_Seats : Addr
  C_Kept : Addr
  C_CallError : Addr
  C_BadScene : Addr
  f_BadScene_init : Addr
  C_Call : Addr
  C_Scene : Addr
  X_BadScene : PySem.XeBadScene.Txt Pg K mg C_BadScene C_CallError f_BadScene_init
  f_wall : Addr
  fd_wall : FuncData
  f_Seats_init : Addr
  fd_Seats_init : FuncData
  f_Seats_sit : Addr
  fd_Seats_sit : FuncData
  f_Seats_has_room : Addr
  fd_Seats_has_room : FuncData
  f_Seats_ways_from : Addr
  fd_Seats_ways_from : FuncData
  f_Seats_add : Addr
  fd_Seats_add : FuncData
  f_Seats_lot_against : Addr
  fd_Seats_lot_against : FuncData
  f_Kept_init : Addr
  fd_Kept_init : FuncData
  f_kept : Addr
  fd_kept : FuncData
  f_is_seatable : Addr
  fd_is_seatable : FuncData
  f_is_whole : Addr
  fd_is_whole : FuncData
  f_is_name : Addr
  fd_is_name : FuncData
  f_Call_init : Addr
  fd_Call_init : FuncData
  f_Call_eq : Addr
  fd_Call_eq : FuncData
  f_Scene_init : Addr
  fd_Scene_init : FuncData
  f_Scene_eq : Addr
  fd_Scene_eq : FuncData
  f_Scene_order : Addr
  fd_Scene_order : FuncData
  f_Scene_rank : Addr
  fd_Scene_rank : FuncData
  f_Scene_room : Addr
  fd_Scene_room : FuncData
  f_Scene_masts_of : Addr
  fd_Scene_masts_of : FuncData
  f_law_number : Addr
  fd_law_number : FuncData
  f_law_take : Addr
  fd_law_take : FuncData
  f_law_pick : Addr
  fd_law_pick : FuncData
  f_law_masts : Addr
  fd_law_masts : FuncData
  f_law_heard : Addr
  fd_law_heard : FuncData
  f_law_scene : Addr
  fd_law_scene : FuncData
  f_law : Addr
  fd_law : FuncData
  F_Seats : ClsF K C_Seats ["scene", "seating", "seated"]
  mg_Seats : mg "Seats" = some (.ref C_Seats)
  M_Seats : Mk K C_Seats f_Seats_init
  F_Kept : ClsF K C_Kept ["lot", "seating", "papers"]
  mg_Kept : mg "Kept" = some (.ref C_Kept)
  M_Kept : Mk K C_Kept f_Kept_init
  F_Call : ClsF K C_Call ["worth", "heard"]
  mg_Call : mg "Call" = some (.ref C_Call)
  M_Call : Mk K C_Call f_Call_init
  F_Scene : ClsF K C_Scene ["channels", "calls"]
  mg_Scene : mg "Scene" = some (.ref C_Scene)
  M_Scene : Mk K C_Scene f_Scene_init
  F_wall : Fun K "_wall" "_wall" s_wall f_wall fd_wall
  k_wall : PySem.W.keepIn K (.ref f_wall) = true
  b_wall : Binds K fd_wall ["k"] []
  mg_wall : mg "_wall" = some (.ref f_wall)
  F_Seats_init : Fun K "__init__" "Seats.__init__" s_Seats_init f_Seats_init fd_Seats_init
  k_Seats_init : PySem.W.keepIn K (.ref f_Seats_init) = true
  b_Seats_init : Binds K fd_Seats_init ["self", "scene"] []
  F_Seats_sit : Fun K "sit" "Seats.sit" s_Seats_sit f_Seats_sit fd_Seats_sit
  k_Seats_sit : PySem.W.keepIn K (.ref f_Seats_sit) = true
  b_Seats_sit : Binds K fd_Seats_sit ["self", "name", "mast"] []
  m_Seats_sit : Meth K C_Seats "sit" f_Seats_sit
  F_Seats_has_room : Fun K "has_room" "Seats.has_room" s_Seats_has_room f_Seats_has_room fd_Seats_has_room
  k_Seats_has_room : PySem.W.keepIn K (.ref f_Seats_has_room) = true
  b_Seats_has_room : Binds K fd_Seats_has_room ["self", "mast"] []
  m_Seats_has_room : Meth K C_Seats "has_room" f_Seats_has_room
  F_Seats_ways_from : Fun K "ways_from" "Seats.ways_from" s_Seats_ways_from f_Seats_ways_from fd_Seats_ways_from
  k_Seats_ways_from : PySem.W.keepIn K (.ref f_Seats_ways_from) = true
  b_Seats_ways_from : Binds K fd_Seats_ways_from ["self", "name"] []
  m_Seats_ways_from : Meth K C_Seats "ways_from" f_Seats_ways_from
  F_Seats_add : Fun K "add" "Seats.add" s_Seats_add f_Seats_add fd_Seats_add
  k_Seats_add : PySem.W.keepIn K (.ref f_Seats_add) = true
  b_Seats_add : Binds K fd_Seats_add ["self", "name"] []
  m_Seats_add : Meth K C_Seats "add" f_Seats_add
  F_Seats_lot_against : Fun K "lot_against" "Seats.lot_against" s_Seats_lot_against f_Seats_lot_against fd_Seats_lot_against
  k_Seats_lot_against : PySem.W.keepIn K (.ref f_Seats_lot_against) = true
  b_Seats_lot_against : Binds K fd_Seats_lot_against ["self", "name"] []
  m_Seats_lot_against : Meth K C_Seats "lot_against" f_Seats_lot_against
  F_Kept_init : Fun K "__init__" "Kept.__init__" s_Kept_init f_Kept_init fd_Kept_init
  k_Kept_init : PySem.W.keepIn K (.ref f_Kept_init) = true
  b_Kept_init : Binds K fd_Kept_init ["self", "scene"] []
  F_kept : Fun K "kept" "kept" s_kept f_kept fd_kept
  k_kept : PySem.W.keepIn K (.ref f_kept) = true
  b_kept : Binds K fd_kept ["scene"] []
  mg_kept : mg "kept" = some (.ref f_kept)
  F_is_seatable : Fun K "is_seatable" "is_seatable" s_is_seatable f_is_seatable fd_is_seatable
  k_is_seatable : PySem.W.keepIn K (.ref f_is_seatable) = true
  b_is_seatable : Binds K fd_is_seatable ["scene", "names"] []
  mg_is_seatable : mg "is_seatable" = some (.ref f_is_seatable)
  F_is_whole : Fun K "is_whole" "is_whole" s_is_whole f_is_whole fd_is_whole
  k_is_whole : PySem.W.keepIn K (.ref f_is_whole) = true
  b_is_whole : Binds K fd_is_whole ["thing", "low", "high"] []
  mg_is_whole : mg "is_whole" = some (.ref f_is_whole)
  F_is_name : Fun K "is_name" "is_name" s_is_name f_is_name fd_is_name
  k_is_name : PySem.W.keepIn K (.ref f_is_name) = true
  b_is_name : Binds K fd_is_name ["thing"] []
  mg_is_name : mg "is_name" = some (.ref f_is_name)
  F_Call_init : Fun K "__init__" "Call.__init__" s_Call_init f_Call_init fd_Call_init
  k_Call_init : PySem.W.keepIn K (.ref f_Call_init) = true
  b_Call_init : Binds K fd_Call_init ["self", "worth", "heard"] []
  F_Call_eq : Fun K "__eq__" "Call.__eq__" s_Call_eq f_Call_eq fd_Call_eq
  k_Call_eq : PySem.W.keepIn K (.ref f_Call_eq) = true
  b_Call_eq : Binds K fd_Call_eq ["self", "other"] []
  m_Call_eq : Meth K C_Call "__eq__" f_Call_eq
  F_Scene_init : Fun K "__init__" "Scene.__init__" s_Scene_init f_Scene_init fd_Scene_init
  k_Scene_init : PySem.W.keepIn K (.ref f_Scene_init) = true
  b_Scene_init : Binds K fd_Scene_init ["self", "channels", "calls"] []
  F_Scene_eq : Fun K "__eq__" "Scene.__eq__" s_Scene_eq f_Scene_eq fd_Scene_eq
  k_Scene_eq : PySem.W.keepIn K (.ref f_Scene_eq) = true
  b_Scene_eq : Binds K fd_Scene_eq ["self", "other"] []
  m_Scene_eq : Meth K C_Scene "__eq__" f_Scene_eq
  F_Scene_order : Fun K "order" "Scene.order" s_Scene_order f_Scene_order fd_Scene_order
  k_Scene_order : PySem.W.keepIn K (.ref f_Scene_order) = true
  b_Scene_order : Binds K fd_Scene_order ["self"] []
  m_Scene_order : Meth K C_Scene "order" f_Scene_order
  F_Scene_rank : Fun K "rank" "Scene.rank" s_Scene_rank f_Scene_rank fd_Scene_rank
  k_Scene_rank : PySem.W.keepIn K (.ref f_Scene_rank) = true
  b_Scene_rank : Binds K fd_Scene_rank ["self", "name"] []
  m_Scene_rank : Meth K C_Scene "rank" f_Scene_rank
  B_Scene_rank : BMeth K C_Scene "rank" f_Scene_rank
  F_Scene_room : Fun K "room" "Scene.room" s_Scene_room f_Scene_room fd_Scene_room
  k_Scene_room : PySem.W.keepIn K (.ref f_Scene_room) = true
  b_Scene_room : Binds K fd_Scene_room ["self", "masts"] []
  m_Scene_room : Meth K C_Scene "room" f_Scene_room
  F_Scene_masts_of : Fun K "masts_of" "Scene.masts_of" s_Scene_masts_of f_Scene_masts_of fd_Scene_masts_of
  k_Scene_masts_of : PySem.W.keepIn K (.ref f_Scene_masts_of) = true
  b_Scene_masts_of : Binds K fd_Scene_masts_of ["self", "names"] []
  m_Scene_masts_of : Meth K C_Scene "masts_of" f_Scene_masts_of
  F_law_number : Fun K "_law_number" "_law_number" s_law_number f_law_number fd_law_number
  k_law_number : PySem.W.keepIn K (.ref f_law_number) = true
  b_law_number : Binds K fd_law_number ["_law_script", "_law_index"] []
  mg_law_number : mg "_law_number" = some (.ref f_law_number)
  F_law_take : Fun K "_law_take" "_law_take" s_law_take f_law_take fd_law_take
  k_law_take : PySem.W.keepIn K (.ref f_law_take) = true
  b_law_take : Binds K fd_law_take ["_law_draw", "_law_many"] []
  mg_law_take : mg "_law_take" = some (.ref f_law_take)
  F_law_pick : Fun K "_law_pick" "_law_pick" s_law_pick f_law_pick fd_law_pick
  k_law_pick : PySem.W.keepIn K (.ref f_law_pick) = true
  b_law_pick : Binds K fd_law_pick ["_law_draw", "_law_items"] []
  mg_law_pick : mg "_law_pick" = some (.ref f_law_pick)
  F_law_masts : Fun K "_law_masts" "_law_masts" s_law_masts f_law_masts fd_law_masts
  k_law_masts : PySem.W.keepIn K (.ref f_law_masts) = true
  b_law_masts : Binds K fd_law_masts ["_law_draw", "_law_most"] []
  mg_law_masts : mg "_law_masts" = some (.ref f_law_masts)
  F_law_heard : Fun K "_law_heard" "_law_heard" s_law_heard f_law_heard fd_law_heard
  k_law_heard : PySem.W.keepIn K (.ref f_law_heard) = true
  b_law_heard : Binds K fd_law_heard ["_law_draw", "_law_channels"] []
  mg_law_heard : mg "_law_heard" = some (.ref f_law_heard)
  F_law_scene : Fun K "_law_scene" "_law_scene" s_law_scene f_law_scene fd_law_scene
  k_law_scene : PySem.W.keepIn K (.ref f_law_scene) = true
  b_law_scene : Binds K fd_law_scene ["_law_draw", "_law_masts_here", "_law_calls"] []
  mg_law_scene : mg "_law_scene" = some (.ref f_law_scene)
  F_law : Fun K "law" "law" s_law f_law fd_law
  k_law : PySem.W.keepIn K (.ref f_law) = true
  b_law : Binds K fd_law ["_law_script"] []
  mg_law : mg "law" = some (.ref f_law)
  t_FIGURES : Tok
  mg_FIGURES : mg "FIGURES" = some (.str "0123456789" t_FIGURES)
  t_LETTERS : Tok
  mg_LETTERS : mg "LETTERS" = some (.str "abcdefghijklmnopqrstuvwxyz" t_LETTERS)
  t_MOST_CHANNELS : Tok
  mg_MOST_CHANNELS : mg "MOST_CHANNELS" = some (.int 1000 t_MOST_CHANNELS)
  no_abs : mg "abs" = none
  no_all : mg "all" = none
  no_any : mg "any" = none
  no_bool : mg "bool" = none
  no_dict : mg "dict" = none
  no_int : mg "int" = none
  no_isinstance : mg "isinstance" = none
  no_len : mg "len" = none
  no_list : mg "list" = none
  no_range : mg "range" = none
  no_set : mg "set" = none
  no_sorted : mg "sorted" = none
  no_str : mg "str" = none
  no_sum : mg "sum" = none
  no_tuple : mg "tuple" = none
def S_law_number (K : PySem.W.Frag) {mg : Str → Option Value} (T : Tx K mg) : FSpec := fun ds M P => ∃ (s : List Int) (i : Int), ds = [vscr K s, dat (.int i)] ∧ P (dat (.int (lawNum s i))) M
def S_law_take (K : PySem.W.Frag) {mg : Str → Option Value} (T : Tx K mg) : FSpec := fun ds M P => ∃ (s : List Int) (k m : Int) (p : Addr) (M' : Cells), ds = [val (.ref p), dat (.int m)] ∧ 0 < m ∧ Put p (cDraw K s k) (cDraw K s (k + 1)) M M' ∧ P (dat (.int (tk s (k + 1) m))) M'

/-- a row of texts, a tuple or a list -/
def TxS (d : PyData) (l : List Str) : Prop := d = txT l ∨ d = txD l
abbrev seatV (l : List (Str × Str)) : VD := vdz (sK (fun m => vt m) l)
def S_kept (K : PySem.W.Frag) {mg : Str → Option Value} (T : Tx K mg) : FSpec := fun ds M P => ∃ S, ds = [sceV T.C_Scene T.C_Call S] ∧ S.Ok ∧ ∀ ks, Greedy S (orderF S) ks → P (dat (txT (sortS ks))) M

def S_is_whole (K : PySem.W.Frag) {mg : Str → Option Value} (T : Tx K mg) : FSpec := fun ds M P => ∃ (d : PyData) (lo hi : Int), ds = [dat d, dat (.int lo), dat (.int hi)] ∧ ((∃ i, d = .int i) ∨ ∃ s, d = .str s) ∧ P (dat (.bool (isW d lo hi))) M
def S_is_name (K : PySem.W.Frag) {mg : Str → Option Value} (T : Tx K mg) : FSpec := fun ds M P => ∃ z : Str, ds = [dat (.str z)] ∧ z.length ≤ sizeLine ∧ P (dat (.bool (isName z))) M
def S_Scene_init (K : PySem.W.Frag) {mg : Str → Option Value} (T : Tx K mg) : FSpec := fun ds M P => ∃ p ch ca M0, ds = [val (.ref p), chV ch, caV T.C_Call ca] ∧ M = (p, cI T.C_Scene [] []) :: M0 ∧ ScIn ch ca ∧ P vn ((p, cI T.C_Scene sceN [chV (sortK ch), caV T.C_Call (sortK ca)]) :: M0)
def S_Seats_init (K : PySem.W.Frag) {mg : Str → Option Value} (T : Tx K mg) : FSpec := fun ds M P => ∃ p S M0, ds = [val (.ref p), sceV T.C_Scene T.C_Call S] ∧ M = (p, cI T.C_Seats [] []) :: M0 ∧ S.Ok ∧ ∀ A : SA, A.p = p → ky A.on = ky S.ch → P vn (seatsC T.C_Seats T.C_Scene T.C_Call A S noSeats ++ M0)
def S_Seats_sit (K : PySem.W.Frag) {mg : Str → Option Value} (T : Tx K mg) : FSpec := fun ds M P => ∃ A S s c m L, ds = [val (.ref (SA.p A)), vt c, vt m] ∧ M.Perm (seatsC T.C_Seats T.C_Scene T.C_Call A S s ++ L) ∧ S.Ok ∧ ky A.on = ky S.ch ∧ SOk S s ∧ m ∈ ky S.ch ∧ P vn (seatsC T.C_Seats T.C_Scene T.C_Call A S (sitF s c m) ++ L)
def S_Seats_has_room (K : PySem.W.Frag) {mg : Str → Option Value} (T : Tx K mg) : FSpec := fun ds M P => ∃ A S s m L, ds = [val (.ref (SA.p A)), vt m] ∧ M.Perm (seatsC T.C_Seats T.C_Scene T.C_Call A S s ++ L) ∧ S.Ok ∧ ky A.on = ky S.ch ∧ SOk S s ∧ m ∈ ky S.ch ∧ P (dat (.bool (decide ((s.on m).length < S.cap m)))) M
def S_Seats_ways_from (K : PySem.W.Frag) {mg : Str → Option Value} (T : Tx K mg) : FSpec := fun ds M P => ∃ A S s name L, ds = [val (.ref (SA.p A)), vt name] ∧ M.Perm (seatsC T.C_Seats T.C_Scene T.C_Call A S s ++ L) ∧ S.Ok ∧ ky A.on = ky S.ch ∧ SOk S s ∧ name ∈ ky S.ca ∧ ∀ came res q, Ways S s name came res → P (vtup [val (.ref q), dat (os res)]) ((q, seatD came) :: M)
def S_Seats_add (K : PySem.W.Frag) {mg : Str → Option Value} (T : Tx K mg) : FSpec := fun ds M P => ∃ A S s name L, ds = [val (.ref (SA.p A)), vt name] ∧ M.Perm (seatsC T.C_Seats T.C_Scene T.C_Call A S s ++ L) ∧ S.Ok ∧ ky A.on = ky S.ch ∧ SOk S s ∧ name ∈ ky S.ca ∧ name ∉ ky s.seat ∧ ∀ b s', Added S s name b s' → P (dat (.bool b)) (seatsC T.C_Seats T.C_Scene T.C_Call A S s' ++ L)

def S_Call_init (K : PySem.W.Frag) {mg : Str → Option Value} (T : Tx K mg) : FSpec := fun ds M P => ∃ p w hd d M0, ds = [val (.ref p), dat (.int w), dat d] ∧ TxS d hd ∧ M = (p, cI T.C_Call [] []) :: M0 ∧ hd.length < 64 ∧ P vn ((p, cI T.C_Call calN [dat (.int w), dat (txT (sortS hd))]) :: M0)

def S_is_seatable (K : PySem.W.Frag) {mg : Str → Option Value} (T : Tx K mg) : FSpec := fun ds M P => ∃ S names, ds = [sceV T.C_Scene T.C_Call S, dat (txD names)] ∧ S.Ok ∧ names.Nodup ∧ (∀ c ∈ names, c ∈ ky S.ca) ∧ ∀ b : Bool, (b = true ↔ S.Can names) → P (dat (.bool b)) M

abbrev keptN : List Str := ["lot", "seating", "papers"]
abbrev txV (l : List Str) : VD := dat (txT l)
abbrev papV (pap : List (Str × List Str)) : VD := vdz (sK txV pap)
def S_Scene_rank (K : PySem.W.Frag) {mg : Str → Option Value} (T : Tx K mg) : FSpec := fun ds M P => ∃ S c, ds = [sceV T.C_Scene T.C_Call S, vt c] ∧ c ∈ ky S.ca ∧ P (dat (rkD S c)) M
def S_Scene_order (K : PySem.W.Frag) {mg : Str → Option Value} (T : Tx K mg) : FSpec := fun ds M P => ∃ S, ds = [sceV T.C_Scene T.C_Call S] ∧ S.Ok ∧ P (dat (txD (orderF S))) M
def S_Seats_lot_against (K : PySem.W.Frag) {mg : Str → Option Value} (T : Tx K mg) : FSpec := fun ds M P => ∃ A S s name L, ds = [val (.ref (SA.p A)), vt name] ∧ M.Perm (seatsC T.C_Seats T.C_Scene T.C_Call A S s ++ L) ∧ S.Ok ∧ ky A.on = ky S.ch ∧ SOk S s ∧ name ∈ ky S.ca ∧ name ∉ ky s.seat ∧ ¬ S.Can (ky s.seat ++ [name]) ∧ ∀ came, Ways S s name came none → P (dat (txT (sortS (name :: onAll s (ky came))))) (seatsC T.C_Seats T.C_Scene T.C_Call A S s ++ L)
def S_Kept_init (K : PySem.W.Frag) {mg : Str → Option Value} (T : Tx K mg) : FSpec := fun ds M P => ∃ p S M0, ds = [val (.ref p), sceV T.C_Scene T.C_Call S] ∧ M = (p, cI T.C_Kept [] []) :: M0 ∧ S.Ok ∧ ∀ ks st pap, KeptR S ks st pap → P vn ((p, cI T.C_Kept keptN [dat (txT (sortS ks)), vdz (sK (fun m => vt m) (sortK st.seat)), papV (sortK pap)]) :: M0)

abbrev mN (i : Nat) : Str := "m" ++ (toString (i : Int) : String)
abbrev cN (i : Nat) : Str := "c" ++ (toString (i : Int) : String)
/-- drawn masts, drawn scenes -/
structure ChIn (a : Nat) (ch : List (Str × Nat)) : Prop where
  k : ∃ n, 1 ≤ n ∧ n ≤ a ∧ ky ch = (List.range n).map mN
  v : ∀ q ∈ ch, q.2 ≤ 3
structure ScGen (a b : Nat) (S : Sce) : Prop where
  ok : S.Ok
  lm : S.ch.length ≤ a
  lc : S.ca.length ≤ b
  cap : ∀ q ∈ S.ch, q.2 ≤ 3
  cn : ∀ c ∈ ky S.ca, ∃ i, i < 10 ∧ c = cN i
  mn : ∀ m ∈ ky S.ch, ∃ i, i < 10 ∧ m = mN i
  wt : ∀ q ∈ S.ca, q.2.w ≤ 2
  ne : 0 < S.ch.length
def chOf (vs : List Nat) : List (Str × Nat) := vs.zipIdx.map fun q => (mN q.2, q.1)
theorem ky_chOf (vs : List Nat) : ky (chOf vs) = (List.range vs.length).map mN := by
  unfold chOf ky
  rw [List.map_map]
  apply List.ext_getElem?
  intro i
  rw [List.getElem?_map, List.getElem?_zipIdx, List.getElem?_map]
  by_cases h : i < vs.length
  · rw [List.getElem?_eq_getElem h, List.getElem?_range h]
    simp
  · rw [List.getElem?_eq_none (by omega), List.getElem?_eq_none (by simp; omega)]
    rfl
theorem mN_name : ∀ i, i < 10 → isName (mN i) = true := by decide +kernel
theorem cN_name : ∀ i, i < 10 → isName (cN i) = true := by decide +kernel
theorem mN_nd : ∀ n, n < 10 → ((List.range n).map mN).Nodup := by decide +kernel
theorem cN_nd : ∀ n, n < 10 → ((List.range n).map cN).Nodup := by decide +kernel
def S_law_pick (K : PySem.W.Frag) {mg : Str → Option Value} (T : Tx K mg) : FSpec := fun ds M P => ∃ (s : List Int) (k : Int) (xs : List PyData) (p : Addr) (M' : Cells), ds = [val (.ref p), dat (.list xs)] ∧ xs ≠ [] ∧ Put p (cDraw K s k) (cDraw K s (k + 1)) M M' ∧ ∀ x ∈ xs, P (dat x) M'
def S_law_masts (K : PySem.W.Frag) {mg : Str → Option Value} (T : Tx K mg) : FSpec := fun ds M P => ∃ (s : List Int) (k : Int) (a : Nat) (p : Addr) (L : Cells), ds = [val (.ref p), nV a] ∧ 1 ≤ a ∧ a ≤ 9 ∧ M = (p, cDraw K s k) :: L ∧ ∀ ch k', ChIn a ch → P (chV ch) ((p, cDraw K s k') :: L)
def S_law_heard (K : PySem.W.Frag) {mg : Str → Option Value} (T : Tx K mg) : FSpec := fun ds M P => ∃ (s : List Int) (k : Int) (ch : List (Str × Nat)) (p : Addr) (L : Cells), ds = [val (.ref p), chV ch] ∧ ch.length ≤ 63 ∧ M = (p, cDraw K s k) :: L ∧ ∀ hd k', List.Sublist hd (ky ch) → P (dat (txD hd)) ((p, cDraw K s k') :: L)
def S_law_scene (K : PySem.W.Frag) {mg : Str → Option Value} (T : Tx K mg) : FSpec := fun ds M P => ∃ (s : List Int) (k : Int) (a b : Nat) (p : Addr) (L : Cells), ds = [val (.ref p), nV a, nV b] ∧ 1 ≤ a ∧ a ≤ 9 ∧ b ≤ 9 ∧ M = (p, cDraw K s k) :: L ∧ ∀ S k', ScGen a b S → P (sceV T.C_Scene T.C_Call S) ((p, cDraw K s k') :: L)

def SLaw (K : PySem.W.Frag) : FSpec := fun ds M P => ∃ s : List Int, ds = [vscr K s] ∧ M = [] ∧ s.length ≤ 63 ∧ ∀ M', P (dat (.bool true)) M'
def S_law (K : PySem.W.Frag) {mg : Str → Option Value} (T : Tx K mg) : FSpec := SLaw K

abbrev rd_Seats_init_2 (K : PySem.W.Frag) {mg : Str → Option Value} (T : Tx K mg) : TS := (sFld K (tVar 0) (tDc (iKeys (tFld K (tVar 1) "channels")) (gName 2) tYes (tVar 2) (tLst tNil) [2]) "seated")
abbrev rd_Seats_init_1 (K : PySem.W.Frag) {mg : Str → Option Value} (T : Tx K mg) : TS := tSeq (sFld K (tVar 0) tDNewK "seating") (rd_Seats_init_2 K T)
abbrev rd_Seats_init_0 (K : PySem.W.Frag) {mg : Str → Option Value} (T : Tx K mg) : TS := tSeq (sFld K (tVar 0) (tVar 1) "scene") (rd_Seats_init_1 K T)
abbrev rd_Seats_sit_5 (K : PySem.W.Frag) {mg : Str → Option Value} (T : Tx K mg) : TS := (tDrop (tBM K "list" rAppend (tDGet (tFld K (tVar 0) "seated") (tVar 2)) (tCons (tVar 1) tNil)))
abbrev rd_Seats_sit_4 (K : PySem.W.Frag) {mg : Str → Option Value} (T : Tx K mg) : TS := tSeq (sDPut (tFld K (tVar 0) "seating") (tVar 1) (tVar 2)) (rd_Seats_sit_5 K T)
abbrev rd_Seats_sit_3 (K : PySem.W.Frag) {mg : Str → Option Value} (T : Tx K mg) : TS := tNext
abbrev rd_Seats_sit_2 (K : PySem.W.Frag) {mg : Str → Option Value} (T : Tx K mg) : TS := (tDrop (tBM K "list" rRemS (tDGet (tFld K (tVar 0) "seated") (tVar 3)) (tCons (tVar 1) tNil)))
abbrev rd_Seats_sit_1 (K : PySem.W.Frag) {mg : Str → Option Value} (T : Tx K mg) : TS := Evl.tCut (tIfS (tTest (tOp Sx.rNotN (tVar 3) (tC .non))) (rd_Seats_sit_2 K T) (rd_Seats_sit_3 K T)) (rd_Seats_sit_4 K T)
abbrev rd_Seats_sit_0 (K : PySem.W.Frag) {mg : Str → Option Value} (T : Tx K mg) : TS := tSeq (tAsg (tDGet1 (tFld K (tVar 0) "seating") (tVar 1)) (gName 3)) (rd_Seats_sit_1 K T)
abbrev rd_Seats_has_room_0 (K : PySem.W.Frag) {mg : Str → Option Value} (T : Tx K mg) : TS := (tRet (tOp (rI0 fun i j => .bl (decide (i < j))) (tCB (rLenU K) (tCons (tDGet (tFld K (tVar 0) "seated") (tVar 1)) tNil)) (tDGet (tFld K (tFld K (tVar 0) "scene") "channels") (tVar 1))))
abbrev rd_Seats_ways_from_11 (K : PySem.W.Frag) {mg : Str → Option Value} (T : Tx K mg) : TS := (tRet (tTup (tCons (tVar 2) (tCons (tC .non) tNil))))
abbrev rd_Seats_ways_from_10 (K : PySem.W.Frag) {mg : Str → Option Value} (T : Tx K mg) : TS := tNext
abbrev rd_Seats_ways_from_9 (K : PySem.W.Frag) {mg : Str → Option Value} (T : Tx K mg) : TS := (tDrop (tBM K "list" rExtend (tVar 3) (tCons (tDGet (tFld K (tVar 0) "seated") (tVar 5)) tNil)))
abbrev rd_Seats_ways_from_8 (K : PySem.W.Frag) {mg : Str → Option Value} (T : Tx K mg) : TS := tNext
abbrev rd_Seats_ways_from_7 (K : PySem.W.Frag) {mg : Str → Option Value} (T : Tx K mg) : TS := (tRet (tTup (tCons (tVar 2) (tCons (tVar 5) tNil))))
abbrev rd_Seats_ways_from_6 (K : PySem.W.Frag) {mg : Str → Option Value} (T : Tx K mg) : TS := Evl.tCut (tIfS (tB (tMeth T.C_Seats "has_room" (spF 2 (S_Seats_has_room K T)) [] E0 (tVar 0) (tCons (tVar 5) tNil))) (rd_Seats_ways_from_7 K T) (rd_Seats_ways_from_8 K T)) (rd_Seats_ways_from_9 K T)
abbrev rd_Seats_ways_from_5 (K : PySem.W.Frag) {mg : Str → Option Value} (T : Tx K mg) : TS := tSeq (sDPut (tVar 2) (tVar 5) (tVar 4)) (rd_Seats_ways_from_6 K T)
abbrev rd_Seats_ways_from_4 (K : PySem.W.Frag) {mg : Str → Option Value} (T : Tx K mg) : TS := (tIfS (tB (tDNotIn (tVar 5) (tVar 2))) (rd_Seats_ways_from_5 K T) (rd_Seats_ways_from_10 K T))
abbrev rd_Seats_ways_from_3 (K : PySem.W.Frag) {mg : Str → Option Value} (T : Tx K mg) : TS := (tFor (iSeq K (tFld K (tDGet (tFld K (tFld K (tVar 0) "scene") "calls") (tVar 4)) "heard")) (gName 5) (rd_Seats_ways_from_4 K T))
abbrev rd_Seats_ways_from_2 (K : PySem.W.Frag) {mg : Str → Option Value} (T : Tx K mg) : TS := tSeq (tAsg (tBM K "list" rPopAt (tVar 3) (tCons (tC (.int 0)) tNil)) (gName 4)) (rd_Seats_ways_from_3 K T)
abbrev rd_Seats_ways_from_1 (K : PySem.W.Frag) {mg : Str → Option Value} (T : Tx K mg) : TS := Evl.tCut (tWhile (tTest (tOp (rNeEl K) (tVar 3) (tLst tNil))) (rd_Seats_ways_from_2 K T)) (rd_Seats_ways_from_11 K T)
abbrev rd_Seats_ways_from_0 (K : PySem.W.Frag) {mg : Str → Option Value} (T : Tx K mg) : TS := tSeq (tPar 2 3 (tCons tDNewK (tCons (tLst (tCons (tVar 1) tNil)) tNil))) (rd_Seats_ways_from_1 K T)
abbrev rd_Seats_add_9 (K : PySem.W.Frag) {mg : Str → Option Value} (T : Tx K mg) : TS := (tRet (tC (.bl true)))
abbrev rd_Seats_add_8 (K : PySem.W.Frag) {mg : Str → Option Value} (T : Tx K mg) : TS := (tAsg (tVar 5) (gName 3))
abbrev rd_Seats_add_7 (K : PySem.W.Frag) {mg : Str → Option Value} (T : Tx K mg) : TS := tSeq (tDrop (tMeth T.C_Seats "sit" (spF 3 (S_Seats_sit K T)) [] E0 (tVar 0) (tCons (tVar 4) (tCons (tVar 3) tNil)))) (rd_Seats_add_8 K T)
abbrev rd_Seats_add_6 (K : PySem.W.Frag) {mg : Str → Option Value} (T : Tx K mg) : TS := tSeq (tAsg (tDGet1 (tFld K (tVar 0) "seating") (tVar 4)) (gName 5)) (rd_Seats_add_7 K T)
abbrev rd_Seats_add_5 (K : PySem.W.Frag) {mg : Str → Option Value} (T : Tx K mg) : TS := tSeq (tAsg (tDGet (tVar 2) (tVar 3)) (gName 4)) (rd_Seats_add_6 K T)
abbrev rd_Seats_add_4 (K : PySem.W.Frag) {mg : Str → Option Value} (T : Tx K mg) : TS := Evl.tCut (tWhile (tTest (tOp Sx.rNotN (tVar 3) (tC .non))) (rd_Seats_add_5 K T)) (rd_Seats_add_9 K T)
abbrev rd_Seats_add_3 (K : PySem.W.Frag) {mg : Str → Option Value} (T : Tx K mg) : TS := tNext
abbrev rd_Seats_add_2 (K : PySem.W.Frag) {mg : Str → Option Value} (T : Tx K mg) : TS := (tRet (tC (.bl false)))
abbrev rd_Seats_add_1 (K : PySem.W.Frag) {mg : Str → Option Value} (T : Tx K mg) : TS := Evl.tCut (tIfS (tTest (tOp Sx.rIsN (tVar 3) (tC .non))) (rd_Seats_add_2 K T) (rd_Seats_add_3 K T)) (rd_Seats_add_4 K T)
abbrev rd_Seats_add_0 (K : PySem.W.Frag) {mg : Str → Option Value} (T : Tx K mg) : TS := tSeq (tAsg (tMeth T.C_Seats "ways_from" (spF 2 (S_Seats_ways_from K T)) [] E0 (tVar 0) (tCons (tVar 1) tNil)) (gTup K 2 (gCons (gName 2) (gCons (gName 3) gNil)))) (rd_Seats_add_1 K T)
abbrev rd_Seats_lot_against_2 (K : PySem.W.Frag) {mg : Str → Option Value} (T : Tx K mg) : TS := (tRet (tCB (rTupOf K) (tCons (tCB (rSortedS K) (tCons (tLst (tCons (tVar 1) (StX.tStar K (tVar 3) tNil))) tNil)) tNil)))
abbrev rd_Seats_lot_against_1 (K : PySem.W.Frag) {mg : Str → Option Value} (T : Tx K mg) : TS := tSeq (tAsg (tLc2 (iKeys (tFz (tVar 2))) (gName 4) tYes (iSeq K (tDGet (tFld K (tVar 0) "seated") (tVar 4))) (gName 5) tYes (tVar 5) [4, 5] [5]) (gName 3)) (rd_Seats_lot_against_2 K T)
abbrev rd_Seats_lot_against_0 (K : PySem.W.Frag) {mg : Str → Option Value} (T : Tx K mg) : TS := tSeq (tAsg (tOp (rIx K) (tMeth T.C_Seats "ways_from" (spF 2 (S_Seats_ways_from K T)) [] E0 (tVar 0) (tCons (tVar 1) tNil)) (tC (.int 0))) (gName 2)) (rd_Seats_lot_against_1 K T)
abbrev rd_Kept_init_7 (K : PySem.W.Frag) {mg : Str → Option Value} (T : Tx K mg) : TS := (sFld K (tVar 0) (tFz (tDc (iSeq K (tCB (rSortedDS) (tCons (tVar 3) tNil))) (gName 4) tYes (tVar 4) (tDGet (tVar 3) (tVar 4)) [4])) "papers")
abbrev rd_Kept_init_6 (K : PySem.W.Frag) {mg : Str → Option Value} (T : Tx K mg) : TS := tSeq (sFld K (tVar 0) (tFz (tDc (iSeq K (tFld K (tVar 0) "lot")) (gName 4) tYes (tVar 4) (tDGet (tFld K (tVar 2) "seating") (tVar 4)) [4])) "seating") (rd_Kept_init_7 K T)
abbrev rd_Kept_init_5 (K : PySem.W.Frag) {mg : Str → Option Value} (T : Tx K mg) : TS := tSeq (sFld K (tVar 0) (tCB (rTupOf K) (tCons (tCB (rSortedDS) (tCons (tFld K (tVar 2) "seating") tNil)) tNil)) "lot") (rd_Kept_init_6 K T)
abbrev rd_Kept_init_4 (K : PySem.W.Frag) {mg : Str → Option Value} (T : Tx K mg) : TS := tNext
abbrev rd_Kept_init_3 (K : PySem.W.Frag) {mg : Str → Option Value} (T : Tx K mg) : TS := (sDPut (tVar 3) (tVar 4) (tMeth T.C_Seats "lot_against" (spF 2 (S_Seats_lot_against K T)) [] E0 (tVar 2) (tCons (tVar 4) tNil)))
abbrev rd_Kept_init_2 (K : PySem.W.Frag) {mg : Str → Option Value} (T : Tx K mg) : TS := (tIfS (tNot (tB (tMeth T.C_Seats "add" (spF 2 (S_Seats_add K T)) [] E0 (tVar 2) (tCons (tVar 4) tNil)))) (rd_Kept_init_3 K T) (rd_Kept_init_4 K T))
abbrev rd_Kept_init_1 (K : PySem.W.Frag) {mg : Str → Option Value} (T : Tx K mg) : TS := Evl.tCut (tFor (iSeq K (tMeth T.C_Scene "order" (spF 1 (S_Scene_order K T)) [] E0 (tVar 1) tNil)) (gName 4) (rd_Kept_init_2 K T)) (rd_Kept_init_5 K T)
abbrev rd_Kept_init_0 (K : PySem.W.Frag) {mg : Str → Option Value} (T : Tx K mg) : TS := tSeq (tAsg (tTup (tCons (tMake T.C_Seats (spF 2 (S_Seats_init K T)) [] E0 (tCons (tVar 1) tNil)) (tCons tDNewK tNil))) (gTup K 2 (gCons (gName 2) (gCons (gName 3) gNil)))) (rd_Kept_init_1 K T)
abbrev rd_kept_0 (K : PySem.W.Frag) {mg : Str → Option Value} (T : Tx K mg) : TS := (tRet (tFld K (tMake T.C_Kept (spF 2 (S_Kept_init K T)) [] E0 (tCons (tVar 0) tNil)) "lot"))
abbrev rd_is_seatable_1 (K : PySem.W.Frag) {mg : Str → Option Value} (T : Tx K mg) : TS := (tRet (tCB (rAll K) (tCons (tLc (iSeq K (tVar 1)) (gName 3) tYes (tMeth T.C_Seats "add" (spF 2 (S_Seats_add K T)) [] E0 (tVar 2) (tCons (tVar 3) tNil)) [3]) tNil)))
abbrev rd_is_seatable_0 (K : PySem.W.Frag) {mg : Str → Option Value} (T : Tx K mg) : TS := tSeq (tAsg (tMake T.C_Seats (spF 2 (S_Seats_init K T)) [] E0 (tCons (tVar 0) tNil)) (gName 2)) (rd_is_seatable_1 K T)
abbrev rd_is_whole_0 (K : PySem.W.Frag) {mg : Str → Option Value} (T : Tx K mg) : TS := (tRet (tAndV (tCB (rIsi K) (tCons (tVar 0) (tCons (tC (.ty "int")) tNil))) (tAndV (tNotV (tCB (rIsi K) (tCons (tVar 0) (tCons (tC (.ty "bool")) tNil)))) (tChain (rI0 fun i j => .bl (decide (i ≤ j))) (rI0 fun i j => .bl (decide (i ≤ j))) (tVar 1) (tVar 0) (tVar 2)))))
abbrev rd_is_name_3 (K : PySem.W.Frag) {mg : Str → Option Value} (T : Tx K mg) : TS := (tRet (tCB (rAll K) (tCons (tLc (iStr (tVar 0)) (gName 1) tYes (tOp rInS (tVar 1) (tOp (rAddU K) (tC (.str "abcdefghijklmnopqrstuvwxyz")) (tC (.str "0123456789")))) [1]) tNil)))
abbrev rd_is_name_2 (K : PySem.W.Frag) {mg : Str → Option Value} (T : Tx K mg) : TS := tNext
abbrev rd_is_name_1 (K : PySem.W.Frag) {mg : Str → Option Value} (T : Tx K mg) : TS := (tRet (tC (.bl false)))
abbrev rd_is_name_0 (K : PySem.W.Frag) {mg : Str → Option Value} (T : Tx K mg) : TS := Evl.tCut (tIfS (tOr (tNot (tB (tCB (rIsi K) (tCons (tVar 0) (tCons (tC (.ty "str")) tNil))))) (tOr (tNot (tTest (tChain (rI0 fun i j => .bl (decide (i ≤ j))) (rI0 fun i j => .bl (decide (i ≤ j))) (tC (.int 1)) (tCB (rLenU K) (tCons (tVar 0) tNil)) (tC (.int 8))))) (tTest (tOp rNotInS (tOp (rIx K) (tVar 0) (tC (.int 0))) (tC (.str "abcdefghijklmnopqrstuvwxyz")))))) (rd_is_name_1 K T) (rd_is_name_2 K T)) (rd_is_name_3 K T)
abbrev rd_Call_init_1 (K : PySem.W.Frag) {mg : Str → Option Value} (T : Tx K mg) : TS := (sFld K (tVar 0) (tCB (rTupOf K) (tCons (tCB (rSortedQ K) (tCons (tVar 2) tNil)) tNil)) "heard")
abbrev rd_Call_init_0 (K : PySem.W.Frag) {mg : Str → Option Value} (T : Tx K mg) : TS := tSeq (sFld K (tVar 0) (tVar 1) "worth") (rd_Call_init_1 K T)
abbrev rd_Scene_init_18 (K : PySem.W.Frag) {mg : Str → Option Value} (T : Tx K mg) : TS := (sFld K (tVar 0) (tFz (tDc (iSeq K (tCB (rSortedDS) (tCons (tVar 2) tNil))) (gName 5) tYes (tVar 5) (tDGet (tVar 2) (tVar 5)) [5])) "calls")
abbrev rd_Scene_init_17 (K : PySem.W.Frag) {mg : Str → Option Value} (T : Tx K mg) : TS := tSeq (sFld K (tVar 0) (tFz (tDc (iSeq K (tCB (rSortedDS) (tCons (tVar 1) tNil))) (gName 3) tYes (tVar 3) (tDGet (tVar 1) (tVar 3)) [3])) "channels") (rd_Scene_init_18 K T)
abbrev rd_Scene_init_16 (K : PySem.W.Frag) {mg : Str → Option Value} (T : Tx K mg) : TS := tNext
abbrev rd_Scene_init_15 (K : PySem.W.Frag) {mg : Str → Option Value} (T : Tx K mg) : TS := tNever
abbrev rd_Scene_init_14 (K : PySem.W.Frag) {mg : Str → Option Value} (T : Tx K mg) : TS := (tIfS (tOr (tNot (tB (tCB (rAll K) (tCons (tLc (iSeq K (tFld K (tVar 6) "heard")) (gName 3) tYes (tDIn (tVar 3) (tVar 1)) [3]) tNil)))) (tTest (tOp (rNeU K) (tLenSetT K (tFld K (tVar 6) "heard")) (tCB (rLenU K) (tCons (tFld K (tVar 6) "heard") tNil))))) (rd_Scene_init_15 K T) (rd_Scene_init_16 K T))
abbrev rd_Scene_init_13 (K : PySem.W.Frag) {mg : Str → Option Value} (T : Tx K mg) : TS := tNext
abbrev rd_Scene_init_12 (K : PySem.W.Frag) {mg : Str → Option Value} (T : Tx K mg) : TS := tNever
abbrev rd_Scene_init_11 (K : PySem.W.Frag) {mg : Str → Option Value} (T : Tx K mg) : TS := Evl.tCut (tIfS (tNot (tB (tCall (spF 3 (S_is_whole K T)) [] E0 (tCons (tFld K (tVar 6) "worth") (tCons (tC (.int 0)) (tCons (tC (.int 1000)) tNil)))))) (rd_Scene_init_12 K T) (rd_Scene_init_13 K T)) (rd_Scene_init_14 K T)
abbrev rd_Scene_init_10 (K : PySem.W.Frag) {mg : Str → Option Value} (T : Tx K mg) : TS := tNext
abbrev rd_Scene_init_9 (K : PySem.W.Frag) {mg : Str → Option Value} (T : Tx K mg) : TS := tNever
abbrev rd_Scene_init_8 (K : PySem.W.Frag) {mg : Str → Option Value} (T : Tx K mg) : TS := Evl.tCut (tIfS (tNot (tB (tCall (spF 1 (S_is_name K T)) [] E0 (tCons (tVar 5) tNil)))) (rd_Scene_init_9 K T) (rd_Scene_init_10 K T)) (rd_Scene_init_11 K T)
abbrev rd_Scene_init_7 (K : PySem.W.Frag) {mg : Str → Option Value} (T : Tx K mg) : TS := Evl.tCut (tFor (iItems (tVar 2)) (gTup K 2 (gCons (gName 5) (gCons (gName 6) gNil))) (rd_Scene_init_8 K T)) (rd_Scene_init_17 K T)
abbrev rd_Scene_init_6 (K : PySem.W.Frag) {mg : Str → Option Value} (T : Tx K mg) : TS := tNext
abbrev rd_Scene_init_5 (K : PySem.W.Frag) {mg : Str → Option Value} (T : Tx K mg) : TS := tNever
abbrev rd_Scene_init_4 (K : PySem.W.Frag) {mg : Str → Option Value} (T : Tx K mg) : TS := (tIfS (tNot (tB (tCall (spF 3 (S_is_whole K T)) [] E0 (tCons (tVar 4) (tCons (tC (.int 0)) (tCons (tC (.int 1000)) tNil)))))) (rd_Scene_init_5 K T) (rd_Scene_init_6 K T))
abbrev rd_Scene_init_3 (K : PySem.W.Frag) {mg : Str → Option Value} (T : Tx K mg) : TS := tNext
abbrev rd_Scene_init_2 (K : PySem.W.Frag) {mg : Str → Option Value} (T : Tx K mg) : TS := tNever
abbrev rd_Scene_init_1 (K : PySem.W.Frag) {mg : Str → Option Value} (T : Tx K mg) : TS := Evl.tCut (tIfS (tNot (tB (tCall (spF 1 (S_is_name K T)) [] E0 (tCons (tVar 3) tNil)))) (rd_Scene_init_2 K T) (rd_Scene_init_3 K T)) (rd_Scene_init_4 K T)
abbrev rd_Scene_init_0 (K : PySem.W.Frag) {mg : Str → Option Value} (T : Tx K mg) : TS := Evl.tCut (tFor (iItems (tVar 1)) (gTup K 2 (gCons (gName 3) (gCons (gName 4) gNil))) (rd_Scene_init_1 K T)) (rd_Scene_init_7 K T)
abbrev rd_Scene_order_0 (K : PySem.W.Frag) {mg : Str → Option Value} (T : Tx K mg) : TS := (tRet (tSortM K T.C_Scene "rank" (spF 2 (S_Scene_rank K T)) (tFld K (tVar 0) "calls") (tVar 0)))
abbrev rd_Scene_rank_0 (K : PySem.W.Frag) {mg : Str → Option Value} (T : Tx K mg) : TS := (tRet (tTup (tCons (tUn (rU fun i => .int (-i)) (tFld K (tDGet (tFld K (tVar 0) "calls") (tVar 1)) "worth")) (tCons (tVar 1) tNil))))
abbrev rd_law_number_8 (K : PySem.W.Frag) {mg : Str → Option Value} (T : Tx K mg) : TS := (tRet (tCB (rInt1) (tCons (tOp (rI (fun _ j => 0 < j) fun i j => .int (i % j)) (tOp (rAddU K) (tOp (rI CMul fun i j => .int (i * j)) (tOp (rI (fun _ j => 0 < j) fun i j => .int (i % j)) (tOp (rI CMul fun i j => .int (i * j)) (tVar 3) (tC (.int 69621))) (tC (.int 2147483629))) (tC (.int 16807))) (tVar 1)) (tC (.int 2147483587))) tNil)))
abbrev rd_law_number_7 (K : PySem.W.Frag) {mg : Str → Option Value} (T : Tx K mg) : TS := tSeq (tAsg (tOp (rI (fun _ j => 0 < j) fun i j => .int (i % j)) (tOp (rAddU K) (tOp (rI CMul fun i j => .int (i * j)) (tOp (rAddU K) (tVar 2) (tOp (rI CMul fun i j => .int (i * j)) (tC (.int 977)) (tVar 1))) (tC (.int 48271))) (tOp (rI CMul fun i j => .int (i * j)) (tC (.int 31)) (tCB (rLenU K) (tCons (tVar 0) tNil)))) (tC (.int 2147483647))) (gName 3)) (rd_law_number_8 K T)
abbrev rd_law_number_6 (K : PySem.W.Frag) {mg : Str → Option Value} (T : Tx K mg) : TS := tNext
abbrev rd_law_number_5 (K : PySem.W.Frag) {mg : Str → Option Value} (T : Tx K mg) : TS := (tAsg (tOp (rI (fun _ j => 0 < j) fun i j => .int (i % j)) (tVar 2) (tOp (rI CPow fun i j => .int (i ^ j.toNat)) (tC (.int 10)) (tC (.int 18)))) (gName 2))
abbrev rd_law_number_4 (K : PySem.W.Frag) {mg : Str → Option Value} (T : Tx K mg) : TS := Evl.tCut (tIfS (tTest (tOp (rI0 fun i j => .bl (decide (j ≤ i))) (tCB (rAbs) (tCons (tVar 2) tNil)) (tOp (rI CPow fun i j => .int (i ^ j.toNat)) (tC (.int 10)) (tC (.int 60))))) (rd_law_number_5 K T) (rd_law_number_6 K T)) (rd_law_number_7 K T)
abbrev rd_law_number_3 (K : PySem.W.Frag) {mg : Str → Option Value} (T : Tx K mg) : TS := tSeq (tAsg (tOp (rIx K) (tVar 0) (tOp (rI (fun _ j => 0 < j) fun i j => .int (i % j)) (tVar 1) (tCB (rLenU K) (tCons (tVar 0) tNil)))) (gName 2)) (rd_law_number_4 K T)
abbrev rd_law_number_2 (K : PySem.W.Frag) {mg : Str → Option Value} (T : Tx K mg) : TS := tNext
abbrev rd_law_number_1 (K : PySem.W.Frag) {mg : Str → Option Value} (T : Tx K mg) : TS := (tRet (tCB (rInt1) (tCons (tOp (rI (fun _ j => 0 < j) fun i j => .int (i % j)) (tOp (rAddU K) (tOp (rI CMul fun i j => .int (i * j)) (tVar 1) (tC (.int 48271))) (tC (.int 12345))) (tC (.int 2147483647))) tNil)))
abbrev rd_law_number_0 (K : PySem.W.Frag) {mg : Str → Option Value} (T : Tx K mg) : TS := Evl.tCut (tIfS (tTest (tOp (rEqU K) (tVar 0) (tLst tNil))) (rd_law_number_1 K T) (rd_law_number_2 K T)) (rd_law_number_3 K T)
abbrev rd_law_take_1 (K : PySem.W.Frag) {mg : Str → Option Value} (T : Tx K mg) : TS := (tRet (tOp (rI (fun _ j => 0 < j) fun i j => .int (i % j)) (tCB (rInt1) (tCons (tCall (spF 2 (S_law_number K T)) [] E0 (tCons (tOp (rIx K) (tVar 0) (tC (.int 0))) (tCons (tCB (rInt1) (tCons (tOp (rIx K) (tVar 0) (tC (.int 1))) tNil)) tNil))) tNil)) (tVar 1)))
abbrev rd_law_take_0 (K : PySem.W.Frag) {mg : Str → Option Value} (T : Tx K mg) : TS := tSeq (tAugS (tVar 0) (tC (.int 1)) (tC (.int 1)) (rIxL K) (ipI fun i j => i + j) rSetL) (rd_law_take_1 K T)
abbrev rd_law_pick_0 (K : PySem.W.Frag) {mg : Str → Option Value} (T : Tx K mg) : TS := (tRet (tOp (rIx K) (tVar 1) (tCall (spF 2 (S_law_take K T)) [] E0 (tCons (tVar 0) (tCons (tCB (rLenU K) (tCons (tVar 1) tNil)) tNil)))))
abbrev rd_law_masts_0 (K : PySem.W.Frag) {mg : Str → Option Value} (T : Tx K mg) : TS := (tRet (tFz (tCB (rDictP K) (tCons (tLc (iRng1 (tCons (tOp (rAddU K) (tC (.int 1)) (tCall (spF 2 (S_law_take K T)) [] E0 (tCons (tVar 0) (tCons (tVar 1) tNil)))) tNil)) (gName 2) tYes (tTup (tCons (tOp (rAddU K) (tC (.str "m")) (tCB (rStrInt) (tCons (tVar 2) tNil))) (tCons (tCall (spF 2 (S_law_pick K T)) [] E0 (tCons (tVar 0) (tCons (tLst (tCons (tC (.int 0)) (tCons (tC (.int 1)) (tCons (tC (.int 1)) (tCons (tC (.int 1)) (tCons (tC (.int 2)) (tCons (tC (.int 2)) (tCons (tC (.int 3)) tNil)))))))) tNil))) tNil))) [2]) tNil))))
abbrev rd_law_heard_0 (K : PySem.W.Frag) {mg : Str → Option Value} (T : Tx K mg) : TS := (tRet (tLc (iKeys (tVar 1)) (gName 2) (tTest (tOp (rEqU K) (tCall (spF 2 (S_law_take K T)) [] E0 (tCons (tVar 0) (tCons (tC (.int 2)) tNil))) (tC (.int 0)))) (tVar 2) [2]))
abbrev rd_law_scene_3 (K : PySem.W.Frag) {mg : Str → Option Value} (T : Tx K mg) : TS := (tRet (tMake T.C_Scene (spF 3 (S_Scene_init K T)) [] E0 (tCons (tVar 3) (tCons (tFz (tVar 4)) tNil))))
abbrev rd_law_scene_2 (K : PySem.W.Frag) {mg : Str → Option Value} (T : Tx K mg) : TS := (sDPut (tVar 4) (tOp (rAddU K) (tC (.str "c")) (tCB (rStrInt) (tCons (tVar 5) tNil))) (tMake T.C_Call (spF 3 (S_Call_init K T)) [] E0 (tCons (tCall (spF 2 (S_law_take K T)) [] E0 (tCons (tVar 0) (tCons (tC (.int 3)) tNil))) (tCons (tCall (spF 2 (S_law_heard K T)) [] E0 (tCons (tVar 0) (tCons (tVar 3) tNil))) tNil))))
abbrev rd_law_scene_1 (K : PySem.W.Frag) {mg : Str → Option Value} (T : Tx K mg) : TS := Evl.tCut (tFor (iRng1 (tCons (tCall (spF 2 (S_law_take K T)) [] E0 (tCons (tVar 0) (tCons (tOp (rAddU K) (tVar 2) (tC (.int 1))) tNil))) tNil)) (gName 5) (rd_law_scene_2 K T)) (rd_law_scene_3 K T)
abbrev rd_law_scene_0 (K : PySem.W.Frag) {mg : Str → Option Value} (T : Tx K mg) : TS := tSeq (tPar 3 4 (tCons (tCall (spF 2 (S_law_masts K T)) [] E0 (tCons (tVar 0) (tCons (tVar 1) tNil))) (tCons tDNewK tNil))) (rd_law_scene_1 K T)
abbrev rd_law_36 (K : PySem.W.Frag) {mg : Str → Option Value} (T : Tx K mg) : TS := (tRet (tC (.bl true)))
abbrev rd_law_35 (K : PySem.W.Frag) {mg : Str → Option Value} (T : Tx K mg) : TS := tNext
abbrev rd_law_34 (K : PySem.W.Frag) {mg : Str → Option Value} (T : Tx K mg) : TS := (tRet (tC (.bl false)))
abbrev rd_law_33 (K : PySem.W.Frag) {mg : Str → Option Value} (T : Tx K mg) : TS := (tIfS (tAnd (tTest (tOp (rI0 fun i j => .bl (decide (i < j))) (tCB (rLenU K) (tCons (tVar 14) tNil)) (tCB (rLenU K) (tCons (tVar 15) tNil)))) (tNot (tB (tCB (rAny K) (tCons (tLc (iSeq K (tVar 15)) (gName 17) (tTest (tOp (rIn K true) (tVar 17) (tVar 14))) (tCall (spF 2 (S_is_seatable K T)) [] E0 (tCons (tVar 2) (tCons (tOp (rAddU K) (tVar 14) (tLst (tCons (tVar 17) tNil))) tNil))) [17]) tNil))))) (rd_law_34 K T) (rd_law_35 K T))
abbrev rd_law_32 (K : PySem.W.Frag) {mg : Str → Option Value} (T : Tx K mg) : TS := (tFor (iSeq K (tVar 11)) (gName 15) (rd_law_33 K T))
abbrev rd_law_31 (K : PySem.W.Frag) {mg : Str → Option Value} (T : Tx K mg) : TS := Evl.tCut (tFor (iSeq K (tVar 11)) (gName 14) (rd_law_32 K T)) (rd_law_36 K T)
abbrev rd_law_30 (K : PySem.W.Frag) {mg : Str → Option Value} (T : Tx K mg) : TS := tNext
abbrev rd_law_29 (K : PySem.W.Frag) {mg : Str → Option Value} (T : Tx K mg) : TS := (tDrop (tBM K "list" rAppend (tVar 11) (tCons (tVar 13) tNil)))
abbrev rd_law_28 (K : PySem.W.Frag) {mg : Str → Option Value} (T : Tx K mg) : TS := (tIfS (tB (tCall (spF 2 (S_is_seatable K T)) [] E0 (tCons (tVar 2) (tCons (tVar 13) tNil)))) (rd_law_29 K T) (rd_law_30 K T))
abbrev rd_law_27 (K : PySem.W.Frag) {mg : Str → Option Value} (T : Tx K mg) : TS := tSeq (tAsg (tLc (iKeys (tVar 4)) (gName 17) (tTest (tOp (rEqU K) (tCall (spF 2 (S_law_take K T)) [] E0 (tCons (tVar 1) (tCons (tC (.int 2)) tNil))) (tC (.int 0)))) (tVar 17) [17]) (gName 13)) (rd_law_28 K T)
abbrev rd_law_26 (K : PySem.W.Frag) {mg : Str → Option Value} (T : Tx K mg) : TS := Evl.tCut (tFor (iRng1 (tCons (tC (.int 4)) tNil)) (gName 12) (rd_law_27 K T)) (rd_law_31 K T)
abbrev rd_law_25 (K : PySem.W.Frag) {mg : Str → Option Value} (T : Tx K mg) : TS := tSeq (tAsg (tLst tNil) (gName 11)) (rd_law_26 K T)
abbrev rd_law_24 (K : PySem.W.Frag) {mg : Str → Option Value} (T : Tx K mg) : TS := tNext
abbrev rd_law_23 (K : PySem.W.Frag) {mg : Str → Option Value} (T : Tx K mg) : TS := tNext
abbrev rd_law_22 (K : PySem.W.Frag) {mg : Str → Option Value} (T : Tx K mg) : TS := (tRet (tC (.bl false)))
abbrev rd_law_21 (K : PySem.W.Frag) {mg : Str → Option Value} (T : Tx K mg) : TS := (tIfS (tAnd (tTest (tOp (rIn K false) (tVar 7) (tVar 3))) (tTest (tOp (rIn K true) (tVar 7) (tCall (spF 1 (S_kept K T)) [] E0 (tCons (tMake T.C_Scene (spF 3 (S_Scene_init K T)) [] E0 (tCons (tFld K (tVar 2) "channels") (tCons (tFz (tVar 10)) tNil))) tNil))))) (rd_law_22 K T) (rd_law_23 K T))
abbrev rd_law_20 (K : PySem.W.Frag) {mg : Str → Option Value} (T : Tx K mg) : TS := tSeq (sDPut (tVar 10) (tVar 7) (tMake T.C_Call (spF 3 (S_Call_init K T)) [] E0 (tCons (tFld K (tDGet (tVar 4) (tVar 7)) "worth") (tCons (tSortSetX K (tOp (rAddU K) (tCB (rLstOf K) (tCons (tFld K (tDGet (tVar 4) (tVar 7)) "heard") tNil)) (tLst (tCons (tVar 5) tNil)))) tNil)))) (rd_law_21 K T)
abbrev rd_law_19 (K : PySem.W.Frag) {mg : Str → Option Value} (T : Tx K mg) : TS := tSeq (tAsg (tCB (rDictD) (tCons (tVar 4) tNil)) (gName 10)) (rd_law_20 K T)
abbrev rd_law_18 (K : PySem.W.Frag) {mg : Str → Option Value} (T : Tx K mg) : TS := tNext
abbrev rd_law_17 (K : PySem.W.Frag) {mg : Str → Option Value} (T : Tx K mg) : TS := (tRet (tC (.bl false)))
abbrev rd_law_16 (K : PySem.W.Frag) {mg : Str → Option Value} (T : Tx K mg) : TS := Evl.tCut (tIfS (tAnd (tTest (tOp (rIn K false) (tVar 7) (tVar 3))) (tTest (tOp (rIn K true) (tVar 7) (tCall (spF 1 (S_kept K T)) [] E0 (tCons (tMake T.C_Scene (spF 3 (S_Scene_init K T)) [] E0 (tCons (tFld K (tVar 2) "channels") (tCons (tFz (tVar 9)) tNil))) tNil))))) (rd_law_17 K T) (rd_law_18 K T)) (rd_law_19 K T)
abbrev rd_law_15 (K : PySem.W.Frag) {mg : Str → Option Value} (T : Tx K mg) : TS := tSeq (sDPut (tVar 9) (tVar 7) (tMake T.C_Call (spF 3 (S_Call_init K T)) [] E0 (tCons (tOp (rAddU K) (tFld K (tDGet (tVar 4) (tVar 7)) "worth") (tC (.int 1))) (tCons (tFld K (tDGet (tVar 4) (tVar 7)) "heard") tNil)))) (rd_law_16 K T)
abbrev rd_law_14 (K : PySem.W.Frag) {mg : Str → Option Value} (T : Tx K mg) : TS := tSeq (tAsg (tCB (rDictD) (tCons (tVar 4) tNil)) (gName 9)) (rd_law_15 K T)
abbrev rd_law_13 (K : PySem.W.Frag) {mg : Str → Option Value} (T : Tx K mg) : TS := tNext
abbrev rd_law_12 (K : PySem.W.Frag) {mg : Str → Option Value} (T : Tx K mg) : TS := (tRet (tC (.bl false)))
abbrev rd_law_11 (K : PySem.W.Frag) {mg : Str → Option Value} (T : Tx K mg) : TS := Evl.tCut (tIfS (tB (tCB (rAny K) (tCons (tLc (iSeq K (tVar 3)) (gName 17) (tTest (tOp (rNeU K) (tVar 17) (tVar 7))) (tOp (rIn K true) (tVar 17) (tCall (spF 1 (S_kept K T)) [] E0 (tCons (tMake T.C_Scene (spF 3 (S_Scene_init K T)) [] E0 (tCons (tFld K (tVar 2) "channels") (tCons (tVar 8) tNil))) tNil))) [17]) tNil))) (rd_law_12 K T) (rd_law_13 K T)) (rd_law_14 K T)
abbrev rd_law_10 (K : PySem.W.Frag) {mg : Str → Option Value} (T : Tx K mg) : TS := tSeq (tAsg (tFz (tCB (rDictP K) (tCons (tLc (iItems (tVar 4)) (gTup K 2 (gCons (gName 17) (gCons (gName 18) gNil))) (tTest (tOp (rNeU K) (tVar 17) (tVar 7))) (tTup (tCons (tVar 17) (tCons (tVar 18) tNil))) [17, 18]) tNil))) (gName 8)) (rd_law_11 K T)
abbrev rd_law_9 (K : PySem.W.Frag) {mg : Str → Option Value} (T : Tx K mg) : TS := tSeq (tAsg (tCall (spF 2 (S_law_pick K T)) [] E0 (tCons (tVar 1) (tCons (tCB (rListDZ) (tCons (tVar 4) tNil)) tNil))) (gName 7)) (rd_law_10 K T)
abbrev rd_law_8 (K : PySem.W.Frag) {mg : Str → Option Value} (T : Tx K mg) : TS := Evl.tCut (tIfS (tTest (tOp rNeEz (tVar 4) tDNewK)) (rd_law_9 K T) (rd_law_24 K T)) (rd_law_25 K T)
abbrev rd_law_7 (K : PySem.W.Frag) {mg : Str → Option Value} (T : Tx K mg) : TS := tNext
abbrev rd_law_6 (K : PySem.W.Frag) {mg : Str → Option Value} (T : Tx K mg) : TS := (tRet (tC (.bl false)))
abbrev rd_law_5 (K : PySem.W.Frag) {mg : Str → Option Value} (T : Tx K mg) : TS := Evl.tCut (tIfS (tB (tCB (rAny K) (tCons (tLc (iSeq K (tVar 3)) (gName 17) tYes (tOp (rIn K true) (tVar 17) (tCall (spF 1 (S_kept K T)) [] E0 (tCons (tMake T.C_Scene (spF 3 (S_Scene_init K T)) [] E0 (tCons (tVar 6) (tCons (tVar 4) tNil))) tNil))) [17]) tNil))) (rd_law_6 K T) (rd_law_7 K T)) (rd_law_8 K T)
abbrev rd_law_4 (K : PySem.W.Frag) {mg : Str → Option Value} (T : Tx K mg) : TS := tSeq (tAsg (tFz (tCB (rDictP K) (tCons (tLc (iItems (tFld K (tVar 2) "channels")) (gTup K 2 (gCons (gName 14) (gCons (gName 16) gNil))) tYes (tTup (tCons (tVar 14) (tCons (tOp (rAddU K) (tVar 16) (tCB (rInt1) (tCons (tOp (rEqU K) (tVar 14) (tVar 5)) tNil))) tNil))) [14, 16]) tNil))) (gName 6)) (rd_law_5 K T)
abbrev rd_law_3 (K : PySem.W.Frag) {mg : Str → Option Value} (T : Tx K mg) : TS := tSeq (tAsg (tCall (spF 2 (S_law_pick K T)) [] E0 (tCons (tVar 1) (tCons (tCB (rListDZ) (tCons (tFld K (tVar 2) "channels") tNil)) tNil))) (gName 5)) (rd_law_4 K T)
abbrev rd_law_2 (K : PySem.W.Frag) {mg : Str → Option Value} (T : Tx K mg) : TS := tSeq (tAsg (tTup (tCons (tCall (spF 1 (S_kept K T)) [] E0 (tCons (tVar 2) tNil)) (tCons (tFld K (tVar 2) "calls") tNil))) (gTup K 2 (gCons (gName 3) (gCons (gName 4) gNil)))) (rd_law_3 K T)
abbrev rd_law_1 (K : PySem.W.Frag) {mg : Str → Option Value} (T : Tx K mg) : TS := tSeq (tAsg (tCall (spF 3 (S_law_scene K T)) [] E0 (tCons (tVar 1) (tCons (tC (.int 4)) (tCons (tC (.int 7)) tNil)))) (gName 2)) (rd_law_2 K T)
abbrev rd_law_0 (K : PySem.W.Frag) {mg : Str → Option Value} (T : Tx K mg) : TS := tSeq (tAsg (tLst (tCons (tVar 0) (tCons (tC (.int 0)) tNil))) (gName 1)) (rd_law_1 K T)
/-! ### steps -/
local macro_rules | `(tactic| walk_at "shp") => `(tactic| first
  | exact shp_int
  | exact shp_none
  | exact shp_bool
  | exact shp_oi _
  | (apply shp_str; first | decide +kernel | assumption)
  | (apply shp_list; walk_at "shpA")
  | (apply shp_tuple; walk_at "shpA")
  | assumption)
local macro_rules | `(tactic| walk_at "shpA") => `(tactic| first
  | exact shpA_nil
  | (apply shpA_cons; (· walk_at "shp"); walk_at "shpA")
  | (apply shpA_map; intro _ _; walk_at "shp"))
/-- what is left beside: closed, or left -/
local macro_rules | `(tactic| walk_at "side") => `(tactic| first
  | (with_reducible show Shp _ _); walk_at "shp"
  | (with_reducible show _ ≤ sizeLine); first | decide | (show _ ≤ 16777216; omega) | (show _ ≤ 16777216; simp only [List.length_map, List.length_append, List.length_cons, List.length_nil]; omega)
  | (with_reducible show _ < sizeLine); first | decide | (show _ < 16777216; omega) | (show _ < 16777216; simp only [List.length_map, List.length_append, List.length_cons, List.length_nil]; omega)
  | (with_reducible show CMul _ _); first | exact Or.inr ⟨by decide, by decide⟩ | exact Or.inl ⟨by decide, by decide⟩ | exact Or.inl ⟨by omega, by omega⟩ | exact Or.inr ⟨by omega, by omega⟩
  | (with_reducible show CPow _ _); exact ⟨by decide, by decide, by decide⟩
  | (with_reducible show CDiv _ _); first | exact ⟨by decide, by decide⟩ | exact ⟨by omega, by omega⟩
  | (with_reducible show Le _ _); first | with_reducible exact Le.refl _ | with_reducible assumption
  | (with_reducible show L2.atI _ _ = _); first | with_reducible assumption | exact rfl | exact atI_nat rfl
  | (with_reducible show _ < _); first | with_reducible assumption | decide | omega
  | (with_reducible show _ ≤ _); first | with_reducible assumption | decide | omega
  | (with_reducible show _ ∧ _); omega
  | (with_reducible show ∀ i, i ∈ _ → i ∈ _); decide
  | (with_reducible show (_ : Nat) = _); first | exact rfl | omega)
local macro_rules | `(tactic| walk_at "rm") => `(tactic| first
  | exact Rm.here
  | (apply Rm.there; walk_at "rm"))
local macro_rules | `(tactic| walk_at "perm") => `(tactic| first
  | with_reducible exact List.Perm.refl _
  | (apply perm_step; (· walk_at "rm"); walk_at "perm")
  | exact List.Perm.refl _)
local macro_rules | `(tactic| walk_at "pk") => `(tactic| first
  | with_reducible exact Pk.here
  | ((with_reducible apply Pk.there); walk_at "pk"))
/-- a part of a reading: what it gives. One word for all kinds -/
local macro_rules | `(tactic| walk_at "sx") => `(tactic| first
  -- an expression
  | with_reducible exact ev_int
  | with_reducible exact ev_bl
  | with_reducible exact ev_str
  | with_reducible exact ev_non
  | (with_reducible apply ev_var) <;> walk_at "sx"
  | (with_reducible apply ev_op) <;> walk_at "sx"
  | (with_reducible apply ev_fld) <;> walk_at "sx"
  | (with_reducible apply ev_cb) <;> walk_at "sx"
  | (with_reducible apply ev_tupD) <;> walk_at "sx"
  | (with_reducible apply ev_lstD) <;> walk_at "sx"
  | (with_reducible apply ev_tupV) <;> walk_at "sx"
  | (with_reducible apply ev_lstV) <;> walk_at "sx"
  | (with_reducible apply ev_slL) <;> walk_at "sx"
  | (with_reducible apply ev_slT1) <;> walk_at "sx"
  | (with_reducible apply ev_slT) <;> walk_at "sx"
  | (with_reducible apply ev_un) <;> walk_at "sx"
  | (with_reducible apply ev_chain) <;> walk_at "sx"
  | (with_reducible apply ev_andV) <;> walk_at "sx"
  | (with_reducible apply ev_orV) <;> walk_at "sx"
  | (with_reducible apply ev_notV) <;> walk_at "sx"
  | (with_reducible apply ev_lcY) <;> walk_at "sx"
  | (with_reducible apply ev_lc) <;> walk_at "sx"
  | ((with_reducible show ∀ a, a ∈ _ → ∃ ρ'' js, _); intro a ha; dsimp only [wipeE, List.set]; (first | with_reducible apply lcY_k | with_reducible apply lcF_k) <;> walk_at "sx")
  | (with_reducible apply ev_call) <;> walk_at "sx"
  | (with_reducible apply ev_meth) <;> walk_at "sx"
  | (with_reducible apply ev_bm) <;> walk_at "sx"
  | (with_reducible show Ev _ _ _ _ _); walk_at "own"
  -- a test
  | with_reducible exact et_yes
  | (with_reducible apply et_test) <;> walk_at "sx"
  | (with_reducible apply et_B) <;> walk_at "sx"
  | (with_reducible apply et_not) <;> walk_at "sx"
  | (with_reducible apply et_and) <;> walk_at "sx"
  | (with_reducible apply et_or) <;> walk_at "sx"
  -- arguments
  | with_reducible exact ea_nil
  | (with_reducible apply ea_cons) <;> walk_at "sx"
  | with_reducible exact ed_nil
  | (with_reducible apply ed_cons) <;> walk_at "sx"
  | with_reducible exact eo_none
  | (with_reducible apply eo_some) <;> walk_at "sx"
  -- what an operation gives
  | with_reducible exact rv_addI
  | with_reducible exact rv_int0
  | with_reducible exact rv_bl0
  | with_reducible exact rv_eqI
  | with_reducible exact rv_neI
  | with_reducible exact rv_eqS
  | with_reducible exact rv_neS
  | with_reducible exact rv_isN
  | with_reducible exact rv_notN
  | (with_reducible apply rv_intC) <;> walk_at "sx"
  | (with_reducible apply rv_addS) <;> walk_at "sx"
  | (with_reducible apply rv_ixL isl_dat) <;> walk_at "sx"
  | (with_reducible apply rv_ixT ist_dat) <;> walk_at "sx"
  | (with_reducible apply rv_ixL) <;> walk_at "sx"
  | (with_reducible apply rv_ixLV) <;> walk_at "sx"
  | (apply rv_ixT ist_dat) <;> walk_at "sx"
  | (with_reducible apply rv_ixTV istv_vtup) <;> walk_at "sx"
  | (with_reducible apply rv_ixScr) <;> walk_at "sx"
  | (apply rv_ixL isl_dat) <;> walk_at "sx"
  | (with_reducible apply rv_ixL) <;> walk_at "sx"
  | (apply rv_cat) <;> walk_at "sx"
  | (with_reducible apply rv_eqD) <;> walk_at "sx"
  | (with_reducible apply rv_neD) <;> walk_at "sx"
  | with_reducible exact ru_neg
  | with_reducible exact rc_int
  | with_reducible exact rc_abs
  | with_reducible exact rc_max2
  | with_reducible exact rc_min2
  | with_reducible exact rc_lenScr
  | with_reducible exact rc_lenM isl_dat
  | ((with_reducible apply rc_lenM); (with_reducible apply isl_cell) <;> walk_at "sx")
  | with_reducible exact rc_lenMT
  | (with_reducible apply rc_lenL) <;> walk_at "sx"
  | (apply rc_lenT ist_dat)
  | (with_reducible apply rc_tupL) <;> walk_at "sx"
  | (apply rc_tupT)
  | (with_reducible apply rc_lstL) <;> walk_at "sx"
  | (apply rc_lstT ist_dat)
  | with_reducible exact rc_anyM
  | with_reducible exact rc_allM
  | ((with_reducible apply rm_append) <;> walk_at "sx")
  -- lists, tuples, data
  | with_reducible exact isl_dat
  | with_reducible exact isd_dat
  | with_reducible exact isd_scr
  | (with_reducible apply isl_cell) <;> walk_at "sx"
  | (with_reducible apply islv_cell) <;> walk_at "sx"
  | with_reducible exact islv_vlst
  | (with_reducible apply isd_cell) <;> walk_at "sx"
  | (with_reducible apply isd_vtup) <;> walk_at "sx"
  | (with_reducible apply isd_vlst) <;> walk_at "sx"
  | with_reducible exact isds_nil
  | (with_reducible apply isds_cons) <;> walk_at "sx"
  | with_reducible exact fzl_dat
  | with_reducible exact fzl_v
  | with_reducible exact fzt_dat
  | with_reducible exact fzt_v
  | (with_reducible apply ity_l) <;> walk_at "sx"
  | with_reducible exact ity_s
  | (with_reducible apply IsLst.v) <;> walk_at "sx"
  -- places
  | with_reducible exact At.here
  | (with_reducible apply At.there) <;> walk_at "sx"
  | with_reducible exact SetAt.here
  | (with_reducible apply SetAt.there) <;> walk_at "sx"
  | with_reducible exact List.mem_cons_self
  | (with_reducible apply List.mem_cons_of_mem) <;> walk_at "sx"
  | ((with_reducible show (_ : Addr × CD) ∈ _); with_reducible assumption)
  | with_reducible exact Put.here
  | (with_reducible apply Put.there) <;> walk_at "sx"
  | ((with_reducible show Put _ _ _ _ _); with_reducible assumption)
  | ((with_reducible show Sw _ _ _ _); with_reducible assumption)
  | with_reducible exact sw_nil
  | ((with_reducible apply sw_pick); (· walk_at "pk"); walk_at "sx")
  | ((with_reducible apply sw_skip); walk_at "sx")
  | with_reducible exact FGet.here
  | ((with_reducible apply FGet.there); (· decide +kernel); walk_at "sx")
  | with_reducible exact FPut.here
  | with_reducible exact FPut.new
  | ((with_reducible apply FPut.there); (· decide +kernel); walk_at "sx")
  | (with_reducible show ClsF _ _ _); with_reducible assumption
  | (with_reducible show RtQ _ _ _); assumption
  | (with_reducible show (_ : Str) ∈ _); decide +kernel
  | (with_reducible show ¬ (_ : Str) ∈ _); decide +kernel
  -- what is walked, targets
  | (with_reducible apply ei_rng1) <;> walk_at "sx"
  | (with_reducible apply ei_rng2) <;> walk_at "sx"
  | (with_reducible apply ei_enumD) <;> walk_at "sx"
  | (with_reducible apply ei_enum) <;> walk_at "sx"
  | (with_reducible apply ei_zip) <;> walk_at "sx"
  | (with_reducible apply ei_seqLM) <;> walk_at "sx"
  | (with_reducible apply ei_seqTM) <;> walk_at "sx"
  | (with_reducible apply ei_seqL) <;> walk_at "sx"
  | (with_reducible apply ei_seqT) <;> walk_at "sx"
  | (with_reducible apply tg_name) <;> walk_at "sx"
  | (with_reducible apply tg_tup istv_vtup) <;> walk_at "sx"
  | (with_reducible apply td_tup) <;> walk_at "sx"
  | with_reducible exact td_nil
  | (with_reducible apply td_cons) <;> walk_at "sx"
  | with_reducible exact tgs_nil
  | (with_reducible apply tgs_cons) <;> walk_at "sx"
  -- beside
  | walk_at "spec"
  | walk_at "side"
  | walk_at "leave")
/-- a question of another kind is left -/
local macro_rules | `(tactic| walk_at "leave") => `(tactic| first
  | with_reducible show Cont _ _ _ _
  | with_reducible show Shp _ _
  | with_reducible show _ ≤ _
  | with_reducible show _ < _
  | with_reducible show CMul _ _
  | with_reducible show CDiv _ _
  | with_reducible show CPow _ _
  | with_reducible show _ = _
  | with_reducible show Le _ _
  | ((with_reducible show _ = true → _); with_reducible assumption)
  | ((with_reducible show _ = true → _); intro _; walk_at "sx")
  | ((with_reducible show _ = false → _); intro _; walk_at "sx"))
/-- a plain statement -/
local macro_rules | `(tactic| walk_at "st") => `(tactic| first
  | (with_reducible apply c_seq); walk_at "st"
  | (with_reducible apply c_asg) <;> (first | walk_at "sx" | skip)
  | (with_reducible apply c_asgG) <;> (first | walk_at "sx" | skip)
  | (with_reducible apply c_par) <;> (first | walk_at "sx" | skip)
  | (with_reducible apply c_par3) <;> (first | walk_at "sx" | skip)
  | (with_reducible apply c_aug) <;> (first | walk_at "sx" | skip)
  | (with_reducible apply c_augS) <;> (first | walk_at "sx" | skip)
  | (with_reducible apply c_fld) <;> (first | walk_at "sx" | skip)
  | (with_reducible apply c_drop) <;> (first | walk_at "sx" | skip)
  | with_reducible apply c_next
  | with_reducible apply c_break
  | with_reducible apply c_cont)
/-- a value is handed back; a word is met again -/
local macro_rules | `(tactic| walk_at "ret") => `(tactic| (with_reducible apply c_ret) <;> (first | walk_at "sx" | skip))
local macro_rules | `(tactic| walk_at "inv") => `(tactic| (with_reducible apply c_inv) <;> (first | walk_at "side" | skip))
local macro_rules | `(tactic| walk_at "seq") => `(tactic| with_reducible apply c_seq)
local macro_rules | `(tactic| walk_at "cut") => `(tactic| with_reducible apply c_cut)
local macro_rules | `(tactic| walk_at "if") => `(tactic| ((with_reducible apply c_if); (case' h => first | walk_at "sx" | skip)))
local macro_rules | `(tactic| walk_at "fgt") => `(tactic| first
  | exact Fgt.nil
  | (with_reducible apply Fgt.keep; walk_at "fgt")
  | (with_reducible apply Fgt.drop; walk_at "fgt"))

theorem law_number_body {K : PySem.W.Frag} {mg : Str → Option Value} (T : Tx K mg) : ∀ Q ds M P Φ, ds.length = 2 → S_law_number K T ds M P → RtQ Q Φ P → Cont (rd_law_number_0 K T (fnD Q)) Φ (entry ["_law_script", "_law_index", "_law_cell", "_law_blend"] ds) M := by
  rintro Q ds M P Φ - ⟨s, i, rfl, hP⟩ hQ
  show Cont _ _ [some (vscr K s), some (dat (.int i)), none, none] _
  have he : (PyData.list (List.map PyData.int s)).eqv (PyData.list []) = decide (s = []) := EqOk.dec (eqok_list eqok_int) s []
  apply c_cut
  refine c_if (by walk_at "sx") ?_ ?_
  · rw [he]
    intro h
    have hs := of_decide_eq_true h
    walk_at "ret"
    have : lawNum s i = (i * 48271 + 12345) % 2147483647 := by unfold lawNum; rw [if_pos hs]
    rw [this] at hP
    exact hP
  · rw [he]
    intro h
    have hs := of_decide_eq_false h
    have hl : (0 : Int) < s.length := by
      cases s with
      | nil => exact absurd rfl hs
      | cons _ _ => simp
    have h0 : 0 ≤ i % s.length := Int.emod_nonneg _ (by omega)
    have h1 : i % s.length < s.length := Int.emod_lt_of_pos _ hl
    have hat : L2.atI s (i % s.length) = some (s.getD (i % s.length).toNat 0) := by
      have hj : (i % s.length).toNat < s.length := by omega
      have e : ((i % s.length).toNat : Int) = i % s.length := by omega
      have e2 := atI_nat (xs := s) (j := (i % s.length).toNat) (v := s.getD (i % s.length).toNat 0) (by simp [List.getD, hj])
      rw [e] at e2
      exact e2
    apply c_next
    walk_at "st"
    refine c_cutW (fun ρ' M' => ρ' = [some (vscr K s), some (dat (.int i)), some (dat (.int (scrCell s i))), none] ∧ M' = M) ?_ ?_
    · refine c_if (by walk_at "sx") ?_ ?_
      · intro hb
        have hb := of_decide_eq_true hb
        walk_at "st"
        walk_at "inv"
        refine ⟨?_, rfl⟩
        have : scrCell s i = s.getD (i % s.length).toNat 0 % 10 ^ (18 : Int).toNat := by
          unfold scrCell
          exact if_pos hb
        rw [this]
      · intro hb
        have hb := of_decide_eq_false hb
        apply c_next
        walk_at "inv"
        refine ⟨?_, rfl⟩
        have : scrCell s i = s.getD (i % s.length).toNat 0 := by
          unfold scrCell
          exact if_neg hb
        rw [this]
    · rintro ρ' M' ⟨rfl, rfl⟩
      walk_at "st"
      walk_at "ret"
      have : lawNum s i = (((scrCell s i + 977 * i) * 48271 + 31 * s.length) % 2147483647 * 69621 % 2147483629 * 16807 + i) % 2147483587 := by unfold lawNum; rw [if_neg hs]
      rw [this] at hP
      exact hP
theorem number_ev {K : PySem.W.Frag} {mg : Str → Option Value} {T : Tx K mg} {s : List Int} {i : Int} {M : Cells} : S_law_number K T [vscr K s, dat (.int i)] M (Det (dat (.int (lawNum s i))) M) := ⟨s, i, rfl, rfl, rfl⟩
theorem take_ev {K : PySem.W.Frag} {mg : Str → Option Value} {T : Tx K mg} {s : List Int} {k m : Int} {p : Addr} {M M' : Cells} (h : Put p (cDraw K s k) (cDraw K s (k + 1)) M M') (hm : 0 < m) :
    S_law_take K T [val (.ref p), dat (.int m)] M (Det (dat (.int (tk s (k + 1) m))) M') := ⟨s, k, m, p, M', rfl, hm, h, rfl, rfl⟩
local macro_rules | `(tactic| walk_at "spec") => `(tactic| first
  | with_reducible exact number_ev
  | (with_reducible apply take_ev) <;> walk_at "sx")
theorem law_take_body {K : PySem.W.Frag} {mg : Str → Option Value} (T : Tx K mg) : ∀ Q ds M P Φ, ds.length = 2 → S_law_take K T ds M P → RtQ Q Φ P → Cont (rd_law_take_0 K T (fnD Q)) Φ (entry ["_law_draw", "_law_many"] ds) M := by
  rintro Q ds M P Φ - ⟨s, k, m, p, M', rfl, hm, hput, hP⟩ hQ
  show Cont _ _ [some (val (.ref p)), some (dat (.int m))] _
  apply c_seq
  refine c_augS (j := 1) (a := k) (p := p) (by walk_at "sx") (by walk_at "sx") rfl rfl (by walk_at "sx") hput ?_
  have hm' : (p, cDraw K s (k + 1)) ∈ M' := by
    clear hP hQ
    induction hput with
    | here => exact List.mem_cons_self
    | there _ ih => exact List.mem_cons_of_mem _ ih
  have hl : IsLstV (val (.ref p)) M' [vscr K s, dat (.int (k + 1))] := islv_cell hm'
  walk_at "ret"
  exact hP

end Lw


set_option Elab.async false
set_option linter.all false
set_option maxRecDepth 100000
set_option maxHeartbeats 4000000
namespace Lw
open PySem L2 Sx
/-! ### steps -/
local macro_rules | `(tactic| walk_at "shp") => `(tactic| first
  | exact shp_int
  | exact shp_none
  | exact shp_bool
  | exact shp_oi _
  | (apply shp_str; first | decide +kernel | assumption)
  | (apply shp_list; walk_at "shpA")
  | (apply shp_tuple; walk_at "shpA")
  | assumption)
local macro_rules | `(tactic| walk_at "shpA") => `(tactic| first
  | exact shpA_nil
  | (apply shpA_cons; (· walk_at "shp"); walk_at "shpA")
  | (apply shpA_map; intro _ _; walk_at "shp"))
/-- what is left beside: closed, or left -/
local macro_rules | `(tactic| walk_at "side") => `(tactic| first
  | (with_reducible show Shp _ _); walk_at "shp"
  | (with_reducible show _ ≤ sizeLine); first | decide | (show _ ≤ 16777216; omega) | (show _ ≤ 16777216; simp only [List.length_map, List.length_append, List.length_cons, List.length_nil]; omega)
  | (with_reducible show _ < sizeLine); first | decide | (show _ < 16777216; omega) | (show _ < 16777216; simp only [List.length_map, List.length_append, List.length_cons, List.length_nil]; omega)
  | (with_reducible show CMul _ _); first | exact Or.inr ⟨by decide, by decide⟩ | exact Or.inl ⟨by decide, by decide⟩ | exact Or.inl ⟨by omega, by omega⟩ | exact Or.inr ⟨by omega, by omega⟩
  | (with_reducible show CPow _ _); exact ⟨by decide, by decide, by decide⟩
  | (with_reducible show CDiv _ _); first | exact ⟨by decide, by decide⟩ | exact ⟨by omega, by omega⟩
  | (with_reducible show Le _ _); first | with_reducible exact Le.refl _ | with_reducible assumption
  | (with_reducible show L2.atI _ _ = _); first | with_reducible assumption | exact rfl | exact atI_nat rfl
  | (with_reducible show _ < _); first | with_reducible assumption | decide | omega
  | (with_reducible show _ ≤ _); first | with_reducible assumption | decide | omega
  | (with_reducible show _ ∧ _); omega
  | (with_reducible show ∀ i, i ∈ _ → i ∈ _); decide
  | (with_reducible show (_ : Nat) = _); first | exact rfl | omega)
local macro_rules | `(tactic| walk_at "rm") => `(tactic| first
  | exact Rm.here
  | (apply Rm.there; walk_at "rm"))
local macro_rules | `(tactic| walk_at "perm") => `(tactic| first
  | with_reducible exact List.Perm.refl _
  | (apply perm_step; (· walk_at "rm"); walk_at "perm")
  | exact List.Perm.refl _)
local macro_rules | `(tactic| walk_at "pk") => `(tactic| first
  | with_reducible exact Pk.here
  | ((with_reducible apply Pk.there); walk_at "pk"))
/-- a part of a reading: what it gives. One word for all kinds -/
local macro_rules | `(tactic| walk_at "sx") => `(tactic| first
  -- an expression
  | with_reducible exact ev_int
  | with_reducible exact ev_bl
  | with_reducible exact ev_str
  | with_reducible exact ev_non
  | (with_reducible apply ev_var) <;> walk_at "sx"
  | (with_reducible apply ev_op) <;> walk_at "sx"
  | (with_reducible apply ev_fld) <;> walk_at "sx"
  | (with_reducible apply ev_cb) <;> walk_at "sx"
  | (with_reducible apply ev_tupD) <;> walk_at "sx"
  | (with_reducible apply ev_lstD) <;> walk_at "sx"
  | (with_reducible apply ev_tupV) <;> walk_at "sx"
  | (with_reducible apply ev_lstV) <;> walk_at "sx"
  | (with_reducible apply ev_slL) <;> walk_at "sx"
  | (with_reducible apply ev_slT1) <;> walk_at "sx"
  | (with_reducible apply ev_slT) <;> walk_at "sx"
  | (with_reducible apply ev_un) <;> walk_at "sx"
  | (with_reducible apply ev_chain) <;> walk_at "sx"
  | (with_reducible apply ev_andV) <;> walk_at "sx"
  | (with_reducible apply ev_orV) <;> walk_at "sx"
  | (with_reducible apply ev_notV) <;> walk_at "sx"
  | (with_reducible apply ev_lcY) <;> walk_at "sx"
  | (with_reducible apply ev_lc) <;> walk_at "sx"
  | ((with_reducible show ∀ a, a ∈ _ → ∃ ρ'' js, _); intro a ha; dsimp only [wipeE, List.set]; (first | with_reducible apply lcY_k | with_reducible apply lcF_k) <;> walk_at "sx")
  | (with_reducible apply ev_call) <;> walk_at "sx"
  | (with_reducible apply ev_meth) <;> walk_at "sx"
  | (with_reducible apply ev_bm) <;> walk_at "sx"
  | (with_reducible show Ev _ _ _ _ _); walk_at "own"
  -- a test
  | with_reducible exact et_yes
  | (with_reducible apply et_test) <;> walk_at "sx"
  | (with_reducible apply et_B) <;> walk_at "sx"
  | (with_reducible apply et_not) <;> walk_at "sx"
  | (with_reducible apply et_and) <;> walk_at "sx"
  | (with_reducible apply et_or) <;> walk_at "sx"
  -- arguments
  | with_reducible exact ea_nil
  | (with_reducible apply ea_cons) <;> walk_at "sx"
  | with_reducible exact ed_nil
  | (with_reducible apply ed_cons) <;> walk_at "sx"
  | with_reducible exact eo_none
  | (with_reducible apply eo_some) <;> walk_at "sx"
  -- what an operation gives
  | with_reducible exact rv_addI
  | with_reducible exact rv_int0
  | with_reducible exact rv_bl0
  | with_reducible exact rv_eqI
  | with_reducible exact rv_neI
  | with_reducible exact rv_eqS
  | with_reducible exact rv_neS
  | with_reducible exact rv_isN
  | with_reducible exact rv_notN
  | (with_reducible apply rv_intC) <;> walk_at "sx"
  | (with_reducible apply rv_addS) <;> walk_at "sx"
  | (with_reducible apply rv_ixL isl_dat) <;> walk_at "sx"
  | (with_reducible apply rv_ixT ist_dat) <;> walk_at "sx"
  | (with_reducible apply rv_ixL) <;> walk_at "sx"
  | (with_reducible apply rv_ixLV) <;> walk_at "sx"
  | (apply rv_ixT ist_dat) <;> walk_at "sx"
  | (with_reducible apply rv_ixTV istv_vtup) <;> walk_at "sx"
  | (with_reducible apply rv_ixScr) <;> walk_at "sx"
  | (apply rv_ixL isl_dat) <;> walk_at "sx"
  | (with_reducible apply rv_ixL) <;> walk_at "sx"
  | (apply rv_cat) <;> walk_at "sx"
  | (with_reducible apply rv_eqD) <;> walk_at "sx"
  | (with_reducible apply rv_neD) <;> walk_at "sx"
  | with_reducible exact ru_neg
  | with_reducible exact rc_int
  | with_reducible exact rc_abs
  | with_reducible exact rc_max2
  | with_reducible exact rc_min2
  | with_reducible exact rc_lenScr
  | with_reducible exact rc_lenM isl_dat
  | ((with_reducible apply rc_lenM); (with_reducible apply isl_cell) <;> walk_at "sx")
  | with_reducible exact rc_lenMT
  | (with_reducible apply rc_lenL) <;> walk_at "sx"
  | (apply rc_lenT ist_dat)
  | (with_reducible apply rc_tupL) <;> walk_at "sx"
  | (apply rc_tupT)
  | (with_reducible apply rc_lstL) <;> walk_at "sx"
  | (apply rc_lstT ist_dat)
  | with_reducible exact rc_anyM
  | with_reducible exact rc_allM
  | ((with_reducible apply rm_append) <;> walk_at "sx")
  -- lists, tuples, data
  | with_reducible exact isl_dat
  | with_reducible exact isd_dat
  | with_reducible exact isd_scr
  | (with_reducible apply isl_cell) <;> walk_at "sx"
  | (with_reducible apply islv_cell) <;> walk_at "sx"
  | with_reducible exact islv_vlst
  | (with_reducible apply isd_cell) <;> walk_at "sx"
  | (with_reducible apply isd_vtup) <;> walk_at "sx"
  | (with_reducible apply isd_vlst) <;> walk_at "sx"
  | with_reducible exact isds_nil
  | (with_reducible apply isds_cons) <;> walk_at "sx"
  | with_reducible exact fzl_dat
  | with_reducible exact fzl_v
  | with_reducible exact fzt_dat
  | with_reducible exact fzt_v
  | (with_reducible apply ity_l) <;> walk_at "sx"
  | with_reducible exact ity_s
  | (with_reducible apply IsLst.v) <;> walk_at "sx"
  -- places
  | with_reducible exact At.here
  | (with_reducible apply At.there) <;> walk_at "sx"
  | with_reducible exact SetAt.here
  | (with_reducible apply SetAt.there) <;> walk_at "sx"
  | with_reducible exact List.mem_cons_self
  | (with_reducible apply List.mem_cons_of_mem) <;> walk_at "sx"
  | ((with_reducible show (_ : Addr × CD) ∈ _); with_reducible assumption)
  | with_reducible exact Put.here
  | (with_reducible apply Put.there) <;> walk_at "sx"
  | ((with_reducible show Put _ _ _ _ _); with_reducible assumption)
  | ((with_reducible show Sw _ _ _ _); with_reducible assumption)
  | with_reducible exact sw_nil
  | ((with_reducible apply sw_pick); (· walk_at "pk"); walk_at "sx")
  | ((with_reducible apply sw_skip); walk_at "sx")
  | with_reducible exact FGet.here
  | ((with_reducible apply FGet.there); (· decide +kernel); walk_at "sx")
  | with_reducible exact FPut.here
  | with_reducible exact FPut.new
  | ((with_reducible apply FPut.there); (· decide +kernel); walk_at "sx")
  | (with_reducible show ClsF _ _ _); with_reducible assumption
  | (with_reducible show RtQ _ _ _); assumption
  | (with_reducible show (_ : Str) ∈ _); decide +kernel
  | (with_reducible show ¬ (_ : Str) ∈ _); decide +kernel
  -- what is walked, targets
  | (with_reducible apply ei_rng1) <;> walk_at "sx"
  | (with_reducible apply ei_rng2) <;> walk_at "sx"
  | (with_reducible apply ei_enumD) <;> walk_at "sx"
  | (with_reducible apply ei_enum) <;> walk_at "sx"
  | (with_reducible apply ei_zip) <;> walk_at "sx"
  | (with_reducible apply ei_seqLM) <;> walk_at "sx"
  | (with_reducible apply ei_seqTM) <;> walk_at "sx"
  | (with_reducible apply ei_seqL) <;> walk_at "sx"
  | (with_reducible apply ei_seqT) <;> walk_at "sx"
  | (with_reducible apply tg_name) <;> walk_at "sx"
  | (with_reducible apply tg_tup istv_vtup) <;> walk_at "sx"
  | (with_reducible apply td_tup) <;> walk_at "sx"
  | with_reducible exact td_nil
  | (with_reducible apply td_cons) <;> walk_at "sx"
  | with_reducible exact tgs_nil
  | (with_reducible apply tgs_cons) <;> walk_at "sx"
  -- beside
  | walk_at "spec"
  | walk_at "side"
  | walk_at "leave")
/-- a question of another kind is left -/
local macro_rules | `(tactic| walk_at "leave") => `(tactic| first
  | with_reducible show Cont _ _ _ _
  | with_reducible show Shp _ _
  | with_reducible show _ ≤ _
  | with_reducible show _ < _
  | with_reducible show CMul _ _
  | with_reducible show CDiv _ _
  | with_reducible show CPow _ _
  | with_reducible show _ = _
  | with_reducible show Le _ _
  | ((with_reducible show _ = true → _); with_reducible assumption)
  | ((with_reducible show _ = true → _); intro _; walk_at "sx")
  | ((with_reducible show _ = false → _); intro _; walk_at "sx"))
/-- a plain statement -/
local macro_rules | `(tactic| walk_at "st") => `(tactic| first
  | (with_reducible apply c_seq); walk_at "st"
  | (with_reducible apply c_asg) <;> (first | walk_at "sx" | skip)
  | (with_reducible apply c_asgG) <;> (first | walk_at "sx" | skip)
  | (with_reducible apply c_par) <;> (first | walk_at "sx" | skip)
  | (with_reducible apply c_par3) <;> (first | walk_at "sx" | skip)
  | (with_reducible apply c_aug) <;> (first | walk_at "sx" | skip)
  | (with_reducible apply c_augS) <;> (first | walk_at "sx" | skip)
  | (with_reducible apply c_fld) <;> (first | walk_at "sx" | skip)
  | (with_reducible apply c_drop) <;> (first | walk_at "sx" | skip)
  | with_reducible apply c_next
  | with_reducible apply c_break
  | with_reducible apply c_cont)
/-- a value is handed back; a word is met again -/
local macro_rules | `(tactic| walk_at "ret") => `(tactic| (with_reducible apply c_ret) <;> (first | walk_at "sx" | skip))
local macro_rules | `(tactic| walk_at "inv") => `(tactic| (with_reducible apply c_inv) <;> (first | walk_at "side" | skip))
local macro_rules | `(tactic| walk_at "seq") => `(tactic| with_reducible apply c_seq)
local macro_rules | `(tactic| walk_at "cut") => `(tactic| with_reducible apply c_cut)
local macro_rules | `(tactic| walk_at "if") => `(tactic| ((with_reducible apply c_if); (case' h => first | walk_at "sx" | skip)))
local macro_rules | `(tactic| walk_at "fgt") => `(tactic| first
  | exact Fgt.nil
  | (with_reducible apply Fgt.keep; walk_at "fgt")
  | (with_reducible apply Fgt.drop; walk_at "fgt"))

/-! ### more steps: stars, dicts, tuples -/
local macro_rules | `(tactic| walk_at "sx") => `(tactic| first
  | (with_reducible apply ed_starT) <;> walk_at "sx"
  | (with_reducible apply ev_dgetS) <;> walk_at "sx"
  | with_reducible exact isdi_v
  | (with_reducible apply isdi_c) <;> walk_at "sx"
  | (with_reducible apply rv_catTd) <;> walk_at "sx"
  | with_reducible exact ist_dat
  | ((with_reducible show ¬ (_ : Int) < _); with_reducible assumption)
  | ((with_reducible show valG _ _ = _); walk_at "get")
  | ((with_reducible show putG _ _ _ = _); walk_at "get"))

section
variable {K : PySem.W.Frag} {mg : Str → Option Value} {ρ ρ' : Sx.Env} {M M1 M' L : Cells} {te td ta tb : TE} {x y : VD} {P P' : VD → Cells → Prop}
theorem er_lstD (h : EvR te ρ M fun y N => ∃ ds, y = vlst (ds.map dat) ∧ P (dat (.list ds)) N) : EvR te ρ M P := fun Φ σ H Q s q => h Φ σ H Q s fun x M' v H' ⟨ds, e, hp⟩ s' => q _ M' v H' hp (s'.weak (.of rfl fun F p => ⟨p.1, vlst_dat.mp (e ▸ p.2)⟩))
theorem items_sK {β : Type} (f : β → VD) (l : List (Str × β)) : (sK f l).map (fun p => vtup [kdat p.1, p.2]) = l.map fun q => vtup [vt q.1, f q.2] := by
  unfold sK
  rw [List.map_map]
  rfl
theorem keys_sK {β : Type} (f : β → VD) (l : List (Str × β)) : (sK f l).map (fun p => kdat p.1) = (ky l).map fun k => vt k := by
  unfold sK ky
  rw [List.map_map, List.map_map]
  rfl
theorem ei_itemsS {β : Type} {f : β → VD} {l : List (Str × β)} (h : Ev td ρ M (vdz (sK f l)) M') : EvI (iItems td) ρ M (l.map fun q => vtup [vt q.1, f q.2]) M' := by
  rw [← items_sK]
  exact ei_itemsZ h
theorem ei_keysS {β : Type} {f : β → VD} {l : List (Str × β)} (h : Ev td ρ M (vdz (sK f l)) M') : EvI (iKeys td) ρ M ((ky l).map fun k => vt k) M' := by
  rw [← keys_sK f]
  exact ei_keysZ h
/-- d[k] of a frozen dict, of one's own -/
theorem ev_dgetZ {β : Type} {f : β → VD} {l : List (Str × β)} {k : Str} {v : β} (hd : Ev td ρ M (vdz (sK f l)) M1) (hk : Ev te ρ M1 (vt k) M') (h : lk l k = some v) : Ev (tDGet td te) ρ M (f v) M' := ev_dgetS hd hk isdi_z (by rw [val_sK, h]; rfl)
theorem ev_dgetV {β : Type} {f : β → VD} {l : List (Str × β)} {k : Str} {v : β} (hd : Ev td ρ M (vdi (sK f l)) M1) (hk : Ev te ρ M1 (vt k) M') (h : lk l k = some v) : Ev (tDGet td te) ρ M (f v) M' := ev_dgetS hd hk isdi_v (by rw [val_sK, h]; rfl)
theorem ev_dgetC {β : Type} {f : β → VD} {l : List (Str × β)} {k : Str} {v : β} {p : Addr} (hd : Ev td ρ M (val (.ref p)) M1) (hk : Ev te ρ M1 (vt k) M') (m : (p, cD (sK f l)) ∈ M') (h : lk l k = some v) : Ev (tDGet td te) ρ M (f v) M' := ev_dgetS hd hk (isdi_c m) (by rw [val_sK, h]; rfl)
theorem ev_getSeat {l : List (Str × Str)} {k : Str} {p : Addr} (hd : Ev td ρ M (val (.ref p)) M) (hk : Ev te ρ M (vt k) M) (m : (p, seatD l) ∈ M) : Ev (tDGet1 td te) ρ M (dat (os (lk l k))) M := by
  have h := ev_dget1 (k := .inr k) hd (isdi_c m) hk (isdi_c m)
  rw [val_sK, vt_getD] at h
  exact h
/-- {k: d[k] for k in sorted(d)} -/
theorem ev_sortD {β : Type} {f : β → VD} {l : List (Str × β)} {i j : Nat} {ρj : VD → Sx.Env} (few : l.length < 64) (h0 : Ev (tVar i) ρ M (vdz (sK f l)) M) (h1 : ∀ d, SetAt d (wipeE ρ [j]) j (ρj d)) (h2 : ∀ d, At (vdz (sK f l)) (ρj d) i) (h3 : ∀ d, At d (ρj d) j) (nd : (ky l).Nodup) :
    Ev (tFz (tDc (iSeq K (tCB rSortedDS (tCons (tVar i) tNil))) (gName j) tYes (tVar j) (tDGet (tVar i) (tVar j)) [j])) ρ M (vdz (sK f (sortK l))) M := by
  have hE : EvI (iSeq K (tCB rSortedDS (tCons (tVar i) tNil))) ρ M ((sortS (ky l)).map fun k => vt k) M := ei_seqLM (ev_cb (ea_cons h0 ea_nil) (rc_sortDS isdi_z (key_sK f l) (by rw [List.length_map]; exact few)))
  have hl : (sortS (ky l)).length = l.length := by rw [(sortS_perm _).length_eq, List.length_map]
  refine (er_fzD (er_dc (k := fun k => (Sum.inr k : L2.Key)) (r := fun k => ((lk l k).map f).getD vn) hE (by omega) fun a ha => ?_) ?_ : EvR _ ρ M (Det _ M)).ev
  · refine ⟨ρj (vt a), [j], tg_name (h1 _), fun _ h => h, ev_var (h3 _), ?_⟩
    have hk := lk_isSome.mpr ((sortS_perm _).mem_iff.mp ha)
    cases e : lk l a with
    | none => rw [e] at hk; cases hk
    | some v => exact ev_dgetZ (f := f) (l := l) (v := v) (ev_var (h2 _)) (ev_var (h3 _)) e
  · rintro x N ⟨D, rfl, rfl⟩
    refine ⟨D, _, M, rfl, rfl, ?_, rfl⟩
    rw [sK_sortK]
    have := merge_sK f (sortK l) [] (nd_sortK nd)
    rw [List.nil_append] at this
    exact congrArg vdz this
/-- .. of a dict of one's own -/
theorem ev_sortDc {β : Type} {f : β → VD} {l : List (Str × β)} {i j : Nat} {ρj : VD → Sx.Env} {p : Addr} (few : l.length < 64) (h0 : Ev (tVar i) ρ M (val (.ref p)) M) (hm : (p, cD (sK f l)) ∈ M) (h1 : ∀ d, SetAt d (wipeE ρ [j]) j (ρj d)) (h2 : ∀ d, At (val (.ref p)) (ρj d) i) (h3 : ∀ d, At d (ρj d) j) (nd : (ky l).Nodup) :
    Ev (tFz (tDc (iSeq K (tCB rSortedDS (tCons (tVar i) tNil))) (gName j) tYes (tVar j) (tDGet (tVar i) (tVar j)) [j])) ρ M (vdz (sK f (sortK l))) M := by
  have hE : EvI (iSeq K (tCB rSortedDS (tCons (tVar i) tNil))) ρ M ((sortS (ky l)).map fun k => vt k) M := ei_seqLM (ev_cb (ea_cons h0 ea_nil) (rc_sortDS (isdi_c hm) (key_sK f l) (by rw [List.length_map]; exact few)))
  have hl : (sortS (ky l)).length = l.length := by rw [(sortS_perm _).length_eq, List.length_map]
  refine (er_fzD (er_dc (k := fun k => (Sum.inr k : L2.Key)) (r := fun k => ((lk l k).map f).getD vn) hE (by omega) fun a ha => ?_) ?_ : EvR _ ρ M (Det _ M)).ev
  · refine ⟨ρj (vt a), [j], tg_name (h1 _), fun _ h => h, ev_var (h3 _), ?_⟩
    have hk := lk_isSome.mpr ((sortS_perm _).mem_iff.mp ha)
    cases e : lk l a with
    | none => rw [e] at hk; cases hk
    | some v => exact ev_dgetC (f := f) (l := l) (v := v) (ev_var (h2 _)) (ev_var (h3 _)) hm e
  · rintro x N ⟨D, rfl, rfl⟩
    refine ⟨D, _, M, rfl, rfl, ?_, rfl⟩
    rw [sK_sortK]
    have := merge_sK f (sortK l) [] (nd_sortK nd)
    rw [List.nil_append] at this
    exact congrArg vdz this
end
theorem is_whole_body {K : PySem.W.Frag} {mg : Str → Option Value} (T : Tx K mg) : ∀ Q ds M P Φ, ds.length = 3 → S_is_whole K T ds M P → RtQ Q Φ P → Cont (rd_is_whole_0 K T (fnD Q)) Φ (entry ["thing", "low", "high"] ds) M := by
  rintro Q ds M P Φ - ⟨d, lo, hi, rfl, hd, hP⟩ hQ
  show Cont _ _ [some (dat d), some (dat (.int lo)), some (dat (.int hi))] _
  rcases hd with ⟨i, rfl⟩ | ⟨s, rfl⟩
  · refine c_ret (x := dat (.bool (isW (.int i) lo hi))) ?h1 hQ hP (Le.refl _)
    case h1 =>
      have e : isW (.int i) lo hi = (true && (!false && (decide (lo ≤ i) && decide (i ≤ hi)))) := by simp [isW]
      rw [e]
      refine ev_andV (a := true) ?_ fun _ => ev_andV (a := !false) ?_ fun _ => ?_
      · exact ev_cb (ea_cons (ev_var .here) (ea_cons ev_val ea_nil)) (rc_isi rfl)
      · exact ev_notV (ev_cb (ea_cons (ev_var .here) (ea_cons ev_val ea_nil)) (rc_isi rfl))
      · walk_at "sx"
  · refine c_ret (x := dat (.bool (isW (.str s) lo hi))) ?h2 hQ hP (Le.refl _)
    case h2 =>
      show Ev _ _ _ (dat (.bool (false && false))) _
      refine ev_andV (a := false) ?_ fun z => Bool.noConfusion z
      exact ev_cb (ea_cons (ev_var .here) (ea_cons ev_val ea_nil)) (rc_isi rfl)
theorem is_name_body {K : PySem.W.Frag} {mg : Str → Option Value} (T : Tx K mg) : ∀ Q ds M P Φ, ds.length = 1 → S_is_name K T ds M P → RtQ Q Φ P → Cont (rd_is_name_0 K T (fnD Q)) Φ (entry ["thing", "sign"] ds) M := by
  rintro Q ds M P Φ - ⟨z, rfl, hz, hP⟩ hQ
  show Cont _ _ [some (vt z), none] _
  apply c_cut
  have hlen : z.length = z.cps.toList.length := by rw [Array.length_toList]; rfl
  refine c_if (M1 := M) (b := !true || (!(decide (1 ≤ (z.length : Int)) && decide ((z.length : Int) ≤ 8)) || !headIn z)) (et_or (et_not (et_B (ev_cb (ea_cons (ev_var .here) (ea_cons ev_val ea_nil)) (rc_isi rfl)))) fun _ => et_or (et_not (et_test (ev_chain ev_int (ev_cb (ea_cons (ev_var .here) ea_nil) (rc_lenS hz)) rv_bl0 (fun _ => ev_int) fun _ => rv_bl0))) fun hb => ?_) (fun hb => ?_) fun hb => ?_
  · rw [Bool.not_eq_false', Bool.and_eq_true] at hb
    have h1 := of_decide_eq_true hb.1
    unfold headIn
    cases e : z.cps.toList with
    | nil => rw [hlen, e] at h1; simp at h1
    | cons c r => exact et_test (ev_op (ev_op (ev_var .here) ev_int (rv_ixSign hz (c := c) (by rw [e]; exact atI_nat (j := 0) rfl))) ev_str rv_notInSign)
  · have e : isName z = false := by
      unfold isName
      rw [Bool.not_true, Bool.false_or, ← Bool.not_and, Bool.not_eq_true'] at hb
      rw [hb, Bool.false_and]
    rw [e] at hP
    exact c_ret ev_bl hQ hP (Le.refl _)
  · have hb2 : ((decide (1 ≤ (z.length : Int)) && decide ((z.length : Int) ≤ 8)) && headIn z) = true := by
      rw [Bool.not_true, Bool.false_or, ← Bool.not_and, Bool.not_eq_false'] at hb
      exact hb
    have e : isName z = z.cps.toList.all fun c => decide (c ∈ (LETS ++ FIGS).cps.toList) := by
      unfold isName
      rw [hb2, Bool.true_and]
    rw [Bool.and_eq_true, Bool.and_eq_true] at hb2
    have h8 := of_decide_eq_true hb2.1.2
    rw [e] at hP
    apply c_next
    refine c_ret (ev_cb (ea_cons (ev_lcY (ei_str (ev_var .here)) (by omega) fun c hc => ⟨[some (vt z), some (dat (.str (sign c)))], [1], tg_name (.there (.here)), fun _ h => h, ev_op (ev_var (.there (.here))) (ev_op ev_str ev_str (rv_addS (by decide +kernel))) rv_inSign⟩) ea_nil) rc_allM) hQ hP (Le.refl _)

theorem Call_init_body {K : PySem.W.Frag} {mg : Str → Option Value} (T : Tx K mg) : ∀ Q ds M P Φ, ds.length = 3 → S_Call_init K T ds M P → RtQ Q Φ P → Cont (rd_Call_init_0 K T (fnD Q)) Φ (entry ["self", "worth", "heard"] ds) M := by
  rintro Q ds M P Φ - ⟨p, w, hd, d, M0, rfl, hd', rfl, few, hP⟩ hQ
  show Cont _ _ [some (val (.ref p)), some (dat (.int w)), some (dat d)] _
  have hF := T.F_Call
  have hx : ∀ {M : Cells}, IsLst (dat d) M (hd.map .str) ∨ IsTup (dat d) M (hd.map .str) := fun {M} => by
    rcases hd' with rfl | rfl
    · exact .inr ist_dat
    · exact .inl isl_dat
  walk_at "seq"
  refine c_fld (M3 := (p, cI T.C_Call ["worth"] [dat (.int w)]) :: M0) (ev_var (.there (.here))) (ev_var .here) .here .new hF (by decide +kernel) (by decide) ?_
  refine c_fld (y := dat (txT (sortS hd))) (M3 := (p, cI T.C_Call calN [dat (.int w), dat (txT (sortS hd))]) :: M0) (ev_cb (ea_cons (ev_cb (ea_cons (ev_var (.there (.there (.here)))) ea_nil) (rc_sortQ hx few)) ea_nil) (rc_tupL isl_dat)) (ev_var .here) .here (.there (by decide +kernel) .new) hF (by decide +kernel) (by decide) ?_
  exact c_end hQ hP (Le.refl _)

theorem name_ev {K : PySem.W.Frag} {mg : Str → Option Value} {T : Tx K mg} {z : Str} {M : Cells} (hz : isName z = true) : S_is_name K T [dat (.str z)] M (Det (dat (.bool true)) M) := ⟨z, rfl, by
  unfold isName at hz
  rw [Bool.and_eq_true, Bool.and_eq_true, Bool.and_eq_true] at hz
  have := of_decide_eq_true hz.1.1.2
  show z.length ≤ 16777216
  omega, by rw [hz]; exact ⟨rfl, rfl⟩⟩
theorem whole_ev {K : PySem.W.Frag} {mg : Str → Option Value} {T : Tx K mg} {i lo hi : Int} {M : Cells} (h1 : lo ≤ i) (h2 : i ≤ hi) : S_is_whole K T [dat (.int i), dat (.int lo), dat (.int hi)] M (Det (dat (.bool true)) M) := ⟨_, lo, hi, rfl, .inl ⟨i, rfl⟩, by
  show Det _ _ (dat (.bool (decide (lo ≤ i) && decide (i ≤ hi)))) M
  rw [decide_eq_true h1, decide_eq_true h2]
  exact ⟨rfl, rfl⟩⟩
theorem Scene_init_body {K : PySem.W.Frag} {mg : Str → Option Value} (T : Tx K mg) : ∀ Q ds M P Φ, ds.length = 3 → S_Scene_init K T ds M P → RtQ Q Φ P → Cont (rd_Scene_init_0 K T (fnD Q)) Φ (entry ["self", "channels", "calls", "mast", "many", "name", "call"] ds) M := by
  rintro Q ds M P Φ - ⟨p, ch, ca, M0, rfl, rfl, ok, hP⟩ hQ
  show Cont _ _ [some (val (.ref p)), some (chV ch), some (caV T.C_Call ca), none, none, none, none] _
  have hF := T.F_Scene
  have hC := T.F_Call
  apply c_cut
  refine c_for (its := ch.map fun q => vtup [vt q.1, nV q.2]) (M1 := (p, cI T.C_Scene [] []) :: M0) (I := fun _ ρ' M' => ∃ x3 x4, ρ' = [some (val (.ref p)), some (chV ch), some (caV T.C_Call ca), x3, x4, none, none] ∧ M' = (p, cI T.C_Scene [] []) :: M0) (ei_itemsS (ev_var (.there (.here)))) ⟨_, _, rfl, rfl⟩ ?_ ?_
  · rintro Ψ hΨ i d ρ' M' hi ⟨x3, x4, rfl, rfl⟩
    rw [List.getElem?_map] at hi
    cases hq : ch[i]? with
    | none => rw [hq] at hi; cases hi
    | some q =>
      rw [hq] at hi
      cases hi
      obtain ⟨h1, h2⟩ := ok.mn q (List.mem_of_getElem? hq)
      refine ⟨[some (val (.ref p)), some (chV ch), some (caV T.C_Call ca), some (vt q.1), some (nV q.2), none, none], _, tg_tup istv_vtup (tgs_cons (tg_name (.there (.there (.there (.here))))) (tgs_cons (tg_name (.there (.there (.there (.there (.here)))))) tgs_nil)) rfl, ?_⟩
      show Cont (rd_Scene_init_1 K T _) Ψ _ _
      apply c_cut
      refine c_if (b := !true) (et_not (et_B (ev_call (ds := [vt q.1]) (ea_cons (ev_var (.there (.there (.there (.here))))) ea_nil) rfl (name_ev h1)))) (fun z => Bool.noConfusion z) fun _ => ?_
      apply c_next
      refine c_if (b := !true) (et_not (et_B (ev_call (ds := [nV q.2, dat (.int 0), dat (.int 1000)]) (ea_cons (ev_var (.there (.there (.there (.there (.here)))))) (ea_cons ev_int (ea_cons ev_int ea_nil))) rfl (whole_ev (by omega) (by omega))))) (fun z => Bool.noConfusion z) fun _ => ?_
      apply c_next
      exact c_inv ⟨_, _, rfl, rfl⟩ (Le.refl _)
  rintro ρ' M' ⟨x3, x4, rfl, rfl⟩
  show Cont (rd_Scene_init_7 K T (fnD Q)) Φ _ _
  apply c_cut
  refine c_for (its := ca.map fun q => vtup [vt q.1, calV T.C_Call q.2]) (M1 := (p, cI T.C_Scene [] []) :: M0) (I := fun _ ρ' M' => ∃ x3 x5 x6, ρ' = [some (val (.ref p)), some (chV ch), some (caV T.C_Call ca), x3, x4, x5, x6] ∧ M' = (p, cI T.C_Scene [] []) :: M0) (ei_itemsS (ev_var (.there (.there (.here))))) ⟨_, _, _, rfl, rfl⟩ ?_ ?_
  · rintro Ψ hΨ i d ρ' M' hi ⟨x3, x5, x6, rfl, rfl⟩
    rw [List.getElem?_map] at hi
    cases hq : ca[i]? with
    | none => rw [hq] at hi; cases hi
    | some q =>
      rw [hq] at hi
      cases hi
      obtain ⟨h1, h2, h3, h4, h5⟩ := ok.cn q (List.mem_of_getElem? hq)
      refine ⟨[some (val (.ref p)), some (chV ch), some (caV T.C_Call ca), x3, x4, some (vt q.1), some (calV T.C_Call q.2)], _, tg_tup istv_vtup (tgs_cons (tg_name (.there (.there (.there (.there (.there (.here))))))) (tgs_cons (tg_name (.there (.there (.there (.there (.there (.there (.here)))))))) tgs_nil)) rfl, ?_⟩
      show Cont (rd_Scene_init_8 K T _) Ψ _ _
      apply c_cut
      refine c_if (b := !true) (et_not (et_B (ev_call (ds := [vt q.1]) (ea_cons (ev_var (.there (.there (.there (.there (.there (.here))))))) ea_nil) rfl (name_ev h1)))) (fun z => Bool.noConfusion z) fun _ => ?_
      apply c_next
      show Cont (rd_Scene_init_11 K T _) Ψ _ _
      apply c_cut
      refine c_if (b := !true) (et_not (et_B (ev_call (ds := [dat (.int q.2.w), dat (.int 0), dat (.int 1000)]) (ea_cons (ev_fldV (ev_var (.there (.there (.there (.there (.there (.there (.here)))))))) hC (by decide +kernel) .here) (ea_cons ev_int (ea_cons ev_int ea_nil))) rfl (whole_ev h2 h3)))) (fun z => Bool.noConfusion z) fun _ => ?_
      apply c_next
      have hlen : q.2.hd.length ≤ 63 := by
        have := nd_len h4 h5
        have := ok.lm
        simp only [List.length_map] at *
        omega
      have hh : ∀ {ρ' : Sx.Env} {M : Cells}, At (calV T.C_Call q.2) ρ' 6 → Ev (tFld K (tVar 6) "heard") ρ' M (dat (txT q.2.hd)) M := fun h => ev_fldV (ev_var h) hC (by decide +kernel) (.there (by decide +kernel) .here)
      refine c_if (b := !(q.2.hd.all fun m => (valG (sK nV ch) (.inr m)).isSome) || !decide (((dcn q.2.hd : Nat) : Int) = (q.2.hd.length : Int))) (et_or (et_not (et_B (ev_cb (ea_cons (ev_lcY (e := fun m => vt m) (xs := q.2.hd) (ei_seqTM (hh (.there (.there (.there (.there (.there (.there (.here))))))))) (by omega) fun m _ => ?_) ea_nil) rc_allM))) fun _ => et_test (ev_op (ev_lenSetT (hh (.there (.there (.there (.there (.there (.there (.here)))))))) (by omega)) (ev_cb (ea_cons (hh (.there (.there (.there (.there (.there (.there (.here)))))))) ea_nil) rc_lenMT) rv_neI)) (fun z => ?_) fun _ => ?_
      · exact ⟨[some (val (.ref p)), some (chV ch), some (caV T.C_Call ca), some (vt m), x4, some (vt q.1), some (calV T.C_Call q.2)], [3], tg_name (.there (.there (.there (.here)))), fun _ h => h, ev_din (k := .inr m) (ev_var (.there (.there (.there (.here))))) (ev_var (.there (.here))) isdi_z⟩
      · exfalso
        rw [dcn_nodup _ h4] at z
        have : (q.2.hd.all fun m => (valG (sK nV ch) (.inr m)).isSome) = true := by
          rw [List.all_eq_true]
          intro m hm
          rw [val_sK, Option.isSome_map]
          exact lk_isSome.mpr (h5 m hm)
        rw [this] at z
        simp at z
      · apply c_next
        exact c_inv ⟨_, _, _, rfl, rfl⟩ (Le.refl _)
  rintro ρ' M' ⟨x3, x5, x6, rfl, rfl⟩
  show Cont (rd_Scene_init_17 K T (fnD Q)) Φ _ _
  have hlm := ok.lm
  have hlc := ok.lc
  walk_at "seq"
  refine c_fld (M3 := (p, cI T.C_Scene ["channels"] [chV (sortK ch)]) :: M0) (ev_sortD (ρj := fun d => [some (val (.ref p)), some (chV ch), some (caV T.C_Call ca), some d, x4, x5, x6]) (by omega) (ev_var (.there (.here))) (fun d => (.there (.there (.there (.here))))) (fun d => (.there (.here))) (fun d => (.there (.there (.there (.here))))) ok.nm) (ev_var .here) .here .new hF (by decide +kernel) (by decide) ?_
  refine c_fld (y := caV T.C_Call (sortK ca)) (M3 := (p, cI T.C_Scene sceN [chV (sortK ch), caV T.C_Call (sortK ca)]) :: M0) (ev_sortD (ρj := fun d => [some (val (.ref p)), some (chV ch), some (caV T.C_Call ca), x3, x4, some d, x6]) (by omega) (ev_var (.there (.there (.here)))) (fun d => (.there (.there (.there (.there (.there (.here))))))) (fun d => (.there (.there (.here)))) (fun d => (.there (.there (.there (.there (.there (.here))))))) ok.nc) (ev_var .here) .here (.there (by decide +kernel) .new) hF (by decide +kernel) (by decide) ?_
  exact c_end hQ hP (Le.refl _)

end Lw


set_option Elab.async false
set_option linter.all false
set_option maxRecDepth 100000
set_option maxHeartbeats 4000000
namespace Lw
open PySem L2 Sx
/-! ### steps -/
local macro_rules | `(tactic| walk_at "shp") => `(tactic| first
  | exact shp_int
  | exact shp_none
  | exact shp_bool
  | exact shp_oi _
  | (apply shp_str; first | decide +kernel | assumption)
  | (apply shp_list; walk_at "shpA")
  | (apply shp_tuple; walk_at "shpA")
  | assumption)
local macro_rules | `(tactic| walk_at "shpA") => `(tactic| first
  | exact shpA_nil
  | (apply shpA_cons; (· walk_at "shp"); walk_at "shpA")
  | (apply shpA_map; intro _ _; walk_at "shp"))
/-- what is left beside: closed, or left -/
local macro_rules | `(tactic| walk_at "side") => `(tactic| first
  | (with_reducible show Shp _ _); walk_at "shp"
  | (with_reducible show _ ≤ sizeLine); first | decide | (show _ ≤ 16777216; omega) | (show _ ≤ 16777216; simp only [List.length_map, List.length_append, List.length_cons, List.length_nil]; omega)
  | (with_reducible show _ < sizeLine); first | decide | (show _ < 16777216; omega) | (show _ < 16777216; simp only [List.length_map, List.length_append, List.length_cons, List.length_nil]; omega)
  | (with_reducible show CMul _ _); first | exact Or.inr ⟨by decide, by decide⟩ | exact Or.inl ⟨by decide, by decide⟩ | exact Or.inl ⟨by omega, by omega⟩ | exact Or.inr ⟨by omega, by omega⟩
  | (with_reducible show CPow _ _); exact ⟨by decide, by decide, by decide⟩
  | (with_reducible show CDiv _ _); first | exact ⟨by decide, by decide⟩ | exact ⟨by omega, by omega⟩
  | (with_reducible show Le _ _); first | with_reducible exact Le.refl _ | with_reducible assumption
  | (with_reducible show L2.atI _ _ = _); first | with_reducible assumption | exact rfl | exact atI_nat rfl
  | (with_reducible show _ < _); first | with_reducible assumption | decide | omega
  | (with_reducible show _ ≤ _); first | with_reducible assumption | decide | omega
  | (with_reducible show _ ∧ _); omega
  | (with_reducible show ∀ i, i ∈ _ → i ∈ _); decide
  | (with_reducible show (_ : Nat) = _); first | exact rfl | omega)
local macro_rules | `(tactic| walk_at "rm") => `(tactic| first
  | exact Rm.here
  | (apply Rm.there; walk_at "rm"))
local macro_rules | `(tactic| walk_at "perm") => `(tactic| first
  | with_reducible exact List.Perm.refl _
  | (apply perm_step; (· walk_at "rm"); walk_at "perm")
  | exact List.Perm.refl _)
local macro_rules | `(tactic| walk_at "pk") => `(tactic| first
  | with_reducible exact Pk.here
  | ((with_reducible apply Pk.there); walk_at "pk"))
/-- a part of a reading: what it gives. One word for all kinds -/
local macro_rules | `(tactic| walk_at "sx") => `(tactic| first
  -- an expression
  | with_reducible exact ev_int
  | with_reducible exact ev_bl
  | with_reducible exact ev_str
  | with_reducible exact ev_non
  | (with_reducible apply ev_var) <;> walk_at "sx"
  | (with_reducible apply ev_op) <;> walk_at "sx"
  | (with_reducible apply ev_fld) <;> walk_at "sx"
  | (with_reducible apply ev_cb) <;> walk_at "sx"
  | (with_reducible apply ev_tupD) <;> walk_at "sx"
  | (with_reducible apply ev_lstD) <;> walk_at "sx"
  | (with_reducible apply ev_tupV) <;> walk_at "sx"
  | (with_reducible apply ev_lstV) <;> walk_at "sx"
  | (with_reducible apply ev_slL) <;> walk_at "sx"
  | (with_reducible apply ev_slT1) <;> walk_at "sx"
  | (with_reducible apply ev_slT) <;> walk_at "sx"
  | (with_reducible apply ev_un) <;> walk_at "sx"
  | (with_reducible apply ev_chain) <;> walk_at "sx"
  | (with_reducible apply ev_andV) <;> walk_at "sx"
  | (with_reducible apply ev_orV) <;> walk_at "sx"
  | (with_reducible apply ev_notV) <;> walk_at "sx"
  | (with_reducible apply ev_lcY) <;> walk_at "sx"
  | (with_reducible apply ev_lc) <;> walk_at "sx"
  | ((with_reducible show ∀ a, a ∈ _ → ∃ ρ'' js, _); intro a ha; dsimp only [wipeE, List.set]; (first | with_reducible apply lcY_k | with_reducible apply lcF_k) <;> walk_at "sx")
  | (with_reducible apply ev_call) <;> walk_at "sx"
  | (with_reducible apply ev_meth) <;> walk_at "sx"
  | (with_reducible apply ev_bm) <;> walk_at "sx"
  | (with_reducible show Ev _ _ _ _ _); walk_at "own"
  -- a test
  | with_reducible exact et_yes
  | (with_reducible apply et_test) <;> walk_at "sx"
  | (with_reducible apply et_B) <;> walk_at "sx"
  | (with_reducible apply et_not) <;> walk_at "sx"
  | (with_reducible apply et_and) <;> walk_at "sx"
  | (with_reducible apply et_or) <;> walk_at "sx"
  -- arguments
  | with_reducible exact ea_nil
  | (with_reducible apply ea_cons) <;> walk_at "sx"
  | with_reducible exact ed_nil
  | (with_reducible apply ed_cons) <;> walk_at "sx"
  | with_reducible exact eo_none
  | (with_reducible apply eo_some) <;> walk_at "sx"
  -- what an operation gives
  | with_reducible exact rv_addI
  | with_reducible exact rv_int0
  | with_reducible exact rv_bl0
  | with_reducible exact rv_eqI
  | with_reducible exact rv_neI
  | with_reducible exact rv_eqS
  | with_reducible exact rv_neS
  | with_reducible exact rv_isN
  | with_reducible exact rv_notN
  | (with_reducible apply rv_intC) <;> walk_at "sx"
  | (with_reducible apply rv_addS) <;> walk_at "sx"
  | (with_reducible apply rv_ixL isl_dat) <;> walk_at "sx"
  | (with_reducible apply rv_ixT ist_dat) <;> walk_at "sx"
  | (with_reducible apply rv_ixL) <;> walk_at "sx"
  | (with_reducible apply rv_ixLV) <;> walk_at "sx"
  | (apply rv_ixT ist_dat) <;> walk_at "sx"
  | (with_reducible apply rv_ixTV istv_vtup) <;> walk_at "sx"
  | (with_reducible apply rv_ixScr) <;> walk_at "sx"
  | (apply rv_ixL isl_dat) <;> walk_at "sx"
  | (with_reducible apply rv_ixL) <;> walk_at "sx"
  | (apply rv_cat) <;> walk_at "sx"
  | (with_reducible apply rv_eqD) <;> walk_at "sx"
  | (with_reducible apply rv_neD) <;> walk_at "sx"
  | with_reducible exact ru_neg
  | with_reducible exact rc_int
  | with_reducible exact rc_abs
  | with_reducible exact rc_max2
  | with_reducible exact rc_min2
  | with_reducible exact rc_lenScr
  | with_reducible exact rc_lenM isl_dat
  | ((with_reducible apply rc_lenM); (with_reducible apply isl_cell) <;> walk_at "sx")
  | with_reducible exact rc_lenMT
  | (with_reducible apply rc_lenL) <;> walk_at "sx"
  | (apply rc_lenT ist_dat)
  | (with_reducible apply rc_tupL) <;> walk_at "sx"
  | (apply rc_tupT)
  | (with_reducible apply rc_lstL) <;> walk_at "sx"
  | (apply rc_lstT ist_dat)
  | with_reducible exact rc_anyM
  | with_reducible exact rc_allM
  | ((with_reducible apply rm_append) <;> walk_at "sx")
  -- lists, tuples, data
  | with_reducible exact isl_dat
  | with_reducible exact isd_dat
  | with_reducible exact isd_scr
  | (with_reducible apply isl_cell) <;> walk_at "sx"
  | (with_reducible apply islv_cell) <;> walk_at "sx"
  | with_reducible exact islv_vlst
  | (with_reducible apply isd_cell) <;> walk_at "sx"
  | (with_reducible apply isd_vtup) <;> walk_at "sx"
  | (with_reducible apply isd_vlst) <;> walk_at "sx"
  | with_reducible exact isds_nil
  | (with_reducible apply isds_cons) <;> walk_at "sx"
  | with_reducible exact fzl_dat
  | with_reducible exact fzl_v
  | with_reducible exact fzt_dat
  | with_reducible exact fzt_v
  | (with_reducible apply ity_l) <;> walk_at "sx"
  | with_reducible exact ity_s
  | (with_reducible apply IsLst.v) <;> walk_at "sx"
  -- places
  | with_reducible exact At.here
  | (with_reducible apply At.there) <;> walk_at "sx"
  | with_reducible exact SetAt.here
  | (with_reducible apply SetAt.there) <;> walk_at "sx"
  | with_reducible exact List.mem_cons_self
  | (with_reducible apply List.mem_cons_of_mem) <;> walk_at "sx"
  | ((with_reducible show (_ : Addr × CD) ∈ _); with_reducible assumption)
  | with_reducible exact Put.here
  | (with_reducible apply Put.there) <;> walk_at "sx"
  | ((with_reducible show Put _ _ _ _ _); with_reducible assumption)
  | ((with_reducible show Sw _ _ _ _); with_reducible assumption)
  | with_reducible exact sw_nil
  | ((with_reducible apply sw_pick); (· walk_at "pk"); walk_at "sx")
  | ((with_reducible apply sw_skip); walk_at "sx")
  | with_reducible exact FGet.here
  | ((with_reducible apply FGet.there); (· decide +kernel); walk_at "sx")
  | with_reducible exact FPut.here
  | with_reducible exact FPut.new
  | ((with_reducible apply FPut.there); (· decide +kernel); walk_at "sx")
  | (with_reducible show ClsF _ _ _); with_reducible assumption
  | (with_reducible show RtQ _ _ _); assumption
  | (with_reducible show (_ : Str) ∈ _); decide +kernel
  | (with_reducible show ¬ (_ : Str) ∈ _); decide +kernel
  -- what is walked, targets
  | (with_reducible apply ei_rng1) <;> walk_at "sx"
  | (with_reducible apply ei_rng2) <;> walk_at "sx"
  | (with_reducible apply ei_enumD) <;> walk_at "sx"
  | (with_reducible apply ei_enum) <;> walk_at "sx"
  | (with_reducible apply ei_zip) <;> walk_at "sx"
  | (with_reducible apply ei_seqLM) <;> walk_at "sx"
  | (with_reducible apply ei_seqTM) <;> walk_at "sx"
  | (with_reducible apply ei_seqL) <;> walk_at "sx"
  | (with_reducible apply ei_seqT) <;> walk_at "sx"
  | (with_reducible apply tg_name) <;> walk_at "sx"
  | (with_reducible apply tg_tup istv_vtup) <;> walk_at "sx"
  | (with_reducible apply td_tup) <;> walk_at "sx"
  | with_reducible exact td_nil
  | (with_reducible apply td_cons) <;> walk_at "sx"
  | with_reducible exact tgs_nil
  | (with_reducible apply tgs_cons) <;> walk_at "sx"
  -- beside
  | walk_at "spec"
  | walk_at "side"
  | walk_at "leave")
/-- a question of another kind is left -/
local macro_rules | `(tactic| walk_at "leave") => `(tactic| first
  | with_reducible show Cont _ _ _ _
  | with_reducible show Shp _ _
  | with_reducible show _ ≤ _
  | with_reducible show _ < _
  | with_reducible show CMul _ _
  | with_reducible show CDiv _ _
  | with_reducible show CPow _ _
  | with_reducible show _ = _
  | with_reducible show Le _ _
  | ((with_reducible show _ = true → _); with_reducible assumption)
  | ((with_reducible show _ = true → _); intro _; walk_at "sx")
  | ((with_reducible show _ = false → _); intro _; walk_at "sx"))
/-- a plain statement -/
local macro_rules | `(tactic| walk_at "st") => `(tactic| first
  | (with_reducible apply c_seq); walk_at "st"
  | (with_reducible apply c_asg) <;> (first | walk_at "sx" | skip)
  | (with_reducible apply c_asgG) <;> (first | walk_at "sx" | skip)
  | (with_reducible apply c_par) <;> (first | walk_at "sx" | skip)
  | (with_reducible apply c_par3) <;> (first | walk_at "sx" | skip)
  | (with_reducible apply c_aug) <;> (first | walk_at "sx" | skip)
  | (with_reducible apply c_augS) <;> (first | walk_at "sx" | skip)
  | (with_reducible apply c_fld) <;> (first | walk_at "sx" | skip)
  | (with_reducible apply c_drop) <;> (first | walk_at "sx" | skip)
  | with_reducible apply c_next
  | with_reducible apply c_break
  | with_reducible apply c_cont)
/-- a value is handed back; a word is met again -/
local macro_rules | `(tactic| walk_at "ret") => `(tactic| (with_reducible apply c_ret) <;> (first | walk_at "sx" | skip))
local macro_rules | `(tactic| walk_at "inv") => `(tactic| (with_reducible apply c_inv) <;> (first | walk_at "side" | skip))
local macro_rules | `(tactic| walk_at "seq") => `(tactic| with_reducible apply c_seq)
local macro_rules | `(tactic| walk_at "cut") => `(tactic| with_reducible apply c_cut)
local macro_rules | `(tactic| walk_at "if") => `(tactic| ((with_reducible apply c_if); (case' h => first | walk_at "sx" | skip)))
local macro_rules | `(tactic| walk_at "fgt") => `(tactic| first
  | exact Fgt.nil
  | (with_reducible apply Fgt.keep; walk_at "fgt")
  | (with_reducible apply Fgt.drop; walk_at "fgt"))

/-! ### more steps: stars, dicts, tuples -/
local macro_rules | `(tactic| walk_at "sx") => `(tactic| first
  | (with_reducible apply ed_starT) <;> walk_at "sx"
  | (with_reducible apply ev_dgetS) <;> walk_at "sx"
  | with_reducible exact isdi_v
  | (with_reducible apply isdi_c) <;> walk_at "sx"
  | (with_reducible apply rv_catTd) <;> walk_at "sx"
  | with_reducible exact ist_dat
  | ((with_reducible show ¬ (_ : Int) < _); with_reducible assumption)
  | ((with_reducible show valG _ _ = _); walk_at "get")
  | ((with_reducible show putG _ _ _ = _); walk_at "get"))

section
variable {K : PySem.W.Frag} {mg : Str → Option Value} {T : Tx K mg} {ρ : Sx.Env} {M M' L : Cells} {te td : TE} {A : SA} {S : Sce} {s : SSt}
abbrev SCs (T : Tx K mg) (A : SA) (S : Sce) (s : SSt) : Cells := seatsC T.C_Seats T.C_Scene T.C_Call A S s
theorem seats_p (h : M.Perm (SCs T A S s ++ L)) : (A.p, seaI T.C_Seats T.C_Scene T.C_Call A S) ∈ M := h.mem_iff.mpr List.mem_cons_self
theorem seats_d (h : M.Perm (SCs T A S s ++ L)) : (A.d, seatD s.seat) ∈ M := h.mem_iff.mpr (List.mem_cons_of_mem _ List.mem_cons_self)
theorem on_some (hA : ky A.on = ky S.ch) {m : Str} (hm : m ∈ ky S.ch) : ∃ a, lk A.on m = some a := by
  rw [← hA] at hm
  have := lk_isSome.mpr hm
  cases e : lk A.on m with
  | none => rw [e] at this; cases this
  | some a => exact ⟨a, rfl⟩
theorem seats_on (h : M.Perm (SCs T A S s ++ L)) {m : Str} {a : Addr} (ha : lk A.on m = some a) : (a, tL (s.on m)) ∈ M := h.mem_iff.mpr (List.mem_cons_of_mem _ (List.mem_cons_of_mem _ (List.mem_append_left _ (List.mem_map.mpr ⟨(m, a), lk_mem ha, rfl⟩))))
theorem ev_sSeating (h : M.Perm (SCs T A S s ++ L)) (ho : Ev te ρ M (val (.ref A.p)) M) : Ev (tFld K te "seating") ρ M (val (.ref A.d)) M := ev_fld ho (seats_p h) T.F_Seats (by decide +kernel) (.there (by decide +kernel) .here)
theorem ev_sSeated (h : M.Perm (SCs T A S s ++ L)) (ho : Ev te ρ M (val (.ref A.p)) M) : Ev (tFld K te "seated") ρ M (sdV A) M := ev_fld ho (seats_p h) T.F_Seats (by decide +kernel) (.there (by decide +kernel) (.there (by decide +kernel) .here))
theorem ev_sScene (h : M.Perm (SCs T A S s ++ L)) (ho : Ev te ρ M (val (.ref A.p)) M) : Ev (tFld K te "scene") ρ M (sceV T.C_Scene T.C_Call S) M := ev_fld ho (seats_p h) T.F_Seats (by decide +kernel) .here
theorem ev_scCh (ho : Ev te ρ M (sceV T.C_Scene T.C_Call S) M') : Ev (tFld K te "channels") ρ M (chV S.ch) M' := ev_fldV ho T.F_Scene (by decide +kernel) .here
theorem ev_scCa (ho : Ev te ρ M (sceV T.C_Scene T.C_Call S) M') : Ev (tFld K te "calls") ρ M (caV T.C_Call S.ca) M' := ev_fldV ho T.F_Scene (by decide +kernel) (.there (by decide +kernel) .here)
theorem cap_some {m : Str} (hm : m ∈ ky S.ch) : lk S.ch m = some (S.cap m) := by
  unfold Sce.cap
  have := lk_isSome.mpr hm
  cases e : lk S.ch m with
  | none => rw [e] at this; cases this
  | some a => rfl
theorem ev_scCap {m : Str} (ho : Ev te ρ M (sceV T.C_Scene T.C_Call S) M) (hk : Ev td ρ M (vt m) M) (hm : m ∈ ky S.ch) : Ev (tDGet (tFld K te "channels") td) ρ M (nV (S.cap m)) M := ev_dgetZ (f := nV) (l := S.ch) (ev_scCh ho) hk (cap_some hm)
theorem ev_scHd {c : Str} (ho : Ev te ρ M (sceV T.C_Scene T.C_Call S) M) (hk : Ev td ρ M (vt c) M) (hc : c ∈ ky S.ca) : Ev (tFld K (tDGet (tFld K te "calls") td) "heard") ρ M (dat (txT (S.hd c))) M := by
  have := lk_isSome.mpr hc
  cases e : lk S.ca c with
  | none => rw [e] at this; cases this
  | some x =>
    rw [Sce.hd_of e]
    exact ev_fldV (ev_dgetZ (f := calV T.C_Call) (l := S.ca) (ev_scCa ho) hk e) T.F_Call (by decide +kernel) (.there (by decide +kernel) .here)
theorem ev_sOn {m : Str} {a : Addr} (h : M.Perm (SCs T A S s ++ L)) (ho : Ev te ρ M (val (.ref A.p)) M) (hk : Ev td ρ M (vt m) M) (ha : lk A.on m = some a) : Ev (tDGet (tFld K te "seated") td) ρ M (val (.ref a)) M := ev_dgetV (f := aV) (l := A.on) (ev_sSeated h ho) hk ha
theorem Sce.Ok.nA (ok : S.Ok) (hA : ky A.on = ky S.ch) : (ky A.on).Nodup := by rw [hA]; exact ok.nm
end
theorem Seats_init_body {K : PySem.W.Frag} {mg : Str → Option Value} (T : Tx K mg) : ∀ Q ds M P Φ, ds.length = 2 → S_Seats_init K T ds M P → RtQ Q Φ P → Cont (rd_Seats_init_0 K T (fnD Q)) Φ (entry ["self", "scene", "mast"] ds) M := by
  rintro Q ds M P Φ - ⟨p, S, M0, rfl, rfl, ok, hP⟩ hQ
  have hQ := hQ.up
  show Cont _ _ [some (val (.ref p)), some (sceV T.C_Scene T.C_Call S), none] _
  have hF := T.F_Seats
  walk_at "seq"
  refine c_fld (M3 := (p, cI T.C_Seats ["scene"] [sceV T.C_Scene T.C_Call S]) :: M0) (ev_var (.there (.here))) (ev_var .here) .here .new hF (by decide +kernel) (by decide) ?_
  show Cont (rd_Seats_init_1 K T (fnD Q)) Φ _ _
  walk_at "seq"
  refine c_fldR (er_dnewC) ?_ hF (by decide +kernel)
  rintro y M1 ⟨d, rfl, rfl⟩
  refine fld_k (M3 := (d, cD []) :: (p, cI T.C_Seats ["scene", "seating"] [sceV T.C_Scene T.C_Call S, val (.ref d)]) :: M0) (ev_var .here) (.there .here) (.there (by decide +kernel) .new) (by decide) ?_
  show Cont (rd_Seats_init_2 K T (fnD Q)) Φ _ _
  have hlm := ok.lm
  refine c_fldR (P := fun y N => ∃ on : List (Str × Addr), ky on = ky S.ch ∧ y = vdi (sK aV on) ∧ N.Perm ((p, cI T.C_Seats ["scene", "seating"] [sceV T.C_Scene T.C_Call S, val (.ref d)]) :: ((d, cD []) :: onC on (fun _ => []) ++ M0))) ?_ ?_ hF (by decide +kernel)
  · refine er_frzD (er_dcR (k := fun k => (Sum.inr k : L2.Key)) (xs := ky S.ch) (ei_keysS (f := nV) (l := S.ch) (ev_scCh (T := T) (ev_var (.there (.here))))) (by rw [List.length_map]; omega) (fun i kv N => ∃ on : List (Str × Addr), ky on = (ky S.ch).take i ∧ kv = sK aV on ∧ N.Perm (onC on (fun _ => []) ++ ((d, cD []) :: (p, cI T.C_Seats ["scene", "seating"] [sceV T.C_Scene T.C_Call S, val (.ref d)]) :: M0))) ⟨[], rfl, rfl, .refl _⟩ ?_ ?_) ?_
    · rintro i kv N ⟨on, h1, rfl, h3⟩
      have := congrArg List.length h1
      rw [List.length_map, List.length_take] at this
      rw [len_sK]
      omega
    · rintro i m kv N hi ⟨on, h1, rfl, h3⟩
      refine ⟨[some (val (.ref p)), some (sceV T.C_Scene T.C_Call S), some (vt m)], [2], tg_name (.there (.there (.here))), fun _ h => h, (ev_var (.there (.there (.here)))), (er_lstCd (ds := []) ed_nil (by decide)).imp ?_⟩
      rintro y N' ⟨a, rfl, rfl⟩
      have htk : (ky S.ch).take (i + 1) = (ky S.ch).take i ++ [m] := by rw [List.take_succ, hi]; rfl
      have hn : m ∉ ky on := fun z => by
        have nd : ((ky S.ch).take (i + 1)).Nodup := (List.take_sublist _ _).nodup ok.nm
        rw [htk, ← h1, List.nodup_append] at nd
        exact nd.2.2 m z m List.mem_cons_self rfl
      refine ⟨on ++ [(m, a)], ?_, ?_, ?_⟩
      · rw [ky_app, h1, htk]; rfl
      · have := put_sK aV on m a
        rw [pt_new hn] at this
        exact this
      · refine (h3.cons _).trans ?_
        have e : onC (on ++ [(m, a)]) (fun _ => []) = onC on (fun _ => []) ++ [(a, tL [])] := List.map_append
        rw [e, List.append_assoc]
        exact List.perm_middle.symm
    · rintro x N ⟨D, kv, N1, rfl, rfl, on, h1, rfl, h3⟩
      refine ⟨D, _, N1, rfl, rfl, on, ?_, rfl, ?_⟩
      · rw [h1, List.length_map, List.take_of_length_le (by rw [List.length_map]; exact Nat.le_refl _)]
      · refine h3.trans ?_
        refine List.perm_append_comm.trans ?_
        exact (List.Perm.swap _ _ _).trans (List.Perm.cons _ (List.Perm.cons _ List.perm_append_comm))
  · rintro y N ⟨on, h1, rfl, h3⟩
    obtain ⟨N', g1, g2⟩ := put_perm (c' := cI T.C_Seats seaN [sceV T.C_Scene T.C_Call S, val (.ref d), vdi (sK aV on)]) h3
    refine fld_k (ev_var .here) g1 (.there (by decide +kernel) (.there (by decide +kernel) .new)) (by decide) ?_
    refine c_end hQ (up_perm g2 ?_) (Le.refl _)
    exact hP ⟨p, d, on⟩ rfl h1
theorem Seats_has_room_body {K : PySem.W.Frag} {mg : Str → Option Value} (T : Tx K mg) : ∀ Q ds M P Φ, ds.length = 2 → S_Seats_has_room K T ds M P → RtQ Q Φ P → Cont (rd_Seats_has_room_0 K T (fnD Q)) Φ (entry ["self", "mast"] ds) M := by
  rintro Q ds M P Φ - ⟨A, S, s, m, L, rfl, h, ok, hA, k, hm, hP⟩ hQ
  show Cont _ _ [some (val (.ref A.p)), some (vt m)] _
  obtain ⟨a, ha⟩ := on_some hA hm
  refine c_ret (Ev.eq (ev_op (ev_cb (ea_cons (ev_sOn h (ev_var .here) (ev_var (.there (.here))) ha) ea_nil) (rc_lenM (isl_cell (seats_on h ha)))) (ev_scCap (ev_sScene h (ev_var .here)) (ev_var (.there (.here))) hm) rv_bl0) ?_) hQ hP (Le.refl _)
  simp
theorem Seats_sit_body {K : PySem.W.Frag} {mg : Str → Option Value} (T : Tx K mg) : ∀ Q ds M P Φ, ds.length = 3 → S_Seats_sit K T ds M P → RtQ Q Φ P → Cont (rd_Seats_sit_0 K T (fnD Q)) Φ (entry ["self", "name", "mast", "old"] ds) M := by
  rintro Q ds M P Φ - ⟨A, S, s, c, m, L, rfl, h, ok, hA, k, hm, hP⟩ hQ
  have hQ := hQ.up
  show Cont _ _ [some (val (.ref A.p)), some (vt c), some (vt m), none] _
  refine c_perm h ?_
  have h0 : (SCs T A S s ++ L).Perm (SCs T A S s ++ L) := .refl _
  walk_at "seq"
  refine c_asg (ev_getSeat (ev_sSeating h0 (ev_var .here)) (ev_var (.there (.here))) (seats_d h0)) (.there (.there (.there (.here)))) ?_
  show Cont (rd_Seats_sit_1 K T (fnD Q)) Φ [some (val (.ref A.p)), some (vt c), some (vt m), some (dat (os (lk s.seat c)))] _
  refine c_cutW (fun ρ' M' => ρ' = [some (val (.ref A.p)), some (vt c), some (vt m), some (dat (os (lk s.seat c)))] ∧ M' = SCs T A S ⟨s.seat, unsit s c⟩ ++ L) ?_ ?_
  · cases e : lk s.seat c with
    | none =>
      refine c_if (b := false) (et_test (ev_op (ev_var (.there (.there (.there (.here))))) ev_non rv_notN)) (fun z => Bool.noConfusion z) fun _ => ?_
      apply c_next
      refine c_inv ⟨rfl, ?_⟩ (Le.refl _)
      have : unsit s c = s.on := by
        funext x
        unfold unsit
        rw [e, if_neg (by simp)]
      rw [this]
    | some o =>
      refine c_if (b := true) (et_test (ev_op (ev_var (.there (.there (.there (.here))))) ev_non rv_notN)) (fun _ => ?_) fun z => Bool.noConfusion z
      have ho : o ∈ ky S.ch := ok.hdm (k.hd c o e)
      obtain ⟨a, ha⟩ := on_some hA ho
      obtain ⟨L1, p1, p2⟩ := onC_pick (ok.nA hA) ha s.on
      have hp : (SCs T A S s ++ L).Perm ((a, tL (s.on o)) :: ((A.p, seaI T.C_Seats T.C_Scene T.C_Call A S) :: (A.d, seatD s.seat) :: (L1 ++ L))) := by
        refine List.Perm.trans ?_ (perm_step (.there (.there .here)) (.refl _))
        exact .cons _ (.cons _ (p1.append_right L))
      obtain ⟨N, g1, g2⟩ := put_perm (c' := tL ((s.on o).erase c)) hp
      refine c_drop (ev_bm (ev_sOn h0 (ev_var .here) (ev_var (.there (.there (.there (.here))))) ha) (ity_l (IsLst.v (isl_cell (seats_on h0 ha)))) (ea_cons (ev_var (.there (.here))) ea_nil) (rm_remS g1 ((k.on o c).mpr e))) ?_
      refine c_perm (M' := SCs T A S ⟨s.seat, unsit s c⟩ ++ L) (g2.trans ?_) (c_inv ⟨rfl, rfl⟩ (Le.refl _))
      have hu : unsit s c o = (s.on o).erase c := by unfold unsit; rw [if_pos e]
      have p3 := p2 (unsit s c) fun x hx => by
        unfold unsit
        rw [e, if_neg (fun z => hx (Option.some.inj z).symm)]
      rw [hu] at p3
      refine List.Perm.symm (List.Perm.trans ?_ (perm_step (.there (.there .here)) (.refl _)))
      exact .cons _ (.cons _ (p3.append_right L))
  · rintro ρ' M' ⟨rfl, rfl⟩
    show Cont (rd_Seats_sit_4 K T (fnD Q)) Φ _ _
    have h1 : (SCs T A S ⟨s.seat, unsit s c⟩ ++ L).Perm (SCs T A S ⟨s.seat, unsit s c⟩ ++ L) := .refl _
    walk_at "seq"
    have hl : (sK (fun m => vt m) s.seat).length < sizeLine := by
      rw [len_sK]
      have := k.len ok
      show _ < 16777216
      omega
    refine c_dput (k := .inr c) (x := vt m) (ev_var (.there (.there (.here)))) (ev_sSeating h1 (ev_var .here)) (ev_var (.there (.here))) (.there .here) hl ?_
    rw [put_sK (fun m => vt m) s.seat c m]
    have h2 : ((A.p, seaI T.C_Seats T.C_Scene T.C_Call A S) :: (A.d, cD (sK (fun m => vt m) (pt s.seat c m))) :: (onC A.on (unsit s c) ++ L)).Perm (SCs T A S ⟨pt s.seat c m, unsit s c⟩ ++ L) := .refl _
    obtain ⟨a, ha⟩ := on_some hA hm
    obtain ⟨L1, p1, p2⟩ := onC_pick (ok.nA hA) ha (unsit s c)
    have hp : (SCs T A S ⟨pt s.seat c m, unsit s c⟩ ++ L).Perm ((a, tL (unsit s c m)) :: ((A.p, seaI T.C_Seats T.C_Scene T.C_Call A S) :: (A.d, seatD (pt s.seat c m)) :: (L1 ++ L))) := by
      refine List.Perm.trans ?_ (perm_step (.there (.there .here)) (.refl _))
      exact .cons _ (.cons _ (p1.append_right L))
    obtain ⟨N, g1, g2⟩ := put_perm (c' := cLd ((unsit s c m).map .str ++ [.str c])) hp
    show Cont (rd_Seats_sit_5 K T (fnD Q)) Φ _ _
    have hlu : (unsit s c m).length ≤ 63 := Nat.le_trans (len_unsit k) (k.lenOn ok m)
    refine c_drop (ev_bm (ev_sOn h2 (ev_var .here) (ev_var (.there (.there (.here)))) ha) (ity_l (IsLst.v (isl_cell (seats_on h2 ha)))) (ea_cons (ev_var (.there (.here))) ea_nil) (rm_append g1 (by rw [List.length_map]; show _ < 16777216; omega))) ?_
    refine c_end hQ (up_perm (g2.trans ?_) hP) (Le.refl _)
    have p3 := p2 (sitF s c m).on fun x hx => if_neg hx
    have hu : (sitF s c m).on m = unsit s c m ++ [c] := if_pos rfl
    rw [hu] at p3
    have e : (unsit s c m).map PyData.str ++ [.str c] = (unsit s c m ++ [c]).map .str := by rw [List.map_append]; rfl
    rw [e]
    refine List.Perm.symm (List.Perm.trans ?_ (perm_step (.there (.there .here)) (.refl _)))
    exact .cons _ (.cons _ (p3.append_right L))

end Lw


set_option Elab.async false
set_option linter.all false
set_option maxRecDepth 100000
set_option maxHeartbeats 4000000
namespace Lw
open PySem L2 Sx
/-! ### steps -/
local macro_rules | `(tactic| walk_at "shp") => `(tactic| first
  | exact shp_int
  | exact shp_none
  | exact shp_bool
  | exact shp_oi _
  | (apply shp_str; first | decide +kernel | assumption)
  | (apply shp_list; walk_at "shpA")
  | (apply shp_tuple; walk_at "shpA")
  | assumption)
local macro_rules | `(tactic| walk_at "shpA") => `(tactic| first
  | exact shpA_nil
  | (apply shpA_cons; (· walk_at "shp"); walk_at "shpA")
  | (apply shpA_map; intro _ _; walk_at "shp"))
/-- what is left beside: closed, or left -/
local macro_rules | `(tactic| walk_at "side") => `(tactic| first
  | (with_reducible show Shp _ _); walk_at "shp"
  | (with_reducible show _ ≤ sizeLine); first | decide | (show _ ≤ 16777216; omega) | (show _ ≤ 16777216; simp only [List.length_map, List.length_append, List.length_cons, List.length_nil]; omega)
  | (with_reducible show _ < sizeLine); first | decide | (show _ < 16777216; omega) | (show _ < 16777216; simp only [List.length_map, List.length_append, List.length_cons, List.length_nil]; omega)
  | (with_reducible show CMul _ _); first | exact Or.inr ⟨by decide, by decide⟩ | exact Or.inl ⟨by decide, by decide⟩ | exact Or.inl ⟨by omega, by omega⟩ | exact Or.inr ⟨by omega, by omega⟩
  | (with_reducible show CPow _ _); exact ⟨by decide, by decide, by decide⟩
  | (with_reducible show CDiv _ _); first | exact ⟨by decide, by decide⟩ | exact ⟨by omega, by omega⟩
  | (with_reducible show Le _ _); first | with_reducible exact Le.refl _ | with_reducible assumption
  | (with_reducible show L2.atI _ _ = _); first | with_reducible assumption | exact rfl | exact atI_nat rfl
  | (with_reducible show _ < _); first | with_reducible assumption | decide | omega
  | (with_reducible show _ ≤ _); first | with_reducible assumption | decide | omega
  | (with_reducible show _ ∧ _); omega
  | (with_reducible show ∀ i, i ∈ _ → i ∈ _); decide
  | (with_reducible show (_ : Nat) = _); first | exact rfl | omega)
local macro_rules | `(tactic| walk_at "rm") => `(tactic| first
  | exact Rm.here
  | (apply Rm.there; walk_at "rm"))
local macro_rules | `(tactic| walk_at "perm") => `(tactic| first
  | with_reducible exact List.Perm.refl _
  | (apply perm_step; (· walk_at "rm"); walk_at "perm")
  | exact List.Perm.refl _)
local macro_rules | `(tactic| walk_at "pk") => `(tactic| first
  | with_reducible exact Pk.here
  | ((with_reducible apply Pk.there); walk_at "pk"))
/-- a part of a reading: what it gives. One word for all kinds -/
local macro_rules | `(tactic| walk_at "sx") => `(tactic| first
  -- an expression
  | with_reducible exact ev_int
  | with_reducible exact ev_bl
  | with_reducible exact ev_str
  | with_reducible exact ev_non
  | (with_reducible apply ev_var) <;> walk_at "sx"
  | (with_reducible apply ev_op) <;> walk_at "sx"
  | (with_reducible apply ev_fld) <;> walk_at "sx"
  | (with_reducible apply ev_cb) <;> walk_at "sx"
  | (with_reducible apply ev_tupD) <;> walk_at "sx"
  | (with_reducible apply ev_lstD) <;> walk_at "sx"
  | (with_reducible apply ev_tupV) <;> walk_at "sx"
  | (with_reducible apply ev_lstV) <;> walk_at "sx"
  | (with_reducible apply ev_slL) <;> walk_at "sx"
  | (with_reducible apply ev_slT1) <;> walk_at "sx"
  | (with_reducible apply ev_slT) <;> walk_at "sx"
  | (with_reducible apply ev_un) <;> walk_at "sx"
  | (with_reducible apply ev_chain) <;> walk_at "sx"
  | (with_reducible apply ev_andV) <;> walk_at "sx"
  | (with_reducible apply ev_orV) <;> walk_at "sx"
  | (with_reducible apply ev_notV) <;> walk_at "sx"
  | (with_reducible apply ev_lcY) <;> walk_at "sx"
  | (with_reducible apply ev_lc) <;> walk_at "sx"
  | ((with_reducible show ∀ a, a ∈ _ → ∃ ρ'' js, _); intro a ha; dsimp only [wipeE, List.set]; (first | with_reducible apply lcY_k | with_reducible apply lcF_k) <;> walk_at "sx")
  | (with_reducible apply ev_call) <;> walk_at "sx"
  | (with_reducible apply ev_meth) <;> walk_at "sx"
  | (with_reducible apply ev_bm) <;> walk_at "sx"
  | (with_reducible show Ev _ _ _ _ _); walk_at "own"
  -- a test
  | with_reducible exact et_yes
  | (with_reducible apply et_test) <;> walk_at "sx"
  | (with_reducible apply et_B) <;> walk_at "sx"
  | (with_reducible apply et_not) <;> walk_at "sx"
  | (with_reducible apply et_and) <;> walk_at "sx"
  | (with_reducible apply et_or) <;> walk_at "sx"
  -- arguments
  | with_reducible exact ea_nil
  | (with_reducible apply ea_cons) <;> walk_at "sx"
  | with_reducible exact ed_nil
  | (with_reducible apply ed_cons) <;> walk_at "sx"
  | with_reducible exact eo_none
  | (with_reducible apply eo_some) <;> walk_at "sx"
  -- what an operation gives
  | with_reducible exact rv_addI
  | with_reducible exact rv_int0
  | with_reducible exact rv_bl0
  | with_reducible exact rv_eqI
  | with_reducible exact rv_neI
  | with_reducible exact rv_eqS
  | with_reducible exact rv_neS
  | with_reducible exact rv_isN
  | with_reducible exact rv_notN
  | (with_reducible apply rv_intC) <;> walk_at "sx"
  | (with_reducible apply rv_addS) <;> walk_at "sx"
  | (with_reducible apply rv_ixL isl_dat) <;> walk_at "sx"
  | (with_reducible apply rv_ixT ist_dat) <;> walk_at "sx"
  | (with_reducible apply rv_ixL) <;> walk_at "sx"
  | (with_reducible apply rv_ixLV) <;> walk_at "sx"
  | (apply rv_ixT ist_dat) <;> walk_at "sx"
  | (with_reducible apply rv_ixTV istv_vtup) <;> walk_at "sx"
  | (with_reducible apply rv_ixScr) <;> walk_at "sx"
  | (apply rv_ixL isl_dat) <;> walk_at "sx"
  | (with_reducible apply rv_ixL) <;> walk_at "sx"
  | (apply rv_cat) <;> walk_at "sx"
  | (with_reducible apply rv_eqD) <;> walk_at "sx"
  | (with_reducible apply rv_neD) <;> walk_at "sx"
  | with_reducible exact ru_neg
  | with_reducible exact rc_int
  | with_reducible exact rc_abs
  | with_reducible exact rc_max2
  | with_reducible exact rc_min2
  | with_reducible exact rc_lenScr
  | with_reducible exact rc_lenM isl_dat
  | ((with_reducible apply rc_lenM); (with_reducible apply isl_cell) <;> walk_at "sx")
  | with_reducible exact rc_lenMT
  | (with_reducible apply rc_lenL) <;> walk_at "sx"
  | (apply rc_lenT ist_dat)
  | (with_reducible apply rc_tupL) <;> walk_at "sx"
  | (apply rc_tupT)
  | (with_reducible apply rc_lstL) <;> walk_at "sx"
  | (apply rc_lstT ist_dat)
  | with_reducible exact rc_anyM
  | with_reducible exact rc_allM
  | ((with_reducible apply rm_append) <;> walk_at "sx")
  -- lists, tuples, data
  | with_reducible exact isl_dat
  | with_reducible exact isd_dat
  | with_reducible exact isd_scr
  | (with_reducible apply isl_cell) <;> walk_at "sx"
  | (with_reducible apply islv_cell) <;> walk_at "sx"
  | with_reducible exact islv_vlst
  | (with_reducible apply isd_cell) <;> walk_at "sx"
  | (with_reducible apply isd_vtup) <;> walk_at "sx"
  | (with_reducible apply isd_vlst) <;> walk_at "sx"
  | with_reducible exact isds_nil
  | (with_reducible apply isds_cons) <;> walk_at "sx"
  | with_reducible exact fzl_dat
  | with_reducible exact fzl_v
  | with_reducible exact fzt_dat
  | with_reducible exact fzt_v
  | (with_reducible apply ity_l) <;> walk_at "sx"
  | with_reducible exact ity_s
  | (with_reducible apply IsLst.v) <;> walk_at "sx"
  -- places
  | with_reducible exact At.here
  | (with_reducible apply At.there) <;> walk_at "sx"
  | with_reducible exact SetAt.here
  | (with_reducible apply SetAt.there) <;> walk_at "sx"
  | with_reducible exact List.mem_cons_self
  | (with_reducible apply List.mem_cons_of_mem) <;> walk_at "sx"
  | ((with_reducible show (_ : Addr × CD) ∈ _); with_reducible assumption)
  | with_reducible exact Put.here
  | (with_reducible apply Put.there) <;> walk_at "sx"
  | ((with_reducible show Put _ _ _ _ _); with_reducible assumption)
  | ((with_reducible show Sw _ _ _ _); with_reducible assumption)
  | with_reducible exact sw_nil
  | ((with_reducible apply sw_pick); (· walk_at "pk"); walk_at "sx")
  | ((with_reducible apply sw_skip); walk_at "sx")
  | with_reducible exact FGet.here
  | ((with_reducible apply FGet.there); (· decide +kernel); walk_at "sx")
  | with_reducible exact FPut.here
  | with_reducible exact FPut.new
  | ((with_reducible apply FPut.there); (· decide +kernel); walk_at "sx")
  | (with_reducible show ClsF _ _ _); with_reducible assumption
  | (with_reducible show RtQ _ _ _); assumption
  | (with_reducible show (_ : Str) ∈ _); decide +kernel
  | (with_reducible show ¬ (_ : Str) ∈ _); decide +kernel
  -- what is walked, targets
  | (with_reducible apply ei_rng1) <;> walk_at "sx"
  | (with_reducible apply ei_rng2) <;> walk_at "sx"
  | (with_reducible apply ei_enumD) <;> walk_at "sx"
  | (with_reducible apply ei_enum) <;> walk_at "sx"
  | (with_reducible apply ei_zip) <;> walk_at "sx"
  | (with_reducible apply ei_seqLM) <;> walk_at "sx"
  | (with_reducible apply ei_seqTM) <;> walk_at "sx"
  | (with_reducible apply ei_seqL) <;> walk_at "sx"
  | (with_reducible apply ei_seqT) <;> walk_at "sx"
  | (with_reducible apply tg_name) <;> walk_at "sx"
  | (with_reducible apply tg_tup istv_vtup) <;> walk_at "sx"
  | (with_reducible apply td_tup) <;> walk_at "sx"
  | with_reducible exact td_nil
  | (with_reducible apply td_cons) <;> walk_at "sx"
  | with_reducible exact tgs_nil
  | (with_reducible apply tgs_cons) <;> walk_at "sx"
  -- beside
  | walk_at "spec"
  | walk_at "side"
  | walk_at "leave")
/-- a question of another kind is left -/
local macro_rules | `(tactic| walk_at "leave") => `(tactic| first
  | with_reducible show Cont _ _ _ _
  | with_reducible show Shp _ _
  | with_reducible show _ ≤ _
  | with_reducible show _ < _
  | with_reducible show CMul _ _
  | with_reducible show CDiv _ _
  | with_reducible show CPow _ _
  | with_reducible show _ = _
  | with_reducible show Le _ _
  | ((with_reducible show _ = true → _); with_reducible assumption)
  | ((with_reducible show _ = true → _); intro _; walk_at "sx")
  | ((with_reducible show _ = false → _); intro _; walk_at "sx"))
/-- a plain statement -/
local macro_rules | `(tactic| walk_at "st") => `(tactic| first
  | (with_reducible apply c_seq); walk_at "st"
  | (with_reducible apply c_asg) <;> (first | walk_at "sx" | skip)
  | (with_reducible apply c_asgG) <;> (first | walk_at "sx" | skip)
  | (with_reducible apply c_par) <;> (first | walk_at "sx" | skip)
  | (with_reducible apply c_par3) <;> (first | walk_at "sx" | skip)
  | (with_reducible apply c_aug) <;> (first | walk_at "sx" | skip)
  | (with_reducible apply c_augS) <;> (first | walk_at "sx" | skip)
  | (with_reducible apply c_fld) <;> (first | walk_at "sx" | skip)
  | (with_reducible apply c_drop) <;> (first | walk_at "sx" | skip)
  | with_reducible apply c_next
  | with_reducible apply c_break
  | with_reducible apply c_cont)
/-- a value is handed back; a word is met again -/
local macro_rules | `(tactic| walk_at "ret") => `(tactic| (with_reducible apply c_ret) <;> (first | walk_at "sx" | skip))
local macro_rules | `(tactic| walk_at "inv") => `(tactic| (with_reducible apply c_inv) <;> (first | walk_at "side" | skip))
local macro_rules | `(tactic| walk_at "seq") => `(tactic| with_reducible apply c_seq)
local macro_rules | `(tactic| walk_at "cut") => `(tactic| with_reducible apply c_cut)
local macro_rules | `(tactic| walk_at "if") => `(tactic| ((with_reducible apply c_if); (case' h => first | walk_at "sx" | skip)))
local macro_rules | `(tactic| walk_at "fgt") => `(tactic| first
  | exact Fgt.nil
  | (with_reducible apply Fgt.keep; walk_at "fgt")
  | (with_reducible apply Fgt.drop; walk_at "fgt"))

/-! ### more steps: stars, dicts, tuples -/
local macro_rules | `(tactic| walk_at "sx") => `(tactic| first
  | (with_reducible apply ed_starT) <;> walk_at "sx"
  | (with_reducible apply ev_dgetS) <;> walk_at "sx"
  | with_reducible exact isdi_v
  | (with_reducible apply isdi_c) <;> walk_at "sx"
  | (with_reducible apply rv_catTd) <;> walk_at "sx"
  | with_reducible exact ist_dat
  | ((with_reducible show ¬ (_ : Int) < _); with_reducible assumption)
  | ((with_reducible show valG _ _ = _); walk_at "get")
  | ((with_reducible show putG _ _ _ = _); walk_at "get"))

theorem ln1 {α : Type} {x : α} : [x].length ≤ sizeLine := by show 1 ≤ 16777216; decide
theorem ln2 {α : Type} {x y : α} : [x, y].length ≤ sizeLine := by show 2 ≤ 16777216; decide
theorem ln3 {α : Type} {x y z : α} : [x, y, z].length ≤ sizeLine := by show 3 ≤ 16777216; decide
theorem room_ev {K : PySem.W.Frag} {mg : Str → Option Value} {T : Tx K mg} {M L : Cells} {A : SA} {S : Sce} {s : SSt} {m : Str} (h : M.Perm (SCs T A S s ++ L)) (ok : S.Ok) (hA : ky A.on = ky S.ch) (k : SOk S s) (hm : m ∈ ky S.ch) :
    S_Seats_has_room K T [val (.ref A.p), vt m] M (Det (dat (.bool (decide ((s.on m).length < S.cap m)))) M) := ⟨A, S, s, m, L, rfl, h, ok, hA, k, hm, rfl, rfl⟩
abbrev Wen (A : SA) (name : Str) (d r : Addr) (x4 x5 : Option VD) : Sx.Env := [some (val (.ref A.p)), some (vt name), some (val (.ref d)), some (val (.ref r)), x4, x5]
theorem Seats_ways_from_body {K : PySem.W.Frag} {mg : Str → Option Value} (T : Tx K mg) : ∀ Q ds M P Φ, ds.length = 2 → S_Seats_ways_from K T ds M P → RtQ Q Φ P → Cont (rd_Seats_ways_from_0 K T (fnD Q)) Φ (entry ["self", "name", "came", "rest", "one", "mast"] ds) M := by
  rintro Q ds M P Φ - ⟨A, S, s, name, L, rfl, h, ok, hA, k, hn, hP⟩ hQ
  have hQ := hQ.up
  show Cont _ _ [some (val (.ref A.p)), some (vt name), none, none, none, none] _
  have hS := T.F_Seats
  walk_at "seq"
  refine c_parR (P := fun xs N => ∃ d r, xs = [val (.ref d), val (.ref r)] ∧ N = (r, tL [name]) :: (d, seatD []) :: M) ?_ ?_
  · refine ear_cons er_dnewC ?_
    rintro x M1 ⟨d, rfl, rfl⟩
    refine ear_cons (er_lstCd (ds := [.str name]) (ed_cons (ev_var (.there (.here))) ed_nil) ln1) ?_
    rintro x M2 ⟨r, rfl, rfl⟩
    exact ear_nil ⟨d, r, rfl, rfl⟩
  rintro xs M1 ⟨d, r, rfl, rfl⟩
  refine ⟨_, _, _, _, rfl, (.there (.there (.here))), (.there (.there (.there (.here)))), ?_⟩
  show Cont (rd_Seats_ways_from_1 K T (fnD Q)) Φ (Wen A name d r none none) _
  walk_at "cut"
  have hperm : ∀ {c1 c2 : Addr × CD}, (c1 :: c2 :: M).Perm (SCs T A S s ++ (L ++ [c1, c2])) := fun {c1 c2} => by
    rw [← List.append_assoc]
    refine List.Perm.trans ?_ (List.Perm.append_right _ h)
    exact (List.perm_append_comm (l₁ := [c1, c2]) (l₂ := M))
  have hup : ∀ {came : List (Str × Str)} {rest : List Str} {x : VD}, P x ((d, seatD came) :: M) → Up P x ((r, tL rest) :: (d, seatD came) :: M) := fun h => up_drop (List.sublist_cons_self _ _) h
  refine c_while (fun n ρ' M' => ∃ came rest x4 x5, ρ' = Wen A name d r x4 x5 ∧ M' = (r, tL rest) :: (d, seatD came) :: M ∧ Bfs S s name came rest ∧ rest.length + potF S s came ≤ 4000 ∧ n = rest.length + potF S s came) _ ⟨[], [name], none, none, rfl, rfl, ⟨.nil, fun _ h => (nomatch h), fun c hc => ?_, .inl List.mem_cons_self, fun _ h => (nomatch h)⟩, ?_, rfl⟩ ?_
  · rw [List.mem_singleton.mp hc]; exact ⟨hn, .inl rfl⟩
  · have := pot_le ok k []
    rw [List.length_singleton]
    omega
  rintro n ρ' M' ⟨came, rest, x4, x5, rfl, rfl, b, hle, rfl⟩
  refine ⟨!rest.isEmpty, (r, tL rest) :: (d, seatD came) :: M, EvT.eq (et_test (ev_op (ev_var (.there (.there (.there (.here))))) (ev_lstV (ds := []) ea_nil (by decide)) (rv_neEl (IsLst.v (isl_cell (.head _))) islv_vlst))) ?_, fun hb => ?_, fun hb => ?_⟩
  · cases rest <;> rfl
  · cases rest with
    | nil => cases hb
    | cons one rest =>
      show Cont (rd_Seats_ways_from_2 K T _) Φ _ _
      walk_at "seq"
      have hone := (b.rst one List.mem_cons_self).1
      refine c_asg (M1 := (r, tL rest) :: (d, seatD came) :: M) (x := vt one) (ev_bm (ev_var (.there (.there (.there (.here))))) (ity_l (IsLst.v (isl_cell (.head _)))) (ea_cons ev_int ea_nil) (rm_popAt (i := 0) (d := .str one) .here rfl (by decide))) (.there (.there (.there (.there (.here))))) ?_
      show Cont (rd_Seats_ways_from_3 K T _) Φ (Wen A name d r (some (vt one)) x5) _
      rw [List.length_cons] at hle
      refine c_for (its := (S.hd one).map fun m => vt m) (M1 := (r, tL rest) :: (d, seatD came) :: M) (I := fun i ρ' M' => ∃ came' rest' x5, ρ' = Wen A name d r (some (vt one)) x5 ∧ M' = (r, tL rest') :: (d, seatD came') :: M ∧ Bf1 S s name one i came' rest' ∧ rest'.length + potF S s came' = rest.length + potF S s came) (ei_seqTM (ev_scHd (ev_sScene hperm (ev_var .here)) (ev_var (.there (.there (.there (.there (.here)))))) hone)) ⟨came, rest, x5, rfl, rfl, b.pop, rfl⟩ ?_ ?_
      · rintro Ψ hΨ i x ρ' M' hi ⟨came', rest', x5, rfl, rfl, b1, hle1⟩
        rw [List.getElem?_map] at hi
        cases hm : (S.hd one)[i]? with
        | none => rw [hm] at hi; cases hi
        | some m =>
          rw [hm] at hi
          cases hi
          have hmS := ok.hdm (List.mem_of_getElem? hm)
          have hlc : came'.length ≤ 63 := by
            have := nd_len b1.chn.nd (b1.chn.hdk ok)
            have := ok.lm
            simp only [List.length_map] at *
            omega
          refine ⟨Wen A name d r (some (vt one)) (some (vt m)), _, tg_name (.there (.there (.there (.there (.there (.here)))))), ?_⟩
          show Cont (rd_Seats_ways_from_4 K T _) Ψ _ _
          refine c_if (b := !(lk came' m).isSome) (EvT.eq (et_B (ev_dnin (k := .inr m) (ev_var (.there (.there (.there (.there (.there (.here))))))) (ev_var (.there (.there (.here)))) (isdi_c (.tail _ (.head _))))) (by rw [val_sK, Option.isSome_map])) (fun hb => ?_) fun hb => ?_
          · have hno : m ∉ ky came' := by
              rw [← lk_isSome]
              simpa using hb
            show Cont (rd_Seats_ways_from_5 K T _) Ψ _ _
            walk_at "seq"
            refine c_dput (kvs := sK (fun m => vt m) came') (k := .inr m) (x := vt one) (M4 := (r, tL rest') :: (d, seatD (came' ++ [(m, one)])) :: M) (ev_var (.there (.there (.there (.there (.here)))))) (ev_var (.there (.there (.here)))) (ev_var (.there (.there (.there (.there (.there (.here))))))) ?_ (by rw [len_sK]; show _ < 16777216; omega) ?_
            · have e := put_sK (fun m => vt m) came' m one
              rw [pt_new hno] at e
              rw [e]
              exact .there .here
            show Cont (rd_Seats_ways_from_6 K T _) Ψ _ _
            apply c_cut
            refine c_if (b := decide ((s.on m).length < S.cap m)) (et_B (ev_meth (ds := [vt m]) (ev_var .here) (.tail _ (.tail _ (seats_p h))) (by decide +kernel) (ea_cons (ev_var (.there (.there (.there (.there (.there (.here))))))) ea_nil) rfl (room_ev hperm ok hA k hmS))) (fun hr => ?_) fun hr => ?_
            · refine c_ret (D := fnD Q) (ev_tupV (ea_cons (ev_var (.there (.there (.here)))) (ea_cons (ev_var (.there (.there (.there (.there (.there (.here))))))) ea_nil)) ln2) hQ (hup (hP (came' ++ [(m, one)]) (some m) d ⟨b1.new hm hno, fun m' e => ?_, fun e => (nomatch e)⟩)) hΨ
              cases e
              exact ⟨by rw [ky_app]; exact List.mem_append_right _ List.mem_cons_self, of_decide_eq_true hr⟩
            · apply c_next
              show Cont (rd_Seats_ways_from_9 K T _) Ψ _ _
              obtain ⟨a, ha⟩ := on_some hA hmS
              have hlo := k.lenOn ok m
              have hrl : rest'.length ≤ 4000 := by omega
              refine c_drop (M1 := (r, tL (rest' ++ s.on m)) :: (d, seatD (came' ++ [(m, one)])) :: M) (ev_bm (ev_var (.there (.there (.there (.here))))) (ity_l (IsLst.v (isl_cell (.head _)))) (ea_cons (ev_sOn hperm (ev_var .here) (ev_var (.there (.there (.there (.there (.there (.here))))))) ha) ea_nil) (rm_extendL (ds := rest'.map .str) (isl_cell (seats_on hperm ha)) ?_ ?_)) ?_
              · rw [← List.map_append]; exact .here
              · rw [List.length_map, List.length_map]; show _ ≤ 16777216; omega
              · exact c_inv ⟨_, _, _, rfl, rfl, b1.go k hm hno (of_decide_eq_false hr), (b1.pot ok hm hno).trans hle1⟩ (Le.refl _)
          · have hin : m ∈ ky came' := by
              rw [← lk_isSome]
              simpa using hb
            apply c_next
            exact c_inv ⟨_, _, _, rfl, rfl, b1.skip hm hin, hle1⟩ (Le.refl _)
      · rintro ρ' M' ⟨came', rest', x5, rfl, rfl, b1, hle1⟩
        rw [List.length_map] at b1
        exact c_inv ⟨rest'.length + potF S s came', by rw [List.length_cons]; omega, came', rest', _, _, rfl, rfl, b1.done, by omega, rfl⟩ (Le.refl _)
  · cases rest with
    | cons _ _ => cases hb
    | nil =>
      show Cont (rd_Seats_ways_from_11 K T (fnD Q)) Φ _ _
      exact c_ret (D := fnD Q) (ev_tupV (ea_cons (ev_var (.there (.there (.here)))) (ea_cons ev_non ea_nil)) ln2) hQ (hup (hP came none d b.ways)) (Le.refl _)

end Lw


set_option Elab.async false
set_option linter.all false
set_option maxRecDepth 100000
set_option maxHeartbeats 4000000
namespace Lw
open PySem L2 Sx
/-! ### steps -/
local macro_rules | `(tactic| walk_at "shp") => `(tactic| first
  | exact shp_int
  | exact shp_none
  | exact shp_bool
  | exact shp_oi _
  | (apply shp_str; first | decide +kernel | assumption)
  | (apply shp_list; walk_at "shpA")
  | (apply shp_tuple; walk_at "shpA")
  | assumption)
local macro_rules | `(tactic| walk_at "shpA") => `(tactic| first
  | exact shpA_nil
  | (apply shpA_cons; (· walk_at "shp"); walk_at "shpA")
  | (apply shpA_map; intro _ _; walk_at "shp"))
/-- what is left beside: closed, or left -/
local macro_rules | `(tactic| walk_at "side") => `(tactic| first
  | (with_reducible show Shp _ _); walk_at "shp"
  | (with_reducible show _ ≤ sizeLine); first | decide | (show _ ≤ 16777216; omega) | (show _ ≤ 16777216; simp only [List.length_map, List.length_append, List.length_cons, List.length_nil]; omega)
  | (with_reducible show _ < sizeLine); first | decide | (show _ < 16777216; omega) | (show _ < 16777216; simp only [List.length_map, List.length_append, List.length_cons, List.length_nil]; omega)
  | (with_reducible show CMul _ _); first | exact Or.inr ⟨by decide, by decide⟩ | exact Or.inl ⟨by decide, by decide⟩ | exact Or.inl ⟨by omega, by omega⟩ | exact Or.inr ⟨by omega, by omega⟩
  | (with_reducible show CPow _ _); exact ⟨by decide, by decide, by decide⟩
  | (with_reducible show CDiv _ _); first | exact ⟨by decide, by decide⟩ | exact ⟨by omega, by omega⟩
  | (with_reducible show Le _ _); first | with_reducible exact Le.refl _ | with_reducible assumption
  | (with_reducible show L2.atI _ _ = _); first | with_reducible assumption | exact rfl | exact atI_nat rfl
  | (with_reducible show _ < _); first | with_reducible assumption | decide | omega
  | (with_reducible show _ ≤ _); first | with_reducible assumption | decide | omega
  | (with_reducible show _ ∧ _); omega
  | (with_reducible show ∀ i, i ∈ _ → i ∈ _); decide
  | (with_reducible show (_ : Nat) = _); first | exact rfl | omega)
local macro_rules | `(tactic| walk_at "rm") => `(tactic| first
  | exact Rm.here
  | (apply Rm.there; walk_at "rm"))
local macro_rules | `(tactic| walk_at "perm") => `(tactic| first
  | with_reducible exact List.Perm.refl _
  | (apply perm_step; (· walk_at "rm"); walk_at "perm")
  | exact List.Perm.refl _)
local macro_rules | `(tactic| walk_at "pk") => `(tactic| first
  | with_reducible exact Pk.here
  | ((with_reducible apply Pk.there); walk_at "pk"))
/-- a part of a reading: what it gives. One word for all kinds -/
local macro_rules | `(tactic| walk_at "sx") => `(tactic| first
  -- an expression
  | with_reducible exact ev_int
  | with_reducible exact ev_bl
  | with_reducible exact ev_str
  | with_reducible exact ev_non
  | (with_reducible apply ev_var) <;> walk_at "sx"
  | (with_reducible apply ev_op) <;> walk_at "sx"
  | (with_reducible apply ev_fld) <;> walk_at "sx"
  | (with_reducible apply ev_cb) <;> walk_at "sx"
  | (with_reducible apply ev_tupD) <;> walk_at "sx"
  | (with_reducible apply ev_lstD) <;> walk_at "sx"
  | (with_reducible apply ev_tupV) <;> walk_at "sx"
  | (with_reducible apply ev_lstV) <;> walk_at "sx"
  | (with_reducible apply ev_slL) <;> walk_at "sx"
  | (with_reducible apply ev_slT1) <;> walk_at "sx"
  | (with_reducible apply ev_slT) <;> walk_at "sx"
  | (with_reducible apply ev_un) <;> walk_at "sx"
  | (with_reducible apply ev_chain) <;> walk_at "sx"
  | (with_reducible apply ev_andV) <;> walk_at "sx"
  | (with_reducible apply ev_orV) <;> walk_at "sx"
  | (with_reducible apply ev_notV) <;> walk_at "sx"
  | (with_reducible apply ev_lcY) <;> walk_at "sx"
  | (with_reducible apply ev_lc) <;> walk_at "sx"
  | ((with_reducible show ∀ a, a ∈ _ → ∃ ρ'' js, _); intro a ha; dsimp only [wipeE, List.set]; (first | with_reducible apply lcY_k | with_reducible apply lcF_k) <;> walk_at "sx")
  | (with_reducible apply ev_call) <;> walk_at "sx"
  | (with_reducible apply ev_meth) <;> walk_at "sx"
  | (with_reducible apply ev_bm) <;> walk_at "sx"
  | (with_reducible show Ev _ _ _ _ _); walk_at "own"
  -- a test
  | with_reducible exact et_yes
  | (with_reducible apply et_test) <;> walk_at "sx"
  | (with_reducible apply et_B) <;> walk_at "sx"
  | (with_reducible apply et_not) <;> walk_at "sx"
  | (with_reducible apply et_and) <;> walk_at "sx"
  | (with_reducible apply et_or) <;> walk_at "sx"
  -- arguments
  | with_reducible exact ea_nil
  | (with_reducible apply ea_cons) <;> walk_at "sx"
  | with_reducible exact ed_nil
  | (with_reducible apply ed_cons) <;> walk_at "sx"
  | with_reducible exact eo_none
  | (with_reducible apply eo_some) <;> walk_at "sx"
  -- what an operation gives
  | with_reducible exact rv_addI
  | with_reducible exact rv_int0
  | with_reducible exact rv_bl0
  | with_reducible exact rv_eqI
  | with_reducible exact rv_neI
  | with_reducible exact rv_eqS
  | with_reducible exact rv_neS
  | with_reducible exact rv_isN
  | with_reducible exact rv_notN
  | (with_reducible apply rv_intC) <;> walk_at "sx"
  | (with_reducible apply rv_addS) <;> walk_at "sx"
  | (with_reducible apply rv_ixL isl_dat) <;> walk_at "sx"
  | (with_reducible apply rv_ixT ist_dat) <;> walk_at "sx"
  | (with_reducible apply rv_ixL) <;> walk_at "sx"
  | (with_reducible apply rv_ixLV) <;> walk_at "sx"
  | (apply rv_ixT ist_dat) <;> walk_at "sx"
  | (with_reducible apply rv_ixTV istv_vtup) <;> walk_at "sx"
  | (with_reducible apply rv_ixScr) <;> walk_at "sx"
  | (apply rv_ixL isl_dat) <;> walk_at "sx"
  | (with_reducible apply rv_ixL) <;> walk_at "sx"
  | (apply rv_cat) <;> walk_at "sx"
  | (with_reducible apply rv_eqD) <;> walk_at "sx"
  | (with_reducible apply rv_neD) <;> walk_at "sx"
  | with_reducible exact ru_neg
  | with_reducible exact rc_int
  | with_reducible exact rc_abs
  | with_reducible exact rc_max2
  | with_reducible exact rc_min2
  | with_reducible exact rc_lenScr
  | with_reducible exact rc_lenM isl_dat
  | ((with_reducible apply rc_lenM); (with_reducible apply isl_cell) <;> walk_at "sx")
  | with_reducible exact rc_lenMT
  | (with_reducible apply rc_lenL) <;> walk_at "sx"
  | (apply rc_lenT ist_dat)
  | (with_reducible apply rc_tupL) <;> walk_at "sx"
  | (apply rc_tupT)
  | (with_reducible apply rc_lstL) <;> walk_at "sx"
  | (apply rc_lstT ist_dat)
  | with_reducible exact rc_anyM
  | with_reducible exact rc_allM
  | ((with_reducible apply rm_append) <;> walk_at "sx")
  -- lists, tuples, data
  | with_reducible exact isl_dat
  | with_reducible exact isd_dat
  | with_reducible exact isd_scr
  | (with_reducible apply isl_cell) <;> walk_at "sx"
  | (with_reducible apply islv_cell) <;> walk_at "sx"
  | with_reducible exact islv_vlst
  | (with_reducible apply isd_cell) <;> walk_at "sx"
  | (with_reducible apply isd_vtup) <;> walk_at "sx"
  | (with_reducible apply isd_vlst) <;> walk_at "sx"
  | with_reducible exact isds_nil
  | (with_reducible apply isds_cons) <;> walk_at "sx"
  | with_reducible exact fzl_dat
  | with_reducible exact fzl_v
  | with_reducible exact fzt_dat
  | with_reducible exact fzt_v
  | (with_reducible apply ity_l) <;> walk_at "sx"
  | with_reducible exact ity_s
  | (with_reducible apply IsLst.v) <;> walk_at "sx"
  -- places
  | with_reducible exact At.here
  | (with_reducible apply At.there) <;> walk_at "sx"
  | with_reducible exact SetAt.here
  | (with_reducible apply SetAt.there) <;> walk_at "sx"
  | with_reducible exact List.mem_cons_self
  | (with_reducible apply List.mem_cons_of_mem) <;> walk_at "sx"
  | ((with_reducible show (_ : Addr × CD) ∈ _); with_reducible assumption)
  | with_reducible exact Put.here
  | (with_reducible apply Put.there) <;> walk_at "sx"
  | ((with_reducible show Put _ _ _ _ _); with_reducible assumption)
  | ((with_reducible show Sw _ _ _ _); with_reducible assumption)
  | with_reducible exact sw_nil
  | ((with_reducible apply sw_pick); (· walk_at "pk"); walk_at "sx")
  | ((with_reducible apply sw_skip); walk_at "sx")
  | with_reducible exact FGet.here
  | ((with_reducible apply FGet.there); (· decide +kernel); walk_at "sx")
  | with_reducible exact FPut.here
  | with_reducible exact FPut.new
  | ((with_reducible apply FPut.there); (· decide +kernel); walk_at "sx")
  | (with_reducible show ClsF _ _ _); with_reducible assumption
  | (with_reducible show RtQ _ _ _); assumption
  | (with_reducible show (_ : Str) ∈ _); decide +kernel
  | (with_reducible show ¬ (_ : Str) ∈ _); decide +kernel
  -- what is walked, targets
  | (with_reducible apply ei_rng1) <;> walk_at "sx"
  | (with_reducible apply ei_rng2) <;> walk_at "sx"
  | (with_reducible apply ei_enumD) <;> walk_at "sx"
  | (with_reducible apply ei_enum) <;> walk_at "sx"
  | (with_reducible apply ei_zip) <;> walk_at "sx"
  | (with_reducible apply ei_seqLM) <;> walk_at "sx"
  | (with_reducible apply ei_seqTM) <;> walk_at "sx"
  | (with_reducible apply ei_seqL) <;> walk_at "sx"
  | (with_reducible apply ei_seqT) <;> walk_at "sx"
  | (with_reducible apply tg_name) <;> walk_at "sx"
  | (with_reducible apply tg_tup istv_vtup) <;> walk_at "sx"
  | (with_reducible apply td_tup) <;> walk_at "sx"
  | with_reducible exact td_nil
  | (with_reducible apply td_cons) <;> walk_at "sx"
  | with_reducible exact tgs_nil
  | (with_reducible apply tgs_cons) <;> walk_at "sx"
  -- beside
  | walk_at "spec"
  | walk_at "side"
  | walk_at "leave")
/-- a question of another kind is left -/
local macro_rules | `(tactic| walk_at "leave") => `(tactic| first
  | with_reducible show Cont _ _ _ _
  | with_reducible show Shp _ _
  | with_reducible show _ ≤ _
  | with_reducible show _ < _
  | with_reducible show CMul _ _
  | with_reducible show CDiv _ _
  | with_reducible show CPow _ _
  | with_reducible show _ = _
  | with_reducible show Le _ _
  | ((with_reducible show _ = true → _); with_reducible assumption)
  | ((with_reducible show _ = true → _); intro _; walk_at "sx")
  | ((with_reducible show _ = false → _); intro _; walk_at "sx"))
/-- a plain statement -/
local macro_rules | `(tactic| walk_at "st") => `(tactic| first
  | (with_reducible apply c_seq); walk_at "st"
  | (with_reducible apply c_asg) <;> (first | walk_at "sx" | skip)
  | (with_reducible apply c_asgG) <;> (first | walk_at "sx" | skip)
  | (with_reducible apply c_par) <;> (first | walk_at "sx" | skip)
  | (with_reducible apply c_par3) <;> (first | walk_at "sx" | skip)
  | (with_reducible apply c_aug) <;> (first | walk_at "sx" | skip)
  | (with_reducible apply c_augS) <;> (first | walk_at "sx" | skip)
  | (with_reducible apply c_fld) <;> (first | walk_at "sx" | skip)
  | (with_reducible apply c_drop) <;> (first | walk_at "sx" | skip)
  | with_reducible apply c_next
  | with_reducible apply c_break
  | with_reducible apply c_cont)
/-- a value is handed back; a word is met again -/
local macro_rules | `(tactic| walk_at "ret") => `(tactic| (with_reducible apply c_ret) <;> (first | walk_at "sx" | skip))
local macro_rules | `(tactic| walk_at "inv") => `(tactic| (with_reducible apply c_inv) <;> (first | walk_at "side" | skip))
local macro_rules | `(tactic| walk_at "seq") => `(tactic| with_reducible apply c_seq)
local macro_rules | `(tactic| walk_at "cut") => `(tactic| with_reducible apply c_cut)
local macro_rules | `(tactic| walk_at "if") => `(tactic| ((with_reducible apply c_if); (case' h => first | walk_at "sx" | skip)))
local macro_rules | `(tactic| walk_at "fgt") => `(tactic| first
  | exact Fgt.nil
  | (with_reducible apply Fgt.keep; walk_at "fgt")
  | (with_reducible apply Fgt.drop; walk_at "fgt"))

/-! ### more steps: stars, dicts, tuples -/
local macro_rules | `(tactic| walk_at "sx") => `(tactic| first
  | (with_reducible apply ed_starT) <;> walk_at "sx"
  | (with_reducible apply ev_dgetS) <;> walk_at "sx"
  | with_reducible exact isdi_v
  | (with_reducible apply isdi_c) <;> walk_at "sx"
  | (with_reducible apply rv_catTd) <;> walk_at "sx"
  | with_reducible exact ist_dat
  | ((with_reducible show ¬ (_ : Int) < _); with_reducible assumption)
  | ((with_reducible show valG _ _ = _); walk_at "get")
  | ((with_reducible show putG _ _ _ = _); walk_at "get"))

theorem Hole.mem {S : Sce} {s0 s : SSt} {name m : Str} {came : List (Str × Str)} {n : Nat} (w : ∀ x ∈ ky came, x ∈ ky S.ch) (h : Hole S s0 name came s (some m) n) : m ∈ ky S.ch := by
  obtain ⟨_, _, l1, c, l2, e, _⟩ := h.yes m rfl
  refine w m ?_
  rw [e, ky_app, ky_cons]
  exact List.mem_append_right _ List.mem_cons_self
abbrev Aen (A : SA) (name : Str) (q : Addr) (o : Option Str) (x4 x5 : Option VD) : Sx.Env := [some (val (.ref A.p)), some (vt name), some (val (.ref q)), some (dat (os o)), x4, x5]
theorem Seats_add_body {K : PySem.W.Frag} {mg : Str → Option Value} (T : Tx K mg) : ∀ Q ds M P Φ, ds.length = 2 → S_Seats_add K T ds M P → RtQ Q Φ P → Cont (rd_Seats_add_0 K T (fnD Q)) Φ (entry ["self", "name", "came", "mast", "one", "before"] ds) M := by
  rintro Q ds M P Φ - ⟨A, S, s, name, L, rfl, h, ok, hA, k, hn, hnew, hP⟩ hQ
  have hQ := hQ.up
  show Cont _ _ [some (val (.ref A.p)), some (vt name), none, none, none, none] _
  have hS := T.F_Seats
  refine c_perm h ?_
  walk_at "seq"
  refine c_asgGR (P := fun y N => ∃ came res q, Ways S s name came res ∧ y = vtup [val (.ref q), dat (os res)] ∧ N = (q, seatD came) :: (SCs T A S s ++ L)) (er_meth (ds := [vt name]) (ev_var .here) (.head _) (by decide +kernel) (ea_cons (ev_var (.there (.here))) ea_nil) rfl ⟨A, S, s, name, L, rfl, .refl _, ok, hA, k, hn, fun came res q w => ⟨came, res, q, w, rfl, rfl⟩⟩) ?_
  rintro y N ⟨came, res, q, w, rfl, rfl⟩
  refine ⟨Aen A name q res none none, _, tg_tup istv_vtup (tgs_cons (tg_name (.there (.there (.here)))) (tgs_cons (tg_name (.there (.there (.there (.here))))) tgs_nil)) rfl, ?_⟩
  show Cont (rd_Seats_add_1 K T (fnD Q)) Φ _ _
  apply c_cut
  have hdrop : ∀ {x : VD} {s' : SSt} {c : Addr × CD}, P x (SCs T A S s' ++ L) → Up P x (c :: (SCs T A S s' ++ L)) := fun h => up_drop (List.sublist_cons_self _ _) h
  cases res with
  | none =>
    refine c_if (b := true) (et_test (ev_op (ev_var (.there (.there (.there (.here))))) ev_non rv_isN)) (fun _ => ?_) fun z => Bool.noConfusion z
    exact c_ret (D := fnD Q) ev_bl hQ (hdrop (hP false s ⟨k, fun c => by simp, fun _ => ⟨rfl, came, w⟩⟩)) (Le.refl _)
  | some m =>
    refine c_if (b := false) (et_test (ev_op (ev_var (.there (.there (.there (.here))))) ev_non rv_isN)) (fun z => Bool.noConfusion z) fun _ => ?_
    apply c_next
    show Cont (rd_Seats_add_4 K T (fnD Q)) Φ _ _
    walk_at "cut"
    obtain ⟨n0, h0⟩ := hole_start k hnew w
    refine c_while (fun n ρ' M' => ∃ s' o x4 x5, ρ' = Aen A name q o x4 x5 ∧ M' = (q, seatD came) :: (SCs T A S s' ++ L) ∧ Hole S s name came s' o n) n0 ⟨s, some m, none, none, rfl, rfl, h0⟩ ?_
    rintro n ρ' M' ⟨s', o, x4, x5, rfl, rfl, hl⟩
    cases o with
    | none =>
      refine ⟨false, _, et_test (ev_op (ev_var (.there (.there (.there (.here))))) ev_non rv_notN), fun z => Bool.noConfusion z, fun _ => ?_⟩
      show Cont (rd_Seats_add_9 K T (fnD Q)) Φ _ _
      exact c_ret (D := fnD Q) ev_bl hQ (hdrop (hP true s' (hole_end hl))) (Le.refl _)
    | some m =>
      refine ⟨true, _, et_test (ev_op (ev_var (.there (.there (.there (.here))))) ev_non rv_notN), fun _ => ?_, fun z => Bool.noConfusion z⟩
      have hmS := hl.mem (w.chn.hdk ok)
      obtain ⟨c, e1, hca, hmd, hr, n', hlt, hl'⟩ := hole_step k hn hl
      show Cont (rd_Seats_add_5 K T _) Φ _ _
      walk_at "seq"
      refine c_asg (x := vt c) (M1 := (q, seatD came) :: (SCs T A S s' ++ L)) (ev_dgetC (f := fun m => vt m) (l := came) (ev_var (.there (.there (.here)))) (ev_var (.there (.there (.there (.here))))) (.head _) e1) (.there (.there (.there (.there (.here))))) ?_
      show Cont (rd_Seats_add_6 K T _) Φ (Aen A name q (some m) (some (vt c)) x5) _
      have hp : ((q, seatD came) :: (SCs T A S s' ++ L)).Perm (SCs T A S s' ++ ((q, seatD came) :: L)) := List.perm_middle.symm
      walk_at "seq"
      refine c_asg (x := dat (os (lk s'.seat c))) (M1 := (q, seatD came) :: (SCs T A S s' ++ L)) (ev_getSeat (ev_sSeating hp (ev_var .here)) (ev_var (.there (.there (.there (.there (.here)))))) (seats_d hp)) (.there (.there (.there (.there (.there (.here)))))) ?_
      show Cont (rd_Seats_add_7 K T _) Φ (Aen A name q (some m) (some (vt c)) (some (dat (os (lk s'.seat c))))) _
      walk_at "seq"
      refine c_drop (x := vn) (M1 := SCs T A S (sitF s' c m) ++ ((q, seatD came) :: L)) (ev_meth (ds := [vt c, vt m]) (ev_var .here) (seats_p hp) (by decide +kernel) (ea_cons (ev_var (.there (.there (.there (.there (.here)))))) (ea_cons (ev_var (.there (.there (.there (.here))))) ea_nil)) rfl ⟨A, S, s', c, m, _, rfl, hp, ok, hA, hl.ok, hmS, rfl, rfl⟩) ?_
      refine c_perm List.perm_middle ?_
      show Cont (rd_Seats_add_8 K T _) Φ _ ((q, seatD came) :: (SCs T A S (sitF s' c m) ++ L))
      refine c_asg (ev_var (.there (.there (.there (.there (.there (.here))))))) (.there (.there (.there (.here)))) ?_
      exact c_inv ⟨n', hlt, sitF s' c m, lk s'.seat c, _, _, rfl, rfl, hl'⟩ (Le.refl _)
theorem add_ev {K : PySem.W.Frag} {mg : Str → Option Value} {T : Tx K mg} {M L : Cells} {A : SA} {S : Sce} {s : SSt} {c : Str} {P : VD → Cells → Prop} (h : M.Perm (SCs T A S s ++ L)) (ok : S.Ok) (hA : ky A.on = ky S.ch) (k : SOk S s) (hc : c ∈ ky S.ca) (hn : c ∉ ky s.seat)
    (hP : ∀ b s', Added S s c b s' → P (dat (.bool b)) (SCs T A S s' ++ L)) : S_Seats_add K T [val (.ref A.p), vt c] M P := ⟨A, S, s, c, L, rfl, h, ok, hA, k, hc, hn, hP⟩

/-! ### some calls, one behind the other -/
structure Run (S : Sce) (names : List Str) (s : SSt) (bs : List Bool) (i : Nat) : Prop where
  ok : SOk S s
  len : bs.length = i
  sub : ∀ c ∈ ky s.seat, c ∈ names.take i
  yes : bs.all id = true → (ky s.seat).Perm (names.take i)
  no : bs.all id = false → ¬ S.Can names
theorem Run.step {S : Sce} {names : List Str} {s s' : SSt} {bs : List Bool} {i : Nat} {c : Str} {b : Bool} (r : Run S names s bs i) (hi : names[i]? = some c) (hn : c ∉ ky s.seat) (a : Added S s c b s') : Run S names s' (bs ++ [b]) (i + 1) := by
  have htk : names.take (i + 1) = names.take i ++ [c] := by rw [List.take_succ, hi]; rfl
  have hall : (bs ++ [b]).all id = (bs.all id && b) := by simp
  refine ⟨a.ok, by rw [List.length_append, r.len]; rfl, fun x hx => ?_, fun h => ?_, fun h => ?_⟩
  · rw [htk, List.mem_append]
    rcases (a.ks x).mp hx with h | h
    · exact .inl (r.sub x h)
    · rw [h.2]; exact .inr List.mem_cons_self
  · rw [hall, Bool.and_eq_true] at h
    obtain ⟨h1, rfl⟩ := h
    rw [htk]
    exact a.perm r.ok hn (r.yes h1)
  · rw [hall] at h
    cases hb : bs.all id with
    | false => exact r.no hb
    | true =>
      rw [hb, Bool.true_and] at h
      subst h
      intro can
      have hs : (names.take i ++ [c]).Sublist names := by rw [← htk]; exact List.take_sublist _ _
      have := (a.iff r.ok hn (r.yes hb)).mpr (can.sub hs)
      cases this
theorem is_seatable_body {K : PySem.W.Frag} {mg : Str → Option Value} (T : Tx K mg) : ∀ Q ds M P Φ, ds.length = 2 → S_is_seatable K T ds M P → RtQ Q Φ P → Cont (rd_is_seatable_0 K T (fnD Q)) Φ (entry ["scene", "names", "seats", "name"] ds) M := by
  rintro Q ds M P Φ - ⟨S, names, rfl, ok, nd, hin, hP⟩ hQ
  have hQ := hQ.up
  show Cont _ _ [some (sceV T.C_Scene T.C_Call S), some (dat (txD names)), none, none] _
  have hlen : names.length ≤ 63 := by
    have := nd_len nd hin
    have := ok.lc
    simp only [List.length_map] at *
    omega
  walk_at "seq"
  refine c_asgR (P := fun y N => ∃ A : SA, y = val (.ref A.p) ∧ ky A.on = ky S.ch ∧ N = SCs T A S noSeats ++ M) (er_make (ds := [sceV T.C_Scene T.C_Call S]) (ea_cons (ev_var .here) ea_nil) rfl fun p => ⟨p, S, M, rfl, rfl, ok, fun A e hA => ⟨rfl, A, by rw [e], hA, rfl⟩⟩) ?_
  rintro y N ⟨A, rfl, hA, rfl⟩
  refine asgR_k (.there (.there (.here))) ?_
  show Cont (rd_is_seatable_1 K T (fnD Q)) Φ _ _
  refine c_retR (P' := fun x N => ∃ b s', (b = true ↔ S.Can names) ∧ x = dat (.bool b) ∧ N = SCs T A S s' ++ M) (er_cb (ear_cons (Pa := fun y N => ∃ bs s', Run S names s' bs names.length ∧ y = dat (.list (bs.map .bool)) ∧ N = SCs T A S s' ++ M) (er_lstD ((er_lc (ei_seqLM (ev_var (.there (.here)))) (fun i acc N => ∃ bs s', Run S names s' bs i ∧ acc = bs.map (fun b => dat (.bool b)) ∧ N = SCs T A S s' ++ M) ⟨[], noSeats, ⟨noSeats_ok S, rfl, fun _ h => (nomatch h), fun _ => .refl _, fun z => Bool.noConfusion z⟩, rfl, rfl⟩ (by rw [List.length_map]; omega) ?_ ?_).imp ?_)) ?_)) hQ ?_ (Le.refl _)
  · rintro i acc N ⟨bs, s', r, rfl, rfl⟩
    rw [List.length_map, r.len]
    exact Nat.le_refl _
  · rintro i x acc N hi ⟨bs, s', r, rfl, rfl⟩
    rw [List.getElem?_map] at hi
    cases hc : names[i]? with
    | none => rw [hc] at hi; cases hi
    | some c =>
      rw [hc] at hi
      cases hi
      have hcS := hin c (List.mem_of_getElem? hc)
      have hnew : c ∉ ky s'.seat := fun z => by
        have h1 := r.sub c z
        have htk : names.take (i + 1) = names.take i ++ [c] := by rw [List.take_succ, hc]; rfl
        have nd2 : (names.take i ++ [c]).Nodup := by rw [← htk]; exact (List.take_sublist _ _).nodup nd
        rw [List.nodup_append] at nd2
        exact nd2.2.2 c h1 c List.mem_cons_self rfl
      refine ⟨[some (sceV T.C_Scene T.C_Call S), some (dat (txD names)), some (val (.ref A.p)), some (vt c)], [3], true, _, tg_name (.there (.there (.there (.here)))), fun _ h => h, et_yes, fun _ => ?_, fun z => Bool.noConfusion z⟩
      refine er_meth (ds := [vt c]) (ev_var (.there (.there (.here)))) (.head _) (by decide +kernel) (ea_cons (ev_var (.there (.there (.there (.here))))) ea_nil) rfl (add_ev (.refl _) ok hA r.ok hcS hnew fun b s2 a => ⟨bs ++ [b], s2, r.step hc hnew a, ?_, rfl⟩)
      rw [List.map_append]
      rfl
  · rintro x N ⟨acc, rfl, bs, s', r, rfl, rfl⟩
    rw [List.length_map] at r
    exact ⟨bs.map .bool, by rw [List.map_map]; rfl, bs, s', r, rfl, rfl⟩
  · rintro x N ⟨bs, s', r, rfl, rfl⟩
    refine ear_nil ⟨dat (.bool (bs.all id)), _, rc_all isl_dat, bs.all id, s', ?_, rfl, rfl⟩
    constructor
    · intro h
      have p := r.yes h
      rw [List.take_length] at p
      exact r.ok.can.perm p
    · intro can
      cases e : bs.all id with
      | true => rfl
      | false => exact absurd can (r.no e)
  · rintro x N ⟨b, s', hb, rfl, rfl⟩
    exact up_drop (List.sublist_append_right _ _) (hP b hb)

end Lw


set_option Elab.async false
set_option linter.all false
set_option maxRecDepth 100000
set_option maxHeartbeats 4000000
namespace Lw
open PySem L2 Sx
/-! ### steps -/
local macro_rules | `(tactic| walk_at "shp") => `(tactic| first
  | exact shp_int
  | exact shp_none
  | exact shp_bool
  | exact shp_oi _
  | (apply shp_str; first | decide +kernel | assumption)
  | (apply shp_list; walk_at "shpA")
  | (apply shp_tuple; walk_at "shpA")
  | assumption)
local macro_rules | `(tactic| walk_at "shpA") => `(tactic| first
  | exact shpA_nil
  | (apply shpA_cons; (· walk_at "shp"); walk_at "shpA")
  | (apply shpA_map; intro _ _; walk_at "shp"))
/-- what is left beside: closed, or left -/
local macro_rules | `(tactic| walk_at "side") => `(tactic| first
  | (with_reducible show Shp _ _); walk_at "shp"
  | (with_reducible show _ ≤ sizeLine); first | decide | (show _ ≤ 16777216; omega) | (show _ ≤ 16777216; simp only [List.length_map, List.length_append, List.length_cons, List.length_nil]; omega)
  | (with_reducible show _ < sizeLine); first | decide | (show _ < 16777216; omega) | (show _ < 16777216; simp only [List.length_map, List.length_append, List.length_cons, List.length_nil]; omega)
  | (with_reducible show CMul _ _); first | exact Or.inr ⟨by decide, by decide⟩ | exact Or.inl ⟨by decide, by decide⟩ | exact Or.inl ⟨by omega, by omega⟩ | exact Or.inr ⟨by omega, by omega⟩
  | (with_reducible show CPow _ _); exact ⟨by decide, by decide, by decide⟩
  | (with_reducible show CDiv _ _); first | exact ⟨by decide, by decide⟩ | exact ⟨by omega, by omega⟩
  | (with_reducible show Le _ _); first | with_reducible exact Le.refl _ | with_reducible assumption
  | (with_reducible show L2.atI _ _ = _); first | with_reducible assumption | exact rfl | exact atI_nat rfl
  | (with_reducible show _ < _); first | with_reducible assumption | decide | omega
  | (with_reducible show _ ≤ _); first | with_reducible assumption | decide | omega
  | (with_reducible show _ ∧ _); omega
  | (with_reducible show ∀ i, i ∈ _ → i ∈ _); decide
  | (with_reducible show (_ : Nat) = _); first | exact rfl | omega)
local macro_rules | `(tactic| walk_at "rm") => `(tactic| first
  | exact Rm.here
  | (apply Rm.there; walk_at "rm"))
local macro_rules | `(tactic| walk_at "perm") => `(tactic| first
  | with_reducible exact List.Perm.refl _
  | (apply perm_step; (· walk_at "rm"); walk_at "perm")
  | exact List.Perm.refl _)
local macro_rules | `(tactic| walk_at "pk") => `(tactic| first
  | with_reducible exact Pk.here
  | ((with_reducible apply Pk.there); walk_at "pk"))
/-- a part of a reading: what it gives. One word for all kinds -/
local macro_rules | `(tactic| walk_at "sx") => `(tactic| first
  -- an expression
  | with_reducible exact ev_int
  | with_reducible exact ev_bl
  | with_reducible exact ev_str
  | with_reducible exact ev_non
  | (with_reducible apply ev_var) <;> walk_at "sx"
  | (with_reducible apply ev_op) <;> walk_at "sx"
  | (with_reducible apply ev_fld) <;> walk_at "sx"
  | (with_reducible apply ev_cb) <;> walk_at "sx"
  | (with_reducible apply ev_tupD) <;> walk_at "sx"
  | (with_reducible apply ev_lstD) <;> walk_at "sx"
  | (with_reducible apply ev_tupV) <;> walk_at "sx"
  | (with_reducible apply ev_lstV) <;> walk_at "sx"
  | (with_reducible apply ev_slL) <;> walk_at "sx"
  | (with_reducible apply ev_slT1) <;> walk_at "sx"
  | (with_reducible apply ev_slT) <;> walk_at "sx"
  | (with_reducible apply ev_un) <;> walk_at "sx"
  | (with_reducible apply ev_chain) <;> walk_at "sx"
  | (with_reducible apply ev_andV) <;> walk_at "sx"
  | (with_reducible apply ev_orV) <;> walk_at "sx"
  | (with_reducible apply ev_notV) <;> walk_at "sx"
  | (with_reducible apply ev_lcY) <;> walk_at "sx"
  | (with_reducible apply ev_lc) <;> walk_at "sx"
  | ((with_reducible show ∀ a, a ∈ _ → ∃ ρ'' js, _); intro a ha; dsimp only [wipeE, List.set]; (first | with_reducible apply lcY_k | with_reducible apply lcF_k) <;> walk_at "sx")
  | (with_reducible apply ev_call) <;> walk_at "sx"
  | (with_reducible apply ev_meth) <;> walk_at "sx"
  | (with_reducible apply ev_bm) <;> walk_at "sx"
  | (with_reducible show Ev _ _ _ _ _); walk_at "own"
  -- a test
  | with_reducible exact et_yes
  | (with_reducible apply et_test) <;> walk_at "sx"
  | (with_reducible apply et_B) <;> walk_at "sx"
  | (with_reducible apply et_not) <;> walk_at "sx"
  | (with_reducible apply et_and) <;> walk_at "sx"
  | (with_reducible apply et_or) <;> walk_at "sx"
  -- arguments
  | with_reducible exact ea_nil
  | (with_reducible apply ea_cons) <;> walk_at "sx"
  | with_reducible exact ed_nil
  | (with_reducible apply ed_cons) <;> walk_at "sx"
  | with_reducible exact eo_none
  | (with_reducible apply eo_some) <;> walk_at "sx"
  -- what an operation gives
  | with_reducible exact rv_addI
  | with_reducible exact rv_int0
  | with_reducible exact rv_bl0
  | with_reducible exact rv_eqI
  | with_reducible exact rv_neI
  | with_reducible exact rv_eqS
  | with_reducible exact rv_neS
  | with_reducible exact rv_isN
  | with_reducible exact rv_notN
  | (with_reducible apply rv_intC) <;> walk_at "sx"
  | (with_reducible apply rv_addS) <;> walk_at "sx"
  | (with_reducible apply rv_ixL isl_dat) <;> walk_at "sx"
  | (with_reducible apply rv_ixT ist_dat) <;> walk_at "sx"
  | (with_reducible apply rv_ixL) <;> walk_at "sx"
  | (with_reducible apply rv_ixLV) <;> walk_at "sx"
  | (apply rv_ixT ist_dat) <;> walk_at "sx"
  | (with_reducible apply rv_ixTV istv_vtup) <;> walk_at "sx"
  | (with_reducible apply rv_ixScr) <;> walk_at "sx"
  | (apply rv_ixL isl_dat) <;> walk_at "sx"
  | (with_reducible apply rv_ixL) <;> walk_at "sx"
  | (apply rv_cat) <;> walk_at "sx"
  | (with_reducible apply rv_eqD) <;> walk_at "sx"
  | (with_reducible apply rv_neD) <;> walk_at "sx"
  | with_reducible exact ru_neg
  | with_reducible exact rc_int
  | with_reducible exact rc_abs
  | with_reducible exact rc_max2
  | with_reducible exact rc_min2
  | with_reducible exact rc_lenScr
  | with_reducible exact rc_lenM isl_dat
  | ((with_reducible apply rc_lenM); (with_reducible apply isl_cell) <;> walk_at "sx")
  | with_reducible exact rc_lenMT
  | (with_reducible apply rc_lenL) <;> walk_at "sx"
  | (apply rc_lenT ist_dat)
  | (with_reducible apply rc_tupL) <;> walk_at "sx"
  | (apply rc_tupT)
  | (with_reducible apply rc_lstL) <;> walk_at "sx"
  | (apply rc_lstT ist_dat)
  | with_reducible exact rc_anyM
  | with_reducible exact rc_allM
  | ((with_reducible apply rm_append) <;> walk_at "sx")
  -- lists, tuples, data
  | with_reducible exact isl_dat
  | with_reducible exact isd_dat
  | with_reducible exact isd_scr
  | (with_reducible apply isl_cell) <;> walk_at "sx"
  | (with_reducible apply islv_cell) <;> walk_at "sx"
  | with_reducible exact islv_vlst
  | (with_reducible apply isd_cell) <;> walk_at "sx"
  | (with_reducible apply isd_vtup) <;> walk_at "sx"
  | (with_reducible apply isd_vlst) <;> walk_at "sx"
  | with_reducible exact isds_nil
  | (with_reducible apply isds_cons) <;> walk_at "sx"
  | with_reducible exact fzl_dat
  | with_reducible exact fzl_v
  | with_reducible exact fzt_dat
  | with_reducible exact fzt_v
  | (with_reducible apply ity_l) <;> walk_at "sx"
  | with_reducible exact ity_s
  | (with_reducible apply IsLst.v) <;> walk_at "sx"
  -- places
  | with_reducible exact At.here
  | (with_reducible apply At.there) <;> walk_at "sx"
  | with_reducible exact SetAt.here
  | (with_reducible apply SetAt.there) <;> walk_at "sx"
  | with_reducible exact List.mem_cons_self
  | (with_reducible apply List.mem_cons_of_mem) <;> walk_at "sx"
  | ((with_reducible show (_ : Addr × CD) ∈ _); with_reducible assumption)
  | with_reducible exact Put.here
  | (with_reducible apply Put.there) <;> walk_at "sx"
  | ((with_reducible show Put _ _ _ _ _); with_reducible assumption)
  | ((with_reducible show Sw _ _ _ _); with_reducible assumption)
  | with_reducible exact sw_nil
  | ((with_reducible apply sw_pick); (· walk_at "pk"); walk_at "sx")
  | ((with_reducible apply sw_skip); walk_at "sx")
  | with_reducible exact FGet.here
  | ((with_reducible apply FGet.there); (· decide +kernel); walk_at "sx")
  | with_reducible exact FPut.here
  | with_reducible exact FPut.new
  | ((with_reducible apply FPut.there); (· decide +kernel); walk_at "sx")
  | (with_reducible show ClsF _ _ _); with_reducible assumption
  | (with_reducible show RtQ _ _ _); assumption
  | (with_reducible show (_ : Str) ∈ _); decide +kernel
  | (with_reducible show ¬ (_ : Str) ∈ _); decide +kernel
  -- what is walked, targets
  | (with_reducible apply ei_rng1) <;> walk_at "sx"
  | (with_reducible apply ei_rng2) <;> walk_at "sx"
  | (with_reducible apply ei_enumD) <;> walk_at "sx"
  | (with_reducible apply ei_enum) <;> walk_at "sx"
  | (with_reducible apply ei_zip) <;> walk_at "sx"
  | (with_reducible apply ei_seqLM) <;> walk_at "sx"
  | (with_reducible apply ei_seqTM) <;> walk_at "sx"
  | (with_reducible apply ei_seqL) <;> walk_at "sx"
  | (with_reducible apply ei_seqT) <;> walk_at "sx"
  | (with_reducible apply tg_name) <;> walk_at "sx"
  | (with_reducible apply tg_tup istv_vtup) <;> walk_at "sx"
  | (with_reducible apply td_tup) <;> walk_at "sx"
  | with_reducible exact td_nil
  | (with_reducible apply td_cons) <;> walk_at "sx"
  | with_reducible exact tgs_nil
  | (with_reducible apply tgs_cons) <;> walk_at "sx"
  -- beside
  | walk_at "spec"
  | walk_at "side"
  | walk_at "leave")
/-- a question of another kind is left -/
local macro_rules | `(tactic| walk_at "leave") => `(tactic| first
  | with_reducible show Cont _ _ _ _
  | with_reducible show Shp _ _
  | with_reducible show _ ≤ _
  | with_reducible show _ < _
  | with_reducible show CMul _ _
  | with_reducible show CDiv _ _
  | with_reducible show CPow _ _
  | with_reducible show _ = _
  | with_reducible show Le _ _
  | ((with_reducible show _ = true → _); with_reducible assumption)
  | ((with_reducible show _ = true → _); intro _; walk_at "sx")
  | ((with_reducible show _ = false → _); intro _; walk_at "sx"))
/-- a plain statement -/
local macro_rules | `(tactic| walk_at "st") => `(tactic| first
  | (with_reducible apply c_seq); walk_at "st"
  | (with_reducible apply c_asg) <;> (first | walk_at "sx" | skip)
  | (with_reducible apply c_asgG) <;> (first | walk_at "sx" | skip)
  | (with_reducible apply c_par) <;> (first | walk_at "sx" | skip)
  | (with_reducible apply c_par3) <;> (first | walk_at "sx" | skip)
  | (with_reducible apply c_aug) <;> (first | walk_at "sx" | skip)
  | (with_reducible apply c_augS) <;> (first | walk_at "sx" | skip)
  | (with_reducible apply c_fld) <;> (first | walk_at "sx" | skip)
  | (with_reducible apply c_drop) <;> (first | walk_at "sx" | skip)
  | with_reducible apply c_next
  | with_reducible apply c_break
  | with_reducible apply c_cont)
/-- a value is handed back; a word is met again -/
local macro_rules | `(tactic| walk_at "ret") => `(tactic| (with_reducible apply c_ret) <;> (first | walk_at "sx" | skip))
local macro_rules | `(tactic| walk_at "inv") => `(tactic| (with_reducible apply c_inv) <;> (first | walk_at "side" | skip))
local macro_rules | `(tactic| walk_at "seq") => `(tactic| with_reducible apply c_seq)
local macro_rules | `(tactic| walk_at "cut") => `(tactic| with_reducible apply c_cut)
local macro_rules | `(tactic| walk_at "if") => `(tactic| ((with_reducible apply c_if); (case' h => first | walk_at "sx" | skip)))
local macro_rules | `(tactic| walk_at "fgt") => `(tactic| first
  | exact Fgt.nil
  | (with_reducible apply Fgt.keep; walk_at "fgt")
  | (with_reducible apply Fgt.drop; walk_at "fgt"))

/-! ### more steps: stars, dicts, tuples -/
local macro_rules | `(tactic| walk_at "sx") => `(tactic| first
  | (with_reducible apply ed_starT) <;> walk_at "sx"
  | (with_reducible apply ev_dgetS) <;> walk_at "sx"
  | with_reducible exact isdi_v
  | (with_reducible apply isdi_c) <;> walk_at "sx"
  | (with_reducible apply rv_catTd) <;> walk_at "sx"
  | with_reducible exact ist_dat
  | ((with_reducible show ¬ (_ : Int) < _); with_reducible assumption)
  | ((with_reducible show valG _ _ = _); walk_at "get")
  | ((with_reducible show putG _ _ _ = _); walk_at "get"))

/-! ### rank, order, papers, kept lots -/
theorem lk_ca {S : Sce} {c : Str} (hc : c ∈ ky S.ca) : ∃ x, lk S.ca c = some x ∧ wOf S c = x.w ∧ S.hd c = x.hd := by
  have := lk_isSome.mpr hc
  cases e : lk S.ca c with
  | none => rw [e] at this; cases this
  | some x => exact ⟨x, rfl, by unfold wOf; rw [e], Sce.hd_of e⟩
theorem ev_scWorth {K : PySem.W.Frag} {mg : Str → Option Value} {T : Tx K mg} {ρ : Sx.Env} {M : Cells} {te td : TE} {S : Sce} {c : Str} (ho : Ev te ρ M (sceV T.C_Scene T.C_Call S) M) (hk : Ev td ρ M (vt c) M) (hc : c ∈ ky S.ca) : Ev (tFld K (tDGet (tFld K te "calls") td) "worth") ρ M (dat (.int (wOf S c))) M := by
  obtain ⟨x, e, e2, _⟩ := lk_ca hc
  rw [e2]
  exact ev_fldV (ev_dgetZ (f := calV T.C_Call) (l := S.ca) (ev_scCa ho) hk e) T.F_Call (by decide +kernel) .here
theorem Scene_rank_body {K : PySem.W.Frag} {mg : Str → Option Value} (T : Tx K mg) : ∀ Q ds M P Φ, ds.length = 2 → S_Scene_rank K T ds M P → RtQ Q Φ P → Cont (rd_Scene_rank_0 K T (fnD Q)) Φ (entry ["self", "name"] ds) M := by
  rintro Q ds M P Φ - ⟨S, c, rfl, hc, hP⟩ hQ
  show Cont _ _ [some (sceV T.C_Scene T.C_Call S), some (vt c)] _
  exact c_ret (D := fnD Q) (x := dat (rkD S c)) (ev_tupD (ds := [.int (-wOf S c), .str c]) (ed_cons (ev_un (ev_scWorth (ev_var .here) (ev_var (.there (.here))) hc) ru_neg) (ed_cons (ev_var (.there (.here))) ed_nil)) ln2) hQ hP (Le.refl _)
theorem Scene_order_body {K : PySem.W.Frag} {mg : Str → Option Value} (T : Tx K mg) : ∀ Q ds M P Φ, ds.length = 1 → S_Scene_order K T ds M P → RtQ Q Φ P → Cont (rd_Scene_order_0 K T (fnD Q)) Φ (entry ["self"] ds) M := by
  rintro Q ds M P Φ - ⟨S, rfl, ok, hP⟩ hQ
  show Cont _ _ [some (sceV T.C_Scene T.C_Call S)] _
  have hl := ok.lc
  exact c_ret (D := fnD Q) (ev_sortM (kvs := sK (calV T.C_Call) S.ca) (ev_scCa (ev_var .here)) isdi_z (ev_var .here) (by decide +kernel) (key_sK _ _) (by rw [List.length_map]; omega) (rk_alike S _) (rk_sortable S _) (rk_depth S _) fun c hc => ⟨S, c, rfl, hc, rfl, rfl⟩) hQ hP (Le.refl _)
theorem Seats_lot_against_body {K : PySem.W.Frag} {mg : Str → Option Value} (T : Tx K mg) : ∀ Q ds M P Φ, ds.length = 2 → S_Seats_lot_against K T ds M P → RtQ Q Φ P → Cont (rd_Seats_lot_against_0 K T (fnD Q)) Φ (entry ["self", "name", "came", "found", "mast", "one"] ds) M := by
  rintro Q ds M P Φ - ⟨A, S, s, name, L, rfl, h, ok, hA, k, hn, hnew, hno, hP⟩ hQ
  have hQ := hQ.up
  show Cont _ _ [some (val (.ref A.p)), some (vt name), none, none, none, none] _
  refine c_perm h ?_
  walk_at "seq"
  refine c_asgR (P := fun y N => ∃ came q, Ways S s name came none ∧ y = val (.ref q) ∧ N = (q, seatD came) :: (SCs T A S s ++ L)) (er_op (er_meth (P := fun y N => ∃ came q, Ways S s name came none ∧ y = vtup [val (.ref q), dat (os none)] ∧ N = (q, seatD came) :: (SCs T A S s ++ L)) (ds := [vt name]) (ev_var .here) (.head _) (by decide +kernel) (ea_cons (ev_var (.there (.here))) ea_nil) rfl ⟨A, S, s, name, L, rfl, .refl _, ok, hA, k, hn, fun came res q w => ?_⟩) ?_) ?_
  · cases res with
    | none => exact ⟨came, q, w, rfl, rfl⟩
    | some m =>
      exfalso
      obtain ⟨n, h0⟩ := hole_start k hnew w
      obtain ⟨s', a⟩ := hole_run k hn n s _ n (Nat.le_refl _) h0
      exact hno ((a.iff k hnew (.refl _)).mp rfl)
  · rintro y N ⟨came, q, w, rfl, rfl⟩
    exact Ev.er ev_int ⟨val (.ref q), _, rv_ixTV istv_vtup rfl, came, q, w, rfl, rfl⟩
  rintro y N ⟨came, q, w, rfl, rfl⟩
  refine asgR_k (.there (.there (.here))) ?_
  show Cont (rd_Seats_lot_against_1 K T (fnD Q)) Φ _ _
  walk_at "seq"
  have hcl : came.length ≤ 63 := by
    have := nd_len w.chn.nd (w.chn.hdk ok)
    have := ok.lm
    simp only [List.length_map] at *
    omega
  have hnd : (name :: onAll s (ky came)).Nodup := by
    rw [List.nodup_cons]
    refine ⟨fun z => ?_, onAll_nd k w.chn.nd⟩
    obtain ⟨m, _, z⟩ := List.mem_flatMap.mp z
    exact hnew (lk_isSome.mp (by rw [(k.on m name).mp z]; rfl))
  have hfl : (name :: onAll s (ky came)).length ≤ 63 := by
    have := nd_len hnd (b := ky S.ca) fun x hx => by
      rcases List.mem_cons.mp hx with e | hx
      · exact e ▸ hn
      · obtain ⟨m, _, z⟩ := List.mem_flatMap.mp hx
        exact k.ca x (lk_isSome.mp (by rw [(k.on m x).mp z]; rfl))
    have := ok.lc
    simp only [List.length_map] at *
    omega
  rw [List.length_cons] at hfl
  have hfound : Ev (tLc2 (iKeys (tFz (tVar 2))) (gName 4) tYes (iSeq K (tDGet (tFld K (tVar 0) "seated") (tVar 4))) (gName 5) tYes (tVar 5) [4, 5] [5]) [some (val (.ref A.p)), some (vt name), some (val (.ref q)), none, none, none] ((q, seatD came) :: (SCs T A S s ++ L)) (dat (txD (onAll s (ky came)))) (SCs T A S s ++ L) := by
    have hit : EvI (iKeys (tFz (tVar 2))) [some (val (.ref A.p)), some (vt name), some (val (.ref q)), none, none, none] ((q, seatD came) :: (SCs T A S s ++ L)) ((ky came).map fun m => vt m) (SCs T A S s ++ L) := ei_keysS (f := fun m => vt m) (ev_fzD (ev_var (.there (.there (.here)))))
    have e : onAll s (ky came) = (ky came).flatMap fun m => (s.on m) := rfl
    have e2 : txD (onAll s (ky came)) = .list ((ky came).flatMap fun m => (s.on m).map PyData.str) := by
      rw [e, txD, List.map_flatMap]
    rw [e2]
    refine ev_lc2M hit (ys := s.on) (e1 := fun _ c => vt c) (r := fun _ c => PyData.str c) (by rw [← e]; omega) fun m hm => ?_
    have hmS := w.chn.hdk ok m hm
    obtain ⟨a, ha⟩ := on_some hA hmS
    obtain ⟨L1, p1, _⟩ := onC_pick (ok.nA hA) ha s.on
    refine ⟨[some (val (.ref A.p)), some (vt name), some (val (.ref q)), none, some (vt m), none], [4], [(a, tL (s.on m))], (A.p, seaI T.C_Seats T.C_Scene T.C_Call A S) :: (A.d, seatD s.seat) :: (L1 ++ L), tg_name (.there (.there (.there (.there (.here))))), by decide, ?_, fun Φ c => ?_, fun c hc => ⟨[some (val (.ref A.p)), some (vt name), some (val (.ref q)), none, some (vt m), some (vt c)], [5], tg_name (.there (.there (.there (.there (.there (.here)))))), fun _ h => h, fun d => (ev_var (.there (.there (.there (.there (.there (.here)))))))⟩⟩
    · refine List.Perm.trans (.cons _ (.cons _ (p1.append_right L))) ?_
      exact List.Perm.cons _ (List.Perm.cons _ (List.perm_append_comm (l₁ := [(a, tL (s.on m))]) (l₂ := L1 ++ L)))
    · refine ei_ownS (xs := s.on m) (p := a) List.mem_cons_self ?_
      exact ev_dgetV (f := aV) (l := A.on) (ev_fld (ev_var .here) (.tail _ (.head _)) T.F_Seats (by decide +kernel) (.there (by decide +kernel) (.there (by decide +kernel) .here))) (ev_var (.there (.there (.there (.there (.here)))))) ha
  refine c_asg hfound (.there (.there (.there (.here)))) ?_
  show Cont (rd_Seats_lot_against_2 K T (fnD Q)) Φ _ _
  refine c_ret (D := fnD Q) (ev_cb (ea_cons (ev_cb (ea_cons (ev_lstD (ds := (name :: onAll s (ky came)).map .str) (ed_cons (ev_var (.there (.here))) (Eq.subst (motive := fun l => EvD _ _ _ l _) (List.append_nil _) (ed_starL (ev_var (.there (.there (.there (.here))))) isl_dat ed_nil))) ?_) ea_nil) (rc_sortS isl_dat (by rw [List.length_cons]; omega))) ea_nil) (rc_tupL isl_dat)) hQ (up_of (hP came w)) (Le.refl _)
  rw [List.length_map, List.length_cons]
  show _ ≤ 16777216
  omega
abbrev KEn (Cs Cc : Addr) (p : Addr) (S : Sce) (A : SA) (pp : Addr) (x4 : Option VD) : Sx.Env := [some (val (.ref p)), some (sceV Cs Cc S), some (val (.ref A.p)), some (val (.ref pp)), x4]
theorem Kept_init_body {K : PySem.W.Frag} {mg : Str → Option Value} (T : Tx K mg) : ∀ Q ds M P Φ, ds.length = 2 → S_Kept_init K T ds M P → RtQ Q Φ P → Cont (rd_Kept_init_0 K T (fnD Q)) Φ (entry ["self", "scene", "seats", "papers", "name"] ds) M := by
  rintro Q ds M P Φ - ⟨p, S, M0, rfl, rfl, ok, hP⟩ hQ
  have hQ := hQ.up
  show Cont _ _ [some (val (.ref p)), some (sceV T.C_Scene T.C_Call S), none, none, none] _
  have hF := T.F_Kept
  have hol := order_len S
  have hlc := ok.lc
  walk_at "seq"
  refine c_asgGR (P := fun y N => ∃ (A : SA) (pp : Addr), ky A.on = ky S.ch ∧ y = vtup [val (.ref A.p), val (.ref pp)] ∧ N = (pp, cD []) :: (SCs T A S noSeats ++ ((p, cI T.C_Kept [] []) :: M0))) (er_tupV (ear_cons (Pa := fun y N => ∃ A : SA, ky A.on = ky S.ch ∧ y = val (.ref A.p) ∧ N = SCs T A S noSeats ++ ((p, cI T.C_Kept [] []) :: M0)) (er_make (ds := [sceV T.C_Scene T.C_Call S]) (ea_cons (ev_var (.there (.here))) ea_nil) rfl fun q => ⟨q, S, _, rfl, rfl, ok, fun A e hA => ⟨rfl, A, hA, by rw [e], rfl⟩⟩) ?_)) ?_
  · rintro y N ⟨A, hA, rfl, rfl⟩
    refine ear_cons er_dnewC ?_
    rintro y N ⟨pp, rfl, rfl⟩
    exact ear_nil ⟨ln2, A, pp, hA, rfl, rfl⟩
  rintro xs N ⟨A, pp, hA, rfl, rfl⟩
  refine ⟨KEn T.C_Scene T.C_Call p S A pp none, _, tg_tup istv_vtup (tgs_cons (tg_name (.there (.there (.here)))) (tgs_cons (tg_name (.there (.there (.there (.here))))) tgs_nil)) rfl, ?_⟩
  show Cont (rd_Kept_init_1 K T (fnD Q)) Φ (KEn T.C_Scene T.C_Call p S A pp none) _
  walk_at "cut"
  have hperm : ∀ {st : SSt} {pap : List (Str × List Str)} {c : Addr × CD}, ((pp, cD (sK txV pap)) :: (SCs T A S st ++ (c :: M0))).Perm (SCs T A S st ++ ((pp, cD (sK txV pap)) :: (c :: M0))) := fun {_ _ _} => List.perm_middle.symm
  refine c_for (its := (orderF S).map fun c => vt c) (M1 := (pp, cD []) :: (SCs T A S noSeats ++ ((p, cI T.C_Kept [] []) :: M0))) (I := fun i ρ' M' => ∃ ks st pap x4, ρ' = KEn T.C_Scene T.C_Call p S A pp x4 ∧ M' = (pp, cD (sK txV pap)) :: (SCs T A S st ++ ((p, cI T.C_Kept [] []) :: M0)) ∧ KeptI S i ks st pap) (ei_seqLM ((er_methV (ds := []) (ev_var (.there (.here))) (by decide +kernel) ea_nil rfl ⟨S, rfl, ok, rfl, rfl⟩ : EvR _ _ _ (Det (dat (txD (orderF S))) _)).ev)) ⟨[], noSeats, [], none, rfl, rfl, kept0 S⟩ ?_ ?_
  · rintro Ψ hΨ i d ρ' M' hi ⟨ks, st, pap, x4, rfl, rfl, kI⟩
    rw [List.getElem?_map] at hi
    cases hc : (orderF S)[i]? with
    | none => rw [hc] at hi; cases hi
    | some c =>
      rw [hc] at hi
      cases hi
      obtain ⟨n1, n2, n3, n4⟩ := kI.new ok hc
      have hpl : pap.length ≤ 63 := by
        have h1 := congrArg List.length kI.pk
        have h2 := List.length_filter_le (fun c => decide (c ∉ ks)) ((orderF S).take i)
        rw [List.length_take] at h2
        rw [List.length_map] at h1
        omega
      refine ⟨KEn T.C_Scene T.C_Call p S A pp (some (vt c)), _, tg_name (.there (.there (.there (.there (.here))))), ?_⟩
      show Cont (rd_Kept_init_2 K T _) Ψ _ _
      refine c_ifL (P := fun b N => ∃ st', Added S st c (!b) st' ∧ N = SCs T A S st' ++ ((pp, cD (sK txV pap)) :: (p, cI T.C_Kept [] []) :: M0)) (etl_not (P1 := fun b N => ∃ st', Added S st c b st' ∧ N = SCs T A S st' ++ ((pp, cD (sK txV pap)) :: (p, cI T.C_Kept [] []) :: M0)) (etl_B (Pe := fun y N => ∃ b st', Added S st c b st' ∧ y = dat (.bool b) ∧ N = SCs T A S st' ++ ((pp, cD (sK txV pap)) :: (p, cI T.C_Kept [] []) :: M0)) (EvR.l (er_meth (ds := [vt c]) (ev_var (.there (.there (.here)))) (.tail _ (.head _)) (by decide +kernel) (ea_cons (ev_var (.there (.there (.there (.there (.here)))))) ea_nil) rfl (add_ev hperm ok hA kI.ok n1 n2 fun b st' a => ⟨b, st', a, rfl, rfl⟩))) ?_) ?_) ?_ ?_
      · rintro y N ⟨b, st', a, rfl, rfl⟩
        exact ⟨b, rfl, st', a, rfl⟩
      · rintro b N ⟨st', a, rfl⟩
        exact ⟨st', by rw [Bool.not_not]; exact a, rfl⟩
      · rintro N ⟨st', a, rfl⟩
        show Cont (rd_Kept_init_3 K T _) Ψ _ _
        obtain ⟨rfl, _⟩ := a.no rfl
        have hno : ¬ S.Can (ks ++ [c]) := fun z => by
          have := (a.iff kI.ok n2 kI.p).mpr z
          cases this
        have hno2 : ¬ S.Can (ky st'.seat ++ [c]) := fun z => hno (z.perm (kI.p.append_right _))
        refine c_dputR (P := fun y N => ∃ came, Ways S st' c came none ∧ y = txV (sortS (c :: onAll st' (ky came))) ∧ N = SCs T A S st' ++ ((pp, cD (sK txV pap)) :: (p, cI T.C_Kept [] []) :: M0)) (er_meth (ds := [vt c]) (ev_var (.there (.there (.here)))) (.head _) (by decide +kernel) (ea_cons (ev_var (.there (.there (.there (.there (.here)))))) ea_nil) rfl ⟨A, S, st', c, _, rfl, .refl _, ok, hA, kI.ok, n1, n2, hno2, fun came w => ⟨came, w, rfl, rfl⟩⟩) ?_
        rintro y N ⟨came, w, rfl, rfl⟩
        have hnp : c ∉ ky pap := fun z => by
          rw [kI.pk] at z
          exact n4 (List.mem_filter.mp z).1
        refine ⟨pp, sK txV pap, .inr c, _, _, SCs T A S st' ++ ((pp, cD (sK txV (pap ++ [(c, sortS (c :: onAll st' (ky came)))]))) :: (p, cI T.C_Kept [] []) :: M0), (ev_var (.there (.there (.there (.here))))), (ev_var (.there (.there (.there (.there (.here)))))), ?_, by rw [len_sK]; show _ < 16777216; omega, ?_⟩
        · have := put_sK txV pap c (sortS (c :: onAll st' (ky came)))
          rw [pt_new hnp] at this
          rw [this]
          exact Put.behind .here _
        · refine c_perm List.perm_middle ?_
          exact c_inv ⟨ks, st', _, _, rfl, rfl, kI.no ok hc hno w⟩ (Le.refl _)
      · rintro N ⟨st', a, rfl⟩
        apply c_next
        refine c_perm List.perm_middle ?_
        exact c_inv ⟨_, st', pap, _, rfl, rfl, kI.yes ok hc a⟩ (Le.refl _)
  · rintro ρ' M' ⟨ks, st, pap, x4, rfl, rfl, kI⟩
    rw [List.length_map] at kI
    have kr := kI.end
    have hsl := kr.ok.len ok
    have hpl := kr.plen
    have hpn := kr.pnd ok
    show Cont (rd_Kept_init_5 K T (fnD Q)) Φ _ _
    refine c_perm (M' := (p, cI T.C_Kept [] []) :: ((pp, cD (sK txV pap)) :: (SCs T A S st ++ M0))) (((List.perm_middle (l₁ := SCs T A S st)).cons _).trans (.swap _ _ _)) ?_
    have hperm2 : ∀ {c1 c2 : Addr × CD}, (c1 :: c2 :: (SCs T A S st ++ M0)).Perm (SCs T A S st ++ (c1 :: c2 :: M0)) := fun {c1 c2} => (((List.perm_middle (l₁ := SCs T A S st) (a := c2) (l₂ := M0)).symm.cons c1).trans (List.perm_middle (l₁ := SCs T A S st) (a := c1)).symm)
    walk_at "seq"
    refine c_fld (y := dat (txT (sortS ks))) (M3 := (p, cI T.C_Kept ["lot"] [dat (txT (sortS ks))]) :: ((pp, cD (sK txV pap)) :: (SCs T A S st ++ M0))) (Ev.eq (ev_cb (ea_cons (ev_cb (ea_cons (ev_sSeating hperm2 (ev_var (.there (.there (.here))))) ea_nil) (rc_sortDS (isdi_c (seats_d hperm2)) (key_sK _ _) (by rw [List.length_map]; omega))) ea_nil) (rc_tupL isl_dat)) (by rw [kr.lot])) (ev_var .here) .here .new hF (by decide +kernel) (by decide) ?_
    show Cont (rd_Kept_init_6 K T (fnD Q)) Φ _ _
    walk_at "seq"
    have hseat : Ev (tFz (tDc (iSeq K (tFld K (tVar 0) "lot")) (gName 4) tYes (tVar 4) (tDGet (tFld K (tVar 2) "seating") (tVar 4)) [4])) (KEn T.C_Scene T.C_Call p S A pp x4) ((p, cI T.C_Kept ["lot"] [dat (txT (sortS ks))]) :: ((pp, cD (sK txV pap)) :: (SCs T A S st ++ M0))) (vdz (sK (fun m => vt m) (sortK st.seat))) ((p, cI T.C_Kept ["lot"] [dat (txT (sortS ks))]) :: ((pp, cD (sK txV pap)) :: (SCs T A S st ++ M0))) := by
      have hE : EvI (iSeq K (tFld K (tVar 0) "lot")) (KEn T.C_Scene T.C_Call p S A pp x4) ((p, cI T.C_Kept ["lot"] [dat (txT (sortS ks))]) :: ((pp, cD (sK txV pap)) :: (SCs T A S st ++ M0))) ((sortS (ky st.seat)).map fun k => vt k) ((p, cI T.C_Kept ["lot"] [dat (txT (sortS ks))]) :: ((pp, cD (sK txV pap)) :: (SCs T A S st ++ M0))) := by
        rw [kr.lot]
        exact ei_seqTM (ev_fld (ev_var .here) (.head _) hF (by decide +kernel) .here)
      have hl2 : (sortS (ky st.seat)).length = st.seat.length := by rw [(sortS_perm _).length_eq, List.length_map]
      refine (er_fzD (er_dc (k := fun k => (Sum.inr k : L2.Key)) (r := fun k => ((lk st.seat k).map fun m => vt m).getD vn) hE (by omega) fun a ha => ?_) ?_ : EvR _ _ _ (Det _ _)).ev
      · refine ⟨KEn T.C_Scene T.C_Call p S A pp (some (vt a)), [4], tg_name (.there (.there (.there (.there (.here))))), fun _ h => h, (ev_var (.there (.there (.there (.there (.here)))))), ?_⟩
        have hk := lk_isSome.mpr ((sortS_perm _).mem_iff.mp ha)
        cases e : lk st.seat a with
        | none => rw [e] at hk; cases hk
        | some v => exact ev_dgetC (f := fun m => vt m) (l := st.seat) (v := v) (ev_sSeating hperm2 (ev_var (.there (.there (.here))))) (ev_var (.there (.there (.there (.there (.here)))))) (seats_d hperm2) e
      · rintro x N ⟨D, rfl, rfl⟩
        refine ⟨D, _, _, rfl, rfl, ?_, rfl⟩
        rw [sK_sortK]
        have := merge_sK (fun m => vt m) (sortK st.seat) [] (nd_sortK kr.ok.nd)
        rw [List.nil_append] at this
        exact congrArg vdz this
    refine c_fld (y := vdz (sK (fun m => vt m) (sortK st.seat))) (M3 := (p, cI T.C_Kept ["lot", "seating"] [dat (txT (sortS ks)), vdz (sK (fun m => vt m) (sortK st.seat))]) :: ((pp, cD (sK txV pap)) :: (SCs T A S st ++ M0))) hseat (ev_var .here) .here (.there (by decide +kernel) .new) hF (by decide +kernel) (by decide) ?_
    show Cont (rd_Kept_init_7 K T (fnD Q)) Φ _ _
    have hpap : Ev (tFz (tDc (iSeq K (tCB rSortedDS (tCons (tVar 3) tNil))) (gName 4) tYes (tVar 4) (tDGet (tVar 3) (tVar 4)) [4])) (KEn T.C_Scene T.C_Call p S A pp x4) ((p, cI T.C_Kept ["lot", "seating"] [dat (txT (sortS ks)), vdz (sK (fun m => vt m) (sortK st.seat))]) :: ((pp, cD (sK txV pap)) :: (SCs T A S st ++ M0))) (papV (sortK pap)) ((p, cI T.C_Kept ["lot", "seating"] [dat (txT (sortS ks)), vdz (sK (fun m => vt m) (sortK st.seat))]) :: ((pp, cD (sK txV pap)) :: (SCs T A S st ++ M0))) :=
      ev_sortDc (ρj := fun d => KEn T.C_Scene T.C_Call p S A pp (some d)) (by omega) (ev_var (.there (.there (.there (.here))))) (.tail _ (.head _)) (fun d => (.there (.there (.there (.there (.here)))))) (fun d => (.there (.there (.there (.here))))) (fun d => (.there (.there (.there (.there (.here)))))) hpn
    refine c_fld (y := papV (sortK pap)) (M3 := (p, cI T.C_Kept keptN [dat (txT (sortS ks)), vdz (sK (fun m => vt m) (sortK st.seat)), papV (sortK pap)]) :: ((pp, cD (sK txV pap)) :: (SCs T A S st ++ M0))) hpap (ev_var .here) .here (.there (by decide +kernel) (.there (by decide +kernel) .new)) hF (by decide +kernel) (by decide) ?_
    refine c_end hQ (up_drop (N' := (p, cI T.C_Kept keptN [dat (txT (sortS ks)), vdz (sK (fun m => vt m) (sortK st.seat)), papV (sortK pap)]) :: M0) ?_ (hP ks st pap kr)) (Le.refl _)
    exact ((List.sublist_append_right _ _).trans (List.sublist_cons_self _ _)).cons_cons _

end Lw


set_option Elab.async false
set_option linter.all false
set_option maxRecDepth 100000
set_option maxHeartbeats 4000000
namespace Lw
open PySem L2 Sx
/-! ### steps -/
local macro_rules | `(tactic| walk_at "shp") => `(tactic| first
  | exact shp_int
  | exact shp_none
  | exact shp_bool
  | exact shp_oi _
  | (apply shp_str; first | decide +kernel | assumption)
  | (apply shp_list; walk_at "shpA")
  | (apply shp_tuple; walk_at "shpA")
  | assumption)
local macro_rules | `(tactic| walk_at "shpA") => `(tactic| first
  | exact shpA_nil
  | (apply shpA_cons; (· walk_at "shp"); walk_at "shpA")
  | (apply shpA_map; intro _ _; walk_at "shp"))
/-- what is left beside: closed, or left -/
local macro_rules | `(tactic| walk_at "side") => `(tactic| first
  | (with_reducible show Shp _ _); walk_at "shp"
  | (with_reducible show _ ≤ sizeLine); first | decide | (show _ ≤ 16777216; omega) | (show _ ≤ 16777216; simp only [List.length_map, List.length_append, List.length_cons, List.length_nil]; omega)
  | (with_reducible show _ < sizeLine); first | decide | (show _ < 16777216; omega) | (show _ < 16777216; simp only [List.length_map, List.length_append, List.length_cons, List.length_nil]; omega)
  | (with_reducible show CMul _ _); first | exact Or.inr ⟨by decide, by decide⟩ | exact Or.inl ⟨by decide, by decide⟩ | exact Or.inl ⟨by omega, by omega⟩ | exact Or.inr ⟨by omega, by omega⟩
  | (with_reducible show CPow _ _); exact ⟨by decide, by decide, by decide⟩
  | (with_reducible show CDiv _ _); first | exact ⟨by decide, by decide⟩ | exact ⟨by omega, by omega⟩
  | (with_reducible show Le _ _); first | with_reducible exact Le.refl _ | with_reducible assumption
  | (with_reducible show L2.atI _ _ = _); first | with_reducible assumption | exact rfl | exact atI_nat rfl
  | (with_reducible show _ < _); first | with_reducible assumption | decide | omega
  | (with_reducible show _ ≤ _); first | with_reducible assumption | decide | omega
  | (with_reducible show _ ∧ _); omega
  | (with_reducible show ∀ i, i ∈ _ → i ∈ _); decide
  | (with_reducible show (_ : Nat) = _); first | exact rfl | omega)
local macro_rules | `(tactic| walk_at "rm") => `(tactic| first
  | exact Rm.here
  | (apply Rm.there; walk_at "rm"))
local macro_rules | `(tactic| walk_at "perm") => `(tactic| first
  | with_reducible exact List.Perm.refl _
  | (apply perm_step; (· walk_at "rm"); walk_at "perm")
  | exact List.Perm.refl _)
local macro_rules | `(tactic| walk_at "pk") => `(tactic| first
  | with_reducible exact Pk.here
  | ((with_reducible apply Pk.there); walk_at "pk"))
/-- a part of a reading: what it gives. One word for all kinds -/
local macro_rules | `(tactic| walk_at "sx") => `(tactic| first
  -- an expression
  | with_reducible exact ev_int
  | with_reducible exact ev_bl
  | with_reducible exact ev_str
  | with_reducible exact ev_non
  | (with_reducible apply ev_var) <;> walk_at "sx"
  | (with_reducible apply ev_op) <;> walk_at "sx"
  | (with_reducible apply ev_fld) <;> walk_at "sx"
  | (with_reducible apply ev_cb) <;> walk_at "sx"
  | (with_reducible apply ev_tupD) <;> walk_at "sx"
  | (with_reducible apply ev_lstD) <;> walk_at "sx"
  | (with_reducible apply ev_tupV) <;> walk_at "sx"
  | (with_reducible apply ev_lstV) <;> walk_at "sx"
  | (with_reducible apply ev_slL) <;> walk_at "sx"
  | (with_reducible apply ev_slT1) <;> walk_at "sx"
  | (with_reducible apply ev_slT) <;> walk_at "sx"
  | (with_reducible apply ev_un) <;> walk_at "sx"
  | (with_reducible apply ev_chain) <;> walk_at "sx"
  | (with_reducible apply ev_andV) <;> walk_at "sx"
  | (with_reducible apply ev_orV) <;> walk_at "sx"
  | (with_reducible apply ev_notV) <;> walk_at "sx"
  | (with_reducible apply ev_lcY) <;> walk_at "sx"
  | (with_reducible apply ev_lc) <;> walk_at "sx"
  | ((with_reducible show ∀ a, a ∈ _ → ∃ ρ'' js, _); intro a ha; dsimp only [wipeE, List.set]; (first | with_reducible apply lcY_k | with_reducible apply lcF_k) <;> walk_at "sx")
  | (with_reducible apply ev_call) <;> walk_at "sx"
  | (with_reducible apply ev_meth) <;> walk_at "sx"
  | (with_reducible apply ev_bm) <;> walk_at "sx"
  | (with_reducible show Ev _ _ _ _ _); walk_at "own"
  -- a test
  | with_reducible exact et_yes
  | (with_reducible apply et_test) <;> walk_at "sx"
  | (with_reducible apply et_B) <;> walk_at "sx"
  | (with_reducible apply et_not) <;> walk_at "sx"
  | (with_reducible apply et_and) <;> walk_at "sx"
  | (with_reducible apply et_or) <;> walk_at "sx"
  -- arguments
  | with_reducible exact ea_nil
  | (with_reducible apply ea_cons) <;> walk_at "sx"
  | with_reducible exact ed_nil
  | (with_reducible apply ed_cons) <;> walk_at "sx"
  | with_reducible exact eo_none
  | (with_reducible apply eo_some) <;> walk_at "sx"
  -- what an operation gives
  | with_reducible exact rv_addI
  | with_reducible exact rv_int0
  | with_reducible exact rv_bl0
  | with_reducible exact rv_eqI
  | with_reducible exact rv_neI
  | with_reducible exact rv_eqS
  | with_reducible exact rv_neS
  | with_reducible exact rv_isN
  | with_reducible exact rv_notN
  | (with_reducible apply rv_intC) <;> walk_at "sx"
  | (with_reducible apply rv_addS) <;> walk_at "sx"
  | (with_reducible apply rv_ixL isl_dat) <;> walk_at "sx"
  | (with_reducible apply rv_ixT ist_dat) <;> walk_at "sx"
  | (with_reducible apply rv_ixL) <;> walk_at "sx"
  | (with_reducible apply rv_ixLV) <;> walk_at "sx"
  | (apply rv_ixT ist_dat) <;> walk_at "sx"
  | (with_reducible apply rv_ixTV istv_vtup) <;> walk_at "sx"
  | (with_reducible apply rv_ixScr) <;> walk_at "sx"
  | (apply rv_ixL isl_dat) <;> walk_at "sx"
  | (with_reducible apply rv_ixL) <;> walk_at "sx"
  | (apply rv_cat) <;> walk_at "sx"
  | (with_reducible apply rv_eqD) <;> walk_at "sx"
  | (with_reducible apply rv_neD) <;> walk_at "sx"
  | with_reducible exact ru_neg
  | with_reducible exact rc_int
  | with_reducible exact rc_abs
  | with_reducible exact rc_max2
  | with_reducible exact rc_min2
  | with_reducible exact rc_lenScr
  | with_reducible exact rc_lenM isl_dat
  | ((with_reducible apply rc_lenM); (with_reducible apply isl_cell) <;> walk_at "sx")
  | with_reducible exact rc_lenMT
  | (with_reducible apply rc_lenL) <;> walk_at "sx"
  | (apply rc_lenT ist_dat)
  | (with_reducible apply rc_tupL) <;> walk_at "sx"
  | (apply rc_tupT)
  | (with_reducible apply rc_lstL) <;> walk_at "sx"
  | (apply rc_lstT ist_dat)
  | with_reducible exact rc_anyM
  | with_reducible exact rc_allM
  | ((with_reducible apply rm_append) <;> walk_at "sx")
  -- lists, tuples, data
  | with_reducible exact isl_dat
  | with_reducible exact isd_dat
  | with_reducible exact isd_scr
  | (with_reducible apply isl_cell) <;> walk_at "sx"
  | (with_reducible apply islv_cell) <;> walk_at "sx"
  | with_reducible exact islv_vlst
  | (with_reducible apply isd_cell) <;> walk_at "sx"
  | (with_reducible apply isd_vtup) <;> walk_at "sx"
  | (with_reducible apply isd_vlst) <;> walk_at "sx"
  | with_reducible exact isds_nil
  | (with_reducible apply isds_cons) <;> walk_at "sx"
  | with_reducible exact fzl_dat
  | with_reducible exact fzl_v
  | with_reducible exact fzt_dat
  | with_reducible exact fzt_v
  | (with_reducible apply ity_l) <;> walk_at "sx"
  | with_reducible exact ity_s
  | (with_reducible apply IsLst.v) <;> walk_at "sx"
  -- places
  | with_reducible exact At.here
  | (with_reducible apply At.there) <;> walk_at "sx"
  | with_reducible exact SetAt.here
  | (with_reducible apply SetAt.there) <;> walk_at "sx"
  | with_reducible exact List.mem_cons_self
  | (with_reducible apply List.mem_cons_of_mem) <;> walk_at "sx"
  | ((with_reducible show (_ : Addr × CD) ∈ _); with_reducible assumption)
  | with_reducible exact Put.here
  | (with_reducible apply Put.there) <;> walk_at "sx"
  | ((with_reducible show Put _ _ _ _ _); with_reducible assumption)
  | ((with_reducible show Sw _ _ _ _); with_reducible assumption)
  | with_reducible exact sw_nil
  | ((with_reducible apply sw_pick); (· walk_at "pk"); walk_at "sx")
  | ((with_reducible apply sw_skip); walk_at "sx")
  | with_reducible exact FGet.here
  | ((with_reducible apply FGet.there); (· decide +kernel); walk_at "sx")
  | with_reducible exact FPut.here
  | with_reducible exact FPut.new
  | ((with_reducible apply FPut.there); (· decide +kernel); walk_at "sx")
  | (with_reducible show ClsF _ _ _); with_reducible assumption
  | (with_reducible show RtQ _ _ _); assumption
  | (with_reducible show (_ : Str) ∈ _); decide +kernel
  | (with_reducible show ¬ (_ : Str) ∈ _); decide +kernel
  -- what is walked, targets
  | (with_reducible apply ei_rng1) <;> walk_at "sx"
  | (with_reducible apply ei_rng2) <;> walk_at "sx"
  | (with_reducible apply ei_enumD) <;> walk_at "sx"
  | (with_reducible apply ei_enum) <;> walk_at "sx"
  | (with_reducible apply ei_zip) <;> walk_at "sx"
  | (with_reducible apply ei_seqLM) <;> walk_at "sx"
  | (with_reducible apply ei_seqTM) <;> walk_at "sx"
  | (with_reducible apply ei_seqL) <;> walk_at "sx"
  | (with_reducible apply ei_seqT) <;> walk_at "sx"
  | (with_reducible apply tg_name) <;> walk_at "sx"
  | (with_reducible apply tg_tup istv_vtup) <;> walk_at "sx"
  | (with_reducible apply td_tup) <;> walk_at "sx"
  | with_reducible exact td_nil
  | (with_reducible apply td_cons) <;> walk_at "sx"
  | with_reducible exact tgs_nil
  | (with_reducible apply tgs_cons) <;> walk_at "sx"
  -- beside
  | walk_at "spec"
  | walk_at "side"
  | walk_at "leave")
/-- a question of another kind is left -/
local macro_rules | `(tactic| walk_at "leave") => `(tactic| first
  | with_reducible show Cont _ _ _ _
  | with_reducible show Shp _ _
  | with_reducible show _ ≤ _
  | with_reducible show _ < _
  | with_reducible show CMul _ _
  | with_reducible show CDiv _ _
  | with_reducible show CPow _ _
  | with_reducible show _ = _
  | with_reducible show Le _ _
  | ((with_reducible show _ = true → _); with_reducible assumption)
  | ((with_reducible show _ = true → _); intro _; walk_at "sx")
  | ((with_reducible show _ = false → _); intro _; walk_at "sx"))
/-- a plain statement -/
local macro_rules | `(tactic| walk_at "st") => `(tactic| first
  | (with_reducible apply c_seq); walk_at "st"
  | (with_reducible apply c_asg) <;> (first | walk_at "sx" | skip)
  | (with_reducible apply c_asgG) <;> (first | walk_at "sx" | skip)
  | (with_reducible apply c_par) <;> (first | walk_at "sx" | skip)
  | (with_reducible apply c_par3) <;> (first | walk_at "sx" | skip)
  | (with_reducible apply c_aug) <;> (first | walk_at "sx" | skip)
  | (with_reducible apply c_augS) <;> (first | walk_at "sx" | skip)
  | (with_reducible apply c_fld) <;> (first | walk_at "sx" | skip)
  | (with_reducible apply c_drop) <;> (first | walk_at "sx" | skip)
  | with_reducible apply c_next
  | with_reducible apply c_break
  | with_reducible apply c_cont)
/-- a value is handed back; a word is met again -/
local macro_rules | `(tactic| walk_at "ret") => `(tactic| (with_reducible apply c_ret) <;> (first | walk_at "sx" | skip))
local macro_rules | `(tactic| walk_at "inv") => `(tactic| (with_reducible apply c_inv) <;> (first | walk_at "side" | skip))
local macro_rules | `(tactic| walk_at "seq") => `(tactic| with_reducible apply c_seq)
local macro_rules | `(tactic| walk_at "cut") => `(tactic| with_reducible apply c_cut)
local macro_rules | `(tactic| walk_at "if") => `(tactic| ((with_reducible apply c_if); (case' h => first | walk_at "sx" | skip)))
local macro_rules | `(tactic| walk_at "fgt") => `(tactic| first
  | exact Fgt.nil
  | (with_reducible apply Fgt.keep; walk_at "fgt")
  | (with_reducible apply Fgt.drop; walk_at "fgt"))

/-! ### more steps: stars, dicts, tuples -/
local macro_rules | `(tactic| walk_at "sx") => `(tactic| first
  | (with_reducible apply ed_starT) <;> walk_at "sx"
  | (with_reducible apply ev_dgetS) <;> walk_at "sx"
  | with_reducible exact isdi_v
  | (with_reducible apply isdi_c) <;> walk_at "sx"
  | (with_reducible apply rv_catTd) <;> walk_at "sx"
  | with_reducible exact ist_dat
  | ((with_reducible show ¬ (_ : Int) < _); with_reducible assumption)
  | ((with_reducible show valG _ _ = _); walk_at "get")
  | ((with_reducible show putG _ _ _ = _); walk_at "get"))

/-! ### Kept(scene), its lot, its papers -/
abbrev keptV (Ck : Addr) (ks : List Str) (st : SSt) (pap : List (Str × List Str)) : VD := vin Ck keptN [dat (txT (sortS ks)), vdz (sK (fun m => vt m) (sortK st.seat)), papV (sortK pap)]
theorem er_kept {K : PySem.W.Frag} {mg : Str → Option Value} {T : Tx K mg} {ρ : Sx.Env} {M M1 : Cells} {te : TE} {S : Sce} (h : Ev te ρ M (sceV T.C_Scene T.C_Call S) M1) (ok : S.Ok) :
    EvR (tMake T.C_Kept (spF 2 (S_Kept_init K T)) [] E0 (tCons te tNil)) ρ M fun y N => ∃ ks st pap, KeptR S ks st pap ∧ y = keptV T.C_Kept ks st pap ∧ N = M1 := by
  refine er_frzI (er_make (P := fun y N => ∃ p ks st pap, KeptR S ks st pap ∧ y = val (.ref p) ∧ N = (p, cI T.C_Kept keptN [dat (txT (sortS ks)), vdz (sK (fun m => vt m) (sortK st.seat)), papV (sortK pap)]) :: M1) (ea_cons h ea_nil) rfl fun p => ⟨p, S, M1, rfl, rfl, ok, fun ks st pap r => ⟨rfl, p, ks, st, pap, r, rfl, rfl⟩⟩) ?_
  rintro y N ⟨p, ks, st, pap, r, rfl, rfl⟩
  exact ⟨p, _, _, _, M1, rfl, rfl, ks, st, pap, r, rfl, rfl⟩
theorem KeptR.kps {S : Sce} (ok : S.Ok) {ks : List Str} {st : SSt} {pap : List (Str × List Str)} (k : KeptR S ks st pap) : ky (sortK pap) = sortS (lackN S ks) := by rw [ky_sortK, k.pk]; rfl
theorem er_keptPap {K : PySem.W.Frag} {mg : Str → Option Value} {T : Tx K mg} {ρ : Sx.Env} {M M1 : Cells} {te : TE} {S : Sce} (h : Ev te ρ M (sceV T.C_Scene T.C_Call S) M1) (ok : S.Ok) :
    EvR (tFld K (tMake T.C_Kept (spF 2 (S_Kept_init K T)) [] E0 (tCons te tNil)) "papers") ρ M fun y N => ∃ ks st pap, KeptR S ks st pap ∧ y = papV (sortK pap) ∧ N = M1 := by
  refine er_fldV (er_kept h ok) ?_
  rintro y N ⟨ks, st, pap, r, rfl, rfl⟩
  exact ⟨_, _, _, _, _, rfl, T.F_Kept, by decide +kernel, .there (by decide +kernel) (.there (by decide +kernel) .here), ks, st, pap, r, rfl, rfl⟩
theorem ev_keptLot {K : PySem.W.Frag} {mg : Str → Option Value} {T : Tx K mg} {ρ : Sx.Env} {M M1 : Cells} {te : TE} {S : Sce} (h : Ev te ρ M (sceV T.C_Scene T.C_Call S) M1) (ok : S.Ok) {ks : List Str} (g : Greedy S (orderF S) ks) :
    Ev (tFld K (tMake T.C_Kept (spF 2 (S_Kept_init K T)) [] E0 (tCons te tNil)) "lot") ρ M (dat (txT (sortS ks))) M1 := by
  refine (er_fldV (er_kept h ok) ?_ : EvR _ _ _ (Det _ _)).ev
  rintro y N ⟨ks', st, pap, r, rfl, rfl⟩
  have e := g.uniq r.g
  exact ⟨_, _, _, _, _, rfl, T.F_Kept, by decide +kernel, .here, by rw [e], rfl⟩
theorem ev_keptSortPap {K : PySem.W.Frag} {mg : Str → Option Value} {T : Tx K mg} {ρ : Sx.Env} {M M1 : Cells} {te : TE} {S : Sce} (h : Ev te ρ M (sceV T.C_Scene T.C_Call S) M1) (ok : S.Ok) {ks : List Str} (g : Greedy S (orderF S) ks) :
    Ev (tCB rSortedDS (tCons (tFld K (tMake T.C_Kept (spF 2 (S_Kept_init K T)) [] E0 (tCons te tNil)) "papers") tNil)) ρ M (dat (txD (sortS (lackN S ks)))) M1 := by
  refine (er_cb (P := Det _ _) (ear_cons (er_keptPap h ok) ?_)).ev
  rintro y N ⟨ks', st, pap, r, rfl, rfl⟩
  have e := g.uniq r.g
  have h1 := r.plen
  have h2 := ok.lc
  have h3 := len_sortK pap
  refine ear_nil ⟨_, _, rc_sortDS (ks := ky (sortK pap)) isdi_z (key_sK _ _) (by rw [List.length_map]; omega), ?_, rfl⟩
  rw [r.kps ok, e, sortS_idem]
theorem eq_txD (a b : List Str) : PyData.eqv (txD a) (txD b) = decide (a = b) := (eqok_list eqok_str).dec a b
theorem shp_txD {n : Nat} {l : List Str} (h : ∀ x ∈ l, PyData.strOk x = true) : Shp (n + 1) (txD l) := shp_list (shpA_map fun x hx => shp_str (h x hx))
theorem shp_txT {n : Nat} {l : List Str} (h : ∀ x ∈ l, PyData.strOk x = true) : Shp (n + 1) (txT l) := shp_tuple (shpA_map fun x hx => shp_str (h x hx))

/-! ### kept, room, masts_of -/
section
variable {K : PySem.W.Frag} {mg : Str → Option Value} {T : Tx K mg}
theorem kept_body (T : Tx K mg) : ∀ Q ds M P Φ, ds.length = 1 → S_kept K T ds M P → RtQ Q Φ P → Cont (rd_kept_0 K T (fnD Q)) Φ (entry ["scene"] ds) M := by
  rintro Q ds M P Φ - ⟨S, rfl, ok, hP⟩ hQ
  show Cont _ _ [some (sceV T.C_Scene T.C_Call S)] _
  obtain ⟨ks, g⟩ := greedy_ex S (orderF S)
  exact c_ret (D := fnD Q) (ev_keptLot (ev_var .here) ok g) hQ (hP ks g) (Le.refl _)
theorem kept_ev {S : Sce} {ks : List Str} {M : Cells} (ok : S.Ok) (g : Greedy S (orderF S) ks) : S_kept K T [sceV T.C_Scene T.C_Call S] M (Det (dat (txT (sortS ks))) M) := ⟨S, rfl, ok, fun ks' g' => ⟨by rw [g'.uniq g], rfl⟩⟩
theorem ei_tx {te : TE} {ρ : Sx.Env} {M M' : Cells} {d : PyData} {l : List Str} (h : Ev te ρ M (dat d) M') (t : TxS d l) : EvI (iSeq K te) ρ M (l.map fun x => vt x) M' := by
  rcases t with rfl | rfl
  · exact ei_seqTM h
  · exact ei_seqLM h
theorem cast_sumN (l : List Str) (f : Str → Nat) : (l.map fun m => (f m : Int)).sum = ((l.map f).sum : Nat) := by
  induction l with
  | nil => rfl
  | cons q l ih => rw [List.map_cons, List.sum_cons, List.map_cons, List.sum_cons, ih]; omega
theorem ev_capSum {ts : TE} {i : Nat} {ρ : Sx.Env} {M : Cells} {S : Sce} {ms : List Str} {wi : TI} (hit : EvI wi ρ M (ms.map fun m => vt m) M) (hl : ms.length ≤ 16000000) (hs : ∀ m, m ∈ ms → ∃ ρ'', SetAt (vt m) (wipeE ρ [i]) i ρ'' ∧ Ev ts ρ'' M (nV (S.cap m)) M) :
    Ev (tCB (rSum K) (tCons (tLc wi (gName i) tYes ts [i]) tNil)) ρ M (nV (ms.map S.cap).sum) M := by
  have h1 := ev_lcY (te := ts) (g := gName i) (vs := [i]) (e := fun m : Str => vt m) (xs := ms) (r := fun m => PyData.int (S.cap m : Int)) hit hl fun m hm => by
    obtain ⟨ρ'', a, b⟩ := hs m hm
    exact ⟨ρ'', [i], tg_name a, fun _ h => h, b⟩
  have e : ms.map (fun m => PyData.int (S.cap m : Int)) = (ms.map fun m => (S.cap m : Int)).map .int := by rw [List.map_map]; rfl
  rw [e] at h1
  exact Ev.eq (ev_cb (ea_cons h1 ea_nil) (rc_sumI isl_dat)) (by rw [cast_sumN])
end

/-! ### the law's helpers: drawn scenes, all seatings -/
theorem tk_nat {s : List Int} {k m : Int} (h : 0 < m) : ∃ n : Nat, tk s k m = (n : Int) ∧ (n : Int) < m := ⟨(tk s k m).toNat, (Int.toNat_of_nonneg (tk_nn h)).symm, by rw [Int.toNat_of_nonneg (tk_nn h)]; exact tk_lt h⟩
local macro_rules | `(tactic| walk_at "spec") => `(tactic| first
  | with_reducible exact number_ev
  | (with_reducible apply take_ev) <;> walk_at "sx")
theorem law_pick_body {K : PySem.W.Frag} {mg : Str → Option Value} (T : Tx K mg) : ∀ Q ds M P Φ, ds.length = 2 → S_law_pick K T ds M P → RtQ Q Φ P → Cont (rd_law_pick_0 K T (fnD Q)) Φ (entry ["_law_draw", "_law_items"] ds) M := by
  rintro Q ds M P Φ - ⟨s, k, xs, p, M', rfl, hx, hput, hP⟩ hQ
  show Cont _ _ [some (val (.ref p)), some (dat (.list xs))] _
  have hl : (0 : Int) < (xs.length : Int) := by
    have := List.length_pos_iff.mpr hx
    omega
  obtain ⟨n, e, hn⟩ := tk_nat (s := s) (k := k + 1) hl
  have hn : n < xs.length := by omega
  refine c_ret (D := fnD Q) (x := dat xs[n]) (M1 := M') (ev_op (ev_var (.there (.here))) (ev_call (ds := [val (.ref p), dat (.int (xs.length : Int))]) (ea_cons (ev_var .here) (ea_cons (ev_cb (ea_cons (ev_var (.there (.here))) ea_nil) (rc_lenL isl_dat)) ea_nil)) rfl (take_ev hput hl)) (rv_ixL isl_dat ?_)) hQ (hP _ (List.getElem_mem hn)) (Le.refl _)
  rw [e]
  exact atI_nat (List.getElem?_eq_getElem hn)
theorem log_small {i : Nat} (h : i < 1000) : (i : Int).natAbs.log2 < 1920 := by
  have h1 : (i : Int).natAbs = i := Int.natAbs_natCast i
  rw [h1]
  exact Nat.lt_of_le_of_lt (Nat.log2_le_self i) (by omega)
theorem ev_mN {K : PySem.W.Frag} {ρ : Sx.Env} {M : Cells} {te : TE} {i : Nat} (h : Ev te ρ M (dat (.int (i : Int))) M) (hi : i < 10) : Ev (tOp (rAddU K) (tC (.str "m")) (tCB rStrInt (tCons te tNil))) ρ M (vt (mN i)) M :=
  ev_op ev_str (ev_cb (ea_cons h ea_nil) (rc_strI (log_small (by omega)))) (rv_addS (by have : ∀ i : Nat, i < 10 → ((("m" : Str)).length + ((toString (i : Int) : String) : Str).length) ≤ 16777216 := by decide +kernel
                                                                                        exact this i hi))
theorem ev_cN {K : PySem.W.Frag} {ρ : Sx.Env} {M : Cells} {te : TE} {i : Nat} (h : Ev te ρ M (dat (.int (i : Int))) M) (hi : i < 10) : Ev (tOp (rAddU K) (tC (.str "c")) (tCB rStrInt (tCons te tNil))) ρ M (vt (cN i)) M :=
  ev_op ev_str (ev_cb (ea_cons h ea_nil) (rc_strI (log_small (by omega)))) (rv_addS (by have : ∀ i : Nat, i < 10 → ((("c" : Str)).length + ((toString (i : Int) : String) : Str).length) ≤ 16777216 := by decide +kernel
                                                                                        exact this i hi))
theorem rng_at {lo : Int} {n i : Nat} {d : VD} (h : (irange lo n)[i]? = some d) : i < n ∧ d = dat (.int (lo + (i : Int))) := by
  unfold irange at h
  rw [List.getElem?_map] at h
  by_cases hi : i < n
  · rw [List.getElem?_range hi] at h
    exact ⟨hi, (Option.some.inj h).symm⟩
  · rw [List.getElem?_eq_none (by simp; omega)] at h
    cases h
theorem chOf_snoc (vs : List Nat) (v : Nat) : chOf (vs ++ [v]) = chOf vs ++ [(mN vs.length, v)] := by
  unfold chOf
  rw [List.zipIdx_append, List.map_append]
  simp
theorem law_masts_body {K : PySem.W.Frag} {mg : Str → Option Value} (T : Tx K mg) : ∀ Q ds M P Φ, ds.length = 2 → S_law_masts K T ds M P → RtQ Q Φ P → Cont (rd_law_masts_0 K T (fnD Q)) Φ (entry ["_law_draw", "_law_most", "_law_number_here"] ds) M := by
  rintro Q ds M P Φ - ⟨s, k, a, p, L, rfl, h1, h9, rfl, hP⟩ hQ
  show Cont _ _ [some (val (.ref p)), some (nV a), none] _
  obtain ⟨n, e, hn⟩ := tk_nat (s := s) (k := k + 1) (m := (a : Int)) (by omega)
  have hn : n < a := by omega
  have hit : EvI (iRng1 (tCons (tOp (rAddU K) (tC (.int 1)) (tCall (spF 2 (S_law_take K T)) [] E0 (tCons (tVar 0) (tCons (tVar 1) tNil)))) tNil)) [some (val (.ref p)), some (nV a), none] ((p, cDraw K s k) :: L) (irange 0 (1 + n)) ((p, cDraw K s (k + 1)) :: L) := by
    have := ei_rng1 (ta := tCons (tOp (rAddU K) (tC (.int 1)) (tCall (spF 2 (S_law_take K T)) [] E0 (tCons (tVar 0) (tCons (tVar 1) tNil)))) tNil) (n := 1 + tk s (k + 1) a) (ea_cons (ev_op ev_int (ev_call (ds := [val (.ref p), nV a]) (ρ := [some (val (.ref p)), some (nV a), none]) (M := (p, cDraw K s k) :: L) (ea_cons (ev_var .here) (ea_cons (ev_var (.there (.here))) ea_nil)) rfl (take_ev .here (by omega))) rv_addI) ea_nil) (by omega)
    rw [e] at this
    rw [show ((1 : Int) + (n : Int)).toNat = 1 + n by omega] at this
    exact this
  refine c_retR (P' := fun x N => ∃ vs : List Nat, vs.length = 1 + n ∧ (∀ v ∈ vs, v ≤ 3) ∧ x = chV (chOf vs) ∧ ∃ k', N = (p, cDraw K s k') :: L) (er_fzDic (er_lstD ((er_lc hit (fun i acc N => ∃ vs : List Nat, vs.length = i ∧ (∀ v ∈ vs, v ≤ 3) ∧ acc = (chOf vs).map (fun q => dat (.tuple [.str q.1, .int (q.2 : Int)])) ∧ ∃ k', N = (p, cDraw K s k') :: L) ⟨[], rfl, fun _ h => (nomatch h), rfl, k + 1, rfl⟩ (by simp [irange]; omega) ?_ ?_).imp ?_))) hQ ?_ (Le.refl _)
  · rintro i acc N ⟨vs, rfl, h2, rfl, h3⟩
    rw [List.length_map, chOf, List.length_map, List.length_zipIdx]
    exact Nat.le_refl _
  · rintro i d acc N hi ⟨vs, rfl, h2, rfl, k', rfl⟩
    obtain ⟨hlt, rfl⟩ := rng_at hi
    rw [Int.zero_add]
    refine ⟨[some (val (.ref p)), some (nV a), some (dat (.int (vs.length : Int)))], [2], true, _, tg_name (.there (.there (.here))), fun _ h => h, et_yes, fun _ => ?_, fun z => Bool.noConfusion z⟩
    refine er_tupD (ear_cons (Pa := fun y N => y = vt (mN vs.length) ∧ N = (p, cDraw K s k') :: L) (Ev.er (ev_mN (ev_var (.there (.there (.here)))) (by omega)) ⟨rfl, rfl⟩) ?_)
    rintro y N ⟨rfl, rfl⟩
    refine ear_cons (Pa := fun y N => ∃ v : Nat, v ≤ 3 ∧ y = nV v ∧ N = (p, cDraw K s (k' + 1)) :: L) (er_call (ds := [val (.ref p), dat (.list ([0, 1, 1, 1, 2, 2, 3].map .int))]) (ea_cons (ev_var .here) (ea_cons (ev_lstD (ed_cons ev_int (ed_cons ev_int (ed_cons ev_int (ed_cons ev_int (ed_cons ev_int (ed_cons ev_int (ed_cons ev_int ed_nil))))))) (by show 7 ≤ 16777216; decide)) ea_nil)) rfl ⟨s, k', _, p, _, rfl, by simp, .here, fun x hx => ?_⟩) ?_
    · obtain ⟨v, hv, rfl⟩ := List.mem_map.mp hx
      have : ∀ v ∈ ([0, 1, 1, 1, 2, 2, 3] : List Int), v.toNat ≤ 3 ∧ (v.toNat : Int) = v := by decide
      obtain ⟨g1, g2⟩ := this v hv
      exact ⟨v.toNat, g1, by rw [nV, g2], rfl⟩
    · rintro y N ⟨v, hv, rfl, rfl⟩
      refine ear_nil ⟨[.str (mN vs.length), .int (v : Int)], rfl, ln2, vs ++ [v], by rw [List.length_append]; rfl, fun x hx => ?_, ?_, _, rfl⟩
      · rcases List.mem_append.mp hx with hx | hx
        · exact h2 x hx
        · rw [List.mem_singleton.mp hx]; exact hv
      · rw [chOf_snoc, List.map_append]; rfl
  · rintro x N ⟨acc, rfl, vs, h2, h3, rfl, k', rfl⟩
    have hl : (irange 0 (1 + n)).length = 1 + n := by simp [irange]
    rw [hl] at h2
    refine ⟨(chOf vs).map fun q => .tuple [.str q.1, .int (q.2 : Int)], by rw [List.map_map]; rfl, (chOf vs).map fun q => (Sum.inr q.1, .int (q.2 : Int)), by rw [List.map_map]; rfl, vs, h2, h3, ?_, k', rfl⟩
    have e2 : dKs ((chOf vs).map fun q => ((Sum.inr q.1 : L2.Key), PyData.int (q.2 : Int))) = sK nV (chOf vs) := by
      unfold sK
      rw [dKs, List.map_map]
      rfl
    rw [e2]
    have nd : (ky ([] ++ chOf vs)).Nodup := by rw [List.nil_append, ky_chOf, h2]; exact mN_nd _ (by omega)
    exact congrArg vdz (merge_sK nV (chOf vs) [] nd)
  · rintro x N ⟨vs, h2, h3, rfl, k', rfl⟩
    refine hP _ _ ⟨⟨1 + n, by omega, by omega, by rw [ky_chOf, h2]⟩, fun q hq => ?_⟩
    obtain ⟨z, hz, rfl⟩ := List.mem_map.mp hq
    exact h3 _ (List.fst_mem_of_mem_zipIdx hz)
theorem law_heard_body {K : PySem.W.Frag} {mg : Str → Option Value} (T : Tx K mg) : ∀ Q ds M P Φ, ds.length = 2 → S_law_heard K T ds M P → RtQ Q Φ P → Cont (rd_law_heard_0 K T (fnD Q)) Φ (entry ["_law_draw", "_law_channels", "_law_mast"] ds) M := by
  rintro Q ds M P Φ - ⟨s, k, ch, p, L, rfl, hl, rfl, hP⟩ hQ
  show Cont _ _ [some (val (.ref p)), some (chV ch), none] _
  refine c_retR (P' := fun x N => ∃ hd : List Str, List.Sublist hd (ky ch) ∧ x = dat (txD hd) ∧ ∃ k', N = (p, cDraw K s k') :: L) (er_lstD ((er_lc (ei_keysS (ev_var (.there (.here)))) (fun i acc N => ∃ hd : List Str, hd.Sublist ((ky ch).take i) ∧ acc = hd.map (fun c => vt c) ∧ ∃ k', N = (p, cDraw K s k') :: L) ⟨[], List.nil_sublist _, rfl, k, rfl⟩ (by rw [List.length_map, List.length_map]; omega) ?_ ?_).imp ?_)) hQ ?_ (Le.refl _)
  · rintro i acc N ⟨hd, h1, rfl, h3⟩
    have := h1.length_le
    rw [List.length_take] at this
    rw [List.length_map]
    omega
  · rintro i d acc N hi ⟨hd, h1, rfl, k', rfl⟩
    rw [List.getElem?_map] at hi
    cases hm : (ky ch)[i]? with
    | none => rw [hm] at hi; cases hi
    | some m =>
      rw [hm] at hi
      cases hi
      have htk : (ky ch).take (i + 1) = (ky ch).take i ++ [m] := by rw [List.take_succ, hm]; rfl
      refine ⟨[some (val (.ref p)), some (chV ch), some (vt m)], [2], decide (tk s (k' + 1) 2 = 0), (p, cDraw K s (k' + 1)) :: L, tg_name (.there (.there (.here))), fun _ h => h, et_test (ev_op (ev_call (ds := [val (.ref p), dat (.int 2)]) (ea_cons (ev_var .here) (ea_cons ev_int ea_nil)) rfl (take_ev .here (by omega))) ev_int rv_eqI), fun _ => Ev.er (ev_var (.there (.there (.here)))) ⟨hd ++ [m], ?_, ?_, _, rfl⟩, fun _ => ⟨hd, ?_, rfl, _, rfl⟩⟩
      · rw [htk]; exact List.Sublist.append h1 (List.Sublist.refl _)
      · rw [List.map_append]; rfl
      · rw [htk]; exact h1.trans (List.sublist_append_left _ _)
  · rintro x N ⟨acc, rfl, hd, h1, rfl, k', rfl⟩
    rw [List.length_map, List.take_length] at h1
    exact ⟨hd.map .str, by rw [List.map_map]; rfl, hd, h1, rfl, k', rfl⟩
  · rintro x N ⟨hd, h1, rfl, k', rfl⟩
    exact hP hd k' h1
/-- calls that are drawn one by one -/
structure CaIn (ch : List (Str × Nat)) (ca : List (Str × Cal)) (i : Nat) : Prop where
  ks : ky ca = (List.range i).map cN
  ok : ∀ q ∈ ca, 0 ≤ q.2.w ∧ q.2.w ≤ 2 ∧ q.2.hd.Nodup ∧ ∀ m ∈ q.2.hd, m ∈ ky ch
theorem ChIn.len {a : Nat} {ch : List (Str × Nat)} (h : ChIn a ch) : ch.length ≤ a := by
  obtain ⟨n, h1, h2, h3⟩ := h.k
  have := congrArg List.length h3
  simp only [List.length_map, List.length_range] at this
  omega
theorem ScIn.gen {a b : Nat} {ch : List (Str × Nat)} {ca : List (Str × Cal)} (h9 : a ≤ 9) (b9 : b ≤ 9) (h : ChIn a ch) {n : Nat} (hn : n ≤ b) (hc : CaIn ch ca n) : ScIn ch ca ∧ ScGen a b (sceOf ch ca) := by
  have hl := h.len
  have hcl := congrArg List.length hc.ks
  simp only [List.length_map, List.length_range] at hcl
  obtain ⟨m, h1, h2, h3⟩ := h.k
  have ok : ScIn ch ca := by
    refine ⟨by rw [h3]; exact mN_nd m (by omega), by rw [hc.ks]; exact cN_nd n (by omega), by omega, by omega, fun q hq => ⟨?_, ?_⟩, fun q hq => ?_⟩
    · have : q.1 ∈ ky ch := List.mem_map.mpr ⟨q, hq, rfl⟩
      rw [h3] at this
      obtain ⟨i, hi, e⟩ := List.mem_map.mp this
      rw [← e]
      exact mN_name i (by have := List.mem_range.mp hi; omega)
    · have := h.v q hq; omega
    · obtain ⟨g1, g2, g3, g4⟩ := hc.ok q hq
      have : q.1 ∈ ky ca := List.mem_map.mpr ⟨q, hq, rfl⟩
      rw [hc.ks] at this
      obtain ⟨i, hi, e⟩ := List.mem_map.mp this
      refine ⟨?_, g1, by omega, g3, g4⟩
      rw [← e]
      exact cN_name i (by have := List.mem_range.mp hi; omega)
  refine ⟨ok, ok.ok, by show (sortK ch).length ≤ a; rw [len_sortK]; exact hl, by show (sortK ca).length ≤ b; rw [len_sortK]; omega, fun q hq => ?_, fun c hc' => ?_, fun m' hm' => ?_, fun q hq => ?_, by
    show 0 < (sortK ch).length
    rw [len_sortK]
    have := congrArg List.length h3
    simp only [List.length_map, List.length_range] at this
    omega⟩
  case refine_4 =>
    have hq : q ∈ sortK ca := hq
    have := lk_of (nd_sortK ok.nc) (k := q.1) (v := q.2) hq
    rw [lk_sortK ok.nc] at this
    exact (hc.ok (q.1, q.2) (lk_mem this)).2.1
  case refine_2 =>
    have hc' : c ∈ ky (sortK ca) := hc'
    rw [ky_sortK] at hc'
    have z := (sortS_perm _).mem_iff.mp hc'
    rw [hc.ks] at z
    obtain ⟨i, hi, e⟩ := List.mem_map.mp z
    exact ⟨i, by have := List.mem_range.mp hi; omega, e.symm⟩
  case refine_3 =>
    have hm' : m' ∈ ky (sortK ch) := hm'
    rw [ky_sortK] at hm'
    have z := (sortS_perm _).mem_iff.mp hm'
    rw [h3] at z
    obtain ⟨i, hi, e⟩ := List.mem_map.mp z
    exact ⟨i, by have := List.mem_range.mp hi; omega, e.symm⟩
  have hq : q ∈ sortK ch := hq
  have := lk_of (nd_sortK ok.nm) (k := q.1) (v := q.2) hq
  rw [lk_sortK ok.nm] at this
  exact h.v q (lk_mem this)
theorem law_scene_body {K : PySem.W.Frag} {mg : Str → Option Value} (T : Tx K mg) : ∀ Q ds M P Φ, ds.length = 3 → S_law_scene K T ds M P → RtQ Q Φ P → Cont (rd_law_scene_0 K T (fnD Q)) Φ (entry ["_law_draw", "_law_masts_here", "_law_calls", "_law_channels", "_law_found", "_law_number_here"] ds) M := by
  rintro Q ds M P Φ - ⟨s, k, a, b, p, L, rfl, h1, h9, b9, rfl, hP⟩ hQ
  have hQ := hQ.up
  show Cont _ _ [some (val (.ref p)), some (nV a), some (nV b), none, none, none] _
  walk_at "seq"
  refine c_parR (P := fun xs N => ∃ ch k' d, ChIn a ch ∧ xs = [chV ch, val (.ref d)] ∧ N = (d, cD []) :: (p, cDraw K s k') :: L) ?_ ?_
  · refine ear_cons (Pa := fun x N => ∃ ch k', ChIn a ch ∧ x = chV ch ∧ N = (p, cDraw K s k') :: L) (er_call (ds := [val (.ref p), nV a]) (ea_cons (ev_var .here) (ea_cons (ev_var (.there (.here))) ea_nil)) rfl ⟨s, k, a, p, L, rfl, h1, h9, rfl, fun ch k' h => ⟨ch, k', h, rfl, rfl⟩⟩) ?_
    rintro x N ⟨ch, k', hch, rfl, rfl⟩
    refine ear_cons er_dnewC ?_
    rintro x N ⟨d, rfl, rfl⟩
    exact ear_nil ⟨ch, k', d, hch, rfl, rfl⟩
  rintro xs N ⟨ch, k', d, hch, rfl, rfl⟩
  refine ⟨_, _, _, _, rfl, (.there (.there (.there (.here)))), (.there (.there (.there (.there (.here))))), ?_⟩
  show Cont (rd_law_scene_1 K T (fnD Q)) Φ [some (val (.ref p)), some (nV a), some (nV b), some (chV ch), some (val (.ref d)), none] _
  walk_at "cut"
  obtain ⟨n, e, hn⟩ := tk_nat (s := s) (k := k' + 1) (m := (b : Int) + 1) (by omega)
  have hn : n ≤ b := by omega
  have hlen := hch.len
  have hit : EvI (iRng1 (tCons (tCall (spF 2 (S_law_take K T)) [] E0 (tCons (tVar 0) (tCons (tOp (rAddU K) (tVar 2) (tC (.int 1))) tNil))) tNil)) [some (val (.ref p)), some (nV a), some (nV b), some (chV ch), some (val (.ref d)), none] ((d, cD []) :: (p, cDraw K s k') :: L) (irange 0 n) ((d, cD []) :: (p, cDraw K s (k' + 1)) :: L) := by
    have := ei_rng1 (ta := tCons (tCall (spF 2 (S_law_take K T)) [] E0 (tCons (tVar 0) (tCons (tOp (rAddU K) (tVar 2) (tC (.int 1))) tNil))) tNil) (n := tk s (k' + 1) ((b : Int) + 1)) (ea_cons (ev_call (ds := [val (.ref p), dat (.int ((b : Int) + 1))]) (ρ := [some (val (.ref p)), some (nV a), some (nV b), some (chV ch), some (val (.ref d)), none]) (M := (d, cD []) :: (p, cDraw K s k') :: L) (ea_cons (ev_var .here) (ea_cons (ev_op (ev_var (.there (.there (.here)))) ev_int rv_addI) ea_nil)) rfl (take_ev (.there .here) (by omega))) ea_nil) (by omega)
    rw [e, Int.toNat_natCast] at this
    exact this
  refine c_for hit (fun i ρ' M' => ∃ x5 ca k2, ρ' = [some (val (.ref p)), some (nV a), some (nV b), some (chV ch), some (val (.ref d)), x5] ∧ M' = (d, cD (sK (calV T.C_Call) ca)) :: (p, cDraw K s k2) :: L ∧ CaIn ch ca i) ⟨none, [], k' + 1, rfl, rfl, rfl, fun _ h => (nomatch h)⟩ ?_ ?_
  · rintro Ψ hΨ i x ρ' M' hi ⟨x5, ca, k2, rfl, rfl, hca⟩
    obtain ⟨hlt, rfl⟩ := rng_at hi
    rw [Int.zero_add]
    refine ⟨[some (val (.ref p)), some (nV a), some (nV b), some (chV ch), some (val (.ref d)), some (dat (.int (i : Int)))], _, tg_name (.there (.there (.there (.there (.there (.here)))))), ?_⟩
    show Cont (rd_law_scene_2 K T _) Ψ _ _
    have hcl := congrArg List.length hca.ks
    simp only [List.length_map, List.length_range] at hcl
    refine c_dputR (P := fun y N => ∃ (w : Nat) (hd : List Str) (k3 : Int), w ≤ 2 ∧ hd.Sublist (ky ch) ∧ y = calV T.C_Call ⟨(w : Int), sortS hd⟩ ∧ N = (d, cD (sK (calV T.C_Call) ca)) :: (p, cDraw K s k3) :: L) (er_frzI (er_makeR (P := fun y N => ∃ (q : Addr) (w : Nat) (hd : List Str) (k3 : Int), w ≤ 2 ∧ hd.Sublist (ky ch) ∧ y = val (.ref q) ∧ N = (q, cI T.C_Call calN [dat (.int (w : Int)), dat (txT (sortS hd))]) :: (d, cD (sK (calV T.C_Call) ca)) :: (p, cDraw K s k3) :: L) (Pa := fun ds N => ∃ (w : Nat) (hd : List Str) (k3 : Int), w ≤ 2 ∧ hd.Sublist (ky ch) ∧ ds = [dat (.int (w : Int)), dat (txD hd)] ∧ N = (d, cD (sK (calV T.C_Call) ca)) :: (p, cDraw K s k3) :: L) ?_ ?_) ?_) ?_
    · obtain ⟨w, ew, hw⟩ := tk_nat (s := s) (k := k2 + 1) (m := 3) (by omega)
      refine ear_cons (Pa := fun y N => y = dat (.int (w : Int)) ∧ N = (d, cD (sK (calV T.C_Call) ca)) :: (p, cDraw K s (k2 + 1)) :: L) (Ev.er (Ev.eq (ev_call (ds := [val (.ref p), dat (.int 3)]) (ea_cons (ev_var .here) (ea_cons ev_int ea_nil)) rfl (take_ev (.there .here) (by omega))) (by rw [ew])) ⟨rfl, rfl⟩) ?_
      rintro y N ⟨rfl, rfl⟩
      refine ear_cons (Pa := fun y N => ∃ (hd : List Str) (k3 : Int), hd.Sublist (ky ch) ∧ y = dat (txD hd) ∧ N.Perm ((d, cD (sK (calV T.C_Call) ca)) :: (p, cDraw K s k3) :: L)) (EvR.permIn (er_call (ds := [val (.ref p), chV ch]) (ea_cons (ev_var .here) (ea_cons (ev_var (.there (.there (.there (.here))))) ea_nil)) rfl ⟨s, k2 + 1, ch, p, (d, cD (sK (calV T.C_Call) ca)) :: L, rfl, by omega, rfl, fun hd k3 h => ⟨hd, k3, h, rfl, .swap _ _ _⟩⟩) (.swap _ _ _)) ?_
      rintro y N ⟨hd, k3, h2, rfl, hp⟩
      exact ear_permF hp (ear_nil ⟨w, hd, k3, by omega, h2, rfl, rfl⟩)
    · rintro ds N ⟨w, hd, k3, h1, h2, rfl, rfl⟩
      refine ⟨rfl, fun q => ⟨q, _, hd, _, _, rfl, .inr rfl, rfl, ?_, rfl, q, w, hd, k3, h1, h2, rfl, rfl⟩⟩
      have := h2.length_le
      rw [List.length_map] at this
      omega
    · rintro y N ⟨q, w, hd, k3, h1, h2, rfl, rfl⟩
      exact ⟨q, _, _, _, _, rfl, rfl, w, hd, k3, h1, h2, rfl, rfl⟩
    · rintro y N ⟨w, hd, k3, h1, h2, rfl, rfl⟩
      have hnew : cN i ∉ ky ca := fun z => by
        have nd := cN_nd (i + 1) (by omega)
        rw [List.range_succ, List.map_append, ← hca.ks, List.nodup_append] at nd
        exact nd.2.2 _ z _ List.mem_cons_self rfl
      refine ⟨d, sK (calV T.C_Call) ca, .inr (cN i), _, _, (d, cD (sK (calV T.C_Call) (ca ++ [(cN i, ⟨(w : Int), sortS hd⟩)]))) :: (p, cDraw K s k3) :: L, (ev_var (.there (.there (.there (.there (.here)))))), ev_cN (ev_var (.there (.there (.there (.there (.there (.here))))))) (by omega), ?_, by rw [len_sK]; show _ < 16777216; omega, ?_⟩
      · have := put_sK (calV T.C_Call) ca (cN i) ⟨(w : Int), sortS hd⟩
        rw [pt_new hnew] at this
        rw [this]
        exact .here
      · refine c_inv ⟨_, _, k3, rfl, rfl, ?_, fun q hq => ?_⟩ (Le.refl _)
        · rw [ky_app, hca.ks, List.range_succ, List.map_append]; rfl
        · rcases List.mem_append.mp hq with hq | hq
          · exact hca.ok q hq
          · rw [List.mem_singleton.mp hq]
            refine ⟨by show (0 : Int) ≤ (w : Int); omega, by show (w : Int) ≤ 2; omega, ?_, fun m hm => ?_⟩
            · obtain ⟨z, g1, g2, g3⟩ := hch.k
              have nd : (ky ch).Nodup := by rw [g3]; exact mN_nd z (by omega)
              exact (sortS_perm _).nodup_iff.mpr (h2.nodup nd)
            · exact h2.subset ((sortS_perm _).mem_iff.mp hm)
  · rintro ρ' M' ⟨x5, ca, k2, rfl, rfl, hca⟩
    have hl : (irange 0 n).length = n := by simp [irange]
    rw [hl] at hca
    obtain ⟨ok, hg⟩ := ScIn.gen h9 b9 hch hn hca
    show Cont (rd_law_scene_3 K T (fnD Q)) Φ _ _
    refine c_retR (P' := fun y N => y = sceV T.C_Scene T.C_Call (sceOf ch ca) ∧ N = (p, cDraw K s k2) :: L) (er_frzI (er_make (P := fun y N => ∃ q, y = val (.ref q) ∧ N = (q, cI T.C_Scene sceN [chV (sortK ch), caV T.C_Call (sortK ca)]) :: (p, cDraw K s k2) :: L) (ds := [chV ch, caV T.C_Call ca]) (ea_cons (ev_var (.there (.there (.there (.here))))) (ea_cons (ev_fzD (ev_var (.there (.there (.there (.there (.here))))))) ea_nil)) rfl fun q => ⟨q, ch, ca, _, rfl, rfl, ok, rfl, q, rfl, rfl⟩) ?_) hQ ?_ (Le.refl _)
    · rintro y N ⟨q, rfl, rfl⟩
      exact ⟨q, _, _, _, _, rfl, rfl, rfl, rfl⟩
    · rintro y N ⟨rfl, rfl⟩
      exact up_of (hP _ k2 hg)

end Lw


set_option Elab.async false
set_option linter.all false
set_option maxRecDepth 100000
set_option maxHeartbeats 4000000
namespace Lw
open PySem L2 Sx
/-! ### steps -/
local macro_rules | `(tactic| walk_at "shp") => `(tactic| first
  | exact shp_int
  | exact shp_none
  | exact shp_bool
  | exact shp_oi _
  | (apply shp_str; first | decide +kernel | assumption)
  | (apply shp_list; walk_at "shpA")
  | (apply shp_tuple; walk_at "shpA")
  | assumption)
local macro_rules | `(tactic| walk_at "shpA") => `(tactic| first
  | exact shpA_nil
  | (apply shpA_cons; (· walk_at "shp"); walk_at "shpA")
  | (apply shpA_map; intro _ _; walk_at "shp"))
/-- what is left beside: closed, or left -/
local macro_rules | `(tactic| walk_at "side") => `(tactic| first
  | (with_reducible show Shp _ _); walk_at "shp"
  | (with_reducible show _ ≤ sizeLine); first | decide | (show _ ≤ 16777216; omega) | (show _ ≤ 16777216; simp only [List.length_map, List.length_append, List.length_cons, List.length_nil]; omega)
  | (with_reducible show _ < sizeLine); first | decide | (show _ < 16777216; omega) | (show _ < 16777216; simp only [List.length_map, List.length_append, List.length_cons, List.length_nil]; omega)
  | (with_reducible show CMul _ _); first | exact Or.inr ⟨by decide, by decide⟩ | exact Or.inl ⟨by decide, by decide⟩ | exact Or.inl ⟨by omega, by omega⟩ | exact Or.inr ⟨by omega, by omega⟩
  | (with_reducible show CPow _ _); exact ⟨by decide, by decide, by decide⟩
  | (with_reducible show CDiv _ _); first | exact ⟨by decide, by decide⟩ | exact ⟨by omega, by omega⟩
  | (with_reducible show Le _ _); first | with_reducible exact Le.refl _ | with_reducible assumption
  | (with_reducible show L2.atI _ _ = _); first | with_reducible assumption | exact rfl | exact atI_nat rfl
  | (with_reducible show _ < _); first | with_reducible assumption | decide | omega
  | (with_reducible show _ ≤ _); first | with_reducible assumption | decide | omega
  | (with_reducible show _ ∧ _); omega
  | (with_reducible show ∀ i, i ∈ _ → i ∈ _); decide
  | (with_reducible show (_ : Nat) = _); first | exact rfl | omega)
local macro_rules | `(tactic| walk_at "rm") => `(tactic| first
  | exact Rm.here
  | (apply Rm.there; walk_at "rm"))
local macro_rules | `(tactic| walk_at "perm") => `(tactic| first
  | with_reducible exact List.Perm.refl _
  | (apply perm_step; (· walk_at "rm"); walk_at "perm")
  | exact List.Perm.refl _)
local macro_rules | `(tactic| walk_at "pk") => `(tactic| first
  | with_reducible exact Pk.here
  | ((with_reducible apply Pk.there); walk_at "pk"))
/-- a part of a reading: what it gives. One word for all kinds -/
local macro_rules | `(tactic| walk_at "sx") => `(tactic| first
  -- an expression
  | with_reducible exact ev_int
  | with_reducible exact ev_bl
  | with_reducible exact ev_str
  | with_reducible exact ev_non
  | (with_reducible apply ev_var) <;> walk_at "sx"
  | (with_reducible apply ev_op) <;> walk_at "sx"
  | (with_reducible apply ev_fld) <;> walk_at "sx"
  | (with_reducible apply ev_cb) <;> walk_at "sx"
  | (with_reducible apply ev_tupD) <;> walk_at "sx"
  | (with_reducible apply ev_lstD) <;> walk_at "sx"
  | (with_reducible apply ev_tupV) <;> walk_at "sx"
  | (with_reducible apply ev_lstV) <;> walk_at "sx"
  | (with_reducible apply ev_slL) <;> walk_at "sx"
  | (with_reducible apply ev_slT1) <;> walk_at "sx"
  | (with_reducible apply ev_slT) <;> walk_at "sx"
  | (with_reducible apply ev_un) <;> walk_at "sx"
  | (with_reducible apply ev_chain) <;> walk_at "sx"
  | (with_reducible apply ev_andV) <;> walk_at "sx"
  | (with_reducible apply ev_orV) <;> walk_at "sx"
  | (with_reducible apply ev_notV) <;> walk_at "sx"
  | (with_reducible apply ev_lcY) <;> walk_at "sx"
  | (with_reducible apply ev_lc) <;> walk_at "sx"
  | ((with_reducible show ∀ a, a ∈ _ → ∃ ρ'' js, _); intro a ha; dsimp only [wipeE, List.set]; (first | with_reducible apply lcY_k | with_reducible apply lcF_k) <;> walk_at "sx")
  | (with_reducible apply ev_call) <;> walk_at "sx"
  | (with_reducible apply ev_meth) <;> walk_at "sx"
  | (with_reducible apply ev_bm) <;> walk_at "sx"
  | (with_reducible show Ev _ _ _ _ _); walk_at "own"
  -- a test
  | with_reducible exact et_yes
  | (with_reducible apply et_test) <;> walk_at "sx"
  | (with_reducible apply et_B) <;> walk_at "sx"
  | (with_reducible apply et_not) <;> walk_at "sx"
  | (with_reducible apply et_and) <;> walk_at "sx"
  | (with_reducible apply et_or) <;> walk_at "sx"
  -- arguments
  | with_reducible exact ea_nil
  | (with_reducible apply ea_cons) <;> walk_at "sx"
  | with_reducible exact ed_nil
  | (with_reducible apply ed_cons) <;> walk_at "sx"
  | with_reducible exact eo_none
  | (with_reducible apply eo_some) <;> walk_at "sx"
  -- what an operation gives
  | with_reducible exact rv_addI
  | with_reducible exact rv_int0
  | with_reducible exact rv_bl0
  | with_reducible exact rv_eqI
  | with_reducible exact rv_neI
  | with_reducible exact rv_eqS
  | with_reducible exact rv_neS
  | with_reducible exact rv_isN
  | with_reducible exact rv_notN
  | (with_reducible apply rv_intC) <;> walk_at "sx"
  | (with_reducible apply rv_addS) <;> walk_at "sx"
  | (with_reducible apply rv_ixL isl_dat) <;> walk_at "sx"
  | (with_reducible apply rv_ixT ist_dat) <;> walk_at "sx"
  | (with_reducible apply rv_ixL) <;> walk_at "sx"
  | (with_reducible apply rv_ixLV) <;> walk_at "sx"
  | (apply rv_ixT ist_dat) <;> walk_at "sx"
  | (with_reducible apply rv_ixTV istv_vtup) <;> walk_at "sx"
  | (with_reducible apply rv_ixScr) <;> walk_at "sx"
  | (apply rv_ixL isl_dat) <;> walk_at "sx"
  | (with_reducible apply rv_ixL) <;> walk_at "sx"
  | (apply rv_cat) <;> walk_at "sx"
  | (with_reducible apply rv_eqD) <;> walk_at "sx"
  | (with_reducible apply rv_neD) <;> walk_at "sx"
  | with_reducible exact ru_neg
  | with_reducible exact rc_int
  | with_reducible exact rc_abs
  | with_reducible exact rc_max2
  | with_reducible exact rc_min2
  | with_reducible exact rc_lenScr
  | with_reducible exact rc_lenM isl_dat
  | ((with_reducible apply rc_lenM); (with_reducible apply isl_cell) <;> walk_at "sx")
  | with_reducible exact rc_lenMT
  | (with_reducible apply rc_lenL) <;> walk_at "sx"
  | (apply rc_lenT ist_dat)
  | (with_reducible apply rc_tupL) <;> walk_at "sx"
  | (apply rc_tupT)
  | (with_reducible apply rc_lstL) <;> walk_at "sx"
  | (apply rc_lstT ist_dat)
  | with_reducible exact rc_anyM
  | with_reducible exact rc_allM
  | ((with_reducible apply rm_append) <;> walk_at "sx")
  -- lists, tuples, data
  | with_reducible exact isl_dat
  | with_reducible exact isd_dat
  | with_reducible exact isd_scr
  | (with_reducible apply isl_cell) <;> walk_at "sx"
  | (with_reducible apply islv_cell) <;> walk_at "sx"
  | with_reducible exact islv_vlst
  | (with_reducible apply isd_cell) <;> walk_at "sx"
  | (with_reducible apply isd_vtup) <;> walk_at "sx"
  | (with_reducible apply isd_vlst) <;> walk_at "sx"
  | with_reducible exact isds_nil
  | (with_reducible apply isds_cons) <;> walk_at "sx"
  | with_reducible exact fzl_dat
  | with_reducible exact fzl_v
  | with_reducible exact fzt_dat
  | with_reducible exact fzt_v
  | (with_reducible apply ity_l) <;> walk_at "sx"
  | with_reducible exact ity_s
  | (with_reducible apply IsLst.v) <;> walk_at "sx"
  -- places
  | with_reducible exact At.here
  | (with_reducible apply At.there) <;> walk_at "sx"
  | with_reducible exact SetAt.here
  | (with_reducible apply SetAt.there) <;> walk_at "sx"
  | with_reducible exact List.mem_cons_self
  | (with_reducible apply List.mem_cons_of_mem) <;> walk_at "sx"
  | ((with_reducible show (_ : Addr × CD) ∈ _); with_reducible assumption)
  | with_reducible exact Put.here
  | (with_reducible apply Put.there) <;> walk_at "sx"
  | ((with_reducible show Put _ _ _ _ _); with_reducible assumption)
  | ((with_reducible show Sw _ _ _ _); with_reducible assumption)
  | with_reducible exact sw_nil
  | ((with_reducible apply sw_pick); (· walk_at "pk"); walk_at "sx")
  | ((with_reducible apply sw_skip); walk_at "sx")
  | with_reducible exact FGet.here
  | ((with_reducible apply FGet.there); (· decide +kernel); walk_at "sx")
  | with_reducible exact FPut.here
  | with_reducible exact FPut.new
  | ((with_reducible apply FPut.there); (· decide +kernel); walk_at "sx")
  | (with_reducible show ClsF _ _ _); with_reducible assumption
  | (with_reducible show RtQ _ _ _); assumption
  | (with_reducible show (_ : Str) ∈ _); decide +kernel
  | (with_reducible show ¬ (_ : Str) ∈ _); decide +kernel
  -- what is walked, targets
  | (with_reducible apply ei_rng1) <;> walk_at "sx"
  | (with_reducible apply ei_rng2) <;> walk_at "sx"
  | (with_reducible apply ei_enumD) <;> walk_at "sx"
  | (with_reducible apply ei_enum) <;> walk_at "sx"
  | (with_reducible apply ei_zip) <;> walk_at "sx"
  | (with_reducible apply ei_seqLM) <;> walk_at "sx"
  | (with_reducible apply ei_seqTM) <;> walk_at "sx"
  | (with_reducible apply ei_seqL) <;> walk_at "sx"
  | (with_reducible apply ei_seqT) <;> walk_at "sx"
  | (with_reducible apply tg_name) <;> walk_at "sx"
  | (with_reducible apply tg_tup istv_vtup) <;> walk_at "sx"
  | (with_reducible apply td_tup) <;> walk_at "sx"
  | with_reducible exact td_nil
  | (with_reducible apply td_cons) <;> walk_at "sx"
  | with_reducible exact tgs_nil
  | (with_reducible apply tgs_cons) <;> walk_at "sx"
  -- beside
  | walk_at "spec"
  | walk_at "side"
  | walk_at "leave")
/-- a question of another kind is left -/
local macro_rules | `(tactic| walk_at "leave") => `(tactic| first
  | with_reducible show Cont _ _ _ _
  | with_reducible show Shp _ _
  | with_reducible show _ ≤ _
  | with_reducible show _ < _
  | with_reducible show CMul _ _
  | with_reducible show CDiv _ _
  | with_reducible show CPow _ _
  | with_reducible show _ = _
  | with_reducible show Le _ _
  | ((with_reducible show _ = true → _); with_reducible assumption)
  | ((with_reducible show _ = true → _); intro _; walk_at "sx")
  | ((with_reducible show _ = false → _); intro _; walk_at "sx"))
/-- a plain statement -/
local macro_rules | `(tactic| walk_at "st") => `(tactic| first
  | (with_reducible apply c_seq); walk_at "st"
  | (with_reducible apply c_asg) <;> (first | walk_at "sx" | skip)
  | (with_reducible apply c_asgG) <;> (first | walk_at "sx" | skip)
  | (with_reducible apply c_par) <;> (first | walk_at "sx" | skip)
  | (with_reducible apply c_par3) <;> (first | walk_at "sx" | skip)
  | (with_reducible apply c_aug) <;> (first | walk_at "sx" | skip)
  | (with_reducible apply c_augS) <;> (first | walk_at "sx" | skip)
  | (with_reducible apply c_fld) <;> (first | walk_at "sx" | skip)
  | (with_reducible apply c_drop) <;> (first | walk_at "sx" | skip)
  | with_reducible apply c_next
  | with_reducible apply c_break
  | with_reducible apply c_cont)
/-- a value is handed back; a word is met again -/
local macro_rules | `(tactic| walk_at "ret") => `(tactic| (with_reducible apply c_ret) <;> (first | walk_at "sx" | skip))
local macro_rules | `(tactic| walk_at "inv") => `(tactic| (with_reducible apply c_inv) <;> (first | walk_at "side" | skip))
local macro_rules | `(tactic| walk_at "seq") => `(tactic| with_reducible apply c_seq)
local macro_rules | `(tactic| walk_at "cut") => `(tactic| with_reducible apply c_cut)
local macro_rules | `(tactic| walk_at "if") => `(tactic| ((with_reducible apply c_if); (case' h => first | walk_at "sx" | skip)))
local macro_rules | `(tactic| walk_at "fgt") => `(tactic| first
  | exact Fgt.nil
  | (with_reducible apply Fgt.keep; walk_at "fgt")
  | (with_reducible apply Fgt.drop; walk_at "fgt"))

/-! ### more steps: stars, dicts, tuples -/
local macro_rules | `(tactic| walk_at "sx") => `(tactic| first
  | (with_reducible apply ed_starT) <;> walk_at "sx"
  | (with_reducible apply ev_dgetS) <;> walk_at "sx"
  | with_reducible exact isdi_v
  | (with_reducible apply isdi_c) <;> walk_at "sx"
  | (with_reducible apply rv_catTd) <;> walk_at "sx"
  | with_reducible exact ist_dat
  | ((with_reducible show ¬ (_ : Int) < _); with_reducible assumption)
  | ((with_reducible show valG _ _ = _); walk_at "get")
  | ((with_reducible show putG _ _ _ = _); walk_at "get"))

/-! ### the law: what is more keeps what was kept -/
section
variable {K : PySem.W.Frag} {mg : Str → Option Value} {T : Tx K mg}
theorem seatable_ev {S : Sce} {names : List Str} {M : Cells} {b : Bool} (ok : S.Ok) (nd : names.Nodup) (hin : ∀ c ∈ names, c ∈ ky S.ca) (hb : b = true ↔ S.Can names) :
    S_is_seatable K T [sceV T.C_Scene T.C_Call S, dat (txD names)] M (Det (dat (.bool b)) M) := ⟨S, names, rfl, ok, nd, hin, fun b' hb' => ⟨by rw [Bool.eq_iff_iff.mpr (hb'.trans hb.symm)], rfl⟩⟩
theorem ev_keptOf {ρ : Sx.Env} {M M' : Cells} {t1 t2 : TE} {S' : Sce} {ch : List (Str × Nat)} {ca : List (Str × Cal)} {ks' : List Str} (h : EvA (tCons t1 (tCons t2 tNil)) ρ M [chV ch, caV T.C_Call ca] M') (hin : ScIn ch ca) (e : sceOf ch ca = S') (ok' : S'.Ok) (g' : Greedy S' (orderF S') ks') :
    Ev (tCall (spF 1 (S_kept K T)) [] E0 (tCons (tMake T.C_Scene (spF 3 (S_Scene_init K T)) [] E0 (tCons t1 (tCons t2 tNil))) tNil)) ρ M (dat (txT (sortS ks'))) M' := by
  have hm : Ev (tMake T.C_Scene (spF 3 (S_Scene_init K T)) [] E0 (tCons t1 (tCons t2 tNil))) ρ M (sceV T.C_Scene T.C_Call S') M' := by
    refine (er_frzI (er_make (P := fun y N => ∃ q, y = val (.ref q) ∧ N = (q, cI T.C_Scene sceN [chV (sortK ch), caV T.C_Call (sortK ca)]) :: M') h rfl fun q => ⟨q, ch, ca, _, rfl, rfl, hin, rfl, q, rfl, rfl⟩) ?_ : EvR _ _ _ (Det _ _)).ev
    rintro y N ⟨q, rfl, rfl⟩
    refine ⟨q, _, _, _, _, rfl, rfl, ?_, rfl⟩
    rw [← e]
  exact ev_call (ds := [sceV T.C_Scene T.C_Call S']) (ea_cons hm ea_nil) rfl (kept_ev ok' g')
theorem all_in {ks ks' : List Str} {p : Str → Bool} (h : ∀ c ∈ ks, p c = true → c ∈ ks') : (((sortS ks).filter p).any fun c => !decide (c ∈ sortS ks')) = false := by
  rw [List.any_eq_false]
  intro c hc
  obtain ⟨h1, h2⟩ := List.mem_filter.mp hc
  have := (sortS_perm ks').mem_iff.mpr (h c ((sortS_perm ks).mem_iff.mp h1) h2)
  simp [this]
abbrev E20 (K : PySem.W.Frag) (s : List Int) (pd : Addr) (Sv : VD) (x3 x4 x5 x6 x7 x8 x9 x10 x11 x12 x13 x14 x15 : Option VD) : Sx.Env := [some (vscr K s), some (val (.ref pd)), some Sv, x3, x4, x5, x6, x7, x8, x9, x10, x11, x12, x13, x14, x15, none, none, none]
abbrev M20 (K : PySem.W.Frag) (s : List Int) (pd : Addr) (k : Int) : Cells := [(pd, cDraw K s k)]
theorem law_rest {Q : VK} {P : VD → Cells → Prop} {Φ : Fr} {s : List Int} {pd : Addr} {k : Int} {S : Sce} {x3 x5 x6 x7 x8 x9 x10 : Option VD} (hS : ScGen 4 7 S) (hQ : RtQ Q Φ P) (hP : ∀ M', P (dat (.bool true)) M') :
    Cont (rd_law_25 K T (fnD Q)) Φ (E20 K s pd (sceV T.C_Scene T.C_Call S) x3 (some (caV T.C_Call S.ca)) x5 x6 x7 x8 x9 x10 none none none none none) (M20 K s pd k) := by
  have ok := hS.ok
  have hlc := hS.lc
  have hsc : ∀ c ∈ ky S.ca, PyData.strOk c = true := ok.sc
  walk_at "seq"
  refine c_asgR (er_lstCd (ds := []) ed_nil (by decide)) ?_
  rintro y N ⟨pl, rfl, rfl⟩
  refine asgR_k (.there (.there (.there (.there (.there (.there (.there (.there (.there (.there (.there (.here)))))))))))) ?_
  show Cont (rd_law_26 K T (fnD Q)) Φ (E20 K s pd (sceV T.C_Scene T.C_Call S) x3 (some (caV T.C_Call S.ca)) x5 x6 x7 x8 x9 x10 (some (val (.ref pl))) none none none none) _
  walk_at "cut"
  refine c_for (its := irange 0 4) (M1 := (pl, cLd []) :: M20 K s pd k) (I := fun i ρ' M' => ∃ k lots x12 x13, ρ' = E20 K s pd (sceV T.C_Scene T.C_Call S) x3 (some (caV T.C_Call S.ca)) x5 x6 x7 x8 x9 x10 (some (val (.ref pl))) x12 x13 none none ∧ M' = (pl, cLd (lots.map txD)) :: M20 K s pd k ∧ lots.length ≤ i ∧ ∀ l ∈ lots, l.Sublist (ky S.ca) ∧ S.Can l) (ei_rng1 (ea_cons ev_int ea_nil) (by omega)) ⟨k, [], none, none, rfl, rfl, Nat.le_refl _, fun _ h => (nomatch h)⟩ ?_ ?_
  · rintro Ψ hΨ i d ρ' M' hi ⟨k, lots, x12, x13, rfl, rfl, hll, hl⟩
    obtain ⟨hi4, _⟩ := rng_at hi
    refine ⟨E20 K s pd (sceV T.C_Scene T.C_Call S) x3 (some (caV T.C_Call S.ca)) x5 x6 x7 x8 x9 x10 (some (val (.ref pl))) (some d) x13 none none, _, tg_name (.there (.there (.there (.there (.there (.there (.there (.there (.there (.there (.there (.there (.here))))))))))))), ?_⟩
    show Cont (rd_law_27 K T _) Ψ _ _
    walk_at "seq"
    refine c_asgR (P := fun x N => ∃ (hd : List Str) (k' : Int), hd.Sublist (ky S.ca) ∧ x = dat (txD hd) ∧ N = (pl, cLd (lots.map txD)) :: M20 K s pd k') (er_lstD ((er_lc (ei_keysS (f := calV T.C_Call) (l := S.ca) (ev_var (.there (.there (.there (.there (.here))))))) (fun i acc N => ∃ hd : List Str, hd.Sublist ((ky S.ca).take i) ∧ acc = hd.map (fun c => vt c) ∧ ∃ k', N = (pl, cLd (lots.map txD)) :: M20 K s pd k') ⟨[], List.nil_sublist _, rfl, k, rfl⟩ (by rw [List.length_map, List.length_map]; omega) ?_ ?_).imp ?_)) ?_
    · rintro i acc N ⟨hd, h1, rfl, h3⟩
      have := h1.length_le
      rw [List.length_take] at this
      rw [List.length_map]
      omega
    · rintro i d2 acc N hi ⟨hd, h1, rfl, k', rfl⟩
      rw [List.getElem?_map] at hi
      cases hm : (ky S.ca)[i]? with
      | none => rw [hm] at hi; cases hi
      | some c =>
        rw [hm] at hi
        cases hi
        have htk : (ky S.ca).take (i + 1) = (ky S.ca).take i ++ [c] := by rw [List.take_succ, hm]; rfl
        refine ⟨[some (vscr K s), some (val (.ref pd)), some (sceV T.C_Scene T.C_Call S), x3, some (caV T.C_Call S.ca), x5, x6, x7, x8, x9, x10, some (val (.ref pl)), some d, x13, none, none, none, some (vt c), none], [17], decide (tk s (k' + 1) 2 = 0), (pl, cLd (lots.map txD)) :: M20 K s pd (k' + 1), tg_name (.there (.there (.there (.there (.there (.there (.there (.there (.there (.there (.there (.there (.there (.there (.there (.there (.there (.here)))))))))))))))))), fun _ h => h, et_test (ev_op (ev_call (ds := [val (.ref pd), dat (.int 2)]) (ea_cons (ev_var (.there (.here))) (ea_cons ev_int ea_nil)) rfl (take_ev (.there .here) (by omega))) ev_int rv_eqI), fun _ => Ev.er (ev_var (.there (.there (.there (.there (.there (.there (.there (.there (.there (.there (.there (.there (.there (.there (.there (.there (.there (.here))))))))))))))))))) ⟨hd ++ [c], ?_, ?_, _, rfl⟩, fun _ => ⟨hd, ?_, rfl, _, rfl⟩⟩
        · rw [htk]; exact List.Sublist.append h1 (List.Sublist.refl _)
        · rw [List.map_append]; rfl
        · rw [htk]; exact h1.trans (List.sublist_append_left _ _)
    · rintro x N ⟨acc, rfl, hd, h1, rfl, k', rfl⟩
      rw [List.length_map, List.take_length] at h1
      exact ⟨hd.map .str, by rw [List.map_map]; rfl, hd, k', h1, rfl, rfl⟩
    rintro x N ⟨hd, k', h1, rfl, rfl⟩
    refine asgR_k (.there (.there (.there (.there (.there (.there (.there (.there (.there (.there (.there (.there (.there (.here)))))))))))))) ?_
    show Cont (rd_law_28 K T _) Ψ (E20 K s pd (sceV T.C_Scene T.C_Call S) x3 (some (caV T.C_Call S.ca)) x5 x6 x7 x8 x9 x10 (some (val (.ref pl))) (some d) (some (dat (txD hd))) none none) _
    obtain ⟨b, hb⟩ : ∃ b : Bool, b = true ↔ S.Can hd := by
      by_cases z : S.Can hd
      · exact ⟨true, fun _ => z, fun _ => rfl⟩
      · exact ⟨false, fun q => Bool.noConfusion q, fun q => absurd q z⟩
    refine c_if (b := b) (et_B (ev_call (ds := [sceV T.C_Scene T.C_Call S, dat (txD hd)]) (ea_cons (ev_var (.there (.there (.here)))) (ea_cons (ev_var (.there (.there (.there (.there (.there (.there (.there (.there (.there (.there (.there (.there (.there (.here))))))))))))))) ea_nil)) rfl (seatable_ev ok (h1.nodup ok.nc) (fun c hc => h1.subset hc) hb))) (fun z => ?_) fun _ => ?_
    · show Cont (rd_law_29 K T _) Ψ _ _
      refine c_drop (x := vn) (M1 := (pl, cLd ((lots ++ [hd]).map txD)) :: M20 K s pd k') (ev_bm (ev_var (.there (.there (.there (.there (.there (.there (.there (.there (.there (.there (.there (.here))))))))))))) (ity_l (IsLst.v (isl_cell (.head _)))) (ea_cons (ev_var (.there (.there (.there (.there (.there (.there (.there (.there (.there (.there (.there (.there (.there (.here))))))))))))))) ea_nil) (rm_append (ds := lots.map txD) (d := txD hd) ?_ (by rw [List.length_map]; show _ < 16777216; omega))) (c_inv ⟨k', lots ++ [hd], _, _, rfl, rfl, by rw [List.length_append, List.length_singleton]; omega, fun l hl' => ?_⟩ (Le.refl _))
      · rw [List.map_append]; exact .here
      · rcases List.mem_append.mp hl' with q | q
        · exact hl l q
        · rw [List.mem_singleton.mp q]; exact ⟨h1, hb.mp z⟩
    · apply c_next
      exact c_inv ⟨k', lots, _, _, rfl, rfl, by omega, hl⟩ (Le.refl _)
  · rintro ρ' M' ⟨k, lots, x12, x13, rfl, rfl, hll, hl⟩
    have hl4 : lots.length ≤ 4 := by
      have : (irange 0 4).length = 4 := by simp [irange]
      omega
    show Cont (rd_law_31 K T (fnD Q)) Φ _ _
    refine c_frz (ρ' := E20 K s pd (sceV T.C_Scene T.C_Call S) x3 (some (caV T.C_Call S.ca)) x5 x6 x7 x8 x9 x10 (some (dat (.list (lots.map txD)))) x12 x13 none none) (.there (.there (.there (.there (.there (.there (.there (.there (.there (.there (.there (.here)))))))))))) (.there (.there (.there (.there (.there (.there (.there (.there (.there (.there (.there (.here)))))))))))) ?_
    walk_at "cut"
    refine c_for (its := lots.map fun l => dat (txD l)) (M1 := M20 K s pd k) (I := fun _ ρ' M' => ∃ x14 x15, ρ' = E20 K s pd (sceV T.C_Scene T.C_Call S) x3 (some (caV T.C_Call S.ca)) x5 x6 x7 x8 x9 x10 (some (dat (.list (lots.map txD)))) x12 x13 x14 x15 ∧ M' = M20 K s pd k) (ei_seqLM (ev_var (.there (.there (.there (.there (.there (.there (.there (.there (.there (.there (.there (.here)))))))))))))) ⟨none, none, rfl, rfl⟩ ?_ ?_
    · rintro Ψ hΨ i d ρ' M' hi ⟨x14, x15, rfl, rfl⟩
      rw [List.getElem?_map] at hi
      cases hq : lots[i]? with
      | none => rw [hq] at hi; cases hi
      | some a =>
        rw [hq] at hi
        cases hi
        obtain ⟨a1, a2⟩ := hl a (List.mem_of_getElem? hq)
        refine ⟨E20 K s pd (sceV T.C_Scene T.C_Call S) x3 (some (caV T.C_Call S.ca)) x5 x6 x7 x8 x9 x10 (some (dat (.list (lots.map txD)))) x12 x13 (some (dat (txD a))) x15, _, tg_name (.there (.there (.there (.there (.there (.there (.there (.there (.there (.there (.there (.there (.there (.there (.here))))))))))))))), ?_⟩
        show Cont (rd_law_32 K T _) Ψ _ _
        refine c_for (its := lots.map fun l => dat (txD l)) (M1 := M20 K s pd k) (I := fun _ ρ' M' => ∃ x15, ρ' = E20 K s pd (sceV T.C_Scene T.C_Call S) x3 (some (caV T.C_Call S.ca)) x5 x6 x7 x8 x9 x10 (some (dat (.list (lots.map txD)))) x12 x13 (some (dat (txD a))) x15 ∧ M' = M20 K s pd k) (ei_seqLM (ev_var (.there (.there (.there (.there (.there (.there (.there (.there (.there (.there (.there (.here)))))))))))))) ⟨x15, rfl, rfl⟩ ?_ ?_
        · rintro Ψ2 hΨ2 j d ρ' M' hj ⟨x15, rfl, rfl⟩
          rw [List.getElem?_map] at hj
          cases hr : lots[j]? with
          | none => rw [hr] at hj; cases hj
          | some b =>
            rw [hr] at hj
            cases hj
            obtain ⟨b1, b2⟩ := hl b (List.mem_of_getElem? hr)
            refine ⟨E20 K s pd (sceV T.C_Scene T.C_Call S) x3 (some (caV T.C_Call S.ca)) x5 x6 x7 x8 x9 x10 (some (dat (.list (lots.map txD)))) x12 x13 (some (dat (txD a))) (some (dat (txD b))), _, tg_name (.there (.there (.there (.there (.there (.there (.there (.there (.there (.there (.there (.there (.there (.there (.there (.here)))))))))))))))), ?_⟩
            show Cont (rd_law_33 K T _) Ψ2 _ _
            have nda := a1.nodup ok.nc
            have hin : ∀ c ∈ b, c ∈ ky S.ca := fun c hc => b1.subset hc
            have hbl := b1.length_le
            have hal := a1.length_le
            rw [List.length_map] at hbl hal
            obtain ⟨f, hf⟩ : ∃ f : Str → Bool, ∀ y, f y = true ↔ S.Can (a ++ [y]) := ⟨fun y => @decide (S.Can (a ++ [y])) (Classical.propDecidable _), fun y => @decide_eq_true_iff _ (Classical.propDecidable _)⟩
            have hany : Ev (tCB (rAny K) (tCons (tLc (iSeq K (tVar 15)) (gName 17) (tTest (tOp (rIn K true) (tVar 17) (tVar 14))) (tCall (spF 2 (S_is_seatable K T)) [] E0 (tCons (tVar 2) (tCons (tOp (rAddU K) (tVar 14) (tLst (tCons (tVar 17) tNil))) tNil))) [17]) tNil)) (E20 K s pd (sceV T.C_Scene T.C_Call S) x3 (some (caV T.C_Call S.ca)) x5 x6 x7 x8 x9 x10 (some (dat (.list (lots.map txD)))) x12 x13 (some (dat (txD a))) (some (dat (txD b)))) (M20 K s pd k) (dat (.bool ((b.filter fun y => !decide (y ∈ a)).any f))) (M20 K s pd k) := by
              refine ev_cb (ea_cons (ev_lc (e := fun c : Str => vt c) (xs := b) (f := fun y => !decide (y ∈ a)) (r := fun y => .bool (f y)) (ei_seqLM (ev_var (.there (.there (.there (.there (.there (.there (.there (.there (.there (.there (.there (.there (.there (.there (.there (.here)))))))))))))))))) (by omega) fun c hc => ⟨[some (vscr K s), some (val (.ref pd)), some (sceV T.C_Scene T.C_Call S), x3, some (caV T.C_Call S.ca), x5, x6, x7, x8, x9, x10, some (dat (.list (lots.map txD))), x12, x13, some (dat (txD a)), some (dat (txD b)), none, some (vt c), none], [17], tg_name (.there (.there (.there (.there (.there (.there (.there (.there (.there (.there (.there (.there (.there (.there (.there (.there (.there (.here)))))))))))))))))), fun _ h => h, et_test (ev_op (ev_var (.there (.there (.there (.there (.there (.there (.there (.there (.there (.there (.there (.there (.there (.there (.there (.there (.there (.here))))))))))))))))))) (ev_var (.there (.there (.there (.there (.there (.there (.there (.there (.there (.there (.there (.there (.there (.there (.here)))))))))))))))) (rv_inS (neg := true) (.inr isl_dat))), fun hf' => ?_⟩) ea_nil) rc_anyM
              have hca : c ∉ a := by simpa using hf'
              refine ev_call (ds := [sceV T.C_Scene T.C_Call S, dat (txD (a ++ [c]))]) (ea_cons (ev_var (.there (.there (.here)))) (ea_cons (ev_op (ev_var (.there (.there (.there (.there (.there (.there (.there (.there (.there (.there (.there (.there (.there (.there (.here)))))))))))))))) (ev_lstD (ds := [.str c]) (ed_cons (ev_var (.there (.there (.there (.there (.there (.there (.there (.there (.there (.there (.there (.there (.there (.there (.there (.there (.there (.here))))))))))))))))))) ed_nil) ln1) (RV.eq (rv_cat isl_dat isl_dat (by rw [List.length_map]; show a.length + 1 ≤ 16777216; omega)) (by rw [txD, List.map_append]; rfl))) ea_nil)) rfl (seatable_ev ok ?_ (fun x hx => ?_) (hf c))
              · rw [List.nodup_append]
                exact ⟨nda, by simp, fun x hx y hy e => hca (List.mem_singleton.mp hy ▸ e ▸ hx)⟩
              · rcases List.mem_append.mp hx with hx | hx
                · exact a1.subset hx
                · rw [List.mem_singleton.mp hx]; exact hin c hc
            refine c_if (b := false) (EvT.eq (et_and (a := decide ((a.length : Int) < (b.length : Int))) (b := !((b.filter fun y => !decide (y ∈ a)).any f)) (et_test (ev_op (ev_cb (ea_cons (ev_var (.there (.there (.there (.there (.there (.there (.there (.there (.there (.there (.there (.there (.there (.there (.here)))))))))))))))) ea_nil) (rc_lenM isl_dat)) (ev_cb (ea_cons (ev_var (.there (.there (.there (.there (.there (.there (.there (.there (.there (.there (.there (.there (.there (.there (.there (.here))))))))))))))))) ea_nil) (rc_lenM isl_dat)) rv_bl0)) fun _ => et_not (et_B hany)) ?_) (fun z => Bool.noConfusion z) fun _ => ?_
            · by_cases lt : a.length < b.length
              · obtain ⟨y, h1, h2, h3⟩ := exchange ok nda (b1.nodup ok.nc) (fun c hc => a1.subset hc) hin a2 b2 lt
                have : ((b.filter fun y => !decide (y ∈ a)).any f) = true := List.any_eq_true.mpr ⟨y, List.mem_filter.mpr ⟨h1, by simpa using h2⟩, (hf y).mpr h3⟩
                rw [this, Bool.not_true, Bool.and_false]
              · rw [decide_eq_false (by omega), Bool.false_and]
            · apply c_next
              exact c_inv ⟨_, rfl, rfl⟩ (Le.refl _)
        · rintro ρ' M' ⟨x15, rfl, rfl⟩
          exact c_inv ⟨_, _, rfl, rfl⟩ (Le.refl _)
    · rintro ρ' M' ⟨x14, x15, rfl, rfl⟩
      show Cont (rd_law_36 K T (fnD Q)) Φ _ _
      exact c_ret (D := fnD Q) ev_bl hQ (hP _) (Le.refl _)
end

end Lw


set_option Elab.async false
set_option linter.all false
set_option maxRecDepth 100000
set_option maxHeartbeats 4000000
namespace Lw
open PySem L2 Sx
/-! ### steps -/
local macro_rules | `(tactic| walk_at "shp") => `(tactic| first
  | exact shp_int
  | exact shp_none
  | exact shp_bool
  | exact shp_oi _
  | (apply shp_str; first | decide +kernel | assumption)
  | (apply shp_list; walk_at "shpA")
  | (apply shp_tuple; walk_at "shpA")
  | assumption)
local macro_rules | `(tactic| walk_at "shpA") => `(tactic| first
  | exact shpA_nil
  | (apply shpA_cons; (· walk_at "shp"); walk_at "shpA")
  | (apply shpA_map; intro _ _; walk_at "shp"))
/-- what is left beside: closed, or left -/
local macro_rules | `(tactic| walk_at "side") => `(tactic| first
  | (with_reducible show Shp _ _); walk_at "shp"
  | (with_reducible show _ ≤ sizeLine); first | decide | (show _ ≤ 16777216; omega) | (show _ ≤ 16777216; simp only [List.length_map, List.length_append, List.length_cons, List.length_nil]; omega)
  | (with_reducible show _ < sizeLine); first | decide | (show _ < 16777216; omega) | (show _ < 16777216; simp only [List.length_map, List.length_append, List.length_cons, List.length_nil]; omega)
  | (with_reducible show CMul _ _); first | exact Or.inr ⟨by decide, by decide⟩ | exact Or.inl ⟨by decide, by decide⟩ | exact Or.inl ⟨by omega, by omega⟩ | exact Or.inr ⟨by omega, by omega⟩
  | (with_reducible show CPow _ _); exact ⟨by decide, by decide, by decide⟩
  | (with_reducible show CDiv _ _); first | exact ⟨by decide, by decide⟩ | exact ⟨by omega, by omega⟩
  | (with_reducible show Le _ _); first | with_reducible exact Le.refl _ | with_reducible assumption
  | (with_reducible show L2.atI _ _ = _); first | with_reducible assumption | exact rfl | exact atI_nat rfl
  | (with_reducible show _ < _); first | with_reducible assumption | decide | omega
  | (with_reducible show _ ≤ _); first | with_reducible assumption | decide | omega
  | (with_reducible show _ ∧ _); omega
  | (with_reducible show ∀ i, i ∈ _ → i ∈ _); decide
  | (with_reducible show (_ : Nat) = _); first | exact rfl | omega)
local macro_rules | `(tactic| walk_at "rm") => `(tactic| first
  | exact Rm.here
  | (apply Rm.there; walk_at "rm"))
local macro_rules | `(tactic| walk_at "perm") => `(tactic| first
  | with_reducible exact List.Perm.refl _
  | (apply perm_step; (· walk_at "rm"); walk_at "perm")
  | exact List.Perm.refl _)
local macro_rules | `(tactic| walk_at "pk") => `(tactic| first
  | with_reducible exact Pk.here
  | ((with_reducible apply Pk.there); walk_at "pk"))
/-- a part of a reading: what it gives. One word for all kinds -/
local macro_rules | `(tactic| walk_at "sx") => `(tactic| first
  -- an expression
  | with_reducible exact ev_int
  | with_reducible exact ev_bl
  | with_reducible exact ev_str
  | with_reducible exact ev_non
  | (with_reducible apply ev_var) <;> walk_at "sx"
  | (with_reducible apply ev_op) <;> walk_at "sx"
  | (with_reducible apply ev_fld) <;> walk_at "sx"
  | (with_reducible apply ev_cb) <;> walk_at "sx"
  | (with_reducible apply ev_tupD) <;> walk_at "sx"
  | (with_reducible apply ev_lstD) <;> walk_at "sx"
  | (with_reducible apply ev_tupV) <;> walk_at "sx"
  | (with_reducible apply ev_lstV) <;> walk_at "sx"
  | (with_reducible apply ev_slL) <;> walk_at "sx"
  | (with_reducible apply ev_slT1) <;> walk_at "sx"
  | (with_reducible apply ev_slT) <;> walk_at "sx"
  | (with_reducible apply ev_un) <;> walk_at "sx"
  | (with_reducible apply ev_chain) <;> walk_at "sx"
  | (with_reducible apply ev_andV) <;> walk_at "sx"
  | (with_reducible apply ev_orV) <;> walk_at "sx"
  | (with_reducible apply ev_notV) <;> walk_at "sx"
  | (with_reducible apply ev_lcY) <;> walk_at "sx"
  | (with_reducible apply ev_lc) <;> walk_at "sx"
  | ((with_reducible show ∀ a, a ∈ _ → ∃ ρ'' js, _); intro a ha; dsimp only [wipeE, List.set]; (first | with_reducible apply lcY_k | with_reducible apply lcF_k) <;> walk_at "sx")
  | (with_reducible apply ev_call) <;> walk_at "sx"
  | (with_reducible apply ev_meth) <;> walk_at "sx"
  | (with_reducible apply ev_bm) <;> walk_at "sx"
  | (with_reducible show Ev _ _ _ _ _); walk_at "own"
  -- a test
  | with_reducible exact et_yes
  | (with_reducible apply et_test) <;> walk_at "sx"
  | (with_reducible apply et_B) <;> walk_at "sx"
  | (with_reducible apply et_not) <;> walk_at "sx"
  | (with_reducible apply et_and) <;> walk_at "sx"
  | (with_reducible apply et_or) <;> walk_at "sx"
  -- arguments
  | with_reducible exact ea_nil
  | (with_reducible apply ea_cons) <;> walk_at "sx"
  | with_reducible exact ed_nil
  | (with_reducible apply ed_cons) <;> walk_at "sx"
  | with_reducible exact eo_none
  | (with_reducible apply eo_some) <;> walk_at "sx"
  -- what an operation gives
  | with_reducible exact rv_addI
  | with_reducible exact rv_int0
  | with_reducible exact rv_bl0
  | with_reducible exact rv_eqI
  | with_reducible exact rv_neI
  | with_reducible exact rv_eqS
  | with_reducible exact rv_neS
  | with_reducible exact rv_isN
  | with_reducible exact rv_notN
  | (with_reducible apply rv_intC) <;> walk_at "sx"
  | (with_reducible apply rv_addS) <;> walk_at "sx"
  | (with_reducible apply rv_ixL isl_dat) <;> walk_at "sx"
  | (with_reducible apply rv_ixT ist_dat) <;> walk_at "sx"
  | (with_reducible apply rv_ixL) <;> walk_at "sx"
  | (with_reducible apply rv_ixLV) <;> walk_at "sx"
  | (apply rv_ixT ist_dat) <;> walk_at "sx"
  | (with_reducible apply rv_ixTV istv_vtup) <;> walk_at "sx"
  | (with_reducible apply rv_ixScr) <;> walk_at "sx"
  | (apply rv_ixL isl_dat) <;> walk_at "sx"
  | (with_reducible apply rv_ixL) <;> walk_at "sx"
  | (apply rv_cat) <;> walk_at "sx"
  | (with_reducible apply rv_eqD) <;> walk_at "sx"
  | (with_reducible apply rv_neD) <;> walk_at "sx"
  | with_reducible exact ru_neg
  | with_reducible exact rc_int
  | with_reducible exact rc_abs
  | with_reducible exact rc_max2
  | with_reducible exact rc_min2
  | with_reducible exact rc_lenScr
  | with_reducible exact rc_lenM isl_dat
  | ((with_reducible apply rc_lenM); (with_reducible apply isl_cell) <;> walk_at "sx")
  | with_reducible exact rc_lenMT
  | (with_reducible apply rc_lenL) <;> walk_at "sx"
  | (apply rc_lenT ist_dat)
  | (with_reducible apply rc_tupL) <;> walk_at "sx"
  | (apply rc_tupT)
  | (with_reducible apply rc_lstL) <;> walk_at "sx"
  | (apply rc_lstT ist_dat)
  | with_reducible exact rc_anyM
  | with_reducible exact rc_allM
  | ((with_reducible apply rm_append) <;> walk_at "sx")
  -- lists, tuples, data
  | with_reducible exact isl_dat
  | with_reducible exact isd_dat
  | with_reducible exact isd_scr
  | (with_reducible apply isl_cell) <;> walk_at "sx"
  | (with_reducible apply islv_cell) <;> walk_at "sx"
  | with_reducible exact islv_vlst
  | (with_reducible apply isd_cell) <;> walk_at "sx"
  | (with_reducible apply isd_vtup) <;> walk_at "sx"
  | (with_reducible apply isd_vlst) <;> walk_at "sx"
  | with_reducible exact isds_nil
  | (with_reducible apply isds_cons) <;> walk_at "sx"
  | with_reducible exact fzl_dat
  | with_reducible exact fzl_v
  | with_reducible exact fzt_dat
  | with_reducible exact fzt_v
  | (with_reducible apply ity_l) <;> walk_at "sx"
  | with_reducible exact ity_s
  | (with_reducible apply IsLst.v) <;> walk_at "sx"
  -- places
  | with_reducible exact At.here
  | (with_reducible apply At.there) <;> walk_at "sx"
  | with_reducible exact SetAt.here
  | (with_reducible apply SetAt.there) <;> walk_at "sx"
  | with_reducible exact List.mem_cons_self
  | (with_reducible apply List.mem_cons_of_mem) <;> walk_at "sx"
  | ((with_reducible show (_ : Addr × CD) ∈ _); with_reducible assumption)
  | with_reducible exact Put.here
  | (with_reducible apply Put.there) <;> walk_at "sx"
  | ((with_reducible show Put _ _ _ _ _); with_reducible assumption)
  | ((with_reducible show Sw _ _ _ _); with_reducible assumption)
  | with_reducible exact sw_nil
  | ((with_reducible apply sw_pick); (· walk_at "pk"); walk_at "sx")
  | ((with_reducible apply sw_skip); walk_at "sx")
  | with_reducible exact FGet.here
  | ((with_reducible apply FGet.there); (· decide +kernel); walk_at "sx")
  | with_reducible exact FPut.here
  | with_reducible exact FPut.new
  | ((with_reducible apply FPut.there); (· decide +kernel); walk_at "sx")
  | (with_reducible show ClsF _ _ _); with_reducible assumption
  | (with_reducible show RtQ _ _ _); assumption
  | (with_reducible show (_ : Str) ∈ _); decide +kernel
  | (with_reducible show ¬ (_ : Str) ∈ _); decide +kernel
  -- what is walked, targets
  | (with_reducible apply ei_rng1) <;> walk_at "sx"
  | (with_reducible apply ei_rng2) <;> walk_at "sx"
  | (with_reducible apply ei_enumD) <;> walk_at "sx"
  | (with_reducible apply ei_enum) <;> walk_at "sx"
  | (with_reducible apply ei_zip) <;> walk_at "sx"
  | (with_reducible apply ei_seqLM) <;> walk_at "sx"
  | (with_reducible apply ei_seqTM) <;> walk_at "sx"
  | (with_reducible apply ei_seqL) <;> walk_at "sx"
  | (with_reducible apply ei_seqT) <;> walk_at "sx"
  | (with_reducible apply tg_name) <;> walk_at "sx"
  | (with_reducible apply tg_tup istv_vtup) <;> walk_at "sx"
  | (with_reducible apply td_tup) <;> walk_at "sx"
  | with_reducible exact td_nil
  | (with_reducible apply td_cons) <;> walk_at "sx"
  | with_reducible exact tgs_nil
  | (with_reducible apply tgs_cons) <;> walk_at "sx"
  -- beside
  | walk_at "spec"
  | walk_at "side"
  | walk_at "leave")
/-- a question of another kind is left -/
local macro_rules | `(tactic| walk_at "leave") => `(tactic| first
  | with_reducible show Cont _ _ _ _
  | with_reducible show Shp _ _
  | with_reducible show _ ≤ _
  | with_reducible show _ < _
  | with_reducible show CMul _ _
  | with_reducible show CDiv _ _
  | with_reducible show CPow _ _
  | with_reducible show _ = _
  | with_reducible show Le _ _
  | ((with_reducible show _ = true → _); with_reducible assumption)
  | ((with_reducible show _ = true → _); intro _; walk_at "sx")
  | ((with_reducible show _ = false → _); intro _; walk_at "sx"))
/-- a plain statement -/
local macro_rules | `(tactic| walk_at "st") => `(tactic| first
  | (with_reducible apply c_seq); walk_at "st"
  | (with_reducible apply c_asg) <;> (first | walk_at "sx" | skip)
  | (with_reducible apply c_asgG) <;> (first | walk_at "sx" | skip)
  | (with_reducible apply c_par) <;> (first | walk_at "sx" | skip)
  | (with_reducible apply c_par3) <;> (first | walk_at "sx" | skip)
  | (with_reducible apply c_aug) <;> (first | walk_at "sx" | skip)
  | (with_reducible apply c_augS) <;> (first | walk_at "sx" | skip)
  | (with_reducible apply c_fld) <;> (first | walk_at "sx" | skip)
  | (with_reducible apply c_drop) <;> (first | walk_at "sx" | skip)
  | with_reducible apply c_next
  | with_reducible apply c_break
  | with_reducible apply c_cont)
/-- a value is handed back; a word is met again -/
local macro_rules | `(tactic| walk_at "ret") => `(tactic| (with_reducible apply c_ret) <;> (first | walk_at "sx" | skip))
local macro_rules | `(tactic| walk_at "inv") => `(tactic| (with_reducible apply c_inv) <;> (first | walk_at "side" | skip))
local macro_rules | `(tactic| walk_at "seq") => `(tactic| with_reducible apply c_seq)
local macro_rules | `(tactic| walk_at "cut") => `(tactic| with_reducible apply c_cut)
local macro_rules | `(tactic| walk_at "if") => `(tactic| ((with_reducible apply c_if); (case' h => first | walk_at "sx" | skip)))
local macro_rules | `(tactic| walk_at "fgt") => `(tactic| first
  | exact Fgt.nil
  | (with_reducible apply Fgt.keep; walk_at "fgt")
  | (with_reducible apply Fgt.drop; walk_at "fgt"))

/-! ### more steps: stars, dicts, tuples -/
local macro_rules | `(tactic| walk_at "sx") => `(tactic| first
  | (with_reducible apply ed_starT) <;> walk_at "sx"
  | (with_reducible apply ev_dgetS) <;> walk_at "sx"
  | with_reducible exact isdi_v
  | (with_reducible apply isdi_c) <;> walk_at "sx"
  | (with_reducible apply rv_catTd) <;> walk_at "sx"
  | with_reducible exact ist_dat
  | ((with_reducible show ¬ (_ : Int) < _); with_reducible assumption)
  | ((with_reducible show valG _ _ = _); walk_at "get")
  | ((with_reducible show putG _ _ _ = _); walk_at "get"))

section
variable {K : PySem.W.Frag} {mg : Str → Option Value} {T : Tx K mg}
theorem ev_caW {ρ : Sx.Env} {M : Cells} {tc tg : TE} {S : Sce} {g : Str} (h : Ev tc ρ M (caV T.C_Call S.ca) M) (hk : Ev tg ρ M (vt g) M) (hg : g ∈ ky S.ca) : Ev (tFld K (tDGet tc tg) "worth") ρ M (dat (.int (wOf S g))) M := by
  obtain ⟨x, e, e2, _⟩ := lk_ca hg
  rw [e2]
  exact ev_fldV (ev_dgetZ (f := calV T.C_Call) (l := S.ca) h hk e) T.F_Call (by decide +kernel) .here
theorem ev_caH {ρ : Sx.Env} {M : Cells} {tc tg : TE} {S : Sce} {g : Str} (h : Ev tc ρ M (caV T.C_Call S.ca) M) (hk : Ev tg ρ M (vt g) M) (hg : g ∈ ky S.ca) : Ev (tFld K (tDGet tc tg) "heard") ρ M (dat (txT (S.hd g))) M := by
  obtain ⟨x, e, _, e2⟩ := lk_ca hg
  rw [e2]
  exact ev_fldV (ev_dgetZ (f := calV T.C_Call) (l := S.ca) h hk e) T.F_Call (by decide +kernel) (.there (by decide +kernel) .here)
theorem er_call2 {ρ : Sx.Env} {M : Cells} {t1 t2 : TE} {w : Int} {d : PyData} {hd : List Str} (h : EvA (tCons t1 (tCons t2 tNil)) ρ M [dat (.int w), dat d] M) (hx : TxS d hd) (few : hd.length < 64) : EvR (tMake T.C_Call (spF 3 (S_Call_init K T)) [] E0 (tCons t1 (tCons t2 tNil))) ρ M (Det (calV T.C_Call ⟨w, sortS hd⟩) M) := by
  refine er_frzI (er_make (P := fun y N => ∃ q, y = val (.ref q) ∧ N = (q, cI T.C_Call calN [dat (.int w), dat (txT (sortS hd))]) :: M) h rfl fun q => ⟨q, w, hd, d, M, rfl, hx, rfl, few, rfl, q, rfl, rfl⟩) ?_
  rintro y N ⟨q, rfl, rfl⟩
  exact ⟨q, _, _, _, _, rfl, rfl, rfl, rfl⟩
theorem w_bound {a b : Nat} {S : Sce} (g : ScGen a b S) {c : Str} (hc : c ∈ ky S.ca) : 0 ≤ wOf S c ∧ wOf S c ≤ 2 := by
  obtain ⟨x, e, e2, _⟩ := lk_ca hc
  rw [e2]
  have hm := lk_mem e
  exact ⟨(g.ok.cn _ hm).2.1, g.wt _ hm⟩
/-- .. another worth, others that hear: the test -/
theorem law_other {i : Nat} {ρ : Sx.Env} {p : Addr} {M : Cells} {S : Sce} {ks : List Str} {g : Str} {x : Cal} {t1 : TE} (ok : S.Ok) (gr : Greedy S (orderF S) ks) (hg : g ∈ ky S.ca) (h1 : 0 ≤ x.w) (h2 : x.w ≤ 1000) (h3 : x.hd.Nodup) (h4 : ∀ m ∈ x.hd, m ∈ ky S.ch) (hw : wOf S g ≤ x.w) (hh : ∀ m ∈ S.hd g, m ∈ x.hd)
    (a7 : Ev (tVar 7) ρ ((p, cD (sK (calV T.C_Call) (pt S.ca g x))) :: M) (vt g) ((p, cD (sK (calV T.C_Call) (pt S.ca g x))) :: M)) (a3 : Ev (tVar 3) ρ ((p, cD (sK (calV T.C_Call) (pt S.ca g x))) :: M) (dat (txT (sortS ks))) ((p, cD (sK (calV T.C_Call) (pt S.ca g x))) :: M))
    (a1 : Ev t1 ρ ((p, cD (sK (calV T.C_Call) (pt S.ca g x))) :: M) (chV S.ch) ((p, cD (sK (calV T.C_Call) (pt S.ca g x))) :: M)) (ai : Ev (tVar i) ρ ((p, cD (sK (calV T.C_Call) (pt S.ca g x))) :: M) (val (.ref p)) ((p, cD (sK (calV T.C_Call) (pt S.ca g x))) :: M))
    {D : Ends} {Φ : Fr} {u v : TS} (k : ∀ N, M.Sublist N → (N = M ∨ N = (p, cD (sK (calV T.C_Call) (pt S.ca g x))) :: M) → Cont (v D) Φ ρ N) :
    Cont (tIfS (tAnd (tTest (tOp (rIn K false) (tVar 7) (tVar 3))) (tTest (tOp (rIn K true) (tVar 7) (tCall (spF 1 (S_kept K T)) [] E0 (tCons (tMake T.C_Scene (spF 3 (S_Scene_init K T)) [] E0 (tCons t1 (tCons (tFz (tVar i)) tNil))) tNil))))) u v D) Φ ρ ((p, cD (sK (calV T.C_Call) (pt S.ca g x))) :: M) := by
  have hin := set_in ok hg h1 h2 h3 h4
  have ok' := set_ok ok hg hin
  obtain ⟨ks', g'⟩ := greedy_ex (setS S g x) (orderF (setS S g x))
  by_cases hk : g ∈ ks
  · have hk' : g ∈ ks' := stays ok ok' gr g' hk (by show g ∈ ky (pt S.ca g x); rw [ky_set hg]; exact hg) (set_blocked hg hw hh)
    refine c_if (b := false) (M1 := M) (et_andT (EvT.eq (et_test (ev_op a7 a3 (rv_inS (neg := false) (.inl ist_dat)))) (decide_eq_true ((sortS_perm ks).mem_iff.mpr hk))) (EvT.eq (et_test (M' := M) (ev_op a7 (ev_keptOf (ea_cons a1 (ea_cons (ev_fzD ai) ea_nil)) hin (set_self ok hg) ok' g') (rv_inS (neg := true) (.inl ist_dat)))) ?_)) (fun z => Bool.noConfusion z) fun _ => k M (List.Sublist.refl _) (.inl rfl)
    have := (sortS_perm ks').mem_iff.mpr hk'
    simp [this]
  · refine c_if (b := false) (et_andF (EvT.eq (et_test (ev_op a7 a3 (rv_inS (neg := false) (.inl ist_dat)))) (decide_eq_false fun z => hk ((sortS_perm ks).mem_iff.mp z)))) (fun z => Bool.noConfusion z) fun _ => k _ (List.sublist_cons_self _ _) (.inr rfl)
theorem law_gone {Φ : Fr} {D : Ends} {s : List Int} {pd : Addr} {k : Int} {S : Sce} {ks : List Str} {m : Str} {x6 x7 x8 x9 x10 : Option VD} (hS : ScGen 4 7 S) (gr : Greedy S (orderF S) ks) (hm : m ∈ ky S.ch) (hne : ky S.ca ≠ [])
    (hk : ∀ k x7 x8 x9 x10, Cont D.nx Φ (E20 K s pd (sceV T.C_Scene T.C_Call S) (some (dat (txT (sortS ks)))) (some (caV T.C_Call S.ca)) (some (vt m)) x6 x7 x8 x9 x10 none none none none none) (M20 K s pd k)) :
    Cont (rd_law_9 K T D) Φ (E20 K s pd (sceV T.C_Scene T.C_Call S) (some (dat (txT (sortS ks)))) (some (caV T.C_Call S.ca)) (some (vt m)) x6 x7 x8 x9 x10 none none none none none) (M20 K s pd k) := by
  have ok := hS.ok
  have hlc := hS.lc
  have hlm := hS.lm
  have hsl : (sortS ks).length ≤ 7 := by
    have := gr.sub.length_le
    rw [order_len] at this
    rw [(sortS_perm _).length_eq]
    omega
  walk_at "seq"
  refine c_asgR (P := fun y N => ∃ g k', g ∈ ky S.ca ∧ y = vt g ∧ N = M20 K s pd k') (er_call (ds := [val (.ref pd), dat (.list ((ky S.ca).map .str))]) (ea_cons (ev_var (.there (.here))) (ea_cons (ev_cb (ea_cons (ev_var (.there (.there (.there (.there (.here)))))) ea_nil) (rc_listDZ (ks := ky S.ca) isdi_z (key_sK _ _))) ea_nil)) rfl ⟨s, k, (ky S.ca).map .str, pd, _, rfl, by simpa using hne, .here, fun x hx => ?_⟩) ?_
  · obtain ⟨g, hg, rfl⟩ := List.mem_map.mp hx
    exact ⟨g, _, hg, rfl, rfl⟩
  rintro y N ⟨g, k', hg, rfl, rfl⟩
  refine asgR_k (.there (.there (.there (.there (.there (.there (.there (.here)))))))) ?_
  show Cont (rd_law_10 K T D) Φ (E20 K s pd (sceV T.C_Scene T.C_Call S) (some (dat (txT (sortS ks)))) (some (caV T.C_Call S.ca)) (some (vt m)) x6 (some (vt g)) x8 x9 x10 none none none none none) (M20 K s pd k')
  obtain ⟨hw0, hw2⟩ := w_bound hS hg
  walk_at "seq"
  have hfew : Ev (tFz (tCB (rDictP K) (tCons (tLc (iItems (tVar 4)) (gTup K 2 (gCons (gName 17) (gCons (gName 18) gNil))) (tTest (tOp (rNeU K) (tVar 17) (tVar 7))) (tTup (tCons (tVar 17) (tCons (tVar 18) tNil))) [17, 18]) tNil))) (E20 K s pd (sceV T.C_Scene T.C_Call S) (some (dat (txT (sortS ks)))) (some (caV T.C_Call S.ca)) (some (vt m)) x6 (some (vt g)) x8 x9 x10 none none none none none) (M20 K s pd k') (caV T.C_Call (fewS S g).ca) (M20 K s pd k') := by
    have h1 := ev_lcV (te := tTup (tCons (tVar 17) (tCons (tVar 18) tNil))) (tt := tTest (tOp (rNeU K) (tVar 17) (tVar 7))) (g := gTup K 2 (gCons (gName 17) (gCons (gName 18) gNil))) (vs := [17, 18]) (e := fun q : Str × Cal => vtup [vt q.1, calV T.C_Call q.2]) (xs := S.ca) (f := fun q => decide (q.1 ≠ g)) (r := fun q => vtup [dat (kD (.inr q.1)), calV T.C_Call q.2]) (ρ := E20 K s pd (sceV T.C_Scene T.C_Call S) (some (dat (txT (sortS ks)))) (some (caV T.C_Call S.ca)) (some (vt m)) x6 (some (vt g)) x8 x9 x10 none none none none none) (M := M20 K s pd k') (M1 := M20 K s pd k') (ei_itemsS (ev_var (.there (.there (.there (.there (.here))))))) (by omega) fun q hq => ⟨[some (vscr K s), some (val (.ref pd)), some (sceV T.C_Scene T.C_Call S), some (dat (txT (sortS ks))), some (caV T.C_Call S.ca), some (vt m), x6, some (vt g), x8, x9, x10, none, none, none, none, none, none, some (vt q.1), some (calV T.C_Call q.2)], _, tg_tup istv_vtup (tgs_cons (tg_name (.there (.there (.there (.there (.there (.there (.there (.there (.there (.there (.there (.there (.there (.there (.there (.there (.there (.here))))))))))))))))))) (tgs_cons (tg_name (.there (.there (.there (.there (.there (.there (.there (.there (.there (.there (.there (.there (.there (.there (.there (.there (.there (.there (.here)))))))))))))))))))) tgs_nil)) rfl, by decide, EvT.eq (et_test (ev_op (ev_var (.there (.there (.there (.there (.there (.there (.there (.there (.there (.there (.there (.there (.there (.there (.there (.there (.there (.here))))))))))))))))))) (ev_var (.there (.there (.there (.there (.there (.there (.there (.here))))))))) rv_neS)) (by rw [Bool.eq_iff_iff]; simp), fun _ => ev_tupV (ds := [vt q.1, calV T.C_Call q.2]) (ea_cons (ev_var (.there (.there (.there (.there (.there (.there (.there (.there (.there (.there (.there (.there (.there (.there (.there (.there (.there (.here))))))))))))))))))) (ea_cons (ev_var (.there (.there (.there (.there (.there (.there (.there (.there (.there (.there (.there (.there (.there (.there (.there (.there (.there (.there (.here)))))))))))))))))))) ea_nil)) ln2⟩
    have e1 : (S.ca.filter fun q => decide (q.1 ≠ g)).map (fun q => vtup [dat (kD (.inr q.1)), calV T.C_Call q.2]) = (sK (calV T.C_Call) (fewS S g).ca).map fun q => vtup [dat (kD q.1), q.2] := by
      unfold sK
      rw [List.map_map]
      rfl
    rw [e1] at h1
    refine Ev.eq (ev_fzDicV (ea_cons h1 ea_nil)) ?_
    have := merge_sK (calV T.C_Call) (fewS S g).ca [] (by rw [List.nil_append]; exact (few_in ok g).nc)
    exact congrArg vdz this
  refine c_asg hfew (.there (.there (.there (.there (.there (.there (.there (.there (.here))))))))) ?_
  show Cont (rd_law_11 K T D) Φ (E20 K s pd (sceV T.C_Scene T.C_Call S) (some (dat (txT (sortS ks)))) (some (caV T.C_Call S.ca)) (some (vt m)) x6 (some (vt g)) (some (caV T.C_Call (fewS S g).ca)) x9 x10 none none none none none) (M20 K s pd k')
  obtain ⟨kf, gf⟩ := greedy_ex (fewS S g) (orderF (fewS S g))
  have h2 : Ev (tCB (rAny K) (tCons (tLc (iSeq K (tVar 3)) (gName 17) (tTest (tOp (rNeU K) (tVar 17) (tVar 7))) (tOp (rIn K true) (tVar 17) (tCall (spF 1 (S_kept K T)) [] E0 (tCons (tMake T.C_Scene (spF 3 (S_Scene_init K T)) [] E0 (tCons (tFld K (tVar 2) "channels") (tCons (tVar 8) tNil))) tNil))) [17]) tNil)) (E20 K s pd (sceV T.C_Scene T.C_Call S) (some (dat (txT (sortS ks)))) (some (caV T.C_Call S.ca)) (some (vt m)) x6 (some (vt g)) (some (caV T.C_Call (fewS S g).ca)) x9 x10 none none none none none) (M20 K s pd k') (dat (.bool false)) (M20 K s pd k') := by
    refine Ev.eq (ev_cb (ea_cons (ev_lc (e := fun c : Str => vt c) (xs := sortS ks) (f := fun c => decide (c ≠ g)) (r := fun c => .bool (!decide (c ∈ sortS kf))) (ei_seqTM (ev_var (.there (.there (.there (.here)))))) (by omega) fun c hc => ⟨[some (vscr K s), some (val (.ref pd)), some (sceV T.C_Scene T.C_Call S), some (dat (txT (sortS ks))), some (caV T.C_Call S.ca), some (vt m), x6, some (vt g), some (caV T.C_Call (fewS S g).ca), x9, x10, none, none, none, none, none, none, some (vt c), none], [17], tg_name (.there (.there (.there (.there (.there (.there (.there (.there (.there (.there (.there (.there (.there (.there (.there (.there (.there (.here)))))))))))))))))), fun _ h => h, EvT.eq (et_test (ev_op (ev_var (.there (.there (.there (.there (.there (.there (.there (.there (.there (.there (.there (.there (.there (.there (.there (.there (.there (.here))))))))))))))))))) (ev_var (.there (.there (.there (.there (.there (.there (.there (.here))))))))) rv_neS)) (by rw [Bool.eq_iff_iff]; simp), fun _ => ev_op (ev_var (.there (.there (.there (.there (.there (.there (.there (.there (.there (.there (.there (.there (.there (.there (.there (.there (.there (.here))))))))))))))))))) (ev_keptOf (ea_cons (ev_scCh (ev_var (.there (.there (.here))))) (ea_cons (ev_var (.there (.there (.there (.there (.there (.there (.there (.there (.here)))))))))) ea_nil)) (few_in ok g) (few_self ok g) (few_ok ok g) gf) (rv_inS (neg := true) (.inl ist_dat))⟩) ea_nil) rc_anyM) ?_
    rw [all_in fun c hc hp => ?_]
    have hcg : c ≠ g := of_decide_eq_true hp
    refine stays ok (few_ok ok g) gr gf hc ?_ (few_blocked hcg)
    show c ∈ ky (S.ca.filter fun q => decide (q.1 ≠ g))
    rw [ky_filter S.ca fun x => decide (x ≠ g)]
    exact List.mem_filter.mpr ⟨mem_order.mp (gr.sub.subset hc), decide_eq_true hcg⟩
  apply c_cut
  refine c_if (et_B h2) (fun z => Bool.noConfusion z) fun _ => ?_
  apply c_next
  show Cont (rd_law_14 K T D) Φ _ _
  have hndg : (S.hd g).Nodup := ok.hdn g
  have hhl : (S.hd g).length ≤ 4 := by
    have := nd_len hndg fun x hx => ok.hdm hx
    rw [List.length_map] at this
    omega
  have few16 : (sK (calV T.C_Call) S.ca).length < 16777216 := by rw [len_sK]; omega
  -- a worthier call
  walk_at "seq"
  refine c_asgR (er_dictD (ev_var (.there (.there (.there (.there (.here)))))) isdi_z) ?_
  rintro y N ⟨p, rfl, rfl⟩
  refine asgR_k (.there (.there (.there (.there (.there (.there (.there (.there (.there (.here)))))))))) ?_
  show Cont (rd_law_15 K T D) Φ (E20 K s pd (sceV T.C_Scene T.C_Call S) (some (dat (txT (sortS ks)))) (some (caV T.C_Call S.ca)) (some (vt m)) x6 (some (vt g)) (some (caV T.C_Call (fewS S g).ca)) (some (val (.ref p))) x10 none none none none none) _
  walk_at "seq"
  refine c_dputR (er_call2 (w := wOf S g + 1) (hd := S.hd g) (ea_cons (ev_op (ev_caW (ev_var (.there (.there (.there (.there (.here)))))) (ev_var (.there (.there (.there (.there (.there (.there (.there (.here))))))))) hg) ev_int rv_addI) (ea_cons (ev_caH (ev_var (.there (.there (.there (.there (.here)))))) (ev_var (.there (.there (.there (.there (.there (.there (.there (.here))))))))) hg) ea_nil)) (.inl rfl) (by omega)) ?_
  rintro y N ⟨rfl, rfl⟩
  refine ⟨p, sK (calV T.C_Call) S.ca, .inr g, _, _, (p, cD (sK (calV T.C_Call) (pt S.ca g ⟨wOf S g + 1, sortS (S.hd g)⟩))) :: M20 K s pd k', (ev_var (.there (.there (.there (.there (.there (.there (.there (.there (.there (.here))))))))))), (ev_var (.there (.there (.there (.there (.there (.there (.there (.here))))))))), by rw [put_sK]; exact .here, few16, ?_⟩
  show Cont (rd_law_16 K T D) Φ _ _
  apply c_cut
  refine law_other (T := T) (D := _) (u := _) (v := _) ok gr hg (by show 0 ≤ wOf S g + 1; omega) (by show wOf S g + 1 ≤ 1000; omega) ((sortS_perm _).nodup_iff.mpr hndg) (fun x hx => ok.hdm ((sortS_perm _).mem_iff.mp hx)) (by show wOf S g ≤ wOf S g + 1; omega) (fun x hx => (sortS_perm _).mem_iff.mpr hx) (ev_var (.there (.there (.there (.there (.there (.there (.there (.here))))))))) (ev_var (.there (.there (.there (.here))))) (ev_scCh (ev_var (.there (.there (.here))))) (ev_var (.there (.there (.there (.there (.there (.there (.there (.there (.there (.here))))))))))) fun N hN _ => c_dropC hN ?_
  apply c_next
  show Cont (rd_law_19 K T D) Φ _ _
  -- a call that one more hears
  walk_at "seq"
  refine c_asgR (er_dictD (ev_var (.there (.there (.there (.there (.here)))))) isdi_z) ?_
  rintro y N ⟨p2, rfl, rfl⟩
  refine asgR_k (.there (.there (.there (.there (.there (.there (.there (.there (.there (.there (.here))))))))))) ?_
  show Cont (rd_law_20 K T D) Φ (E20 K s pd (sceV T.C_Scene T.C_Call S) (some (dat (txT (sortS ks)))) (some (caV T.C_Call S.ca)) (some (vt m)) x6 (some (vt g)) (some (caV T.C_Call (fewS S g).ca)) (some (val (.ref p))) (some (val (.ref p2))) none none none none none) _
  obtain ⟨wd, wd1, wd2⟩ : ∃ wd : List Str, wd.Nodup ∧ ∀ x, x ∈ wd ↔ x ∈ S.hd g ++ [m] := by
    by_cases z : m ∈ S.hd g
    · refine ⟨S.hd g, hndg, fun x => ?_⟩
      rw [List.mem_append, List.mem_singleton]
      exact ⟨.inl, fun q => q.elim id fun e => e ▸ z⟩
    · refine ⟨S.hd g ++ [m], ?_, fun x => Iff.rfl⟩
      rw [List.nodup_append]
      exact ⟨hndg, by simp, fun a ha b hb e => z (List.mem_singleton.mp hb ▸ e ▸ ha)⟩
  have wd3 : ∀ x, x ∈ sortS wd ↔ x ∈ S.hd g ++ [m] := fun x => (sortS_perm wd).mem_iff.trans (wd2 x)
  have wd4 : (sortS wd).Nodup := (sortS_perm wd).nodup_iff.mpr wd1
  have wd5 : ∀ x ∈ sortS wd, x ∈ ky S.ch := fun x hx => by
    rcases List.mem_append.mp ((wd3 x).mp hx) with h | h
    · exact ok.hdm h
    · rw [List.mem_singleton.mp h]; exact hm
  have wdl : (sortS wd).length ≤ 4 := by
    have := nd_len wd4 wd5
    rw [List.length_map] at this
    omega
  walk_at "seq"
  refine c_dputR (er_call2 (w := wOf S g) (d := txD (sortS wd)) (hd := sortS wd) (ea_cons (ev_caW (ev_var (.there (.there (.there (.there (.here)))))) (ev_var (.there (.there (.there (.there (.there (.there (.there (.here))))))))) hg) (ea_cons (ev_sortSetX (xs := S.hd g ++ [m]) (ev_op (ev_cb (ea_cons (ev_caH (ev_var (.there (.there (.there (.there (.here)))))) (ev_var (.there (.there (.there (.there (.there (.there (.there (.here))))))))) hg) ea_nil) (rc_lstT ist_dat)) (ev_lstD (ds := [.str m]) (ed_cons (ev_var (.there (.there (.there (.there (.there (.here))))))) ed_nil) ln1) (rv_cat isl_dat isl_dat (by rw [List.length_map]; show (S.hd g).length + 1 ≤ 16777216; omega))) (by rw [List.map_append]; exact isl_dat) (by rw [List.length_append, List.length_singleton]; omega) (sortS_idem _) wd4 wd3) ea_nil)) (.inr rfl) (by omega)) ?_
  rintro y N ⟨rfl, rfl⟩
  refine ⟨p2, sK (calV T.C_Call) S.ca, .inr g, _, _, (p2, cD (sK (calV T.C_Call) (pt S.ca g ⟨wOf S g, sortS (sortS wd)⟩))) :: M20 K s pd k', (ev_var (.there (.there (.there (.there (.there (.there (.there (.there (.there (.there (.here)))))))))))), (ev_var (.there (.there (.there (.there (.there (.there (.there (.here))))))))), by rw [put_sK]; exact .here, few16, ?_⟩
  rw [sortS_idem]
  show Cont (rd_law_21 K T D) Φ _ _
  refine law_other (T := T) (D := _) (u := _) (v := _) ok gr hg hw0 (by show wOf S g ≤ 1000; omega) wd4 wd5 (Int.le_refl _) (fun x hx => (wd3 x).mpr (List.mem_append_left _ hx)) (ev_var (.there (.there (.there (.there (.there (.there (.there (.here))))))))) (ev_var (.there (.there (.there (.here))))) (ev_scCh (ev_var (.there (.there (.here))))) (ev_var (.there (.there (.there (.there (.there (.there (.there (.there (.there (.there (.here)))))))))))) fun N hN _ => c_dropC hN ?_
  apply c_next
  exact hk _ _ _ _ _
theorem law_body (T : Tx K mg) : ∀ Q ds M P Φ, ds.length = 1 → S_law K T ds M P → RtQ Q Φ P → Cont (rd_law_0 K T (fnD Q)) Φ (entry ["_law_script", "_law_draw", "_law_scene_here", "_law_lot", "_law_calls", "_law_mast", "_law_more", "_law_gone", "_law_fewer", "_law_raised", "_law_wider", "_law_lots", "_law_turn", "_law_some", "_law_one", "_law_other", "_law_many", "_law_name", "_law_call"] ds) M := by
  rintro Q ds M P Φ - ⟨s, rfl, rfl, hs, hP⟩ hQ
  show Cont _ _ [some (vscr K s), none, none, none, none, none, none, none, none, none, none, none, none, none, none, none, none, none, none] _
  walk_at "seq"
  refine c_asgR (er_lstC (ds := [vscr K s, dat (.int 0)]) (ea_cons (ev_var .here) (ea_cons ev_int ea_nil)) ln2) ?_
  rintro y N ⟨pd, rfl, rfl⟩
  refine asgR_k (.there (.here)) ?_
  show Cont (rd_law_1 K T (fnD Q)) Φ [some (vscr K s), some (val (.ref pd)), none, none, none, none, none, none, none, none, none, none, none, none, none, none, none, none, none] (M20 K s pd 0)
  walk_at "seq"
  refine c_asgR (P := fun y N => ∃ S k', ScGen 4 7 S ∧ y = sceV T.C_Scene T.C_Call S ∧ N = M20 K s pd k') (er_call (ds := [val (.ref pd), dat (.int 4), dat (.int 7)]) (ea_cons (ev_var (.there (.here))) (ea_cons ev_int (ea_cons ev_int ea_nil))) rfl ⟨s, 0, 4, 7, pd, [], rfl, by decide, by decide, by decide, rfl, fun S k' h => ⟨S, k', h, rfl, rfl⟩⟩) ?_
  rintro y N ⟨S, k, hS, rfl, rfl⟩
  refine asgR_k (.there (.there (.here))) ?_
  have ok := hS.ok
  have hlc := hS.lc
  have hlm := hS.lm
  obtain ⟨ks, gr⟩ := greedy_ex S (orderF S)
  have hsl : (sortS ks).length ≤ 7 := by
    have := gr.sub.length_le
    rw [order_len] at this
    rw [(sortS_perm _).length_eq]
    omega
  show Cont (rd_law_2 K T (fnD Q)) Φ (E20 K s pd (sceV T.C_Scene T.C_Call S) none none none none none none none none none none none none none) (M20 K s pd k)
  walk_at "seq"
  refine c_asgGR (P := Det (vtup [dat (txT (sortS ks)), caV T.C_Call S.ca]) (M20 K s pd k)) (Ev.er (ev_tupV (ds := [dat (txT (sortS ks)), caV T.C_Call S.ca]) (ea_cons (ev_call (ds := [sceV T.C_Scene T.C_Call S]) (ea_cons (ev_var (.there (.there (.here)))) ea_nil) rfl (kept_ev ok gr)) (ea_cons (ev_scCa (ev_var (.there (.there (.here))))) ea_nil)) ln2) ⟨rfl, rfl⟩) ?_
  rintro y N ⟨rfl, rfl⟩
  refine ⟨E20 K s pd (sceV T.C_Scene T.C_Call S) (some (dat (txT (sortS ks)))) (some (caV T.C_Call S.ca)) none none none none none none none none none none none, _, tg_tup istv_vtup (tgs_cons (tg_name (.there (.there (.there (.here))))) (tgs_cons (tg_name (.there (.there (.there (.there (.here)))))) tgs_nil)) rfl, ?_⟩
  show Cont (rd_law_3 K T (fnD Q)) Φ _ _
  walk_at "seq"
  have hne : ky S.ch ≠ [] := fun e => by
    have h1 := congrArg List.length e
    rw [List.length_map] at h1
    have h1 : S.ch.length = 0 := h1
    have h2 := hS.ne
    omega
  refine c_asgR (P := fun y N => ∃ m k', m ∈ ky S.ch ∧ y = vt m ∧ N = M20 K s pd k') (er_call (ds := [val (.ref pd), dat (.list ((ky S.ch).map .str))]) (ea_cons (ev_var (.there (.here))) (ea_cons (ev_cb (ea_cons (ev_scCh (ev_var (.there (.there (.here))))) ea_nil) (rc_listDZ (ks := ky S.ch) isdi_z (key_sK _ _))) ea_nil)) rfl ⟨s, k, (ky S.ch).map .str, pd, _, rfl, by simpa using hne, .here, fun x hx => ?_⟩) ?_
  · obtain ⟨m, hm, rfl⟩ := List.mem_map.mp hx
    exact ⟨m, _, hm, rfl, rfl⟩
  rintro y N ⟨m, k', hm, rfl, rfl⟩
  refine asgR_k (.there (.there (.there (.there (.there (.here)))))) ?_
  show Cont (rd_law_4 K T (fnD Q)) Φ (E20 K s pd (sceV T.C_Scene T.C_Call S) (some (dat (txT (sortS ks)))) (some (caV T.C_Call S.ca)) (some (vt m)) none none none none none none none none none none) (M20 K s pd k')
  have mk : MoreOk S [(m, 1)] := ⟨fun q hq => by
    have h1 := hS.cap q hq
    rw [lk_cons]
    by_cases e : m = q.1
    · rw [if_pos e]; show 0 ≤ (q.2 : Int) + 1 ∧ (q.2 : Int) + 1 ≤ 1000; omega
    · rw [if_neg e]; show 0 ≤ (q.2 : Int) + 0 ∧ (q.2 : Int) + 0 ≤ 1000; omega⟩
  walk_at "seq"
  have hmore : Ev (tFz (tCB (rDictP K) (tCons (tLc (iItems (tFld K (tVar 2) "channels")) (gTup K 2 (gCons (gName 14) (gCons (gName 16) gNil))) tYes (tTup (tCons (tVar 14) (tCons (tOp (rAddU K) (tVar 16) (tCB (rInt1) (tCons (tOp (rEqU K) (tVar 14) (tVar 5)) tNil))) tNil))) [14, 16]) tNil))) (E20 K s pd (sceV T.C_Scene T.C_Call S) (some (dat (txT (sortS ks)))) (some (caV T.C_Call S.ca)) (some (vt m)) none none none none none none none none none none) (M20 K s pd k') (chV (moreF S [(m, 1)]).ch) (M20 K s pd k') := by
    have h1 := ev_lcY (te := tTup (tCons (tVar 14) (tCons (tOp (rAddU K) (tVar 16) (tCB (rInt1) (tCons (tOp (rEqU K) (tVar 14) (tVar 5)) tNil))) tNil))) (g := gTup K 2 (gCons (gName 14) (gCons (gName 16) gNil))) (vs := [14, 16]) (e := fun q : Str × Nat => vtup [vt q.1, nV q.2]) (xs := S.ch) (r := fun q => encPr ((Sum.inr q.1 : L2.Key), PyData.int ((q.2 : Int) + if decide (q.1 = m) = true then 1 else 0))) (ρ := E20 K s pd (sceV T.C_Scene T.C_Call S) (some (dat (txT (sortS ks)))) (some (caV T.C_Call S.ca)) (some (vt m)) none none none none none none none none none none) (M := M20 K s pd k') (M1 := M20 K s pd k') (ei_itemsS (ev_scCh (ev_var (.there (.there (.here)))))) (by omega) fun q hq => ⟨[some (vscr K s), some (val (.ref pd)), some (sceV T.C_Scene T.C_Call S), some (dat (txT (sortS ks))), some (caV T.C_Call S.ca), some (vt m), none, none, none, none, none, none, none, none, some (vt q.1), none, some (nV q.2), none, none], _, tg_tup istv_vtup (tgs_cons (tg_name (.there (.there (.there (.there (.there (.there (.there (.there (.there (.there (.there (.there (.there (.there (.here)))))))))))))))) (tgs_cons (tg_name (.there (.there (.there (.there (.there (.there (.there (.there (.there (.there (.there (.there (.there (.there (.there (.there (.here)))))))))))))))))) tgs_nil)) rfl, by decide, ev_tupD (ds := [.str q.1, .int ((q.2 : Int) + if decide (q.1 = m) = true then 1 else 0)]) (ed_cons (ev_var (.there (.there (.there (.there (.there (.there (.there (.there (.there (.there (.there (.there (.there (.there (.here)))))))))))))))) (ed_cons (ev_op (ev_var (.there (.there (.there (.there (.there (.there (.there (.there (.there (.there (.there (.there (.there (.there (.there (.there (.here)))))))))))))))))) (ev_cb (ea_cons (ev_op (ev_var (.there (.there (.there (.there (.there (.there (.there (.there (.there (.there (.there (.there (.there (.there (.here)))))))))))))))) (ev_var (.there (.there (.there (.there (.there (.here))))))) rv_eqS) ea_nil) rc_intB) rv_addI) ed_nil)) ln2⟩
    have e1 : S.ch.map (fun q => encPr ((Sum.inr q.1 : L2.Key), PyData.int ((q.2 : Int) + if decide (q.1 = m) = true then 1 else 0))) = (S.ch.map fun q => ((Sum.inr q.1 : L2.Key), PyData.int ((q.2 : Int) + if decide (q.1 = m) = true then 1 else 0))).map encPr := by rw [List.map_map]; rfl
    rw [e1] at h1
    refine Ev.eq (ev_fzDic (ea_cons h1 ea_nil)) ?_
    have e2 : dKs (S.ch.map fun q => ((Sum.inr q.1 : L2.Key), PyData.int ((q.2 : Int) + if decide (q.1 = m) = true then 1 else 0))) = sK nV (moreF S [(m, 1)]).ch := by
      unfold dKs sK moreF
      rw [List.map_map, List.map_map]
      apply List.map_congr_left
      intro q hq
      have h0 := mk.fit q hq
      show ((Sum.inr q.1 : L2.Key), dat (.int ((q.2 : Int) + if decide (q.1 = m) = true then 1 else 0))) = (Sum.inr q.1, nV (addI q.2 ((lk [(m, (1 : Int))] q.1).getD 0)))
      have h3 : ((q.2 : Int) + if decide (q.1 = m) = true then 1 else 0) = ((addI q.2 ((lk [(m, (1 : Int))] q.1).getD 0) : Nat) : Int) := by
        unfold addI
        rw [lk_cons]
        by_cases e : m = q.1
        · rw [if_pos e, decide_eq_true e.symm, if_pos rfl]; show (q.2 : Int) + 1 = (((q.2 : Int) + 1).toNat : Int); omega
        · rw [if_neg e, decide_eq_false (fun z => e z.symm), if_neg Bool.false_ne_true]; show (q.2 : Int) + 0 = (((q.2 : Int) + 0).toNat : Int); omega
      rw [h3]
    rw [e2]
    have := merge_sK nV (moreF S [(m, 1)]).ch [] (by rw [List.nil_append, ky_more]; exact ok.nm)
    exact congrArg vdz this
  refine c_asg hmore (.there (.there (.there (.there (.there (.there (.here))))))) ?_
  show Cont (rd_law_5 K T (fnD Q)) Φ (E20 K s pd (sceV T.C_Scene T.C_Call S) (some (dat (txT (sortS ks)))) (some (caV T.C_Call S.ca)) (some (vt m)) (some (chV (moreF S [(m, 1)]).ch)) none none none none none none none none none) (M20 K s pd k')
  obtain ⟨kf, gf⟩ := greedy_ex (moreF S [(m, 1)]) (orderF (moreF S [(m, 1)]))
  have okm := more_ok ok mk
  have h2 : Ev (tCB (rAny K) (tCons (tLc (iSeq K (tVar 3)) (gName 17) tYes (tOp (rIn K true) (tVar 17) (tCall (spF 1 (S_kept K T)) [] E0 (tCons (tMake T.C_Scene (spF 3 (S_Scene_init K T)) [] E0 (tCons (tVar 6) (tCons (tVar 4) tNil))) tNil))) [17]) tNil)) (E20 K s pd (sceV T.C_Scene T.C_Call S) (some (dat (txT (sortS ks)))) (some (caV T.C_Call S.ca)) (some (vt m)) (some (chV (moreF S [(m, 1)]).ch)) none none none none none none none none none) (M20 K s pd k') (dat (.bool false)) (M20 K s pd k') := by
    refine Ev.eq (ev_cb (ea_cons (ev_lcY (e := fun c : Str => vt c) (xs := sortS ks) (r := fun c => .bool (!decide (c ∈ sortS kf))) (ei_seqTM (ev_var (.there (.there (.there (.here)))))) (by omega) fun c hc => ⟨[some (vscr K s), some (val (.ref pd)), some (sceV T.C_Scene T.C_Call S), some (dat (txT (sortS ks))), some (caV T.C_Call S.ca), some (vt m), some (chV (moreF S [(m, 1)]).ch), none, none, none, none, none, none, none, none, none, none, some (vt c), none], [17], tg_name (.there (.there (.there (.there (.there (.there (.there (.there (.there (.there (.there (.there (.there (.there (.there (.there (.there (.here)))))))))))))))))), fun _ h => h, ev_op (ev_var (.there (.there (.there (.there (.there (.there (.there (.there (.there (.there (.there (.there (.there (.there (.there (.there (.there (.here))))))))))))))))))) (ev_keptOf (ea_cons (ev_var (.there (.there (.there (.there (.there (.there (.here)))))))) (ea_cons (ev_var (.there (.there (.there (.there (.here)))))) ea_nil)) (more_in ok mk) (more_self ok) okm gf) (rv_inS (neg := true) (.inl ist_dat))⟩) ea_nil) rc_anyM) ?_
    have := all_in (ks := ks) (ks' := kf) (p := fun _ => true) fun c hc _ => stays ok okm gr gf hc (mem_order.mp (gr.sub.subset hc)) up_blocked
    rw [List.filter_eq_self.mpr fun _ _ => rfl] at this
    rw [this]
  apply c_cut
  refine c_if (et_B h2) (fun z => Bool.noConfusion z) fun _ => ?_
  apply c_next
  show Cont (rd_law_8 K T (fnD Q)) Φ _ _
  apply c_cut
  refine c_if (b := !(sK (calV T.C_Call) S.ca).isEmpty) (et_test (ev_op (ev_var (.there (.there (.there (.there (.here)))))) ev_dnewK (rv_neEz isdi_z))) (fun hb => ?_) fun _ => ?_
  · refine law_gone hS gr hm (fun e => ?_) fun k x7 x8 x9 x10 => law_rest hS hQ hP
    have : S.ca = [] := List.map_eq_nil_iff.mp e
    rw [this] at hb
    cases hb
  · apply c_next
    exact law_rest hS hQ hP
end

end Lw


set_option Elab.async false
set_option linter.all false
set_option maxRecDepth 100000
set_option maxHeartbeats 4000000
namespace Lw
open PySem L2 Sx
/-! ### steps -/
local macro_rules | `(tactic| walk_at "shp") => `(tactic| first
  | exact shp_int
  | exact shp_none
  | exact shp_bool
  | exact shp_oi _
  | (apply shp_str; first | decide +kernel | assumption)
  | (apply shp_list; walk_at "shpA")
  | (apply shp_tuple; walk_at "shpA")
  | assumption)
local macro_rules | `(tactic| walk_at "shpA") => `(tactic| first
  | exact shpA_nil
  | (apply shpA_cons; (· walk_at "shp"); walk_at "shpA")
  | (apply shpA_map; intro _ _; walk_at "shp"))
/-- what is left beside: closed, or left -/
local macro_rules | `(tactic| walk_at "side") => `(tactic| first
  | (with_reducible show Shp _ _); walk_at "shp"
  | (with_reducible show _ ≤ sizeLine); first | decide | (show _ ≤ 16777216; omega) | (show _ ≤ 16777216; simp only [List.length_map, List.length_append, List.length_cons, List.length_nil]; omega)
  | (with_reducible show _ < sizeLine); first | decide | (show _ < 16777216; omega) | (show _ < 16777216; simp only [List.length_map, List.length_append, List.length_cons, List.length_nil]; omega)
  | (with_reducible show CMul _ _); first | exact Or.inr ⟨by decide, by decide⟩ | exact Or.inl ⟨by decide, by decide⟩ | exact Or.inl ⟨by omega, by omega⟩ | exact Or.inr ⟨by omega, by omega⟩
  | (with_reducible show CPow _ _); exact ⟨by decide, by decide, by decide⟩
  | (with_reducible show CDiv _ _); first | exact ⟨by decide, by decide⟩ | exact ⟨by omega, by omega⟩
  | (with_reducible show Le _ _); first | with_reducible exact Le.refl _ | with_reducible assumption
  | (with_reducible show L2.atI _ _ = _); first | with_reducible assumption | exact rfl | exact atI_nat rfl
  | (with_reducible show _ < _); first | with_reducible assumption | decide | omega
  | (with_reducible show _ ≤ _); first | with_reducible assumption | decide | omega
  | (with_reducible show _ ∧ _); omega
  | (with_reducible show ∀ i, i ∈ _ → i ∈ _); decide
  | (with_reducible show (_ : Nat) = _); first | exact rfl | omega)
local macro_rules | `(tactic| walk_at "rm") => `(tactic| first
  | exact Rm.here
  | (apply Rm.there; walk_at "rm"))
local macro_rules | `(tactic| walk_at "perm") => `(tactic| first
  | with_reducible exact List.Perm.refl _
  | (apply perm_step; (· walk_at "rm"); walk_at "perm")
  | exact List.Perm.refl _)
local macro_rules | `(tactic| walk_at "pk") => `(tactic| first
  | with_reducible exact Pk.here
  | ((with_reducible apply Pk.there); walk_at "pk"))
/-- a part of a reading: what it gives. One word for all kinds -/
local macro_rules | `(tactic| walk_at "sx") => `(tactic| first
  -- an expression
  | with_reducible exact ev_int
  | with_reducible exact ev_bl
  | with_reducible exact ev_str
  | with_reducible exact ev_non
  | (with_reducible apply ev_var) <;> walk_at "sx"
  | (with_reducible apply ev_op) <;> walk_at "sx"
  | (with_reducible apply ev_fld) <;> walk_at "sx"
  | (with_reducible apply ev_cb) <;> walk_at "sx"
  | (with_reducible apply ev_tupD) <;> walk_at "sx"
  | (with_reducible apply ev_lstD) <;> walk_at "sx"
  | (with_reducible apply ev_tupV) <;> walk_at "sx"
  | (with_reducible apply ev_lstV) <;> walk_at "sx"
  | (with_reducible apply ev_slL) <;> walk_at "sx"
  | (with_reducible apply ev_slT1) <;> walk_at "sx"
  | (with_reducible apply ev_slT) <;> walk_at "sx"
  | (with_reducible apply ev_un) <;> walk_at "sx"
  | (with_reducible apply ev_chain) <;> walk_at "sx"
  | (with_reducible apply ev_andV) <;> walk_at "sx"
  | (with_reducible apply ev_orV) <;> walk_at "sx"
  | (with_reducible apply ev_notV) <;> walk_at "sx"
  | (with_reducible apply ev_lcY) <;> walk_at "sx"
  | (with_reducible apply ev_lc) <;> walk_at "sx"
  | ((with_reducible show ∀ a, a ∈ _ → ∃ ρ'' js, _); intro a ha; dsimp only [wipeE, List.set]; (first | with_reducible apply lcY_k | with_reducible apply lcF_k) <;> walk_at "sx")
  | (with_reducible apply ev_call) <;> walk_at "sx"
  | (with_reducible apply ev_meth) <;> walk_at "sx"
  | (with_reducible apply ev_bm) <;> walk_at "sx"
  | (with_reducible show Ev _ _ _ _ _); walk_at "own"
  -- a test
  | with_reducible exact et_yes
  | (with_reducible apply et_test) <;> walk_at "sx"
  | (with_reducible apply et_B) <;> walk_at "sx"
  | (with_reducible apply et_not) <;> walk_at "sx"
  | (with_reducible apply et_and) <;> walk_at "sx"
  | (with_reducible apply et_or) <;> walk_at "sx"
  -- arguments
  | with_reducible exact ea_nil
  | (with_reducible apply ea_cons) <;> walk_at "sx"
  | with_reducible exact ed_nil
  | (with_reducible apply ed_cons) <;> walk_at "sx"
  | with_reducible exact eo_none
  | (with_reducible apply eo_some) <;> walk_at "sx"
  -- what an operation gives
  | with_reducible exact rv_addI
  | with_reducible exact rv_int0
  | with_reducible exact rv_bl0
  | with_reducible exact rv_eqI
  | with_reducible exact rv_neI
  | with_reducible exact rv_eqS
  | with_reducible exact rv_neS
  | with_reducible exact rv_isN
  | with_reducible exact rv_notN
  | (with_reducible apply rv_intC) <;> walk_at "sx"
  | (with_reducible apply rv_addS) <;> walk_at "sx"
  | (with_reducible apply rv_ixL isl_dat) <;> walk_at "sx"
  | (with_reducible apply rv_ixT ist_dat) <;> walk_at "sx"
  | (with_reducible apply rv_ixL) <;> walk_at "sx"
  | (with_reducible apply rv_ixLV) <;> walk_at "sx"
  | (apply rv_ixT ist_dat) <;> walk_at "sx"
  | (with_reducible apply rv_ixTV istv_vtup) <;> walk_at "sx"
  | (with_reducible apply rv_ixScr) <;> walk_at "sx"
  | (apply rv_ixL isl_dat) <;> walk_at "sx"
  | (with_reducible apply rv_ixL) <;> walk_at "sx"
  | (apply rv_cat) <;> walk_at "sx"
  | (with_reducible apply rv_eqD) <;> walk_at "sx"
  | (with_reducible apply rv_neD) <;> walk_at "sx"
  | with_reducible exact ru_neg
  | with_reducible exact rc_int
  | with_reducible exact rc_abs
  | with_reducible exact rc_max2
  | with_reducible exact rc_min2
  | with_reducible exact rc_lenScr
  | with_reducible exact rc_lenM isl_dat
  | ((with_reducible apply rc_lenM); (with_reducible apply isl_cell) <;> walk_at "sx")
  | with_reducible exact rc_lenMT
  | (with_reducible apply rc_lenL) <;> walk_at "sx"
  | (apply rc_lenT ist_dat)
  | (with_reducible apply rc_tupL) <;> walk_at "sx"
  | (apply rc_tupT)
  | (with_reducible apply rc_lstL) <;> walk_at "sx"
  | (apply rc_lstT ist_dat)
  | with_reducible exact rc_anyM
  | with_reducible exact rc_allM
  | ((with_reducible apply rm_append) <;> walk_at "sx")
  -- lists, tuples, data
  | with_reducible exact isl_dat
  | with_reducible exact isd_dat
  | with_reducible exact isd_scr
  | (with_reducible apply isl_cell) <;> walk_at "sx"
  | (with_reducible apply islv_cell) <;> walk_at "sx"
  | with_reducible exact islv_vlst
  | (with_reducible apply isd_cell) <;> walk_at "sx"
  | (with_reducible apply isd_vtup) <;> walk_at "sx"
  | (with_reducible apply isd_vlst) <;> walk_at "sx"
  | with_reducible exact isds_nil
  | (with_reducible apply isds_cons) <;> walk_at "sx"
  | with_reducible exact fzl_dat
  | with_reducible exact fzl_v
  | with_reducible exact fzt_dat
  | with_reducible exact fzt_v
  | (with_reducible apply ity_l) <;> walk_at "sx"
  | with_reducible exact ity_s
  | (with_reducible apply IsLst.v) <;> walk_at "sx"
  -- places
  | with_reducible exact At.here
  | (with_reducible apply At.there) <;> walk_at "sx"
  | with_reducible exact SetAt.here
  | (with_reducible apply SetAt.there) <;> walk_at "sx"
  | with_reducible exact List.mem_cons_self
  | (with_reducible apply List.mem_cons_of_mem) <;> walk_at "sx"
  | ((with_reducible show (_ : Addr × CD) ∈ _); with_reducible assumption)
  | with_reducible exact Put.here
  | (with_reducible apply Put.there) <;> walk_at "sx"
  | ((with_reducible show Put _ _ _ _ _); with_reducible assumption)
  | ((with_reducible show Sw _ _ _ _); with_reducible assumption)
  | with_reducible exact sw_nil
  | ((with_reducible apply sw_pick); (· walk_at "pk"); walk_at "sx")
  | ((with_reducible apply sw_skip); walk_at "sx")
  | with_reducible exact FGet.here
  | ((with_reducible apply FGet.there); (· decide +kernel); walk_at "sx")
  | with_reducible exact FPut.here
  | with_reducible exact FPut.new
  | ((with_reducible apply FPut.there); (· decide +kernel); walk_at "sx")
  | (with_reducible show ClsF _ _ _); with_reducible assumption
  | (with_reducible show RtQ _ _ _); assumption
  | (with_reducible show (_ : Str) ∈ _); decide +kernel
  | (with_reducible show ¬ (_ : Str) ∈ _); decide +kernel
  -- what is walked, targets
  | (with_reducible apply ei_rng1) <;> walk_at "sx"
  | (with_reducible apply ei_rng2) <;> walk_at "sx"
  | (with_reducible apply ei_enumD) <;> walk_at "sx"
  | (with_reducible apply ei_enum) <;> walk_at "sx"
  | (with_reducible apply ei_zip) <;> walk_at "sx"
  | (with_reducible apply ei_seqLM) <;> walk_at "sx"
  | (with_reducible apply ei_seqTM) <;> walk_at "sx"
  | (with_reducible apply ei_seqL) <;> walk_at "sx"
  | (with_reducible apply ei_seqT) <;> walk_at "sx"
  | (with_reducible apply tg_name) <;> walk_at "sx"
  | (with_reducible apply tg_tup istv_vtup) <;> walk_at "sx"
  | (with_reducible apply td_tup) <;> walk_at "sx"
  | with_reducible exact td_nil
  | (with_reducible apply td_cons) <;> walk_at "sx"
  | with_reducible exact tgs_nil
  | (with_reducible apply tgs_cons) <;> walk_at "sx"
  -- beside
  | walk_at "spec"
  | walk_at "side"
  | walk_at "leave")
/-- a question of another kind is left -/
local macro_rules | `(tactic| walk_at "leave") => `(tactic| first
  | with_reducible show Cont _ _ _ _
  | with_reducible show Shp _ _
  | with_reducible show _ ≤ _
  | with_reducible show _ < _
  | with_reducible show CMul _ _
  | with_reducible show CDiv _ _
  | with_reducible show CPow _ _
  | with_reducible show _ = _
  | with_reducible show Le _ _
  | ((with_reducible show _ = true → _); with_reducible assumption)
  | ((with_reducible show _ = true → _); intro _; walk_at "sx")
  | ((with_reducible show _ = false → _); intro _; walk_at "sx"))
/-- a plain statement -/
local macro_rules | `(tactic| walk_at "st") => `(tactic| first
  | (with_reducible apply c_seq); walk_at "st"
  | (with_reducible apply c_asg) <;> (first | walk_at "sx" | skip)
  | (with_reducible apply c_asgG) <;> (first | walk_at "sx" | skip)
  | (with_reducible apply c_par) <;> (first | walk_at "sx" | skip)
  | (with_reducible apply c_par3) <;> (first | walk_at "sx" | skip)
  | (with_reducible apply c_aug) <;> (first | walk_at "sx" | skip)
  | (with_reducible apply c_augS) <;> (first | walk_at "sx" | skip)
  | (with_reducible apply c_fld) <;> (first | walk_at "sx" | skip)
  | (with_reducible apply c_drop) <;> (first | walk_at "sx" | skip)
  | with_reducible apply c_next
  | with_reducible apply c_break
  | with_reducible apply c_cont)
/-- a value is handed back; a word is met again -/
local macro_rules | `(tactic| walk_at "ret") => `(tactic| (with_reducible apply c_ret) <;> (first | walk_at "sx" | skip))
local macro_rules | `(tactic| walk_at "inv") => `(tactic| (with_reducible apply c_inv) <;> (first | walk_at "side" | skip))
local macro_rules | `(tactic| walk_at "seq") => `(tactic| with_reducible apply c_seq)
local macro_rules | `(tactic| walk_at "cut") => `(tactic| with_reducible apply c_cut)
local macro_rules | `(tactic| walk_at "if") => `(tactic| ((with_reducible apply c_if); (case' h => first | walk_at "sx" | skip)))
local macro_rules | `(tactic| walk_at "fgt") => `(tactic| first
  | exact Fgt.nil
  | (with_reducible apply Fgt.keep; walk_at "fgt")
  | (with_reducible apply Fgt.drop; walk_at "fgt"))

/-! ### more steps: stars, dicts, tuples -/
local macro_rules | `(tactic| walk_at "sx") => `(tactic| first
  | (with_reducible apply ed_starT) <;> walk_at "sx"
  | (with_reducible apply ev_dgetS) <;> walk_at "sx"
  | with_reducible exact isdi_v
  | (with_reducible apply isdi_c) <;> walk_at "sx"
  | (with_reducible apply rv_catTd) <;> walk_at "sx"
  | with_reducible exact ist_dat
  | ((with_reducible show ¬ (_ : Int) < _); with_reducible assumption)
  | ((with_reducible show valG _ _ = _); walk_at "get")
  | ((with_reducible show putG _ _ _ = _); walk_at "get"))

theorem ok_Seats_init {w : World} {K : PySem.W.Frag} {mg : Str → Option Value} {base : Heap} (T : Tx K mg)
    (R : ∀ Q ds M P Φ, ds.length = 2 → S_Seats_init K T ds M P → RtQ Q Φ P → Cont (rd_Seats_init_0 K T (fnD Q)) Φ (entry ["self", "scene", "mast"] ds) M) :
    FnOk T.Pg w K mg base CX0 1 T.f_Seats_init T.fd_Seats_init ["self", "scene"] (spF 2 (S_Seats_init K T)) := by
  refine T.F_Seats_init.ok sc_Seats_init (fun vs H Q E h => spF_len h) fun cdv A outer s H vs Q E hr h => ⟨(rd_Seats_init_0 K T), ?_, fn_start h (R Q)⟩
  exact (pss_cons (ps_fld (pv 0) (pv 1) rfl)
      (pss_cons (ps_fld (pv 0) pe_dnewK rfl)
      (pss_one (ps_fld (pv 0) (pe_dc (own := [("mast", 2)]) (g := (gName 2)) (tt := tYes) rfl sc_Seats_init.nd (pi_keys (pe_fld (pv 1) rfl)) (blkOk_by (own := [("mast", 2)]) (N := ["self", "scene", "mast"]) (sc := defScope s_Seats_init) (by decide +kernel)) (fun _ _ _ _ _ => (pg_name (i := 2) sc_Seats_init.nd rfl (by first | exact Or.inl rfl | exact Or.inr rfl))) (fun _ _ _ _ _ => pts_nil) (fun _ _ _ _ _ => (pv 2)) (fun _ _ _ _ _ => (pe_lst pa_nil))) rfl))))
theorem ok_Seats_sit {w : World} {K : PySem.W.Frag} {mg : Str → Option Value} {base : Heap} (T : Tx K mg)
    (R : ∀ Q ds M P Φ, ds.length = 3 → S_Seats_sit K T ds M P → RtQ Q Φ P → Cont (rd_Seats_sit_0 K T (fnD Q)) Φ (entry ["self", "name", "mast", "old"] ds) M) :
    FnOk T.Pg w K mg base CX0 1 T.f_Seats_sit T.fd_Seats_sit ["self", "name", "mast"] (spF 3 (S_Seats_sit K T)) := by
  refine T.F_Seats_sit.ok sc_Seats_sit (fun vs H Q E h => spF_len h) fun cdv A outer s H vs Q E hr h => ⟨(rd_Seats_sit_0 K T), ?_, fn_start h (R Q)⟩
  exact (pss_cons (ps_set (i := 3) sc_Seats_sit.nd rfl (by first | exact Or.inl rfl | exact Or.inr rfl) (pe_dget1 (hu_of hr) (pe_fld (pv 0) rfl) (pv 1) ⟨rfl, rfl, rfl, rfl⟩))
      (Evl.pss_cut (ps_if (pt_cmpR op_notN' (pv 3) pe_non (nomark _))
      (pss_one (ps_expr (pe_bm PySem.F.plainAttrs_list PySem.F.slot_list_remove PySem.F.type_list_remove mt_remS (pe_dget (hu_of hr) (pe_fld (pv 0) rfl) (pv 3) (fun _ _ => rfl)) (pa_cons (pv 1) pa_nil))))
      pss_nil)
      (pss_cons (ps_dput (hu_of hr) (pe_fld (pv 0) rfl) (pv 1) (pv 2) rfl)
      (pss_one (ps_expr (pe_bm PySem.F.plainAttrs_list PySem.F.slot_list_append PySem.F.type_list_append mt_append (pe_dget (hu_of hr) (pe_fld (pv 0) rfl) (pv 2) (fun _ _ => rfl)) (pa_cons (pv 1) pa_nil)))))))
theorem ok_Seats_has_room {w : World} {K : PySem.W.Frag} {mg : Str → Option Value} {base : Heap} (T : Tx K mg)
    (R : ∀ Q ds M P Φ, ds.length = 2 → S_Seats_has_room K T ds M P → RtQ Q Φ P → Cont (rd_Seats_has_room_0 K T (fnD Q)) Φ (entry ["self", "mast"] ds) M) :
    FnOk T.Pg w K mg base CX0 1 T.f_Seats_has_room T.fd_Seats_has_room ["self", "mast"] (spF 2 (S_Seats_has_room K T)) := by
  refine T.F_Seats_has_room.ok sc_Seats_has_room (fun vs H Q E h => spF_len h) fun cdv A outer s H vs Q E hr h => ⟨(rd_Seats_has_room_0 K T), ?_, fn_start h (R Q)⟩
  exact (pss_one (ps_ret (pe_cmpR op_lt (pe_callB call_lenU (by rfl) T.no_len PySem.boot_len (pa_cons (pe_dget (hu_of hr) (pe_fld (pv 0) rfl) (pv 1) (fun _ _ => rfl)) pa_nil)) (pe_dget (hu_of hr) (pe_fld (pe_fld (pv 0) rfl) rfl) (pv 1) (fun _ _ => rfl)) (nomark _))))
theorem ok_Seats_ways_from {w : World} {K : PySem.W.Frag} {mg : Str → Option Value} {base : Heap} (T : Tx K mg)
    (G_Seats_has_room : FnOk T.Pg w K mg base CX0 1 T.f_Seats_has_room T.fd_Seats_has_room ["self", "mast"] (spF 2 (S_Seats_has_room K T)))
    (R : ∀ Q ds M P Φ, ds.length = 2 → S_Seats_ways_from K T ds M P → RtQ Q Φ P → Cont (rd_Seats_ways_from_0 K T (fnD Q)) Φ (entry ["self", "name", "came", "rest", "one", "mast"] ds) M) :
    FnOk T.Pg w K mg base CX0 2 T.f_Seats_ways_from T.fd_Seats_ways_from ["self", "name"] (spF 2 (S_Seats_ways_from K T)) := by
  refine T.F_Seats_ways_from.ok sc_Seats_ways_from (fun vs H Q E h => spF_len h) fun cdv A outer s H vs Q E hr h => ⟨(rd_Seats_ways_from_0 K T), ?_, fn_start h (R Q)⟩
  exact (pss_cons (ps_par (i := 2) (j := 3) (by rfl) sc_Seats_ways_from.nd rfl rfl (by decide) rfl rfl (pa_cons pe_dnewK (pa_cons (pe_lst (pa_cons (pv 1) pa_nil)) pa_nil)) (by rfl))
      (Evl.pss_cut (ps_while PassesOwn.never (pt_cmpR (op_neEl hr.units) (pv 3) (pe_lst pa_nil) (nomark _))
      (pss_cons (ps_set (i := 4) sc_Seats_ways_from.nd rfl (by first | exact Or.inl rfl | exact Or.inr rfl) (pe_bm PySem.F.plainAttrs_list PySem.F.slot_list_pop PySem.F.type_list_pop mt_popAt (pv 3) (pa_cons pe_int pa_nil)))
      (pss_one (ps_for PassesOwn.never rfl (pi_seq (pe_fld (pe_dget (hu_of hr) (pe_fld (pe_fld (pv 0) rfl) rfl) (pv 4) (fun _ _ => rfl)) rfl)) (pg_name (i := 5) sc_Seats_ways_from.nd rfl (by first | exact Or.inl rfl | exact Or.inr rfl))
      (pss_one (ps_if (pt_cmp (pc_dnotin (hu_of hr) (pv 5) (pv 2)))
      (pss_cons (ps_dput (hu_of hr) (pv 2) (pv 5) (pv 4) rfl)
      (Evl.pss_cut (ps_if (pt_val (pe_meth (pv 0) T.F_Seats.cl T.m_Seats_has_room (G_Seats_has_room) (hr.mono (by decide)) T.b_Seats_has_room .nil pass0 (pa_cons (pv 5) pa_nil)))
      (pss_one (ps_ret (pe_tup (pa_cons (pv 2) (pa_cons (pv 5) pa_nil)))))
      pss_nil)
      (pss_one (ps_expr (pe_bm PySem.F.plainAttrs_list PySem.F.slot_list_extend PySem.F.type_list_extend mt_extend (pv 3) (pa_cons (pe_dget (hu_of hr) (pe_fld (pv 0) rfl) (pv 5) (fun _ _ => rfl)) pa_nil))))))
      pss_nil))))))
      (pss_one (ps_ret (pe_tup (pa_cons (pv 2) (pa_cons pe_non pa_nil)))))))
theorem ok_Seats_add {w : World} {K : PySem.W.Frag} {mg : Str → Option Value} {base : Heap} (T : Tx K mg)
    (G_Seats_sit : FnOk T.Pg w K mg base CX0 1 T.f_Seats_sit T.fd_Seats_sit ["self", "name", "mast"] (spF 3 (S_Seats_sit K T)))
    (G_Seats_ways_from : FnOk T.Pg w K mg base CX0 2 T.f_Seats_ways_from T.fd_Seats_ways_from ["self", "name"] (spF 2 (S_Seats_ways_from K T)))
    (R : ∀ Q ds M P Φ, ds.length = 2 → S_Seats_add K T ds M P → RtQ Q Φ P → Cont (rd_Seats_add_0 K T (fnD Q)) Φ (entry ["self", "name", "came", "mast", "one", "before"] ds) M) :
    FnOk T.Pg w K mg base CX0 3 T.f_Seats_add T.fd_Seats_add ["self", "name"] (spF 2 (S_Seats_add K T)) := by
  refine T.F_Seats_add.ok sc_Seats_add (fun vs H Q E h => spF_len h) fun cdv A outer s H vs Q E hr h => ⟨(rd_Seats_add_0 K T), ?_, fn_start h (R Q)⟩
  exact (pss_cons (ps_asg (pe_meth (pv 0) T.F_Seats.cl T.m_Seats_ways_from (G_Seats_ways_from) (hr.mono (by decide)) T.b_Seats_ways_from .nil pass0 (pa_cons (pv 1) pa_nil)) (pg_tup rfl (pgs_cons (pg_name (i := 2) sc_Seats_add.nd rfl (by first | exact Or.inl rfl | exact Or.inr rfl)) (pgs_cons (pg_name (i := 3) sc_Seats_add.nd rfl (by first | exact Or.inl rfl | exact Or.inr rfl)) pgs_nil))))
      (Evl.pss_cut (ps_if (pt_cmpR op_isN' (pv 3) pe_non (nomark _))
      (pss_one (ps_ret pe_bl))
      pss_nil)
      (Evl.pss_cut (ps_while PassesOwn.never (pt_cmpR op_notN' (pv 3) pe_non (nomark _))
      (pss_cons (ps_set (i := 4) sc_Seats_add.nd rfl (by first | exact Or.inl rfl | exact Or.inr rfl) (pe_dget (hu_of hr) (pv 2) (pv 3) (fun _ _ => rfl)))
      (pss_cons (ps_set (i := 5) sc_Seats_add.nd rfl (by first | exact Or.inl rfl | exact Or.inr rfl) (pe_dget1 (hu_of hr) (pe_fld (pv 0) rfl) (pv 4) ⟨rfl, rfl, rfl, rfl⟩))
      (pss_cons (ps_expr (pe_meth (pv 0) T.F_Seats.cl T.m_Seats_sit (G_Seats_sit) (hr.mono (by decide)) T.b_Seats_sit .nil pass0 (pa_cons (pv 4) (pa_cons (pv 3) pa_nil))))
      (pss_one (ps_set (i := 3) sc_Seats_add.nd rfl (by first | exact Or.inl rfl | exact Or.inr rfl) (pv 5)))))))
      (pss_one (ps_ret pe_bl)))))
theorem ok_Seats_lot_against {w : World} {K : PySem.W.Frag} {mg : Str → Option Value} {base : Heap} (T : Tx K mg)
    (G_Seats_ways_from : FnOk T.Pg w K mg base CX0 2 T.f_Seats_ways_from T.fd_Seats_ways_from ["self", "name"] (spF 2 (S_Seats_ways_from K T)))
    (R : ∀ Q ds M P Φ, ds.length = 2 → S_Seats_lot_against K T ds M P → RtQ Q Φ P → Cont (rd_Seats_lot_against_0 K T (fnD Q)) Φ (entry ["self", "name", "came", "found", "mast", "one"] ds) M) :
    FnOk T.Pg w K mg base CX0 3 T.f_Seats_lot_against T.fd_Seats_lot_against ["self", "name"] (spF 2 (S_Seats_lot_against K T)) := by
  refine T.F_Seats_lot_against.ok sc_Seats_lot_against (fun vs H Q E h => spF_len h) fun cdv A outer s H vs Q E hr h => ⟨(rd_Seats_lot_against_0 K T), ?_, fn_start h (R Q)⟩
  exact (pss_cons (ps_set (i := 2) sc_Seats_lot_against.nd rfl (by first | exact Or.inl rfl | exact Or.inr rfl) (pe_ix ix_seq (pe_meth (pv 0) T.F_Seats.cl T.m_Seats_ways_from (G_Seats_ways_from) (hr.mono (by decide)) T.b_Seats_ways_from .nil pass0 (pa_cons (pv 1) pa_nil)) pe_int (fun _ _ => rfl)))
      (pss_cons (ps_setLc2 (i := 3) (own := [("mast", 4), ("one", 5)]) (g := (gName 4)) (tt := tYes) (g1 := (gName 5)) (tt1 := tYes) rfl sc_Seats_lot_against.nd rfl rfl (sw_true rfl rfl rfl (by decide +kernel)) (pi_keys (pe_fz (pv 2))) (blkOk_by (own := [("mast", 4), ("one", 5)]) (N := ["self", "name", "came", "found", "mast", "one"]) (sc := defScope s_Seats_lot_against) (by decide +kernel)) (vs1 := [5]) (by decide) (fun _ _ _ _ _ => (pg_name (i := 4) sc_Seats_lot_against.nd rfl (by first | exact Or.inl rfl | exact Or.inr rfl))) (fun _ _ _ _ _ => pts_nil) (fun _ _ _ _ _ => (pi_seq (pe_dget (hu_of hr) (pe_fld (pv 0) rfl) (pv 4) (fun _ _ => rfl)))) (fun _ _ _ _ _ => (pg_name (i := 5) sc_Seats_lot_against.nd rfl (by first | exact Or.inl rfl | exact Or.inr rfl))) (fun _ _ _ _ _ => pts_nil) (fun _ _ _ _ _ => (pv 5)))
      (pss_one (ps_ret (pe_callTy call_tuple_of' (by rfl) T.no_tuple (by decide +kernel) (pa_cons (pe_callB cr_sortedS (by rfl) T.no_sorted (by decide +kernel) (pa_cons (pe_lst (pa_cons (pv 1) (StX.pa_star (pv 3) pa_nil))) pa_nil)) pa_nil))))))
theorem ok_Kept_init {w : World} {K : PySem.W.Frag} {mg : Str → Option Value} {base : Heap} (T : Tx K mg)
    (G_Scene_order : FnOk T.Pg w K mg base CX0 4 T.f_Scene_order T.fd_Scene_order ["self"] (spF 1 (S_Scene_order K T)))
    (G_Seats_add : FnOk T.Pg w K mg base CX0 3 T.f_Seats_add T.fd_Seats_add ["self", "name"] (spF 2 (S_Seats_add K T)))
    (G_Seats_init : FnOk T.Pg w K mg base CX0 1 T.f_Seats_init T.fd_Seats_init ["self", "scene"] (spF 2 (S_Seats_init K T)))
    (G_Seats_lot_against : FnOk T.Pg w K mg base CX0 3 T.f_Seats_lot_against T.fd_Seats_lot_against ["self", "name"] (spF 2 (S_Seats_lot_against K T)))
    (R : ∀ Q ds M P Φ, ds.length = 2 → S_Kept_init K T ds M P → RtQ Q Φ P → Cont (rd_Kept_init_0 K T (fnD Q)) Φ (entry ["self", "scene", "seats", "papers", "name"] ds) M) :
    FnOk T.Pg w K mg base CX0 5 T.f_Kept_init T.fd_Kept_init ["self", "scene"] (spF 2 (S_Kept_init K T)) := by
  refine T.F_Kept_init.ok sc_Kept_init (fun vs H Q E h => spF_len h) fun cdv A outer s H vs Q E hr h => ⟨(rd_Kept_init_0 K T), ?_, fn_start h (R Q)⟩
  exact (pss_cons (ps_asg (pe_tup (pa_cons (pe_make T.M_Seats (G_Seats_init) (hr.mono (by decide)) rfl T.mg_Seats T.b_Seats_init .nil pass0 (pa_cons (pv 1) pa_nil)) (pa_cons pe_dnewK pa_nil))) (pg_tup rfl (pgs_cons (pg_name (i := 2) sc_Kept_init.nd rfl (by first | exact Or.inl rfl | exact Or.inr rfl)) (pgs_cons (pg_name (i := 3) sc_Kept_init.nd rfl (by first | exact Or.inl rfl | exact Or.inr rfl)) pgs_nil))))
      (Evl.pss_cut (ps_for PassesOwn.never rfl (pi_seq (pe_meth0 (pv 1) T.F_Scene.cl T.m_Scene_order (G_Scene_order) (hr.mono (by decide)) T.b_Scene_order .nil pass0)) (pg_name (i := 4) sc_Kept_init.nd rfl (by first | exact Or.inl rfl | exact Or.inr rfl))
      (pss_one (ps_if (pt_not (pt_val (pe_meth (pv 2) T.F_Seats.cl T.m_Seats_add (G_Seats_add) (hr.mono (by decide)) T.b_Seats_add .nil pass0 (pa_cons (pv 4) pa_nil))))
      (pss_one (ps_dput (hu_of hr) (pv 3) (pv 4) (pe_meth (pv 2) T.F_Seats.cl T.m_Seats_lot_against (G_Seats_lot_against) (hr.mono (by decide)) T.b_Seats_lot_against .nil pass0 (pa_cons (pv 4) pa_nil)) rfl))
      pss_nil)))
      (pss_cons (ps_fld (pv 0) (pe_callTy call_tuple_of' (by rfl) T.no_tuple (by decide +kernel) (pa_cons (pe_callB (cr_sortedDS rfl) (by rfl) T.no_sorted (by decide +kernel) (pa_cons (pe_fld (pv 2) rfl) pa_nil)) pa_nil)) rfl)
      (pss_cons (ps_fld (pv 0) (pe_fz (pe_dc (own := [("name", 4)]) (g := (gName 4)) (tt := tYes) rfl sc_Kept_init.nd (pi_seq (pe_fld (pv 0) rfl)) (blkOk_by (own := [("name", 4)]) (N := ["self", "scene", "seats", "papers", "name"]) (sc := defScope s_Kept_init) (by decide +kernel)) (fun _ _ _ _ _ => (pg_name (i := 4) sc_Kept_init.nd rfl (by first | exact Or.inl rfl | exact Or.inr rfl))) (fun _ _ _ _ _ => pts_nil) (fun _ _ _ _ _ => (pv 4)) (fun _ _ _ _ _ => (pe_dget (hu_of hr) (pe_fld (pv 2) rfl) (pv 4) (fun _ _ => rfl))))) rfl)
      (pss_one (ps_fld (pv 0) (pe_fz (pe_dc (own := [("name", 4)]) (g := (gName 4)) (tt := tYes) rfl sc_Kept_init.nd (pi_seq (pe_callB (cr_sortedDS rfl) (by rfl) T.no_sorted (by decide +kernel) (pa_cons (pv 3) pa_nil))) (blkOk_by (own := [("name", 4)]) (N := ["self", "scene", "seats", "papers", "name"]) (sc := defScope s_Kept_init) (by decide +kernel)) (fun _ _ _ _ _ => (pg_name (i := 4) sc_Kept_init.nd rfl (by first | exact Or.inl rfl | exact Or.inr rfl))) (fun _ _ _ _ _ => pts_nil) (fun _ _ _ _ _ => (pv 4)) (fun _ _ _ _ _ => (pe_dget (hu_of hr) (pv 3) (pv 4) (fun _ _ => rfl))))) rfl))))))
theorem ok_kept {w : World} {K : PySem.W.Frag} {mg : Str → Option Value} {base : Heap} (T : Tx K mg)
    (G_Kept_init : FnOk T.Pg w K mg base CX0 5 T.f_Kept_init T.fd_Kept_init ["self", "scene"] (spF 2 (S_Kept_init K T)))
    (R : ∀ Q ds M P Φ, ds.length = 1 → S_kept K T ds M P → RtQ Q Φ P → Cont (rd_kept_0 K T (fnD Q)) Φ (entry ["scene"] ds) M) :
    FnOk T.Pg w K mg base CX0 7 T.f_kept T.fd_kept ["scene"] (spF 1 (S_kept K T)) := by
  refine T.F_kept.ok sc_kept (fun vs H Q E h => spF_len h) fun cdv A outer s H vs Q E hr h => ⟨(rd_kept_0 K T), ?_, fn_start h (R Q)⟩
  exact (pss_one (ps_ret (pe_fld (pe_make T.M_Kept (G_Kept_init) (hr.mono (by decide)) rfl T.mg_Kept T.b_Kept_init .nil pass0 (pa_cons (pv 0) pa_nil)) rfl)))
theorem ok_is_seatable {w : World} {K : PySem.W.Frag} {mg : Str → Option Value} {base : Heap} (T : Tx K mg)
    (G_Seats_add : FnOk T.Pg w K mg base CX0 3 T.f_Seats_add T.fd_Seats_add ["self", "name"] (spF 2 (S_Seats_add K T)))
    (G_Seats_init : FnOk T.Pg w K mg base CX0 1 T.f_Seats_init T.fd_Seats_init ["self", "scene"] (spF 2 (S_Seats_init K T)))
    (R : ∀ Q ds M P Φ, ds.length = 2 → S_is_seatable K T ds M P → RtQ Q Φ P → Cont (rd_is_seatable_0 K T (fnD Q)) Φ (entry ["scene", "names", "seats", "name"] ds) M) :
    FnOk T.Pg w K mg base CX0 4 T.f_is_seatable T.fd_is_seatable ["scene", "names"] (spF 2 (S_is_seatable K T)) := by
  refine T.F_is_seatable.ok sc_is_seatable (fun vs H Q E h => spF_len h) fun cdv A outer s H vs Q E hr h => ⟨(rd_is_seatable_0 K T), ?_, fn_start h (R Q)⟩
  exact (pss_cons (ps_set (i := 2) sc_is_seatable.nd rfl (by first | exact Or.inl rfl | exact Or.inr rfl) (pe_make T.M_Seats (G_Seats_init) (hr.mono (by decide)) rfl T.mg_Seats T.b_Seats_init .nil pass0 (pa_cons (pv 0) pa_nil)))
      (pss_one (ps_ret (pe_callB (cr_all rfl) (by rfl) T.no_all (by decide +kernel) (pa_cons (pe_lc (own := [("name", 3)]) (g := (gName 3)) (tt := tYes) rfl sc_is_seatable.nd (pi_seq (pv 1)) (blkOk_by (own := [("name", 3)]) (N := ["scene", "names", "seats", "name"]) (sc := defScope s_is_seatable) (by decide +kernel)) (fun _ _ _ _ _ => (pg_name (i := 3) sc_is_seatable.nd rfl (by first | exact Or.inl rfl | exact Or.inr rfl))) (fun _ _ _ _ _ => pts_nil) (fun _ _ _ _ _ => (pe_meth (pv 2) T.F_Seats.cl T.m_Seats_add (G_Seats_add) (hr.mono (by decide)) T.b_Seats_add .nil pass0 (pa_cons (pv 3) pa_nil)))) pa_nil)))))
theorem ok_is_whole {w : World} {K : PySem.W.Frag} {mg : Str → Option Value} {base : Heap} (T : Tx K mg)
    (R : ∀ Q ds M P Φ, ds.length = 3 → S_is_whole K T ds M P → RtQ Q Φ P → Cont (rd_is_whole_0 K T (fnD Q)) Φ (entry ["thing", "low", "high"] ds) M) :
    FnOk T.Pg w K mg base CX0 1 T.f_is_whole T.fd_is_whole ["thing", "low", "high"] (spF 3 (S_is_whole K T)) := by
  refine T.F_is_whole.ok sc_is_whole (fun vs H Q E h => spF_len h) fun cdv A outer s H vs Q E hr h => ⟨(rd_is_whole_0 K T), ?_, fn_start h (R Q)⟩
  exact (pss_one (ps_ret (pe_and (pe_callB call_isi (by rfl) T.no_isinstance (by decide +kernel) (pa_cons (pv 0) (pa_cons (pe_bltn (v := .ty "int") rfl T.no_int (by decide +kernel) rfl) pa_nil))) (pe_and (pe_not (pe_callB call_isi (by rfl) T.no_isinstance (by decide +kernel) (pa_cons (pv 0) (pa_cons (pe_bltn (v := .ty "bool") rfl T.no_bool (by decide +kernel) rfl) pa_nil)))) (pe_one (pe_chain op_le op_le (pv 1) (pv 0) (pv 2)))))))
theorem ok_is_name {w : World} {K : PySem.W.Frag} {mg : Str → Option Value} {base : Heap} (T : Tx K mg)
    (R : ∀ Q ds M P Φ, ds.length = 1 → S_is_name K T ds M P → RtQ Q Φ P → Cont (rd_is_name_0 K T (fnD Q)) Φ (entry ["thing", "sign"] ds) M) :
    FnOk T.Pg w K mg base CX0 1 T.f_is_name T.fd_is_name ["thing"] (spF 1 (S_is_name K T)) := by
  refine T.F_is_name.ok sc_is_name (fun vs H Q E h => spF_len h) fun cdv A outer s H vs Q E hr h => ⟨(rd_is_name_0 K T), ?_, fn_start h (R Q)⟩
  exact (Evl.pss_cut (ps_if (PW.pt (pw_or (pt_not (pt_val (pe_callB call_isi (by rfl) T.no_isinstance (by decide +kernel) (pa_cons (pv 0) (pa_cons (pe_bltn (v := .ty "str") rfl T.no_str (by decide +kernel) rfl) pa_nil))))) (pw_or (pt_not (pt_chain op_le op_le pe_int (pe_callB call_lenU (by rfl) T.no_len PySem.boot_len (pa_cons (pv 0) pa_nil)) pe_int)) (pw_or1 (pt_cmpR op_notInS (pe_ix ix_seq (pv 0) pe_int (fun _ _ => rfl)) (pe_glob rfl T.mg_LETTERS ⟨_, rfl⟩) (by first | rfl | with_unfolding_all rfl))))))
      (pss_one (ps_ret pe_bl))
      pss_nil)
      (pss_one (ps_ret (pe_callB (cr_all rfl) (by rfl) T.no_all (by decide +kernel) (pa_cons (pe_lc (own := [("sign", 1)]) (g := (gName 1)) (tt := tYes) rfl sc_is_name.nd (pi_str (pv 0)) (blkOk_by (own := [("sign", 1)]) (N := ["thing", "sign"]) (sc := defScope s_is_name) (by decide +kernel)) (fun _ _ _ _ _ => (pg_name (i := 1) sc_is_name.nd rfl (by first | exact Or.inl rfl | exact Or.inr rfl))) (fun _ _ _ _ _ => pts_nil) (fun _ _ _ _ _ => (pe_cmpR op_inS (pv 1) (pe_op op_addU (pe_glob rfl T.mg_LETTERS ⟨_, rfl⟩) (pe_glob rfl T.mg_FIGURES ⟨_, rfl⟩)) (by first | rfl | with_unfolding_all rfl)))) pa_nil)))))
theorem ok_Call_init {w : World} {K : PySem.W.Frag} {mg : Str → Option Value} {base : Heap} (T : Tx K mg)
    (R : ∀ Q ds M P Φ, ds.length = 3 → S_Call_init K T ds M P → RtQ Q Φ P → Cont (rd_Call_init_0 K T (fnD Q)) Φ (entry ["self", "worth", "heard"] ds) M) :
    FnOk T.Pg w K mg base CX0 1 T.f_Call_init T.fd_Call_init ["self", "worth", "heard"] (spF 3 (S_Call_init K T)) := by
  refine T.F_Call_init.ok sc_Call_init (fun vs H Q E h => spF_len h) fun cdv A outer s H vs Q E hr h => ⟨(rd_Call_init_0 K T), ?_, fn_start h (R Q)⟩
  exact (pss_cons (ps_fld (pv 0) (pv 1) rfl)
      (pss_one (ps_fld (pv 0) (pe_callTy call_tuple_of' (by rfl) T.no_tuple (by decide +kernel) (pa_cons (pe_callB cr_sortedQ (by rfl) T.no_sorted (by decide +kernel) (pa_cons (pv 2) pa_nil)) pa_nil)) rfl)))
theorem ok_Scene_init {w : World} {K : PySem.W.Frag} {mg : Str → Option Value} {base : Heap} (T : Tx K mg)
    (G_is_name : FnOk T.Pg w K mg base CX0 1 T.f_is_name T.fd_is_name ["thing"] (spF 1 (S_is_name K T)))
    (G_is_whole : FnOk T.Pg w K mg base CX0 1 T.f_is_whole T.fd_is_whole ["thing", "low", "high"] (spF 3 (S_is_whole K T)))
    (R : ∀ Q ds M P Φ, ds.length = 3 → S_Scene_init K T ds M P → RtQ Q Φ P → Cont (rd_Scene_init_0 K T (fnD Q)) Φ (entry ["self", "channels", "calls", "mast", "many", "name", "call"] ds) M) :
    FnOk T.Pg w K mg base CX0 2 T.f_Scene_init T.fd_Scene_init ["self", "channels", "calls"] (spF 3 (S_Scene_init K T)) := by
  refine T.F_Scene_init.ok sc_Scene_init (fun vs H Q E h => spF_len h) fun cdv A outer s H vs Q E hr h => ⟨(rd_Scene_init_0 K T), ?_, fn_start h (R Q)⟩
  exact (Evl.pss_cut (ps_for PassesOwn.never rfl (pi_items (pv 1)) (pg_tup rfl (pgs_cons (pg_name (i := 3) sc_Scene_init.nd rfl (by first | exact Or.inl rfl | exact Or.inr rfl)) (pgs_cons (pg_name (i := 4) sc_Scene_init.nd rfl (by first | exact Or.inl rfl | exact Or.inr rfl)) pgs_nil)))
      (Evl.pss_cut (ps_if (pt_not (pt_val (pe_call (G_is_name) (hr.mono (by decide)) rfl T.mg_is_name T.k_is_name T.b_is_name .nil pass0 (pa_cons (pv 3) pa_nil))))
      (pss_one ps_never)
      pss_nil)
      (pss_one (ps_if (pt_not (pt_val (pe_call (G_is_whole) (hr.mono (by decide)) rfl T.mg_is_whole T.k_is_whole T.b_is_whole .nil pass0 (pa_cons (pv 4) (pa_cons pe_int (pa_cons (pe_glob rfl T.mg_MOST_CHANNELS ⟨_, rfl⟩) pa_nil))))))
      (pss_one ps_never)
      pss_nil))))
      (Evl.pss_cut (ps_for PassesOwn.never rfl (pi_items (pv 2)) (pg_tup rfl (pgs_cons (pg_name (i := 5) sc_Scene_init.nd rfl (by first | exact Or.inl rfl | exact Or.inr rfl)) (pgs_cons (pg_name (i := 6) sc_Scene_init.nd rfl (by first | exact Or.inl rfl | exact Or.inr rfl)) pgs_nil)))
      (Evl.pss_cut (ps_if (pt_not (pt_val (pe_call (G_is_name) (hr.mono (by decide)) rfl T.mg_is_name T.k_is_name T.b_is_name .nil pass0 (pa_cons (pv 5) pa_nil))))
      (pss_one ps_never)
      pss_nil)
      (Evl.pss_cut (ps_if (pt_not (pt_val (pe_call (G_is_whole) (hr.mono (by decide)) rfl T.mg_is_whole T.k_is_whole T.b_is_whole .nil pass0 (pa_cons (pe_fld (pv 6) rfl) (pa_cons pe_int (pa_cons (pe_glob rfl T.mg_MOST_CHANNELS ⟨_, rfl⟩) pa_nil))))))
      (pss_one ps_never)
      pss_nil)
      (pss_one (ps_if (PW.pt (pw_or (pt_not (pt_val (pe_callB (cr_all rfl) (by rfl) T.no_all (by decide +kernel) (pa_cons (pe_lc (own := [("mast", 3)]) (g := (gName 3)) (tt := tYes) rfl sc_Scene_init.nd (pi_seq (pe_fld (pv 6) rfl)) (blkOk_by (own := [("mast", 3)]) (N := ["self", "channels", "calls", "mast", "many", "name", "call"]) (sc := defScope s_Scene_init) (by decide +kernel)) (fun _ _ _ _ _ => (pg_name (i := 3) sc_Scene_init.nd rfl (by first | exact Or.inl rfl | exact Or.inr rfl))) (fun _ _ _ _ _ => pts_nil) (fun _ _ _ _ _ => (pe_cmp (pc_din (hu_of hr) (pv 3) (pv 1))))) pa_nil)))) (pw_or1 (pt_cmpR (op_neU hr.units) (pe_lenSetT rfl rfl T.no_len rfl T.no_set (pe_fld (pv 6) rfl)) (pe_callB call_lenU (by rfl) T.no_len PySem.boot_len (pa_cons (pe_fld (pv 6) rfl) pa_nil)) (nomark _)))))
      (pss_one ps_never)
      pss_nil)))))
      (pss_cons (ps_fld (pv 0) (pe_fz (pe_dc (own := [("mast", 3)]) (g := (gName 3)) (tt := tYes) rfl sc_Scene_init.nd (pi_seq (pe_callB (cr_sortedDS rfl) (by rfl) T.no_sorted (by decide +kernel) (pa_cons (pv 1) pa_nil))) (blkOk_by (own := [("mast", 3)]) (N := ["self", "channels", "calls", "mast", "many", "name", "call"]) (sc := defScope s_Scene_init) (by decide +kernel)) (fun _ _ _ _ _ => (pg_name (i := 3) sc_Scene_init.nd rfl (by first | exact Or.inl rfl | exact Or.inr rfl))) (fun _ _ _ _ _ => pts_nil) (fun _ _ _ _ _ => (pv 3)) (fun _ _ _ _ _ => (pe_dget (hu_of hr) (pv 1) (pv 3) (fun _ _ => rfl))))) rfl)
      (pss_one (ps_fld (pv 0) (pe_fz (pe_dc (own := [("name", 5)]) (g := (gName 5)) (tt := tYes) rfl sc_Scene_init.nd (pi_seq (pe_callB (cr_sortedDS rfl) (by rfl) T.no_sorted (by decide +kernel) (pa_cons (pv 2) pa_nil))) (blkOk_by (own := [("name", 5)]) (N := ["self", "channels", "calls", "mast", "many", "name", "call"]) (sc := defScope s_Scene_init) (by decide +kernel)) (fun _ _ _ _ _ => (pg_name (i := 5) sc_Scene_init.nd rfl (by first | exact Or.inl rfl | exact Or.inr rfl))) (fun _ _ _ _ _ => pts_nil) (fun _ _ _ _ _ => (pv 5)) (fun _ _ _ _ _ => (pe_dget (hu_of hr) (pv 2) (pv 5) (fun _ _ => rfl))))) rfl)))))
theorem ok_Scene_order {w : World} {K : PySem.W.Frag} {mg : Str → Option Value} {base : Heap} (T : Tx K mg)
    (G_Scene_rank : FnOk T.Pg w K mg base CX0 1 T.f_Scene_rank T.fd_Scene_rank ["self", "name"] (spF 2 (S_Scene_rank K T)))
    (R : ∀ Q ds M P Φ, ds.length = 1 → S_Scene_order K T ds M P → RtQ Q Φ P → Cont (rd_Scene_order_0 K T (fnD Q)) Φ (entry ["self"] ds) M) :
    FnOk T.Pg w K mg base CX0 4 T.f_Scene_order T.fd_Scene_order ["self"] (spF 1 (S_Scene_order K T)) := by
  refine T.F_Scene_order.ok sc_Scene_order (fun vs H Q E h => spF_len h) fun cdv A outer s H vs Q E hr h => ⟨(rd_Scene_order_0 K T), ?_, fn_start h (R Q)⟩
  exact (pss_one (ps_ret (pe_sortM rfl (by rfl) T.no_sorted (pe_fld (pv 0) rfl) (pv 0) T.F_Scene.cl T.B_Scene_rank (G_Scene_rank) (hr.mono (by decide)) T.b_Scene_rank)))
theorem ok_Scene_rank {w : World} {K : PySem.W.Frag} {mg : Str → Option Value} {base : Heap} (T : Tx K mg)
    (R : ∀ Q ds M P Φ, ds.length = 2 → S_Scene_rank K T ds M P → RtQ Q Φ P → Cont (rd_Scene_rank_0 K T (fnD Q)) Φ (entry ["self", "name"] ds) M) :
    FnOk T.Pg w K mg base CX0 1 T.f_Scene_rank T.fd_Scene_rank ["self", "name"] (spF 2 (S_Scene_rank K T)) := by
  refine T.F_Scene_rank.ok sc_Scene_rank (fun vs H Q E h => spF_len h) fun cdv A outer s H vs Q E hr h => ⟨(rd_Scene_rank_0 K T), ?_, fn_start h (R Q)⟩
  exact (pss_one (ps_ret (pe_tup (pa_cons (pe_un un_neg (pe_fld (pe_dget (hu_of hr) (pe_fld (pv 0) rfl) (pv 1) (fun _ _ => rfl)) rfl)) (pa_cons (pv 1) pa_nil)))))
theorem ok_law_number {w : World} {K : PySem.W.Frag} {mg : Str → Option Value} {base : Heap} (T : Tx K mg)
    (R : ∀ Q ds M P Φ, ds.length = 2 → S_law_number K T ds M P → RtQ Q Φ P → Cont (rd_law_number_0 K T (fnD Q)) Φ (entry ["_law_script", "_law_index", "_law_cell", "_law_blend"] ds) M) :
    FnOk T.Pg w K mg base CX0 1 T.f_law_number T.fd_law_number ["_law_script", "_law_index"] (spF 2 (S_law_number K T)) := by
  refine T.F_law_number.ok sc_law_number (fun vs H Q E h => spF_len h) fun cdv A outer s H vs Q E hr h => ⟨(rd_law_number_0 K T), ?_, fn_start h (R Q)⟩
  exact (Evl.pss_cut (ps_if (pt_cmpR (op_eqU hr.units) (pv 0) (pe_lst pa_nil) (nomark _))
      (pss_one (ps_ret (pe_callTy call_int1' (by rfl) T.no_int (by decide +kernel) (pa_cons (pe_op op_mod (pe_op op_addU (pe_op op_mul (pv 1) pe_int) pe_int) pe_int) pa_nil))))
      pss_nil)
      (pss_cons (ps_set (i := 2) sc_law_number.nd rfl (by first | exact Or.inl rfl | exact Or.inr rfl) (pe_ix ix_seq (pv 0) (pe_op op_mod (pv 1) (pe_callB call_lenU (by rfl) T.no_len PySem.boot_len (pa_cons (pv 0) pa_nil))) (fun _ _ => rfl)))
      (Evl.pss_cut (ps_if (pt_cmpR op_ge (pe_callB call_abs' (by rfl) T.no_abs (by decide +kernel) (pa_cons (pv 2) pa_nil)) (pe_op op_pow pe_int pe_int) (nomark _))
      (pss_one (ps_set (i := 2) sc_law_number.nd rfl (by first | exact Or.inl rfl | exact Or.inr rfl) (pe_op op_mod (pv 2) (pe_op op_pow pe_int pe_int))))
      pss_nil)
      (pss_cons (ps_set (i := 3) sc_law_number.nd rfl (by first | exact Or.inl rfl | exact Or.inr rfl) (pe_op op_mod (pe_op op_addU (pe_op op_mul (pe_op op_addU (pv 2) (pe_op op_mul pe_int (pv 1))) pe_int) (pe_op op_mul pe_int (pe_callB call_lenU (by rfl) T.no_len PySem.boot_len (pa_cons (pv 0) pa_nil)))) pe_int))
      (pss_one (ps_ret (pe_callTy call_int1' (by rfl) T.no_int (by decide +kernel) (pa_cons (pe_op op_mod (pe_op op_addU (pe_op op_mul (pe_op op_mod (pe_op op_mul (pv 3) pe_int) pe_int) pe_int) (pv 1)) pe_int) pa_nil))))))))
theorem ok_law_take {w : World} {K : PySem.W.Frag} {mg : Str → Option Value} {base : Heap} (T : Tx K mg)
    (G_law_number : FnOk T.Pg w K mg base CX0 1 T.f_law_number T.fd_law_number ["_law_script", "_law_index"] (spF 2 (S_law_number K T)))
    (R : ∀ Q ds M P Φ, ds.length = 2 → S_law_take K T ds M P → RtQ Q Φ P → Cont (rd_law_take_0 K T (fnD Q)) Φ (entry ["_law_draw", "_law_many"] ds) M) :
    FnOk T.Pg w K mg base CX0 2 T.f_law_take T.fd_law_take ["_law_draw", "_law_many"] (spF 2 (S_law_take K T)) := by
  refine T.F_law_take.ok sc_law_take (fun vs H Q E h => spF_len h) fun cdv A outer s H vs Q E hr h => ⟨(rd_law_take_0 K T), ?_, fn_start h (R Q)⟩
  exact (pss_cons (ps_augS (pv 0) pe_int get_list pe_int ip_add set_list)
      (pss_one (ps_ret (pe_op op_mod (pe_callTy call_int1' (by rfl) T.no_int (by decide +kernel) (pa_cons (pe_call (G_law_number) (hr.mono (by decide)) rfl T.mg_law_number T.k_law_number T.b_law_number .nil pass0 (pa_cons (pe_ix ix_seq (pv 0) pe_int (fun _ _ => rfl)) (pa_cons (pe_callTy call_int1' (by rfl) T.no_int (by decide +kernel) (pa_cons (pe_ix ix_seq (pv 0) pe_int (fun _ _ => rfl)) pa_nil)) pa_nil))) pa_nil)) (pv 1)))))
theorem ok_law_pick {w : World} {K : PySem.W.Frag} {mg : Str → Option Value} {base : Heap} (T : Tx K mg)
    (G_law_take : FnOk T.Pg w K mg base CX0 2 T.f_law_take T.fd_law_take ["_law_draw", "_law_many"] (spF 2 (S_law_take K T)))
    (R : ∀ Q ds M P Φ, ds.length = 2 → S_law_pick K T ds M P → RtQ Q Φ P → Cont (rd_law_pick_0 K T (fnD Q)) Φ (entry ["_law_draw", "_law_items"] ds) M) :
    FnOk T.Pg w K mg base CX0 3 T.f_law_pick T.fd_law_pick ["_law_draw", "_law_items"] (spF 2 (S_law_pick K T)) := by
  refine T.F_law_pick.ok sc_law_pick (fun vs H Q E h => spF_len h) fun cdv A outer s H vs Q E hr h => ⟨(rd_law_pick_0 K T), ?_, fn_start h (R Q)⟩
  exact (pss_one (ps_ret (pe_ix ix_seq (pv 1) (pe_call (G_law_take) (hr.mono (by decide)) rfl T.mg_law_take T.k_law_take T.b_law_take .nil pass0 (pa_cons (pv 0) (pa_cons (pe_callB call_lenU (by rfl) T.no_len PySem.boot_len (pa_cons (pv 1) pa_nil)) pa_nil))) (fun _ _ => rfl))))
theorem ok_law_masts {w : World} {K : PySem.W.Frag} {mg : Str → Option Value} {base : Heap} (T : Tx K mg)
    (G_law_pick : FnOk T.Pg w K mg base CX0 3 T.f_law_pick T.fd_law_pick ["_law_draw", "_law_items"] (spF 2 (S_law_pick K T)))
    (G_law_take : FnOk T.Pg w K mg base CX0 2 T.f_law_take T.fd_law_take ["_law_draw", "_law_many"] (spF 2 (S_law_take K T)))
    (R : ∀ Q ds M P Φ, ds.length = 2 → S_law_masts K T ds M P → RtQ Q Φ P → Cont (rd_law_masts_0 K T (fnD Q)) Φ (entry ["_law_draw", "_law_most", "_law_number_here"] ds) M) :
    FnOk T.Pg w K mg base CX0 4 T.f_law_masts T.fd_law_masts ["_law_draw", "_law_most"] (spF 2 (S_law_masts K T)) := by
  refine T.F_law_masts.ok sc_law_masts (fun vs H Q E h => spF_len h) fun cdv A outer s H vs Q E hr h => ⟨(rd_law_masts_0 K T), ?_, fn_start h (R Q)⟩
  exact (pss_one (ps_ret (pe_fz (pe_callTy (call_dictP' rfl) (by rfl) T.no_dict (by decide +kernel) (pa_cons (pe_lc (own := [("_law_number_here", 2)]) (g := (gName 2)) (tt := tYes) rfl sc_law_masts.nd (pi_range1 rfl T.no_range (pa_cons (pe_op op_addU pe_int (pe_call (G_law_take) (hr.mono (by decide)) rfl T.mg_law_take T.k_law_take T.b_law_take .nil pass0 (pa_cons (pv 0) (pa_cons (pv 1) pa_nil)))) pa_nil)) (blkOk_by (own := [("_law_number_here", 2)]) (N := ["_law_draw", "_law_most", "_law_number_here"]) (sc := defScope s_law_masts) (by decide +kernel)) (fun _ _ _ _ _ => (pg_name (i := 2) sc_law_masts.nd rfl (by first | exact Or.inl rfl | exact Or.inr rfl))) (fun _ _ _ _ _ => pts_nil) (fun _ _ _ _ _ => (pe_tup (pa_cons (pe_op op_addU pe_str (pe_callTy call_str_int' (by rfl) T.no_str (by decide +kernel) (pa_cons (pv 2) pa_nil))) (pa_cons (pe_call (G_law_pick) (hr.mono (by decide)) rfl T.mg_law_pick T.k_law_pick T.b_law_pick .nil pass0 (pa_cons (pv 0) (pa_cons (pe_lst (pa_cons pe_int (pa_cons pe_int (pa_cons pe_int (pa_cons pe_int (pa_cons pe_int (pa_cons pe_int (pa_cons pe_int pa_nil)))))))) pa_nil))) pa_nil))))) pa_nil)))))
theorem ok_law_heard {w : World} {K : PySem.W.Frag} {mg : Str → Option Value} {base : Heap} (T : Tx K mg)
    (G_law_take : FnOk T.Pg w K mg base CX0 2 T.f_law_take T.fd_law_take ["_law_draw", "_law_many"] (spF 2 (S_law_take K T)))
    (R : ∀ Q ds M P Φ, ds.length = 2 → S_law_heard K T ds M P → RtQ Q Φ P → Cont (rd_law_heard_0 K T (fnD Q)) Φ (entry ["_law_draw", "_law_channels", "_law_mast"] ds) M) :
    FnOk T.Pg w K mg base CX0 3 T.f_law_heard T.fd_law_heard ["_law_draw", "_law_channels"] (spF 2 (S_law_heard K T)) := by
  refine T.F_law_heard.ok sc_law_heard (fun vs H Q E h => spF_len h) fun cdv A outer s H vs Q E hr h => ⟨(rd_law_heard_0 K T), ?_, fn_start h (R Q)⟩
  exact (pss_one (ps_ret (pe_lc (own := [("_law_mast", 2)]) (g := (gName 2)) (tt := (tTest (tOp (rEqU K) (tCall (spF 2 (S_law_take K T)) [] E0 (tCons (tVar 0) (tCons (tC (.int 2)) tNil))) (tC (.int 0))))) rfl sc_law_heard.nd (pi_keys (pv 1)) (blkOk_by (own := [("_law_mast", 2)]) (N := ["_law_draw", "_law_channels", "_law_mast"]) (sc := defScope s_law_heard) (by decide +kernel)) (fun _ _ _ _ _ => (pg_name (i := 2) sc_law_heard.nd rfl (by first | exact Or.inl rfl | exact Or.inr rfl))) (fun _ _ _ _ _ => (pts_one (pt_cmpR (op_eqU hr.units) (pe_call (G_law_take) (hr.mono (by decide)) rfl T.mg_law_take T.k_law_take T.b_law_take .nil pass0 (pa_cons (pv 0) (pa_cons pe_int pa_nil))) pe_int (nomark _)))) (fun _ _ _ _ _ => (pv 2)))))
theorem ok_law_scene {w : World} {K : PySem.W.Frag} {mg : Str → Option Value} {base : Heap} (T : Tx K mg)
    (G_Call_init : FnOk T.Pg w K mg base CX0 1 T.f_Call_init T.fd_Call_init ["self", "worth", "heard"] (spF 3 (S_Call_init K T)))
    (G_Scene_init : FnOk T.Pg w K mg base CX0 2 T.f_Scene_init T.fd_Scene_init ["self", "channels", "calls"] (spF 3 (S_Scene_init K T)))
    (G_law_heard : FnOk T.Pg w K mg base CX0 3 T.f_law_heard T.fd_law_heard ["_law_draw", "_law_channels"] (spF 2 (S_law_heard K T)))
    (G_law_masts : FnOk T.Pg w K mg base CX0 4 T.f_law_masts T.fd_law_masts ["_law_draw", "_law_most"] (spF 2 (S_law_masts K T)))
    (G_law_take : FnOk T.Pg w K mg base CX0 2 T.f_law_take T.fd_law_take ["_law_draw", "_law_many"] (spF 2 (S_law_take K T)))
    (R : ∀ Q ds M P Φ, ds.length = 3 → S_law_scene K T ds M P → RtQ Q Φ P → Cont (rd_law_scene_0 K T (fnD Q)) Φ (entry ["_law_draw", "_law_masts_here", "_law_calls", "_law_channels", "_law_found", "_law_number_here"] ds) M) :
    FnOk T.Pg w K mg base CX0 5 T.f_law_scene T.fd_law_scene ["_law_draw", "_law_masts_here", "_law_calls"] (spF 3 (S_law_scene K T)) := by
  refine T.F_law_scene.ok sc_law_scene (fun vs H Q E h => spF_len h) fun cdv A outer s H vs Q E hr h => ⟨(rd_law_scene_0 K T), ?_, fn_start h (R Q)⟩
  exact (pss_cons (ps_par (i := 3) (j := 4) (by rfl) sc_law_scene.nd rfl rfl (by decide) rfl rfl (pa_cons (pe_call (G_law_masts) (hr.mono (by decide)) rfl T.mg_law_masts T.k_law_masts T.b_law_masts .nil pass0 (pa_cons (pv 0) (pa_cons (pv 1) pa_nil))) (pa_cons pe_dnewK pa_nil)) (by rfl))
      (Evl.pss_cut (ps_for PassesOwn.never rfl (pi_range1 rfl T.no_range (pa_cons (pe_call (G_law_take) (hr.mono (by decide)) rfl T.mg_law_take T.k_law_take T.b_law_take .nil pass0 (pa_cons (pv 0) (pa_cons (pe_op op_addU (pv 2) pe_int) pa_nil))) pa_nil)) (pg_name (i := 5) sc_law_scene.nd rfl (by first | exact Or.inl rfl | exact Or.inr rfl))
      (pss_one (ps_dput (hu_of hr) (pv 4) (pe_op op_addU pe_str (pe_callTy call_str_int' (by rfl) T.no_str (by decide +kernel) (pa_cons (pv 5) pa_nil))) (pe_make T.M_Call (G_Call_init) (hr.mono (by decide)) rfl T.mg_Call T.b_Call_init .nil pass0 (pa_cons (pe_call (G_law_take) (hr.mono (by decide)) rfl T.mg_law_take T.k_law_take T.b_law_take .nil pass0 (pa_cons (pv 0) (pa_cons pe_int pa_nil))) (pa_cons (pe_call (G_law_heard) (hr.mono (by decide)) rfl T.mg_law_heard T.k_law_heard T.b_law_heard .nil pass0 (pa_cons (pv 0) (pa_cons (pv 3) pa_nil))) pa_nil))) rfl)))
      (pss_one (ps_ret (pe_make T.M_Scene (G_Scene_init) (hr.mono (by decide)) rfl T.mg_Scene T.b_Scene_init .nil pass0 (pa_cons (pv 3) (pa_cons (pe_fz (pv 4)) pa_nil)))))))
theorem ok_law {w : World} {K : PySem.W.Frag} {mg : Str → Option Value} {base : Heap} (T : Tx K mg)
    (G_Call_init : FnOk T.Pg w K mg base CX0 1 T.f_Call_init T.fd_Call_init ["self", "worth", "heard"] (spF 3 (S_Call_init K T)))
    (G_Scene_init : FnOk T.Pg w K mg base CX0 2 T.f_Scene_init T.fd_Scene_init ["self", "channels", "calls"] (spF 3 (S_Scene_init K T)))
    (G_is_seatable : FnOk T.Pg w K mg base CX0 4 T.f_is_seatable T.fd_is_seatable ["scene", "names"] (spF 2 (S_is_seatable K T)))
    (G_kept : FnOk T.Pg w K mg base CX0 7 T.f_kept T.fd_kept ["scene"] (spF 1 (S_kept K T)))
    (G_law_pick : FnOk T.Pg w K mg base CX0 3 T.f_law_pick T.fd_law_pick ["_law_draw", "_law_items"] (spF 2 (S_law_pick K T)))
    (G_law_scene : FnOk T.Pg w K mg base CX0 5 T.f_law_scene T.fd_law_scene ["_law_draw", "_law_masts_here", "_law_calls"] (spF 3 (S_law_scene K T)))
    (G_law_take : FnOk T.Pg w K mg base CX0 2 T.f_law_take T.fd_law_take ["_law_draw", "_law_many"] (spF 2 (S_law_take K T)))
    (R : ∀ Q ds M P Φ, ds.length = 1 → S_law K T ds M P → RtQ Q Φ P → Cont (rd_law_0 K T (fnD Q)) Φ (entry ["_law_script", "_law_draw", "_law_scene_here", "_law_lot", "_law_calls", "_law_mast", "_law_more", "_law_gone", "_law_fewer", "_law_raised", "_law_wider", "_law_lots", "_law_turn", "_law_some", "_law_one", "_law_other", "_law_many", "_law_name", "_law_call"] ds) M) :
    FnOk T.Pg w K mg base CX0 8 T.f_law T.fd_law ["_law_script"] (spF 1 (S_law K T)) := by
  refine T.F_law.ok sc_law (fun vs H Q E h => spF_len h) fun cdv A outer s H vs Q E hr h => ⟨(rd_law_0 K T), ?_, fn_start h (R Q)⟩
  exact (pss_cons (ps_set (i := 1) sc_law.nd rfl (by first | exact Or.inl rfl | exact Or.inr rfl) (pe_lst (pa_cons (pv 0) (pa_cons pe_int pa_nil))))
      (pss_cons (ps_set (i := 2) sc_law.nd rfl (by first | exact Or.inl rfl | exact Or.inr rfl) (pe_call (G_law_scene) (hr.mono (by decide)) rfl T.mg_law_scene T.k_law_scene T.b_law_scene .nil pass0 (pa_cons (pv 1) (pa_cons pe_int (pa_cons pe_int pa_nil)))))
      (pss_cons (ps_asg (pe_tup (pa_cons (pe_call (G_kept) (hr.mono (by decide)) rfl T.mg_kept T.k_kept T.b_kept .nil pass0 (pa_cons (pv 2) pa_nil)) (pa_cons (pe_fld (pv 2) rfl) pa_nil))) (pg_tup rfl (pgs_cons (pg_name (i := 3) sc_law.nd rfl (by first | exact Or.inl rfl | exact Or.inr rfl)) (pgs_cons (pg_name (i := 4) sc_law.nd rfl (by first | exact Or.inl rfl | exact Or.inr rfl)) pgs_nil))))
      (pss_cons (ps_set (i := 5) sc_law.nd rfl (by first | exact Or.inl rfl | exact Or.inr rfl) (pe_call (G_law_pick) (hr.mono (by decide)) rfl T.mg_law_pick T.k_law_pick T.b_law_pick .nil pass0 (pa_cons (pv 1) (pa_cons (pe_callTy (call_list_dZ rfl) (by rfl) T.no_list (by decide +kernel) (pa_cons (pe_fld (pv 2) rfl) pa_nil)) pa_nil))))
      (pss_cons (ps_set (i := 6) sc_law.nd rfl (by first | exact Or.inl rfl | exact Or.inr rfl) (pe_fz (pe_callTy (call_dictP' rfl) (by rfl) T.no_dict (by decide +kernel) (pa_cons (pe_lc (own := [("_law_one", 14), ("_law_many", 16)]) (g := (gTup K 2 (gCons (gName 14) (gCons (gName 16) gNil)))) (tt := tYes) rfl sc_law.nd (pi_items (pe_fld (pv 2) rfl)) (blkOk_by (own := [("_law_one", 14), ("_law_many", 16)]) (N := ["_law_script", "_law_draw", "_law_scene_here", "_law_lot", "_law_calls", "_law_mast", "_law_more", "_law_gone", "_law_fewer", "_law_raised", "_law_wider", "_law_lots", "_law_turn", "_law_some", "_law_one", "_law_other", "_law_many", "_law_name", "_law_call"]) (sc := defScope s_law) (by decide +kernel)) (fun _ _ _ _ _ => (pg_tup rfl (pgs_cons (pg_name (i := 14) sc_law.nd rfl (by first | exact Or.inl rfl | exact Or.inr rfl)) (pgs_cons (pg_name (i := 16) sc_law.nd rfl (by first | exact Or.inl rfl | exact Or.inr rfl)) pgs_nil)))) (fun _ _ _ _ _ => pts_nil) (fun _ _ _ _ _ => (pe_tup (pa_cons (pv 14) (pa_cons (pe_op op_addU (pv 16) (pe_callTy call_int1' (by rfl) T.no_int (by decide +kernel) (pa_cons (pe_cmpR (op_eqU hr.units) (pv 14) (pv 5) (nomark _)) pa_nil))) pa_nil))))) pa_nil))))
      (Evl.pss_cut (ps_if (pt_val (pe_callB (cr_any rfl) (by rfl) T.no_any (by decide +kernel) (pa_cons (pe_lc (own := [("_law_name", 17)]) (g := (gName 17)) (tt := tYes) rfl sc_law.nd (pi_seq (pv 3)) (blkOk_by (own := [("_law_name", 17)]) (N := ["_law_script", "_law_draw", "_law_scene_here", "_law_lot", "_law_calls", "_law_mast", "_law_more", "_law_gone", "_law_fewer", "_law_raised", "_law_wider", "_law_lots", "_law_turn", "_law_some", "_law_one", "_law_other", "_law_many", "_law_name", "_law_call"]) (sc := defScope s_law) (by decide +kernel)) (fun _ _ _ _ _ => (pg_name (i := 17) sc_law.nd rfl (by first | exact Or.inl rfl | exact Or.inr rfl))) (fun _ _ _ _ _ => pts_nil) (fun _ _ _ _ _ => (pe_cmpR op_notIn_seq (pv 17) (pe_call (G_kept) (hr.mono (by decide)) rfl T.mg_kept T.k_kept T.b_kept .nil pass0 (pa_cons (pe_make T.M_Scene (G_Scene_init) (hr.mono (by decide)) rfl T.mg_Scene T.b_Scene_init .nil pass0 (pa_cons (pv 6) (pa_cons (pv 4) pa_nil))) pa_nil)) (by first | rfl | with_unfolding_all rfl)))) pa_nil)))
      (pss_one (ps_ret pe_bl))
      pss_nil)
      (Evl.pss_cut (ps_if (pt_cmpR (op_neEz hr.units) (pv 4) pe_dnewK (nomark _))
      (pss_cons (ps_set (i := 7) sc_law.nd rfl (by first | exact Or.inl rfl | exact Or.inr rfl) (pe_call (G_law_pick) (hr.mono (by decide)) rfl T.mg_law_pick T.k_law_pick T.b_law_pick .nil pass0 (pa_cons (pv 1) (pa_cons (pe_callTy (call_list_dZ rfl) (by rfl) T.no_list (by decide +kernel) (pa_cons (pv 4) pa_nil)) pa_nil))))
      (pss_cons (ps_set (i := 8) sc_law.nd rfl (by first | exact Or.inl rfl | exact Or.inr rfl) (pe_fz (pe_callTy (call_dictP' rfl) (by rfl) T.no_dict (by decide +kernel) (pa_cons (pe_lc (own := [("_law_name", 17), ("_law_call", 18)]) (g := (gTup K 2 (gCons (gName 17) (gCons (gName 18) gNil)))) (tt := (tTest (tOp (rNeU K) (tVar 17) (tVar 7)))) rfl sc_law.nd (pi_items (pv 4)) (blkOk_by (own := [("_law_name", 17), ("_law_call", 18)]) (N := ["_law_script", "_law_draw", "_law_scene_here", "_law_lot", "_law_calls", "_law_mast", "_law_more", "_law_gone", "_law_fewer", "_law_raised", "_law_wider", "_law_lots", "_law_turn", "_law_some", "_law_one", "_law_other", "_law_many", "_law_name", "_law_call"]) (sc := defScope s_law) (by decide +kernel)) (fun _ _ _ _ _ => (pg_tup rfl (pgs_cons (pg_name (i := 17) sc_law.nd rfl (by first | exact Or.inl rfl | exact Or.inr rfl)) (pgs_cons (pg_name (i := 18) sc_law.nd rfl (by first | exact Or.inl rfl | exact Or.inr rfl)) pgs_nil)))) (fun _ _ _ _ _ => (pts_one (pt_cmpR (op_neU hr.units) (pv 17) (pv 7) (nomark _)))) (fun _ _ _ _ _ => (pe_tup (pa_cons (pv 17) (pa_cons (pv 18) pa_nil))))) pa_nil))))
      (Evl.pss_cut (ps_if (pt_val (pe_callB (cr_any rfl) (by rfl) T.no_any (by decide +kernel) (pa_cons (pe_lc (own := [("_law_name", 17)]) (g := (gName 17)) (tt := (tTest (tOp (rNeU K) (tVar 17) (tVar 7)))) rfl sc_law.nd (pi_seq (pv 3)) (blkOk_by (own := [("_law_name", 17)]) (N := ["_law_script", "_law_draw", "_law_scene_here", "_law_lot", "_law_calls", "_law_mast", "_law_more", "_law_gone", "_law_fewer", "_law_raised", "_law_wider", "_law_lots", "_law_turn", "_law_some", "_law_one", "_law_other", "_law_many", "_law_name", "_law_call"]) (sc := defScope s_law) (by decide +kernel)) (fun _ _ _ _ _ => (pg_name (i := 17) sc_law.nd rfl (by first | exact Or.inl rfl | exact Or.inr rfl))) (fun _ _ _ _ _ => (pts_one (pt_cmpR (op_neU hr.units) (pv 17) (pv 7) (nomark _)))) (fun _ _ _ _ _ => (pe_cmpR op_notIn_seq (pv 17) (pe_call (G_kept) (hr.mono (by decide)) rfl T.mg_kept T.k_kept T.b_kept .nil pass0 (pa_cons (pe_make T.M_Scene (G_Scene_init) (hr.mono (by decide)) rfl T.mg_Scene T.b_Scene_init .nil pass0 (pa_cons (pe_fld (pv 2) rfl) (pa_cons (pv 8) pa_nil))) pa_nil)) (by first | rfl | with_unfolding_all rfl)))) pa_nil)))
      (pss_one (ps_ret pe_bl))
      pss_nil)
      (pss_cons (ps_set (i := 9) sc_law.nd rfl (by first | exact Or.inl rfl | exact Or.inr rfl) (pe_callTy call_dictD' (by rfl) T.no_dict (by decide +kernel) (pa_cons (pv 4) pa_nil)))
      (pss_cons (ps_dput (hu_of hr) (pv 9) (pv 7) (pe_make T.M_Call (G_Call_init) (hr.mono (by decide)) rfl T.mg_Call T.b_Call_init .nil pass0 (pa_cons (pe_op op_addU (pe_fld (pe_dget (hu_of hr) (pv 4) (pv 7) (fun _ _ => rfl)) rfl) pe_int) (pa_cons (pe_fld (pe_dget (hu_of hr) (pv 4) (pv 7) (fun _ _ => rfl)) rfl) pa_nil))) rfl)
      (Evl.pss_cut (ps_if (PW.pt (pw_and (pt_cmpR op_in_seq (pv 7) (pv 3) (by first | rfl | with_unfolding_all rfl)) (pw_and1 (pt_cmpR op_notIn_seq (pv 7) (pe_call (G_kept) (hr.mono (by decide)) rfl T.mg_kept T.k_kept T.b_kept .nil pass0 (pa_cons (pe_make T.M_Scene (G_Scene_init) (hr.mono (by decide)) rfl T.mg_Scene T.b_Scene_init .nil pass0 (pa_cons (pe_fld (pv 2) rfl) (pa_cons (pe_fz (pv 9)) pa_nil))) pa_nil)) (by first | rfl | with_unfolding_all rfl)))))
      (pss_one (ps_ret pe_bl))
      pss_nil)
      (pss_cons (ps_set (i := 10) sc_law.nd rfl (by first | exact Or.inl rfl | exact Or.inr rfl) (pe_callTy call_dictD' (by rfl) T.no_dict (by decide +kernel) (pa_cons (pv 4) pa_nil)))
      (pss_cons (ps_dput (hu_of hr) (pv 10) (pv 7) (pe_make T.M_Call (G_Call_init) (hr.mono (by decide)) rfl T.mg_Call T.b_Call_init .nil pass0 (pa_cons (pe_fld (pe_dget (hu_of hr) (pv 4) (pv 7) (fun _ _ => rfl)) rfl) (pa_cons (pe_sortSetX rfl rfl T.no_sorted rfl T.no_set (pe_op op_addU (pe_callTy call_list_of' (by rfl) T.no_list (by decide +kernel) (pa_cons (pe_fld (pe_dget (hu_of hr) (pv 4) (pv 7) (fun _ _ => rfl)) rfl) pa_nil)) (pe_lst (pa_cons (pv 5) pa_nil)))) pa_nil))) rfl)
      (pss_one (ps_if (PW.pt (pw_and (pt_cmpR op_in_seq (pv 7) (pv 3) (by first | rfl | with_unfolding_all rfl)) (pw_and1 (pt_cmpR op_notIn_seq (pv 7) (pe_call (G_kept) (hr.mono (by decide)) rfl T.mg_kept T.k_kept T.b_kept .nil pass0 (pa_cons (pe_make T.M_Scene (G_Scene_init) (hr.mono (by decide)) rfl T.mg_Scene T.b_Scene_init .nil pass0 (pa_cons (pe_fld (pv 2) rfl) (pa_cons (pe_fz (pv 10)) pa_nil))) pa_nil)) (by first | rfl | with_unfolding_all rfl)))))
      (pss_one (ps_ret pe_bl))
      pss_nil))))))))))
      pss_nil)
      (pss_cons (ps_set (i := 11) sc_law.nd rfl (by first | exact Or.inl rfl | exact Or.inr rfl) (pe_lst pa_nil))
      (Evl.pss_cut (ps_for PassesOwn.never rfl (pi_range1 rfl T.no_range (pa_cons pe_int pa_nil)) (pg_name (i := 12) sc_law.nd rfl (by first | exact Or.inl rfl | exact Or.inr rfl))
      (pss_cons (ps_setLc (i := 13) (own := [("_law_name", 17)]) (g := (gName 17)) (tt := (tTest (tOp (rEqU K) (tCall (spF 2 (S_law_take K T)) [] E0 (tCons (tVar 1) (tCons (tC (.int 2)) tNil))) (tC (.int 0))))) rfl sc_law.nd rfl rfl (sw_true rfl rfl rfl (by decide +kernel)) (pi_keys (pv 4)) (blkOk_by (own := [("_law_name", 17)]) (N := ["_law_script", "_law_draw", "_law_scene_here", "_law_lot", "_law_calls", "_law_mast", "_law_more", "_law_gone", "_law_fewer", "_law_raised", "_law_wider", "_law_lots", "_law_turn", "_law_some", "_law_one", "_law_other", "_law_many", "_law_name", "_law_call"]) (sc := defScope s_law) (by decide +kernel)) (fun _ _ _ _ _ => (pg_name (i := 17) sc_law.nd rfl (by first | exact Or.inl rfl | exact Or.inr rfl))) (fun _ _ _ _ _ => (pts_one (pt_cmpR (op_eqU hr.units) (pe_call (G_law_take) (hr.mono (by decide)) rfl T.mg_law_take T.k_law_take T.b_law_take .nil pass0 (pa_cons (pv 1) (pa_cons pe_int pa_nil))) pe_int (nomark _)))) (fun _ _ _ _ _ => (pv 17)))
      (pss_one (ps_if (pt_val (pe_call (G_is_seatable) (hr.mono (by decide)) rfl T.mg_is_seatable T.k_is_seatable T.b_is_seatable .nil pass0 (pa_cons (pv 2) (pa_cons (pv 13) pa_nil))))
      (pss_one (ps_expr (pe_bm PySem.F.plainAttrs_list PySem.F.slot_list_append PySem.F.type_list_append mt_append (pv 11) (pa_cons (pv 13) pa_nil))))
      pss_nil))))
      (Evl.pss_cut (ps_for PassesOwn.never rfl (pi_seq (pv 11)) (pg_name (i := 14) sc_law.nd rfl (by first | exact Or.inl rfl | exact Or.inr rfl))
      (pss_one (ps_for PassesOwn.never rfl (pi_seq (pv 11)) (pg_name (i := 15) sc_law.nd rfl (by first | exact Or.inl rfl | exact Or.inr rfl))
      (pss_one (ps_if (PW.pt (pw_and (pt_cmpR op_lt (pe_callB call_lenU (by rfl) T.no_len PySem.boot_len (pa_cons (pv 14) pa_nil)) (pe_callB call_lenU (by rfl) T.no_len PySem.boot_len (pa_cons (pv 15) pa_nil)) (nomark _)) (pw_and1 (pt_not (pt_val (pe_callB (cr_any rfl) (by rfl) T.no_any (by decide +kernel) (pa_cons (pe_lc (own := [("_law_name", 17)]) (g := (gName 17)) (tt := (tTest (tOp (rIn K true) (tVar 17) (tVar 14)))) rfl sc_law.nd (pi_seq (pv 15)) (blkOk_by (own := [("_law_name", 17)]) (N := ["_law_script", "_law_draw", "_law_scene_here", "_law_lot", "_law_calls", "_law_mast", "_law_more", "_law_gone", "_law_fewer", "_law_raised", "_law_wider", "_law_lots", "_law_turn", "_law_some", "_law_one", "_law_other", "_law_many", "_law_name", "_law_call"]) (sc := defScope s_law) (by decide +kernel)) (fun _ _ _ _ _ => (pg_name (i := 17) sc_law.nd rfl (by first | exact Or.inl rfl | exact Or.inr rfl))) (fun _ _ _ _ _ => (pts_one (pt_cmpR op_notIn_seq (pv 17) (pv 14) (by first | rfl | with_unfolding_all rfl)))) (fun _ _ _ _ _ => (pe_call (G_is_seatable) (hr.mono (by decide)) rfl T.mg_is_seatable T.k_is_seatable T.b_is_seatable .nil pass0 (pa_cons (pv 2) (pa_cons (pe_op op_addU (pv 14) (pe_lst (pa_cons (pv 17) pa_nil))) pa_nil))))) pa_nil)))))))
      (pss_one (ps_ret pe_bl))
      pss_nil)))))
      (pss_one (ps_ret pe_bl))))))))))))
def spLaw (K : PySem.W.Frag) : Sp := spF 1 (SLaw K)
theorem spLaw_intro {K : PySem.W.Frag} {H : Hp} {a : Addr} {ns : List Int} (hl : ns.length ≤ 63) (hS : SqL K H a (ns.map V.int)) : spLaw K [.ref a] H (fun v _ => v = .bl true) fun _ _ _ => False :=
  ⟨Fr.top, [], [], [vscr K ns], [], fun x _ => x = dat (.bool true), ⟨H, fun _ _ h => h, ⟨trivial, .cons ⟨a, rfl, hS⟩ .nil⟩, ⟨rfl, fun i x h => nomatch h⟩, List.nodup_nil, fun c hc => nomatch hc⟩, rfl, ⟨ns, rfl, rfl, hl, fun _ => rfl⟩, fun x M' v H' hx ⟨F, s⟩ => by
    subst hx
    cases s.fr.2
    rfl⟩
theorem law_ok {w : World} {K : PySem.W.Frag} {mg : Str → Option Value} {base : Heap} (T : Tx K mg) : FnOk T.Pg w K mg base CX0 8 T.f_law T.fd_law ["_law_script"] (spLaw K) := by
  have H_Seats_init := ok_Seats_init (w := w) (base := base) T (R := Seats_init_body T)
  have H_Seats_sit := ok_Seats_sit (w := w) (base := base) T (R := Seats_sit_body T)
  have H_Seats_has_room := ok_Seats_has_room (w := w) (base := base) T (R := Seats_has_room_body T)
  have H_Seats_ways_from := ok_Seats_ways_from (w := w) (base := base) T (G_Seats_has_room := H_Seats_has_room) (R := Seats_ways_from_body T)
  have H_Seats_add := ok_Seats_add (w := w) (base := base) T (G_Seats_sit := H_Seats_sit) (G_Seats_ways_from := H_Seats_ways_from) (R := Seats_add_body T)
  have H_Seats_lot_against := ok_Seats_lot_against (w := w) (base := base) T (G_Seats_ways_from := H_Seats_ways_from) (R := Seats_lot_against_body T)
  have H_is_seatable := ok_is_seatable (w := w) (base := base) T (G_Seats_add := H_Seats_add) (G_Seats_init := H_Seats_init) (R := is_seatable_body T)
  have H_is_whole := ok_is_whole (w := w) (base := base) T (R := is_whole_body T)
  have H_is_name := ok_is_name (w := w) (base := base) T (R := is_name_body T)
  have H_Call_init := ok_Call_init (w := w) (base := base) T (R := Call_init_body T)
  have H_Scene_init := ok_Scene_init (w := w) (base := base) T (G_is_name := H_is_name) (G_is_whole := H_is_whole) (R := Scene_init_body T)
  have H_Scene_rank := ok_Scene_rank (w := w) (base := base) T (R := Scene_rank_body T)
  have H_law_number := ok_law_number (w := w) (base := base) T (R := law_number_body T)
  have H_law_take := ok_law_take (w := w) (base := base) T (G_law_number := H_law_number) (R := law_take_body T)
  have H_law_pick := ok_law_pick (w := w) (base := base) T (G_law_take := H_law_take) (R := law_pick_body T)
  have H_law_masts := ok_law_masts (w := w) (base := base) T (G_law_pick := H_law_pick) (G_law_take := H_law_take) (R := law_masts_body T)
  have H_law_heard := ok_law_heard (w := w) (base := base) T (G_law_take := H_law_take) (R := law_heard_body T)
  have H_law_scene := ok_law_scene (w := w) (base := base) T (G_Call_init := H_Call_init) (G_Scene_init := H_Scene_init) (G_law_heard := H_law_heard) (G_law_masts := H_law_masts) (G_law_take := H_law_take) (R := law_scene_body T)
  have H_Scene_order := ok_Scene_order (w := w) (base := base) T (G_Scene_rank := H_Scene_rank) (R := Scene_order_body T)
  have H_Kept_init := ok_Kept_init (w := w) (base := base) T (G_Scene_order := H_Scene_order) (G_Seats_add := H_Seats_add) (G_Seats_init := H_Seats_init) (G_Seats_lot_against := H_Seats_lot_against) (R := Kept_init_body T)
  have H_kept := ok_kept (w := w) (base := base) T (G_Kept_init := H_Kept_init) (R := kept_body T)
  have H_law := ok_law (w := w) (base := base) T (G_Call_init := H_Call_init) (G_Scene_init := H_Scene_init) (G_is_seatable := H_is_seatable) (G_kept := H_kept) (G_law_pick := H_law_pick) (G_law_scene := H_law_scene) (G_law_take := H_law_take) (R := law_body T)
  exact H_law
theorem all_mk {l : PySem.W.OpenLaw} {w : World} {K : PySem.W.Frag} {h : Heap} {mg : Str → Option Value} {fa C_Seats C_Kept C_CallError C_BadScene C_Call C_Scene f_wall f_Seats_init f_Seats_sit f_Seats_has_room f_Seats_ways_from f_Seats_add f_Seats_lot_against f_Kept_init f_kept f_is_seatable f_is_whole f_is_name f_Call_init f_Call_eq f_Scene_init f_Scene_eq f_Scene_order f_Scene_rank f_Scene_room f_Scene_masts_of f_law_number f_law_take f_law_pick f_law_masts f_law_heard f_law_scene f_law f_BadScene_init cda_BadScene cc_BadScene : Addr} (X : K.In h) (G : h.Ns mainGlobals mg) (hfa : mg "law" = some (.ref fa))
    {od_wall an_wall od_Seats_init an_Seats_init od_Seats_sit an_Seats_sit od_Seats_has_room an_Seats_has_room od_Seats_ways_from an_Seats_ways_from od_Seats_add an_Seats_add od_Seats_lot_against an_Seats_lot_against od_Kept_init an_Kept_init od_kept an_kept od_is_seatable an_is_seatable od_is_whole an_is_whole od_is_name an_is_name od_Call_init an_Call_init od_Call_eq an_Call_eq od_Scene_init an_Scene_init od_Scene_eq an_Scene_eq od_Scene_order an_Scene_order od_Scene_rank an_Scene_rank od_Scene_room an_Scene_room od_Scene_masts_of an_Scene_masts_of od_law_number an_law_number od_law_take an_law_take od_law_pick an_law_pick od_law_masts an_law_masts od_law_heard an_law_heard od_law_scene an_law_scene od_law an_law : Option Addr} {sl_wall sl_Seats_init sl_Seats_sit sl_Seats_has_room sl_Seats_ways_from sl_Seats_add sl_Seats_lot_against sl_Kept_init sl_kept sl_is_seatable sl_is_whole sl_is_name sl_Call_init sl_Call_eq sl_Scene_init sl_Scene_eq sl_Scene_order sl_Scene_rank sl_Scene_room sl_Scene_masts_of sl_law_number sl_law_take sl_law_pick sl_law_masts sl_law_heard sl_law_scene sl_law : Array (Option Value)} {oc_wall kV_wall dc_wall pm_wall cd_wall ct_wall oc_Seats_init kV_Seats_init dc_Seats_init pm_Seats_init cd_Seats_init ct_Seats_init oc_Seats_sit kV_Seats_sit dc_Seats_sit pm_Seats_sit cd_Seats_sit ct_Seats_sit oc_Seats_has_room kV_Seats_has_room dc_Seats_has_room pm_Seats_has_room cd_Seats_has_room ct_Seats_has_room oc_Seats_ways_from kV_Seats_ways_from dc_Seats_ways_from pm_Seats_ways_from cd_Seats_ways_from ct_Seats_ways_from oc_Seats_add kV_Seats_add dc_Seats_add pm_Seats_add cd_Seats_add ct_Seats_add oc_Seats_lot_against kV_Seats_lot_against dc_Seats_lot_against pm_Seats_lot_against cd_Seats_lot_against ct_Seats_lot_against oc_Kept_init kV_Kept_init dc_Kept_init pm_Kept_init cd_Kept_init ct_Kept_init oc_kept kV_kept dc_kept pm_kept cd_kept ct_kept oc_is_seatable kV_is_seatable dc_is_seatable pm_is_seatable cd_is_seatable ct_is_seatable oc_is_whole kV_is_whole dc_is_whole pm_is_whole cd_is_whole ct_is_whole oc_is_name kV_is_name dc_is_name pm_is_name cd_is_name ct_is_name oc_Call_init kV_Call_init dc_Call_init pm_Call_init cd_Call_init ct_Call_init oc_Call_eq kV_Call_eq dc_Call_eq pm_Call_eq cd_Call_eq ct_Call_eq oc_Scene_init kV_Scene_init dc_Scene_init pm_Scene_init cd_Scene_init ct_Scene_init oc_Scene_eq kV_Scene_eq dc_Scene_eq pm_Scene_eq cd_Scene_eq ct_Scene_eq oc_Scene_order kV_Scene_order dc_Scene_order pm_Scene_order cd_Scene_order ct_Scene_order oc_Scene_rank kV_Scene_rank dc_Scene_rank pm_Scene_rank cd_Scene_rank ct_Scene_rank oc_Scene_room kV_Scene_room dc_Scene_room pm_Scene_room cd_Scene_room ct_Scene_room oc_Scene_masts_of kV_Scene_masts_of dc_Scene_masts_of pm_Scene_masts_of cd_Scene_masts_of ct_Scene_masts_of oc_law_number kV_law_number dc_law_number pm_law_number cd_law_number ct_law_number oc_law_take kV_law_take dc_law_take pm_law_take cd_law_take ct_law_take oc_law_pick kV_law_pick dc_law_pick pm_law_pick cd_law_pick ct_law_pick oc_law_masts kV_law_masts dc_law_masts pm_law_masts cd_law_masts ct_law_masts oc_law_heard kV_law_heard dc_law_heard pm_law_heard cd_law_heard ct_law_heard oc_law_scene kV_law_scene dc_law_scene pm_law_scene cd_law_scene ct_law_scene oc_law kV_law dc_law pm_law cd_law ct_law : Value} {t_FIGURES t_LETTERS t_MOST_CHANNELS : Tok}
    {nm_BadScene qn_BadScene : Str} {N_BadScene : Addr} {bs_BadScene : List Value} {sn_BadScene : List Str} {sub_BadScene : List Value} {ab_BadScene : Bool} {col_BadScene : Option Bool} {dd_BadScene : Option Addr} {m0_BadScene m1_BadScene m2_BadScene m3_BadScene m5_BadScene : Option Value}
    {xod_BadScene xan_BadScene xcd_BadScene ycd_BadScene : Option Addr} {xsl_BadScene xcs_BadScene ycs_BadScene : Array (Option Value)} {xoc_BadScene xdc_BadScene xpm_BadScene xct_BadScene xcl_BadScene ycl_BadScene : Value} {yvs_BadScene : Array Value} {yf_BadScene : Str} {yt_BadScene : Tok}
    (aC_Seats : PySem.W.nsIn K mainGlobals "Seats" = some (some (.ref C_Seats)))
    (pg_Seats : PySem.W.plainGet K C_Seats Str.empty = true)
    (hd_Seats : PySem.W.hasDictIn K C_Seats = true)
    (po_Seats : PySem.W.plainOver K C_Seats = true)
    (sa_Seats : PySem.W.findIn K (.ref C_Seats) "__setattr__" = some (some (.builtin "object.__setattr__")))
    (mk_Seats : PySem.W.makesIn K C_Seats = true)
    (kc_Seats : PySem.W.keepIn K (.ref C_Seats) = true)
    (na_Seats_0 : PySem.W.findIn K (.ref C_Seats) "scene" = some none)
    (na_Seats_1 : PySem.W.findIn K (.ref C_Seats) "seating" = some none)
    (na_Seats_2 : PySem.W.findIn K (.ref C_Seats) "seated" = some none)
    (aC_Kept : PySem.W.nsIn K mainGlobals "Kept" = some (some (.ref C_Kept)))
    (pg_Kept : PySem.W.plainGet K C_Kept Str.empty = true)
    (hd_Kept : PySem.W.hasDictIn K C_Kept = true)
    (po_Kept : PySem.W.plainOver K C_Kept = true)
    (sa_Kept : PySem.W.findIn K (.ref C_Kept) "__setattr__" = some (some (.builtin "object.__setattr__")))
    (mk_Kept : PySem.W.makesIn K C_Kept = true)
    (kc_Kept : PySem.W.keepIn K (.ref C_Kept) = true)
    (na_Kept_0 : PySem.W.findIn K (.ref C_Kept) "lot" = some none)
    (na_Kept_1 : PySem.W.findIn K (.ref C_Kept) "seating" = some none)
    (na_Kept_2 : PySem.W.findIn K (.ref C_Kept) "papers" = some none)
    (aC_Call : PySem.W.nsIn K mainGlobals "Call" = some (some (.ref C_Call)))
    (pg_Call : PySem.W.plainGet K C_Call Str.empty = true)
    (hd_Call : PySem.W.hasDictIn K C_Call = true)
    (po_Call : PySem.W.plainOver K C_Call = true)
    (sa_Call : PySem.W.findIn K (.ref C_Call) "__setattr__" = some (some (.builtin "object.__setattr__")))
    (mk_Call : PySem.W.makesIn K C_Call = true)
    (kc_Call : PySem.W.keepIn K (.ref C_Call) = true)
    (na_Call_0 : PySem.W.findIn K (.ref C_Call) "worth" = some none)
    (na_Call_1 : PySem.W.findIn K (.ref C_Call) "heard" = some none)
    (aC_Scene : PySem.W.nsIn K mainGlobals "Scene" = some (some (.ref C_Scene)))
    (pg_Scene : PySem.W.plainGet K C_Scene Str.empty = true)
    (hd_Scene : PySem.W.hasDictIn K C_Scene = true)
    (po_Scene : PySem.W.plainOver K C_Scene = true)
    (sa_Scene : PySem.W.findIn K (.ref C_Scene) "__setattr__" = some (some (.builtin "object.__setattr__")))
    (mk_Scene : PySem.W.makesIn K C_Scene = true)
    (kc_Scene : PySem.W.keepIn K (.ref C_Scene) = true)
    (na_Scene_0 : PySem.W.findIn K (.ref C_Scene) "channels" = some none)
    (na_Scene_1 : PySem.W.findIn K (.ref C_Scene) "calls" = some none)
    (a_wall : PySem.W.nsIn K mainGlobals "_wall" = some (some (.ref f_wall)))
    (i_wall : PySem.W.isFn K (.ref f_wall) = true)
    (l_wall : K.lookup f_wall = some ⟨oc_wall, od_wall, .func (PySem.W.fnOf "_wall" "_wall" (defArgs s_wall) (defBody s_wall) (defScope s_wall) .none kV_wall dc_wall pm_wall an_wall cd_wall ct_wall), sl_wall⟩)
    (c_wall : PySem.W.codeIn K cd_wall "_wall" = true)
    (k_wall : PySem.W.keepIn K (.ref f_wall) = true)
    (a_Seats_init : PySem.W.findIn K (.ref C_Seats) "__init__" = some (some (.ref f_Seats_init)))
    (i_Seats_init : PySem.W.isFn K (.ref f_Seats_init) = true)
    (l_Seats_init : K.lookup f_Seats_init = some ⟨oc_Seats_init, od_Seats_init, .func (PySem.W.fnOf "__init__" "Seats.__init__" (defArgs s_Seats_init) (defBody s_Seats_init) (defScope s_Seats_init) .none kV_Seats_init dc_Seats_init pm_Seats_init an_Seats_init cd_Seats_init ct_Seats_init), sl_Seats_init⟩)
    (c_Seats_init : PySem.W.codeIn K cd_Seats_init "Seats.__init__" = true)
    (k_Seats_init : PySem.W.keepIn K (.ref f_Seats_init) = true)
    (a_Seats_sit : PySem.W.findIn K (.ref C_Seats) "sit" = some (some (.ref f_Seats_sit)))
    (i_Seats_sit : PySem.W.isFn K (.ref f_Seats_sit) = true)
    (l_Seats_sit : K.lookup f_Seats_sit = some ⟨oc_Seats_sit, od_Seats_sit, .func (PySem.W.fnOf "sit" "Seats.sit" (defArgs s_Seats_sit) (defBody s_Seats_sit) (defScope s_Seats_sit) .none kV_Seats_sit dc_Seats_sit pm_Seats_sit an_Seats_sit cd_Seats_sit ct_Seats_sit), sl_Seats_sit⟩)
    (c_Seats_sit : PySem.W.codeIn K cd_Seats_sit "Seats.sit" = true)
    (k_Seats_sit : PySem.W.keepIn K (.ref f_Seats_sit) = true)
    (a_Seats_has_room : PySem.W.findIn K (.ref C_Seats) "has_room" = some (some (.ref f_Seats_has_room)))
    (i_Seats_has_room : PySem.W.isFn K (.ref f_Seats_has_room) = true)
    (l_Seats_has_room : K.lookup f_Seats_has_room = some ⟨oc_Seats_has_room, od_Seats_has_room, .func (PySem.W.fnOf "has_room" "Seats.has_room" (defArgs s_Seats_has_room) (defBody s_Seats_has_room) (defScope s_Seats_has_room) .none kV_Seats_has_room dc_Seats_has_room pm_Seats_has_room an_Seats_has_room cd_Seats_has_room ct_Seats_has_room), sl_Seats_has_room⟩)
    (c_Seats_has_room : PySem.W.codeIn K cd_Seats_has_room "Seats.has_room" = true)
    (k_Seats_has_room : PySem.W.keepIn K (.ref f_Seats_has_room) = true)
    (a_Seats_ways_from : PySem.W.findIn K (.ref C_Seats) "ways_from" = some (some (.ref f_Seats_ways_from)))
    (i_Seats_ways_from : PySem.W.isFn K (.ref f_Seats_ways_from) = true)
    (l_Seats_ways_from : K.lookup f_Seats_ways_from = some ⟨oc_Seats_ways_from, od_Seats_ways_from, .func (PySem.W.fnOf "ways_from" "Seats.ways_from" (defArgs s_Seats_ways_from) (defBody s_Seats_ways_from) (defScope s_Seats_ways_from) .none kV_Seats_ways_from dc_Seats_ways_from pm_Seats_ways_from an_Seats_ways_from cd_Seats_ways_from ct_Seats_ways_from), sl_Seats_ways_from⟩)
    (c_Seats_ways_from : PySem.W.codeIn K cd_Seats_ways_from "Seats.ways_from" = true)
    (k_Seats_ways_from : PySem.W.keepIn K (.ref f_Seats_ways_from) = true)
    (a_Seats_add : PySem.W.findIn K (.ref C_Seats) "add" = some (some (.ref f_Seats_add)))
    (i_Seats_add : PySem.W.isFn K (.ref f_Seats_add) = true)
    (l_Seats_add : K.lookup f_Seats_add = some ⟨oc_Seats_add, od_Seats_add, .func (PySem.W.fnOf "add" "Seats.add" (defArgs s_Seats_add) (defBody s_Seats_add) (defScope s_Seats_add) .none kV_Seats_add dc_Seats_add pm_Seats_add an_Seats_add cd_Seats_add ct_Seats_add), sl_Seats_add⟩)
    (c_Seats_add : PySem.W.codeIn K cd_Seats_add "Seats.add" = true)
    (k_Seats_add : PySem.W.keepIn K (.ref f_Seats_add) = true)
    (a_Seats_lot_against : PySem.W.findIn K (.ref C_Seats) "lot_against" = some (some (.ref f_Seats_lot_against)))
    (i_Seats_lot_against : PySem.W.isFn K (.ref f_Seats_lot_against) = true)
    (l_Seats_lot_against : K.lookup f_Seats_lot_against = some ⟨oc_Seats_lot_against, od_Seats_lot_against, .func (PySem.W.fnOf "lot_against" "Seats.lot_against" (defArgs s_Seats_lot_against) (defBody s_Seats_lot_against) (defScope s_Seats_lot_against) .none kV_Seats_lot_against dc_Seats_lot_against pm_Seats_lot_against an_Seats_lot_against cd_Seats_lot_against ct_Seats_lot_against), sl_Seats_lot_against⟩)
    (c_Seats_lot_against : PySem.W.codeIn K cd_Seats_lot_against "Seats.lot_against" = true)
    (k_Seats_lot_against : PySem.W.keepIn K (.ref f_Seats_lot_against) = true)
    (a_Kept_init : PySem.W.findIn K (.ref C_Kept) "__init__" = some (some (.ref f_Kept_init)))
    (i_Kept_init : PySem.W.isFn K (.ref f_Kept_init) = true)
    (l_Kept_init : K.lookup f_Kept_init = some ⟨oc_Kept_init, od_Kept_init, .func (PySem.W.fnOf "__init__" "Kept.__init__" (defArgs s_Kept_init) (defBody s_Kept_init) (defScope s_Kept_init) .none kV_Kept_init dc_Kept_init pm_Kept_init an_Kept_init cd_Kept_init ct_Kept_init), sl_Kept_init⟩)
    (c_Kept_init : PySem.W.codeIn K cd_Kept_init "Kept.__init__" = true)
    (k_Kept_init : PySem.W.keepIn K (.ref f_Kept_init) = true)
    (a_kept : PySem.W.nsIn K mainGlobals "kept" = some (some (.ref f_kept)))
    (i_kept : PySem.W.isFn K (.ref f_kept) = true)
    (l_kept : K.lookup f_kept = some ⟨oc_kept, od_kept, .func (PySem.W.fnOf "kept" "kept" (defArgs s_kept) (defBody s_kept) (defScope s_kept) .none kV_kept dc_kept pm_kept an_kept cd_kept ct_kept), sl_kept⟩)
    (c_kept : PySem.W.codeIn K cd_kept "kept" = true)
    (k_kept : PySem.W.keepIn K (.ref f_kept) = true)
    (a_is_seatable : PySem.W.nsIn K mainGlobals "is_seatable" = some (some (.ref f_is_seatable)))
    (i_is_seatable : PySem.W.isFn K (.ref f_is_seatable) = true)
    (l_is_seatable : K.lookup f_is_seatable = some ⟨oc_is_seatable, od_is_seatable, .func (PySem.W.fnOf "is_seatable" "is_seatable" (defArgs s_is_seatable) (defBody s_is_seatable) (defScope s_is_seatable) .none kV_is_seatable dc_is_seatable pm_is_seatable an_is_seatable cd_is_seatable ct_is_seatable), sl_is_seatable⟩)
    (c_is_seatable : PySem.W.codeIn K cd_is_seatable "is_seatable" = true)
    (k_is_seatable : PySem.W.keepIn K (.ref f_is_seatable) = true)
    (a_is_whole : PySem.W.nsIn K mainGlobals "is_whole" = some (some (.ref f_is_whole)))
    (i_is_whole : PySem.W.isFn K (.ref f_is_whole) = true)
    (l_is_whole : K.lookup f_is_whole = some ⟨oc_is_whole, od_is_whole, .func (PySem.W.fnOf "is_whole" "is_whole" (defArgs s_is_whole) (defBody s_is_whole) (defScope s_is_whole) .none kV_is_whole dc_is_whole pm_is_whole an_is_whole cd_is_whole ct_is_whole), sl_is_whole⟩)
    (c_is_whole : PySem.W.codeIn K cd_is_whole "is_whole" = true)
    (k_is_whole : PySem.W.keepIn K (.ref f_is_whole) = true)
    (a_is_name : PySem.W.nsIn K mainGlobals "is_name" = some (some (.ref f_is_name)))
    (i_is_name : PySem.W.isFn K (.ref f_is_name) = true)
    (l_is_name : K.lookup f_is_name = some ⟨oc_is_name, od_is_name, .func (PySem.W.fnOf "is_name" "is_name" (defArgs s_is_name) (defBody s_is_name) (defScope s_is_name) .none kV_is_name dc_is_name pm_is_name an_is_name cd_is_name ct_is_name), sl_is_name⟩)
    (c_is_name : PySem.W.codeIn K cd_is_name "is_name" = true)
    (k_is_name : PySem.W.keepIn K (.ref f_is_name) = true)
    (a_Call_init : PySem.W.findIn K (.ref C_Call) "__init__" = some (some (.ref f_Call_init)))
    (i_Call_init : PySem.W.isFn K (.ref f_Call_init) = true)
    (l_Call_init : K.lookup f_Call_init = some ⟨oc_Call_init, od_Call_init, .func (PySem.W.fnOf "__init__" "Call.__init__" (defArgs s_Call_init) (defBody s_Call_init) (defScope s_Call_init) .none kV_Call_init dc_Call_init pm_Call_init an_Call_init cd_Call_init ct_Call_init), sl_Call_init⟩)
    (c_Call_init : PySem.W.codeIn K cd_Call_init "Call.__init__" = true)
    (k_Call_init : PySem.W.keepIn K (.ref f_Call_init) = true)
    (a_Call_eq : PySem.W.findIn K (.ref C_Call) "__eq__" = some (some (.ref f_Call_eq)))
    (i_Call_eq : PySem.W.isFn K (.ref f_Call_eq) = true)
    (l_Call_eq : K.lookup f_Call_eq = some ⟨oc_Call_eq, od_Call_eq, .func (PySem.W.fnOf "__eq__" "Call.__eq__" (defArgs s_Call_eq) (defBody s_Call_eq) (defScope s_Call_eq) .none kV_Call_eq dc_Call_eq pm_Call_eq an_Call_eq cd_Call_eq ct_Call_eq), sl_Call_eq⟩)
    (c_Call_eq : PySem.W.codeIn K cd_Call_eq "Call.__eq__" = true)
    (k_Call_eq : PySem.W.keepIn K (.ref f_Call_eq) = true)
    (a_Scene_init : PySem.W.findIn K (.ref C_Scene) "__init__" = some (some (.ref f_Scene_init)))
    (i_Scene_init : PySem.W.isFn K (.ref f_Scene_init) = true)
    (l_Scene_init : K.lookup f_Scene_init = some ⟨oc_Scene_init, od_Scene_init, .func (PySem.W.fnOf "__init__" "Scene.__init__" (defArgs s_Scene_init) (defBody s_Scene_init) (defScope s_Scene_init) .none kV_Scene_init dc_Scene_init pm_Scene_init an_Scene_init cd_Scene_init ct_Scene_init), sl_Scene_init⟩)
    (c_Scene_init : PySem.W.codeIn K cd_Scene_init "Scene.__init__" = true)
    (k_Scene_init : PySem.W.keepIn K (.ref f_Scene_init) = true)
    (a_Scene_eq : PySem.W.findIn K (.ref C_Scene) "__eq__" = some (some (.ref f_Scene_eq)))
    (i_Scene_eq : PySem.W.isFn K (.ref f_Scene_eq) = true)
    (l_Scene_eq : K.lookup f_Scene_eq = some ⟨oc_Scene_eq, od_Scene_eq, .func (PySem.W.fnOf "__eq__" "Scene.__eq__" (defArgs s_Scene_eq) (defBody s_Scene_eq) (defScope s_Scene_eq) .none kV_Scene_eq dc_Scene_eq pm_Scene_eq an_Scene_eq cd_Scene_eq ct_Scene_eq), sl_Scene_eq⟩)
    (c_Scene_eq : PySem.W.codeIn K cd_Scene_eq "Scene.__eq__" = true)
    (k_Scene_eq : PySem.W.keepIn K (.ref f_Scene_eq) = true)
    (a_Scene_order : PySem.W.findIn K (.ref C_Scene) "order" = some (some (.ref f_Scene_order)))
    (i_Scene_order : PySem.W.isFn K (.ref f_Scene_order) = true)
    (l_Scene_order : K.lookup f_Scene_order = some ⟨oc_Scene_order, od_Scene_order, .func (PySem.W.fnOf "order" "Scene.order" (defArgs s_Scene_order) (defBody s_Scene_order) (defScope s_Scene_order) .none kV_Scene_order dc_Scene_order pm_Scene_order an_Scene_order cd_Scene_order ct_Scene_order), sl_Scene_order⟩)
    (c_Scene_order : PySem.W.codeIn K cd_Scene_order "Scene.order" = true)
    (k_Scene_order : PySem.W.keepIn K (.ref f_Scene_order) = true)
    (a_Scene_rank : PySem.W.findIn K (.ref C_Scene) "rank" = some (some (.ref f_Scene_rank)))
    (i_Scene_rank : PySem.W.isFn K (.ref f_Scene_rank) = true)
    (l_Scene_rank : K.lookup f_Scene_rank = some ⟨oc_Scene_rank, od_Scene_rank, .func (PySem.W.fnOf "rank" "Scene.rank" (defArgs s_Scene_rank) (defBody s_Scene_rank) (defScope s_Scene_rank) .none kV_Scene_rank dc_Scene_rank pm_Scene_rank an_Scene_rank cd_Scene_rank ct_Scene_rank), sl_Scene_rank⟩)
    (c_Scene_rank : PySem.W.codeIn K cd_Scene_rank "Scene.rank" = true)
    (k_Scene_rank : PySem.W.keepIn K (.ref f_Scene_rank) = true)
    (bg_Scene_rank : PySem.W.specialIn K (.ref f_Scene_rank) "__get__" = some (some (.builtin "function.__get__")))
    (bt_Scene_rank : PySem.W.takesIn K (.ref f_Scene_rank) = some false)
    (bf_Scene_rank : PySem.W.fnIn K f_Scene_rank = true)
    (a_Scene_room : PySem.W.findIn K (.ref C_Scene) "room" = some (some (.ref f_Scene_room)))
    (i_Scene_room : PySem.W.isFn K (.ref f_Scene_room) = true)
    (l_Scene_room : K.lookup f_Scene_room = some ⟨oc_Scene_room, od_Scene_room, .func (PySem.W.fnOf "room" "Scene.room" (defArgs s_Scene_room) (defBody s_Scene_room) (defScope s_Scene_room) .none kV_Scene_room dc_Scene_room pm_Scene_room an_Scene_room cd_Scene_room ct_Scene_room), sl_Scene_room⟩)
    (c_Scene_room : PySem.W.codeIn K cd_Scene_room "Scene.room" = true)
    (k_Scene_room : PySem.W.keepIn K (.ref f_Scene_room) = true)
    (a_Scene_masts_of : PySem.W.findIn K (.ref C_Scene) "masts_of" = some (some (.ref f_Scene_masts_of)))
    (i_Scene_masts_of : PySem.W.isFn K (.ref f_Scene_masts_of) = true)
    (l_Scene_masts_of : K.lookup f_Scene_masts_of = some ⟨oc_Scene_masts_of, od_Scene_masts_of, .func (PySem.W.fnOf "masts_of" "Scene.masts_of" (defArgs s_Scene_masts_of) (defBody s_Scene_masts_of) (defScope s_Scene_masts_of) .none kV_Scene_masts_of dc_Scene_masts_of pm_Scene_masts_of an_Scene_masts_of cd_Scene_masts_of ct_Scene_masts_of), sl_Scene_masts_of⟩)
    (c_Scene_masts_of : PySem.W.codeIn K cd_Scene_masts_of "Scene.masts_of" = true)
    (k_Scene_masts_of : PySem.W.keepIn K (.ref f_Scene_masts_of) = true)
    (a_law_number : PySem.W.nsIn K mainGlobals "_law_number" = some (some (.ref f_law_number)))
    (i_law_number : PySem.W.isFn K (.ref f_law_number) = true)
    (l_law_number : K.lookup f_law_number = some ⟨oc_law_number, od_law_number, .func (PySem.W.fnOf "_law_number" "_law_number" (defArgs s_law_number) (defBody s_law_number) (defScope s_law_number) .none kV_law_number dc_law_number pm_law_number an_law_number cd_law_number ct_law_number), sl_law_number⟩)
    (c_law_number : PySem.W.codeIn K cd_law_number "_law_number" = true)
    (k_law_number : PySem.W.keepIn K (.ref f_law_number) = true)
    (a_law_take : PySem.W.nsIn K mainGlobals "_law_take" = some (some (.ref f_law_take)))
    (i_law_take : PySem.W.isFn K (.ref f_law_take) = true)
    (l_law_take : K.lookup f_law_take = some ⟨oc_law_take, od_law_take, .func (PySem.W.fnOf "_law_take" "_law_take" (defArgs s_law_take) (defBody s_law_take) (defScope s_law_take) .none kV_law_take dc_law_take pm_law_take an_law_take cd_law_take ct_law_take), sl_law_take⟩)
    (c_law_take : PySem.W.codeIn K cd_law_take "_law_take" = true)
    (k_law_take : PySem.W.keepIn K (.ref f_law_take) = true)
    (a_law_pick : PySem.W.nsIn K mainGlobals "_law_pick" = some (some (.ref f_law_pick)))
    (i_law_pick : PySem.W.isFn K (.ref f_law_pick) = true)
    (l_law_pick : K.lookup f_law_pick = some ⟨oc_law_pick, od_law_pick, .func (PySem.W.fnOf "_law_pick" "_law_pick" (defArgs s_law_pick) (defBody s_law_pick) (defScope s_law_pick) .none kV_law_pick dc_law_pick pm_law_pick an_law_pick cd_law_pick ct_law_pick), sl_law_pick⟩)
    (c_law_pick : PySem.W.codeIn K cd_law_pick "_law_pick" = true)
    (k_law_pick : PySem.W.keepIn K (.ref f_law_pick) = true)
    (a_law_masts : PySem.W.nsIn K mainGlobals "_law_masts" = some (some (.ref f_law_masts)))
    (i_law_masts : PySem.W.isFn K (.ref f_law_masts) = true)
    (l_law_masts : K.lookup f_law_masts = some ⟨oc_law_masts, od_law_masts, .func (PySem.W.fnOf "_law_masts" "_law_masts" (defArgs s_law_masts) (defBody s_law_masts) (defScope s_law_masts) .none kV_law_masts dc_law_masts pm_law_masts an_law_masts cd_law_masts ct_law_masts), sl_law_masts⟩)
    (c_law_masts : PySem.W.codeIn K cd_law_masts "_law_masts" = true)
    (k_law_masts : PySem.W.keepIn K (.ref f_law_masts) = true)
    (a_law_heard : PySem.W.nsIn K mainGlobals "_law_heard" = some (some (.ref f_law_heard)))
    (i_law_heard : PySem.W.isFn K (.ref f_law_heard) = true)
    (l_law_heard : K.lookup f_law_heard = some ⟨oc_law_heard, od_law_heard, .func (PySem.W.fnOf "_law_heard" "_law_heard" (defArgs s_law_heard) (defBody s_law_heard) (defScope s_law_heard) .none kV_law_heard dc_law_heard pm_law_heard an_law_heard cd_law_heard ct_law_heard), sl_law_heard⟩)
    (c_law_heard : PySem.W.codeIn K cd_law_heard "_law_heard" = true)
    (k_law_heard : PySem.W.keepIn K (.ref f_law_heard) = true)
    (a_law_scene : PySem.W.nsIn K mainGlobals "_law_scene" = some (some (.ref f_law_scene)))
    (i_law_scene : PySem.W.isFn K (.ref f_law_scene) = true)
    (l_law_scene : K.lookup f_law_scene = some ⟨oc_law_scene, od_law_scene, .func (PySem.W.fnOf "_law_scene" "_law_scene" (defArgs s_law_scene) (defBody s_law_scene) (defScope s_law_scene) .none kV_law_scene dc_law_scene pm_law_scene an_law_scene cd_law_scene ct_law_scene), sl_law_scene⟩)
    (c_law_scene : PySem.W.codeIn K cd_law_scene "_law_scene" = true)
    (k_law_scene : PySem.W.keepIn K (.ref f_law_scene) = true)
    (a_law : PySem.W.nsIn K mainGlobals "law" = some (some (.ref f_law)))
    (i_law : PySem.W.isFn K (.ref f_law) = true)
    (l_law : K.lookup f_law = some ⟨oc_law, od_law, .func (PySem.W.fnOf "law" "law" (defArgs s_law) (defBody s_law) (defScope s_law) .none kV_law dc_law pm_law an_law cd_law ct_law), sl_law⟩)
    (c_law : PySem.W.codeIn K cd_law "law" = true)
    (k_law : PySem.W.keepIn K (.ref f_law) = true)
    (a_FIGURES : PySem.W.nsIn K mainGlobals "FIGURES" = some (some (.str "0123456789" t_FIGURES)))
    (a_LETTERS : PySem.W.nsIn K mainGlobals "LETTERS" = some (some (.str "abcdefghijklmnopqrstuvwxyz" t_LETTERS)))
    (a_MOST_CHANNELS : PySem.W.nsIn K mainGlobals "MOST_CHANNELS" = some (some (.int 1000 t_MOST_CHANNELS)))
    (z_abs : PySem.W.nsIn K mainGlobals "abs" = some none)
    (z_all : PySem.W.nsIn K mainGlobals "all" = some none)
    (z_any : PySem.W.nsIn K mainGlobals "any" = some none)
    (z_bool : PySem.W.nsIn K mainGlobals "bool" = some none)
    (z_dict : PySem.W.nsIn K mainGlobals "dict" = some none)
    (z_int : PySem.W.nsIn K mainGlobals "int" = some none)
    (z_isinstance : PySem.W.nsIn K mainGlobals "isinstance" = some none)
    (z_len : PySem.W.nsIn K mainGlobals "len" = some none)
    (z_list : PySem.W.nsIn K mainGlobals "list" = some none)
    (z_range : PySem.W.nsIn K mainGlobals "range" = some none)
    (z_set : PySem.W.nsIn K mainGlobals "set" = some none)
    (z_sorted : PySem.W.nsIn K mainGlobals "sorted" = some none)
    (z_str : PySem.W.nsIn K mainGlobals "str" = some none)
    (z_sum : PySem.W.nsIn K mainGlobals "sum" = some none)
    (z_tuple : PySem.W.nsIn K mainGlobals "tuple" = some none)
    (z_super : PySem.W.nsIn K mainGlobals "super" = some none)
    (opq : PySem.W.nsIn K cStatics "thirdparty.any" = some none)
    (top : (l.prog.main.scope.names.lookup ("super" : Str)).isSome = false)
    (aC_BadScene : PySem.W.nsIn K mainGlobals "BadScene" = some (some (.ref C_BadScene)))
    (xL_BadScene : K.lookup C_BadScene = some (excClassObj nm_BadScene qn_BadScene C_BadScene N_BadScene bs_BadScene (.ref C_CallError :: PySem.ESX.exTail) true sn_BadScene sub_BadScene ab_BadScene col_BadScene dd_BadScene m0_BadScene m1_BadScene m2_BadScene m3_BadScene m5_BadScene "Exception.__new__"))
    (sa_BadScene : PySem.W.findIn K (.ref C_BadScene) "__setattr__" = some (some (.builtin "object.__setattr__")))
    (ga_BadScene : PySem.W.findIn K (.ref C_BadScene) "__getattribute__" = some (some (.builtin "BaseException.__getattribute__")))
    (gg_BadScene : PySem.W.findIn K (.ref C_BadScene) "__getattr__" = some none)
    (nb_BadScene : PySem.W.findIn K (.ref C_BadScene) "word" = some none)
    (ini_BadScene : PySem.W.findIn K (.ref C_BadScene) "__init__" = some (some (.ref f_BadScene_init)))
    (tf_BadScene : PySem.W.typeIn K (.ref f_BadScene_init) = some (.type "function"))
    (kC_BadScene : PySem.W.keepIn K (.ref C_BadScene) = true)
    (eC_BadScene : PySem.W.subIn K (.ref C_BadScene) (.type "BaseException") = some true)
    (tC_BadScene : PySem.W.typeIn K (.ref C_BadScene) = some (.type "type"))
    (hC_BadScene : PySem.W.hasDictIn K C_BadScene = true)
    (te_BadScene : PySem.W.exmOne K (.ref C_BadScene) (.ref C_BadScene) = some true)
    (al_BadScene : PySem.W.ks_superIn K C_BadScene C_BadScene "__init__" = some (some (.builtin "Exception.__init__")))
    (lf_BadScene : K.lookup f_BadScene_init = some ⟨xoc_BadScene, xod_BadScene, .func (PySem.W.ksFn "__init__" "BadScene.__init__" PySem.XeBadScene.iA PySem.XeBadScene.iB PySem.XeBadScene.iS .none .none xdc_BadScene xpm_BadScene xan_BadScene (.ref cda_BadScene) xct_BadScene cc_BadScene), xsl_BadScene⟩)
    (cf_BadScene : PySem.W.codeIn K (.ref cda_BadScene) "BadScene.__init__" = true)
    (lc_BadScene : K.lookup cc_BadScene = some ⟨xcl_BadScene, xcd_BadScene, .cell (some (.ref C_BadScene)), xcs_BadScene⟩)
    (ld_BadScene : K.lookup cda_BadScene = some ⟨ycl_BadScene, ycd_BadScene, .fields yvs_BadScene, ycs_BadScene⟩)
    (v2_BadScene : yvs_BadScene[2]? = some (.str yf_BadScene yt_BadScene))
    (fl_BadScene : ((l.prog.main.file : Str) == yf_BadScene) = true)
    : ∃ fd : FuncData, (∀ (s : Shared) (v : Value), BindsTo s fd ⟨[v], []⟩ [("_law_script", v)]) ∧ ∀ base : Heap, K.In base → base.Ns mainGlobals mg → FnOk l.prog w K mg base CX0 8 fa fd ["_law_script"] (spLaw K) := by
  have e := hfa.symm.trans (PySem.W.mg_of X G a_law)
  obtain rfl : f_law = fa := by cases e; rfl
  let T : Tx K mg := {
    Pg := l.prog
    C_CallError := C_CallError
    C_BadScene := C_BadScene
    f_BadScene_init := f_BadScene_init
    X_BadScene := { gC := PySem.W.mg_of X G aC_BadScene, cls := ⟨_, _, _, _, _, _, _, _, _, _, _, _, _, _, xL_BadScene⟩, sa := sa_BadScene, xf := ⟨ga_BadScene, gg_BadScene, eC_BadScene, hC_BadScene⟩, noN := nb_BadScene, iC := ini_BadScene, tC := tf_BadScene, kC := kC_BadScene, exC := eC_BadScene, tyC := tC_BadScene, te := te_BadScene, sup := PySem.W.mg_none_of X G z_super, opq := opq, al := al_BadScene, top := top, fn := ⟨_, _, _, _, _, _, _, _, _, _, _, _, _, _, _, _, _, _, lf_BadScene, cf_BadScene, lc_BadScene, ld_BadScene, v2_BadScene, fl_BadScene⟩ }
    C_Seats := C_Seats
    C_Kept := C_Kept
    C_Call := C_Call
    C_Scene := C_Scene
    f_wall := f_wall
    fd_wall := PySem.W.fnOf "_wall" "_wall" (defArgs s_wall) (defBody s_wall) (defScope s_wall) .none kV_wall dc_wall pm_wall an_wall cd_wall ct_wall
    f_Seats_init := f_Seats_init
    fd_Seats_init := PySem.W.fnOf "__init__" "Seats.__init__" (defArgs s_Seats_init) (defBody s_Seats_init) (defScope s_Seats_init) .none kV_Seats_init dc_Seats_init pm_Seats_init an_Seats_init cd_Seats_init ct_Seats_init
    f_Seats_sit := f_Seats_sit
    fd_Seats_sit := PySem.W.fnOf "sit" "Seats.sit" (defArgs s_Seats_sit) (defBody s_Seats_sit) (defScope s_Seats_sit) .none kV_Seats_sit dc_Seats_sit pm_Seats_sit an_Seats_sit cd_Seats_sit ct_Seats_sit
    f_Seats_has_room := f_Seats_has_room
    fd_Seats_has_room := PySem.W.fnOf "has_room" "Seats.has_room" (defArgs s_Seats_has_room) (defBody s_Seats_has_room) (defScope s_Seats_has_room) .none kV_Seats_has_room dc_Seats_has_room pm_Seats_has_room an_Seats_has_room cd_Seats_has_room ct_Seats_has_room
    f_Seats_ways_from := f_Seats_ways_from
    fd_Seats_ways_from := PySem.W.fnOf "ways_from" "Seats.ways_from" (defArgs s_Seats_ways_from) (defBody s_Seats_ways_from) (defScope s_Seats_ways_from) .none kV_Seats_ways_from dc_Seats_ways_from pm_Seats_ways_from an_Seats_ways_from cd_Seats_ways_from ct_Seats_ways_from
    f_Seats_add := f_Seats_add
    fd_Seats_add := PySem.W.fnOf "add" "Seats.add" (defArgs s_Seats_add) (defBody s_Seats_add) (defScope s_Seats_add) .none kV_Seats_add dc_Seats_add pm_Seats_add an_Seats_add cd_Seats_add ct_Seats_add
    f_Seats_lot_against := f_Seats_lot_against
    fd_Seats_lot_against := PySem.W.fnOf "lot_against" "Seats.lot_against" (defArgs s_Seats_lot_against) (defBody s_Seats_lot_against) (defScope s_Seats_lot_against) .none kV_Seats_lot_against dc_Seats_lot_against pm_Seats_lot_against an_Seats_lot_against cd_Seats_lot_against ct_Seats_lot_against
    f_Kept_init := f_Kept_init
    fd_Kept_init := PySem.W.fnOf "__init__" "Kept.__init__" (defArgs s_Kept_init) (defBody s_Kept_init) (defScope s_Kept_init) .none kV_Kept_init dc_Kept_init pm_Kept_init an_Kept_init cd_Kept_init ct_Kept_init
    f_kept := f_kept
    fd_kept := PySem.W.fnOf "kept" "kept" (defArgs s_kept) (defBody s_kept) (defScope s_kept) .none kV_kept dc_kept pm_kept an_kept cd_kept ct_kept
    f_is_seatable := f_is_seatable
    fd_is_seatable := PySem.W.fnOf "is_seatable" "is_seatable" (defArgs s_is_seatable) (defBody s_is_seatable) (defScope s_is_seatable) .none kV_is_seatable dc_is_seatable pm_is_seatable an_is_seatable cd_is_seatable ct_is_seatable
    f_is_whole := f_is_whole
    fd_is_whole := PySem.W.fnOf "is_whole" "is_whole" (defArgs s_is_whole) (defBody s_is_whole) (defScope s_is_whole) .none kV_is_whole dc_is_whole pm_is_whole an_is_whole cd_is_whole ct_is_whole
    f_is_name := f_is_name
    fd_is_name := PySem.W.fnOf "is_name" "is_name" (defArgs s_is_name) (defBody s_is_name) (defScope s_is_name) .none kV_is_name dc_is_name pm_is_name an_is_name cd_is_name ct_is_name
    f_Call_init := f_Call_init
    fd_Call_init := PySem.W.fnOf "__init__" "Call.__init__" (defArgs s_Call_init) (defBody s_Call_init) (defScope s_Call_init) .none kV_Call_init dc_Call_init pm_Call_init an_Call_init cd_Call_init ct_Call_init
    f_Call_eq := f_Call_eq
    fd_Call_eq := PySem.W.fnOf "__eq__" "Call.__eq__" (defArgs s_Call_eq) (defBody s_Call_eq) (defScope s_Call_eq) .none kV_Call_eq dc_Call_eq pm_Call_eq an_Call_eq cd_Call_eq ct_Call_eq
    f_Scene_init := f_Scene_init
    fd_Scene_init := PySem.W.fnOf "__init__" "Scene.__init__" (defArgs s_Scene_init) (defBody s_Scene_init) (defScope s_Scene_init) .none kV_Scene_init dc_Scene_init pm_Scene_init an_Scene_init cd_Scene_init ct_Scene_init
    f_Scene_eq := f_Scene_eq
    fd_Scene_eq := PySem.W.fnOf "__eq__" "Scene.__eq__" (defArgs s_Scene_eq) (defBody s_Scene_eq) (defScope s_Scene_eq) .none kV_Scene_eq dc_Scene_eq pm_Scene_eq an_Scene_eq cd_Scene_eq ct_Scene_eq
    f_Scene_order := f_Scene_order
    fd_Scene_order := PySem.W.fnOf "order" "Scene.order" (defArgs s_Scene_order) (defBody s_Scene_order) (defScope s_Scene_order) .none kV_Scene_order dc_Scene_order pm_Scene_order an_Scene_order cd_Scene_order ct_Scene_order
    f_Scene_rank := f_Scene_rank
    fd_Scene_rank := PySem.W.fnOf "rank" "Scene.rank" (defArgs s_Scene_rank) (defBody s_Scene_rank) (defScope s_Scene_rank) .none kV_Scene_rank dc_Scene_rank pm_Scene_rank an_Scene_rank cd_Scene_rank ct_Scene_rank
    f_Scene_room := f_Scene_room
    fd_Scene_room := PySem.W.fnOf "room" "Scene.room" (defArgs s_Scene_room) (defBody s_Scene_room) (defScope s_Scene_room) .none kV_Scene_room dc_Scene_room pm_Scene_room an_Scene_room cd_Scene_room ct_Scene_room
    f_Scene_masts_of := f_Scene_masts_of
    fd_Scene_masts_of := PySem.W.fnOf "masts_of" "Scene.masts_of" (defArgs s_Scene_masts_of) (defBody s_Scene_masts_of) (defScope s_Scene_masts_of) .none kV_Scene_masts_of dc_Scene_masts_of pm_Scene_masts_of an_Scene_masts_of cd_Scene_masts_of ct_Scene_masts_of
    f_law_number := f_law_number
    fd_law_number := PySem.W.fnOf "_law_number" "_law_number" (defArgs s_law_number) (defBody s_law_number) (defScope s_law_number) .none kV_law_number dc_law_number pm_law_number an_law_number cd_law_number ct_law_number
    f_law_take := f_law_take
    fd_law_take := PySem.W.fnOf "_law_take" "_law_take" (defArgs s_law_take) (defBody s_law_take) (defScope s_law_take) .none kV_law_take dc_law_take pm_law_take an_law_take cd_law_take ct_law_take
    f_law_pick := f_law_pick
    fd_law_pick := PySem.W.fnOf "_law_pick" "_law_pick" (defArgs s_law_pick) (defBody s_law_pick) (defScope s_law_pick) .none kV_law_pick dc_law_pick pm_law_pick an_law_pick cd_law_pick ct_law_pick
    f_law_masts := f_law_masts
    fd_law_masts := PySem.W.fnOf "_law_masts" "_law_masts" (defArgs s_law_masts) (defBody s_law_masts) (defScope s_law_masts) .none kV_law_masts dc_law_masts pm_law_masts an_law_masts cd_law_masts ct_law_masts
    f_law_heard := f_law_heard
    fd_law_heard := PySem.W.fnOf "_law_heard" "_law_heard" (defArgs s_law_heard) (defBody s_law_heard) (defScope s_law_heard) .none kV_law_heard dc_law_heard pm_law_heard an_law_heard cd_law_heard ct_law_heard
    f_law_scene := f_law_scene
    fd_law_scene := PySem.W.fnOf "_law_scene" "_law_scene" (defArgs s_law_scene) (defBody s_law_scene) (defScope s_law_scene) .none kV_law_scene dc_law_scene pm_law_scene an_law_scene cd_law_scene ct_law_scene
    f_law := f_law
    fd_law := PySem.W.fnOf "law" "law" (defArgs s_law) (defBody s_law) (defScope s_law) .none kV_law dc_law pm_law an_law cd_law ct_law
    F_Seats := ⟨⟨pg_Seats, hd_Seats, po_Seats, sa_Seats⟩, fun f hf => by
      simp only [List.mem_cons, List.not_mem_nil, or_false] at hf
      rcases hf with rfl | rfl | rfl
      all_goals assumption⟩
    mg_Seats := PySem.W.mg_of X G aC_Seats
    M_Seats := ⟨mk_Seats, a_Seats_init, i_Seats_init, kc_Seats⟩
    F_Kept := ⟨⟨pg_Kept, hd_Kept, po_Kept, sa_Kept⟩, fun f hf => by
      simp only [List.mem_cons, List.not_mem_nil, or_false] at hf
      rcases hf with rfl | rfl | rfl
      all_goals assumption⟩
    mg_Kept := PySem.W.mg_of X G aC_Kept
    M_Kept := ⟨mk_Kept, a_Kept_init, i_Kept_init, kc_Kept⟩
    F_Call := ⟨⟨pg_Call, hd_Call, po_Call, sa_Call⟩, fun f hf => by
      simp only [List.mem_cons, List.not_mem_nil, or_false] at hf
      rcases hf with rfl | rfl
      all_goals assumption⟩
    mg_Call := PySem.W.mg_of X G aC_Call
    M_Call := ⟨mk_Call, a_Call_init, i_Call_init, kc_Call⟩
    F_Scene := ⟨⟨pg_Scene, hd_Scene, po_Scene, sa_Scene⟩, fun f hf => by
      simp only [List.mem_cons, List.not_mem_nil, or_false] at hf
      rcases hf with rfl | rfl
      all_goals assumption⟩
    mg_Scene := PySem.W.mg_of X G aC_Scene
    M_Scene := ⟨mk_Scene, a_Scene_init, i_Scene_init, kc_Scene⟩
    F_wall := fun_mk (st := s_wall) l_wall c_wall k_wall
    k_wall := k_wall
    b_wall := (fun_mk (st := s_wall) l_wall c_wall k_wall).binds (ps := ["k"]) fun _ _ _ _ _ _ us hl => match us, hl with | [_], _ => rfl
    mg_wall := PySem.W.mg_of X G a_wall
    F_Seats_init := fun_mk (st := s_Seats_init) l_Seats_init c_Seats_init k_Seats_init
    k_Seats_init := k_Seats_init
    b_Seats_init := (fun_mk (st := s_Seats_init) l_Seats_init c_Seats_init k_Seats_init).binds (ps := ["self", "scene"]) fun _ _ _ _ _ _ us hl => match us, hl with | [_, _], _ => rfl
    F_Seats_sit := fun_mk (st := s_Seats_sit) l_Seats_sit c_Seats_sit k_Seats_sit
    k_Seats_sit := k_Seats_sit
    b_Seats_sit := (fun_mk (st := s_Seats_sit) l_Seats_sit c_Seats_sit k_Seats_sit).binds (ps := ["self", "name", "mast"]) fun _ _ _ _ _ _ us hl => match us, hl with | [_, _, _], _ => rfl
    m_Seats_sit := ⟨a_Seats_sit, i_Seats_sit, k_Seats_sit⟩
    F_Seats_has_room := fun_mk (st := s_Seats_has_room) l_Seats_has_room c_Seats_has_room k_Seats_has_room
    k_Seats_has_room := k_Seats_has_room
    b_Seats_has_room := (fun_mk (st := s_Seats_has_room) l_Seats_has_room c_Seats_has_room k_Seats_has_room).binds (ps := ["self", "mast"]) fun _ _ _ _ _ _ us hl => match us, hl with | [_, _], _ => rfl
    m_Seats_has_room := ⟨a_Seats_has_room, i_Seats_has_room, k_Seats_has_room⟩
    F_Seats_ways_from := fun_mk (st := s_Seats_ways_from) l_Seats_ways_from c_Seats_ways_from k_Seats_ways_from
    k_Seats_ways_from := k_Seats_ways_from
    b_Seats_ways_from := (fun_mk (st := s_Seats_ways_from) l_Seats_ways_from c_Seats_ways_from k_Seats_ways_from).binds (ps := ["self", "name"]) fun _ _ _ _ _ _ us hl => match us, hl with | [_, _], _ => rfl
    m_Seats_ways_from := ⟨a_Seats_ways_from, i_Seats_ways_from, k_Seats_ways_from⟩
    F_Seats_add := fun_mk (st := s_Seats_add) l_Seats_add c_Seats_add k_Seats_add
    k_Seats_add := k_Seats_add
    b_Seats_add := (fun_mk (st := s_Seats_add) l_Seats_add c_Seats_add k_Seats_add).binds (ps := ["self", "name"]) fun _ _ _ _ _ _ us hl => match us, hl with | [_, _], _ => rfl
    m_Seats_add := ⟨a_Seats_add, i_Seats_add, k_Seats_add⟩
    F_Seats_lot_against := fun_mk (st := s_Seats_lot_against) l_Seats_lot_against c_Seats_lot_against k_Seats_lot_against
    k_Seats_lot_against := k_Seats_lot_against
    b_Seats_lot_against := (fun_mk (st := s_Seats_lot_against) l_Seats_lot_against c_Seats_lot_against k_Seats_lot_against).binds (ps := ["self", "name"]) fun _ _ _ _ _ _ us hl => match us, hl with | [_, _], _ => rfl
    m_Seats_lot_against := ⟨a_Seats_lot_against, i_Seats_lot_against, k_Seats_lot_against⟩
    F_Kept_init := fun_mk (st := s_Kept_init) l_Kept_init c_Kept_init k_Kept_init
    k_Kept_init := k_Kept_init
    b_Kept_init := (fun_mk (st := s_Kept_init) l_Kept_init c_Kept_init k_Kept_init).binds (ps := ["self", "scene"]) fun _ _ _ _ _ _ us hl => match us, hl with | [_, _], _ => rfl
    F_kept := fun_mk (st := s_kept) l_kept c_kept k_kept
    k_kept := k_kept
    b_kept := (fun_mk (st := s_kept) l_kept c_kept k_kept).binds (ps := ["scene"]) fun _ _ _ _ _ _ us hl => match us, hl with | [_], _ => rfl
    mg_kept := PySem.W.mg_of X G a_kept
    F_is_seatable := fun_mk (st := s_is_seatable) l_is_seatable c_is_seatable k_is_seatable
    k_is_seatable := k_is_seatable
    b_is_seatable := (fun_mk (st := s_is_seatable) l_is_seatable c_is_seatable k_is_seatable).binds (ps := ["scene", "names"]) fun _ _ _ _ _ _ us hl => match us, hl with | [_, _], _ => rfl
    mg_is_seatable := PySem.W.mg_of X G a_is_seatable
    F_is_whole := fun_mk (st := s_is_whole) l_is_whole c_is_whole k_is_whole
    k_is_whole := k_is_whole
    b_is_whole := (fun_mk (st := s_is_whole) l_is_whole c_is_whole k_is_whole).binds (ps := ["thing", "low", "high"]) fun _ _ _ _ _ _ us hl => match us, hl with | [_, _, _], _ => rfl
    mg_is_whole := PySem.W.mg_of X G a_is_whole
    F_is_name := fun_mk (st := s_is_name) l_is_name c_is_name k_is_name
    k_is_name := k_is_name
    b_is_name := (fun_mk (st := s_is_name) l_is_name c_is_name k_is_name).binds (ps := ["thing"]) fun _ _ _ _ _ _ us hl => match us, hl with | [_], _ => rfl
    mg_is_name := PySem.W.mg_of X G a_is_name
    F_Call_init := fun_mk (st := s_Call_init) l_Call_init c_Call_init k_Call_init
    k_Call_init := k_Call_init
    b_Call_init := (fun_mk (st := s_Call_init) l_Call_init c_Call_init k_Call_init).binds (ps := ["self", "worth", "heard"]) fun _ _ _ _ _ _ us hl => match us, hl with | [_, _, _], _ => rfl
    F_Call_eq := fun_mk (st := s_Call_eq) l_Call_eq c_Call_eq k_Call_eq
    k_Call_eq := k_Call_eq
    b_Call_eq := (fun_mk (st := s_Call_eq) l_Call_eq c_Call_eq k_Call_eq).binds (ps := ["self", "other"]) fun _ _ _ _ _ _ us hl => match us, hl with | [_, _], _ => rfl
    m_Call_eq := ⟨a_Call_eq, i_Call_eq, k_Call_eq⟩
    F_Scene_init := fun_mk (st := s_Scene_init) l_Scene_init c_Scene_init k_Scene_init
    k_Scene_init := k_Scene_init
    b_Scene_init := (fun_mk (st := s_Scene_init) l_Scene_init c_Scene_init k_Scene_init).binds (ps := ["self", "channels", "calls"]) fun _ _ _ _ _ _ us hl => match us, hl with | [_, _, _], _ => rfl
    F_Scene_eq := fun_mk (st := s_Scene_eq) l_Scene_eq c_Scene_eq k_Scene_eq
    k_Scene_eq := k_Scene_eq
    b_Scene_eq := (fun_mk (st := s_Scene_eq) l_Scene_eq c_Scene_eq k_Scene_eq).binds (ps := ["self", "other"]) fun _ _ _ _ _ _ us hl => match us, hl with | [_, _], _ => rfl
    m_Scene_eq := ⟨a_Scene_eq, i_Scene_eq, k_Scene_eq⟩
    F_Scene_order := fun_mk (st := s_Scene_order) l_Scene_order c_Scene_order k_Scene_order
    k_Scene_order := k_Scene_order
    b_Scene_order := (fun_mk (st := s_Scene_order) l_Scene_order c_Scene_order k_Scene_order).binds (ps := ["self"]) fun _ _ _ _ _ _ us hl => match us, hl with | [_], _ => rfl
    m_Scene_order := ⟨a_Scene_order, i_Scene_order, k_Scene_order⟩
    F_Scene_rank := fun_mk (st := s_Scene_rank) l_Scene_rank c_Scene_rank k_Scene_rank
    k_Scene_rank := k_Scene_rank
    b_Scene_rank := (fun_mk (st := s_Scene_rank) l_Scene_rank c_Scene_rank k_Scene_rank).binds (ps := ["self", "name"]) fun _ _ _ _ _ _ us hl => match us, hl with | [_, _], _ => rfl
    m_Scene_rank := ⟨a_Scene_rank, i_Scene_rank, k_Scene_rank⟩
    B_Scene_rank := ⟨⟨a_Scene_rank, i_Scene_rank, k_Scene_rank⟩, bg_Scene_rank, bt_Scene_rank, by decide +kernel, bf_Scene_rank⟩
    F_Scene_room := fun_mk (st := s_Scene_room) l_Scene_room c_Scene_room k_Scene_room
    k_Scene_room := k_Scene_room
    b_Scene_room := (fun_mk (st := s_Scene_room) l_Scene_room c_Scene_room k_Scene_room).binds (ps := ["self", "masts"]) fun _ _ _ _ _ _ us hl => match us, hl with | [_, _], _ => rfl
    m_Scene_room := ⟨a_Scene_room, i_Scene_room, k_Scene_room⟩
    F_Scene_masts_of := fun_mk (st := s_Scene_masts_of) l_Scene_masts_of c_Scene_masts_of k_Scene_masts_of
    k_Scene_masts_of := k_Scene_masts_of
    b_Scene_masts_of := (fun_mk (st := s_Scene_masts_of) l_Scene_masts_of c_Scene_masts_of k_Scene_masts_of).binds (ps := ["self", "names"]) fun _ _ _ _ _ _ us hl => match us, hl with | [_, _], _ => rfl
    m_Scene_masts_of := ⟨a_Scene_masts_of, i_Scene_masts_of, k_Scene_masts_of⟩
    F_law_number := fun_mk (st := s_law_number) l_law_number c_law_number k_law_number
    k_law_number := k_law_number
    b_law_number := (fun_mk (st := s_law_number) l_law_number c_law_number k_law_number).binds (ps := ["_law_script", "_law_index"]) fun _ _ _ _ _ _ us hl => match us, hl with | [_, _], _ => rfl
    mg_law_number := PySem.W.mg_of X G a_law_number
    F_law_take := fun_mk (st := s_law_take) l_law_take c_law_take k_law_take
    k_law_take := k_law_take
    b_law_take := (fun_mk (st := s_law_take) l_law_take c_law_take k_law_take).binds (ps := ["_law_draw", "_law_many"]) fun _ _ _ _ _ _ us hl => match us, hl with | [_, _], _ => rfl
    mg_law_take := PySem.W.mg_of X G a_law_take
    F_law_pick := fun_mk (st := s_law_pick) l_law_pick c_law_pick k_law_pick
    k_law_pick := k_law_pick
    b_law_pick := (fun_mk (st := s_law_pick) l_law_pick c_law_pick k_law_pick).binds (ps := ["_law_draw", "_law_items"]) fun _ _ _ _ _ _ us hl => match us, hl with | [_, _], _ => rfl
    mg_law_pick := PySem.W.mg_of X G a_law_pick
    F_law_masts := fun_mk (st := s_law_masts) l_law_masts c_law_masts k_law_masts
    k_law_masts := k_law_masts
    b_law_masts := (fun_mk (st := s_law_masts) l_law_masts c_law_masts k_law_masts).binds (ps := ["_law_draw", "_law_most"]) fun _ _ _ _ _ _ us hl => match us, hl with | [_, _], _ => rfl
    mg_law_masts := PySem.W.mg_of X G a_law_masts
    F_law_heard := fun_mk (st := s_law_heard) l_law_heard c_law_heard k_law_heard
    k_law_heard := k_law_heard
    b_law_heard := (fun_mk (st := s_law_heard) l_law_heard c_law_heard k_law_heard).binds (ps := ["_law_draw", "_law_channels"]) fun _ _ _ _ _ _ us hl => match us, hl with | [_, _], _ => rfl
    mg_law_heard := PySem.W.mg_of X G a_law_heard
    F_law_scene := fun_mk (st := s_law_scene) l_law_scene c_law_scene k_law_scene
    k_law_scene := k_law_scene
    b_law_scene := (fun_mk (st := s_law_scene) l_law_scene c_law_scene k_law_scene).binds (ps := ["_law_draw", "_law_masts_here", "_law_calls"]) fun _ _ _ _ _ _ us hl => match us, hl with | [_, _, _], _ => rfl
    mg_law_scene := PySem.W.mg_of X G a_law_scene
    F_law := fun_mk (st := s_law) l_law c_law k_law
    k_law := k_law
    b_law := (fun_mk (st := s_law) l_law c_law k_law).binds (ps := ["_law_script"]) fun _ _ _ _ _ _ us hl => match us, hl with | [_], _ => rfl
    mg_law := PySem.W.mg_of X G a_law
    t_FIGURES := t_FIGURES
    mg_FIGURES := PySem.W.mg_of X G a_FIGURES
    t_LETTERS := t_LETTERS
    mg_LETTERS := PySem.W.mg_of X G a_LETTERS
    t_MOST_CHANNELS := t_MOST_CHANNELS
    mg_MOST_CHANNELS := PySem.W.mg_of X G a_MOST_CHANNELS
    no_abs := PySem.W.mg_none_of X G z_abs
    no_all := PySem.W.mg_none_of X G z_all
    no_any := PySem.W.mg_none_of X G z_any
    no_bool := PySem.W.mg_none_of X G z_bool
    no_dict := PySem.W.mg_none_of X G z_dict
    no_int := PySem.W.mg_none_of X G z_int
    no_isinstance := PySem.W.mg_none_of X G z_isinstance
    no_len := PySem.W.mg_none_of X G z_len
    no_list := PySem.W.mg_none_of X G z_list
    no_range := PySem.W.mg_none_of X G z_range
    no_set := PySem.W.mg_none_of X G z_set
    no_sorted := PySem.W.mg_none_of X G z_sorted
    no_str := PySem.W.mg_none_of X G z_str
    no_sum := PySem.W.mg_none_of X G z_sum
    no_tuple := PySem.W.mg_none_of X G z_tuple }
  exact ⟨T.fd_law, fun s v => .of_eq rfl, fun base _ _ => law_ok T⟩
theorem walk {l : PySem.W.OpenLaw} {q : Program} {loose : List Str} {XP : (Str → Option Value) → Heap → Prop} {YP : World → Heap → Prop} {d : DefRec} {K : Params → PySem.W.Frag} (hn : l.most = some 63) (hdf : d.params.defaults = [])
    (hY : ∀ (w : World) (h : Heap), YP w h → (K w.params).In h)
    (F : ∀ (w : World) (mg : Str → Option Value) (fa : Addr) (h : Heap), (K w.params).In h → h.Ns mainGlobals mg → mg d.name = some (.ref fa) →
      ∃ fd : FuncData, (∀ (s : Shared) (u : Value), BindsTo s fd ⟨[u], []⟩ [("_law_script", u)]) ∧ ∀ base : Heap, (K w.params).In base → base.Ns mainGlobals mg → FnOk l.prog w (K w.params) mg base CX0 8 fa fd ["_law_script"] (spLaw (K w.params))) :
    PySem.W.WalkO q loose XP YP l.row.toRowW d [] (fun f vs => PySem.call f vs) :=
  L2.walk_of (n := 63) (k := 8) (x := "_law_script") (CX := fun _ => CX0) (sp := fun w => spLaw (K w.params)) hn (by decide) hdf ⟨rfl, by decide, by decide⟩ hY F (fun _ H a ns hl _ hS => spLaw_intro hl hS) fun _ _ _ _ _ z => z
end Lw
open PySem PySem.W PyProof.Rows
set_option maxRecDepth 100000 in
set_option maxHeartbeats 0 in
theorem PySem.Challenge.cw_mastcalls_k20_whole_more_holds : PySem.Challenge.rw_mastcalls_k20_whole_more.Holds := by
  w_on; o_law; k_head; (case hw => w_witness2)
  k_fill
  refine Lw.walk (l := PySem.Challenge.rw_mastcalls_k20_whole_more) rfl rfl (fun w h Y => PySem.W.kIn_of Y) ?F
  case F =>
    intro w mg fa h KX G hmg
    refine' Lw.all_mk KX G hmg ?aC_Seats ?pg_Seats ?hd_Seats ?po_Seats ?sa_Seats ?mk_Seats ?kc_Seats ?na_Seats_0 ?na_Seats_1 ?na_Seats_2 ?aC_Kept ?pg_Kept ?hd_Kept ?po_Kept ?sa_Kept ?mk_Kept ?kc_Kept ?na_Kept_0 ?na_Kept_1 ?na_Kept_2 ?aC_Call ?pg_Call ?hd_Call ?po_Call ?sa_Call ?mk_Call ?kc_Call ?na_Call_0 ?na_Call_1 ?aC_Scene ?pg_Scene ?hd_Scene ?po_Scene ?sa_Scene ?mk_Scene ?kc_Scene ?na_Scene_0 ?na_Scene_1 ?a_wall ?i_wall ?l_wall ?c_wall ?k_wall ?a_Seats_init ?i_Seats_init ?l_Seats_init ?c_Seats_init ?k_Seats_init ?a_Seats_sit ?i_Seats_sit ?l_Seats_sit ?c_Seats_sit ?k_Seats_sit ?a_Seats_has_room ?i_Seats_has_room ?l_Seats_has_room ?c_Seats_has_room ?k_Seats_has_room ?a_Seats_ways_from ?i_Seats_ways_from ?l_Seats_ways_from ?c_Seats_ways_from ?k_Seats_ways_from ?a_Seats_add ?i_Seats_add ?l_Seats_add ?c_Seats_add ?k_Seats_add ?a_Seats_lot_against ?i_Seats_lot_against ?l_Seats_lot_against ?c_Seats_lot_against ?k_Seats_lot_against ?a_Kept_init ?i_Kept_init ?l_Kept_init ?c_Kept_init ?k_Kept_init ?a_kept ?i_kept ?l_kept ?c_kept ?k_kept ?a_is_seatable ?i_is_seatable ?l_is_seatable ?c_is_seatable ?k_is_seatable ?a_is_whole ?i_is_whole ?l_is_whole ?c_is_whole ?k_is_whole ?a_is_name ?i_is_name ?l_is_name ?c_is_name ?k_is_name ?a_Call_init ?i_Call_init ?l_Call_init ?c_Call_init ?k_Call_init ?a_Call_eq ?i_Call_eq ?l_Call_eq ?c_Call_eq ?k_Call_eq ?a_Scene_init ?i_Scene_init ?l_Scene_init ?c_Scene_init ?k_Scene_init ?a_Scene_eq ?i_Scene_eq ?l_Scene_eq ?c_Scene_eq ?k_Scene_eq ?a_Scene_order ?i_Scene_order ?l_Scene_order ?c_Scene_order ?k_Scene_order ?a_Scene_rank ?i_Scene_rank ?l_Scene_rank ?c_Scene_rank ?k_Scene_rank ?bg_Scene_rank ?bt_Scene_rank ?bf_Scene_rank ?a_Scene_room ?i_Scene_room ?l_Scene_room ?c_Scene_room ?k_Scene_room ?a_Scene_masts_of ?i_Scene_masts_of ?l_Scene_masts_of ?c_Scene_masts_of ?k_Scene_masts_of ?a_law_number ?i_law_number ?l_law_number ?c_law_number ?k_law_number ?a_law_take ?i_law_take ?l_law_take ?c_law_take ?k_law_take ?a_law_pick ?i_law_pick ?l_law_pick ?c_law_pick ?k_law_pick ?a_law_masts ?i_law_masts ?l_law_masts ?c_law_masts ?k_law_masts ?a_law_heard ?i_law_heard ?l_law_heard ?c_law_heard ?k_law_heard ?a_law_scene ?i_law_scene ?l_law_scene ?c_law_scene ?k_law_scene ?a_law ?i_law ?l_law ?c_law ?k_law ?a_FIGURES ?a_LETTERS ?a_MOST_CHANNELS ?z_abs ?z_all ?z_any ?z_bool ?z_dict ?z_int ?z_isinstance ?z_len ?z_list ?z_range ?z_set ?z_sorted ?z_str ?z_sum ?z_tuple ?z_super ?opq ?top ?aC_BadScene ?xL_BadScene ?sa_BadScene ?ga_BadScene ?gg_BadScene ?nb_BadScene ?ini_BadScene ?tf_BadScene ?kC_BadScene ?eC_BadScene ?tC_BadScene ?hC_BadScene ?te_BadScene ?al_BadScene ?lf_BadScene ?cf_BadScene ?lc_BadScene ?ld_BadScene ?v2_BadScene ?fl_BadScene
    (case aC_Seats => k_is)
    (case pg_Seats => k_is)
    (case hd_Seats => k_is)
    (case po_Seats => k_is)
    (case sa_Seats => k_is)
    (case mk_Seats => k_is)
    (case kc_Seats => k_is)
    (case na_Seats_0 => k_is)
    (case na_Seats_1 => k_is)
    (case na_Seats_2 => k_is)
    (case aC_Kept => k_is)
    (case pg_Kept => k_is)
    (case hd_Kept => k_is)
    (case po_Kept => k_is)
    (case sa_Kept => k_is)
    (case mk_Kept => k_is)
    (case kc_Kept => k_is)
    (case na_Kept_0 => k_is)
    (case na_Kept_1 => k_is)
    (case na_Kept_2 => k_is)
    (case aC_Call => k_is)
    (case pg_Call => k_is)
    (case hd_Call => k_is)
    (case po_Call => k_is)
    (case sa_Call => k_is)
    (case mk_Call => k_is)
    (case kc_Call => k_is)
    (case na_Call_0 => k_is)
    (case na_Call_1 => k_is)
    (case aC_Scene => k_is)
    (case pg_Scene => k_is)
    (case hd_Scene => k_is)
    (case po_Scene => k_is)
    (case sa_Scene => k_is)
    (case mk_Scene => k_is)
    (case kc_Scene => k_is)
    (case na_Scene_0 => k_is)
    (case na_Scene_1 => k_is)
    (case a_wall => k_is)
    (case i_wall => k_is)
    (case l_wall => k_is)
    (case c_wall => k_is)
    (case k_wall => k_is)
    (case a_Seats_init => k_is)
    (case i_Seats_init => k_is)
    (case l_Seats_init => k_is)
    (case c_Seats_init => k_is)
    (case k_Seats_init => k_is)
    (case a_Seats_sit => k_is)
    (case i_Seats_sit => k_is)
    (case l_Seats_sit => k_is)
    (case c_Seats_sit => k_is)
    (case k_Seats_sit => k_is)
    (case a_Seats_has_room => k_is)
    (case i_Seats_has_room => k_is)
    (case l_Seats_has_room => k_is)
    (case c_Seats_has_room => k_is)
    (case k_Seats_has_room => k_is)
    (case a_Seats_ways_from => k_is)
    (case i_Seats_ways_from => k_is)
    (case l_Seats_ways_from => k_is)
    (case c_Seats_ways_from => k_is)
    (case k_Seats_ways_from => k_is)
    (case a_Seats_add => k_is)
    (case i_Seats_add => k_is)
    (case l_Seats_add => k_is)
    (case c_Seats_add => k_is)
    (case k_Seats_add => k_is)
    (case a_Seats_lot_against => k_is)
    (case i_Seats_lot_against => k_is)
    (case l_Seats_lot_against => k_is)
    (case c_Seats_lot_against => k_is)
    (case k_Seats_lot_against => k_is)
    (case a_Kept_init => k_is)
    (case i_Kept_init => k_is)
    (case l_Kept_init => k_is)
    (case c_Kept_init => k_is)
    (case k_Kept_init => k_is)
    (case a_kept => k_is)
    (case i_kept => k_is)
    (case l_kept => k_is)
    (case c_kept => k_is)
    (case k_kept => k_is)
    (case a_is_seatable => k_is)
    (case i_is_seatable => k_is)
    (case l_is_seatable => k_is)
    (case c_is_seatable => k_is)
    (case k_is_seatable => k_is)
    (case a_is_whole => k_is)
    (case i_is_whole => k_is)
    (case l_is_whole => k_is)
    (case c_is_whole => k_is)
    (case k_is_whole => k_is)
    (case a_is_name => k_is)
    (case i_is_name => k_is)
    (case l_is_name => k_is)
    (case c_is_name => k_is)
    (case k_is_name => k_is)
    (case a_Call_init => k_is)
    (case i_Call_init => k_is)
    (case l_Call_init => k_is)
    (case c_Call_init => k_is)
    (case k_Call_init => k_is)
    (case a_Call_eq => k_is)
    (case i_Call_eq => k_is)
    (case l_Call_eq => k_is)
    (case c_Call_eq => k_is)
    (case k_Call_eq => k_is)
    (case a_Scene_init => k_is)
    (case i_Scene_init => k_is)
    (case l_Scene_init => k_is)
    (case c_Scene_init => k_is)
    (case k_Scene_init => k_is)
    (case a_Scene_eq => k_is)
    (case i_Scene_eq => k_is)
    (case l_Scene_eq => k_is)
    (case c_Scene_eq => k_is)
    (case k_Scene_eq => k_is)
    (case a_Scene_order => k_is)
    (case i_Scene_order => k_is)
    (case l_Scene_order => k_is)
    (case c_Scene_order => k_is)
    (case k_Scene_order => k_is)
    (case a_Scene_rank => k_is)
    (case i_Scene_rank => k_is)
    (case l_Scene_rank => k_is)
    (case c_Scene_rank => k_is)
    (case k_Scene_rank => k_is)
    (case bg_Scene_rank => k_is)
    (case bt_Scene_rank => k_is)
    (case bf_Scene_rank => k_is)
    (case a_Scene_room => k_is)
    (case i_Scene_room => k_is)
    (case l_Scene_room => k_is)
    (case c_Scene_room => k_is)
    (case k_Scene_room => k_is)
    (case a_Scene_masts_of => k_is)
    (case i_Scene_masts_of => k_is)
    (case l_Scene_masts_of => k_is)
    (case c_Scene_masts_of => k_is)
    (case k_Scene_masts_of => k_is)
    (case a_law_number => k_is)
    (case i_law_number => k_is)
    (case l_law_number => k_is)
    (case c_law_number => k_is)
    (case k_law_number => k_is)
    (case a_law_take => k_is)
    (case i_law_take => k_is)
    (case l_law_take => k_is)
    (case c_law_take => k_is)
    (case k_law_take => k_is)
    (case a_law_pick => k_is)
    (case i_law_pick => k_is)
    (case l_law_pick => k_is)
    (case c_law_pick => k_is)
    (case k_law_pick => k_is)
    (case a_law_masts => k_is)
    (case i_law_masts => k_is)
    (case l_law_masts => k_is)
    (case c_law_masts => k_is)
    (case k_law_masts => k_is)
    (case a_law_heard => k_is)
    (case i_law_heard => k_is)
    (case l_law_heard => k_is)
    (case c_law_heard => k_is)
    (case k_law_heard => k_is)
    (case a_law_scene => k_is)
    (case i_law_scene => k_is)
    (case l_law_scene => k_is)
    (case c_law_scene => k_is)
    (case k_law_scene => k_is)
    (case a_law => k_is)
    (case i_law => k_is)
    (case l_law => k_is)
    (case c_law => k_is)
    (case k_law => k_is)
    (case a_FIGURES => k_is)
    (case a_LETTERS => k_is)
    (case a_MOST_CHANNELS => k_is)
    (case z_abs => k_is)
    (case z_all => k_is)
    (case z_any => k_is)
    (case z_bool => k_is)
    (case z_dict => k_is)
    (case z_int => k_is)
    (case z_isinstance => k_is)
    (case z_len => k_is)
    (case z_list => k_is)
    (case z_range => k_is)
    (case z_set => k_is)
    (case z_sorted => k_is)
    (case z_str => k_is)
    (case z_sum => k_is)
    (case z_tuple => k_is)
    (case z_super => k_is)
    (case opq => k_is)
    (case top => first | rfl | k_is | decide +kernel)
    (case aC_BadScene => k_is)
    (case xL_BadScene => k_is)
    (case sa_BadScene => k_is)
    (case ga_BadScene => k_is)
    (case gg_BadScene => k_is)
    (case nb_BadScene => k_is)
    (case ini_BadScene => k_is)
    (case tf_BadScene => k_is)
    (case kC_BadScene => k_is)
    (case eC_BadScene => k_is)
    (case tC_BadScene => k_is)
    (case hC_BadScene => k_is)
    (case te_BadScene => first | rfl | k_is | decide +kernel)
    (case al_BadScene => first | rfl | k_is | decide +kernel)
    (case lf_BadScene => k_is)
    (case cf_BadScene => k_is)
    (case lc_BadScene => k_is)
    (case ld_BadScene => k_is)
    (case v2_BadScene => first | rfl | k_is | decide +kernel)
    (case fl_BadScene => first | rfl | k_is | decide +kernel)
