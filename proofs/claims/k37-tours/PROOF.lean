import PyProof.Rows.All
import Wide.All
import OpenK.AllK
import Wide.FinOn
import HandS.ForMost
import HandS.Walk
import HandS.Flow
import HandS.Style
import HandS.TupAny
import HandS.Evl
import HandS.Deep
import HandS.Dict
import HandS.DictComp
import KE.KExcSuper
import HandS.ExcSuper
import HandS.ExcField
import HandS.ExcCtx
import HandS.WordsExc
import HandS.IsInst
import HandS.Star
import HandS.DictEq
import HandS.DeepEq
import KE.KEqDict
import KE.KDictPairs
import KE.DatumOrd
import HandS.SetFor
import HandS.Strs
import HandS.Conv
import HandS.SortInts
import KE.KDictList
import Wide.Txt2
import PySem.Challenge.RW_mastcalls_k37_whole_tours
set_option Elab.async false
set_option linter.all false
set_option maxRecDepth 100000
set_option maxHeartbeats 2000000
/-! Sx: a state by descriptions: frozen data, owned cells; what an expression evaluates to; statements. -/
namespace Sx
open PySem L2 Evl

/-! ### the frozen part may grow, dicts in it may be locked and unlocked -/
def plainHO (_ : HO) : Bool := true
structure Fx (F F' : Hp) : Prop where
  pl : ∀ a u, F a = some u → plainHO u = true → F' a = some u
theorem Fx.refl (F : Hp) : Fx F F := ⟨fun _ _ h _ => h⟩
theorem Fx.trans {F F1 F2 : Hp} (a : Fx F F1) (b : Fx F1 F2) : Fx F F2 := ⟨fun x u h p => b.pl x u (a.pl x u h p) p⟩
theorem Fx.of {F F' : Hp} (h : Ex F F') : Fx F F' := ⟨fun a u e _ => h a u e⟩

structure VD where
  P : Hp → V → Prop
  mono : ∀ {F F' : Hp} {v : V}, Fx F F' → P F v → P F' v
structure CD where
  P : Hp → Addr → HO → Prop
  mono : ∀ {F F' : Hp} {p : Addr} {o : HO}, Fx F F' → F' p = F p → P F p o → P F' p o
abbrev Env := List (Option VD)
abbrev Cells := List (Addr × CD)
/-- what stands besides: of the frozen part, and more cells -/
structure Fr where
  N : Cells
  P : Hp → Prop
  mono : ∀ {F F' : Hp}, Fx F F' → P F → P F'

/-! ### data -/
mutual
inductive Rp (F : Hp) : V → PyData → Prop
  | non : Rp F .non .none
  | bl (b : Bool) : Rp F (.bl b) (.bool b)
  | int (i : Int) : Rp F (.int i) (.int i)
  | str (x : Str) : Rp F (.str x) (.str x)
  | lst {a : Addr} {xs : List V} {ds : List PyData} : F a = some (.lst xs) → RpL F xs ds → Rp F (.ref a) (.list ds)
  | tup {a : Addr} {xs : List V} {ds : List PyData} : F a = some (.tup xs) → RpL F xs ds → Rp F (.ref a) (.tuple ds)
inductive RpL (F : Hp) : List V → List PyData → Prop
  | nil : RpL F [] []
  | cons {v : V} {vs : List V} {d : PyData} {ds : List PyData} : Rp F v d → RpL F vs ds → RpL F (v :: vs) (d :: ds)
end
mutual
theorem Rp.mono {F F' : Hp} (e : Fx F F') : ∀ (d : PyData) {v : V}, Rp F v d → Rp F' v d
  | .none, _, h => by cases h; exact .non
  | .bool b, _, h => by cases h; exact .bl b
  | .int i, _, h => by cases h; exact .int i
  | .str x, _, h => by cases h; exact .str x
  | .list ds, _, h => by
    cases h with
    | lst h1 h2 => exact .lst (e.pl _ _ h1 rfl) (RpL.mono e ds h2)
  | .tuple ds, _, h => by
    cases h with
    | tup h1 h2 => exact .tup (e.pl _ _ h1 rfl) (RpL.mono e ds h2)
  | .dict _, _, h => by cases h
theorem RpL.mono {F F' : Hp} (e : Fx F F') : ∀ (ds : List PyData) {vs : List V}, RpL F vs ds → RpL F' vs ds
  | [], _, h => by cases h; exact .nil
  | d :: ds, _, h => by
    cases h with
    | cons h1 h2 => exact .cons (Rp.mono e d h1) (RpL.mono e ds h2)
end
mutual
theorem Rp.dp {K : PySem.W.Frag} {F H : Hp} (e : Ex F H) : ∀ (d : PyData) {v : V}, Rp F v d → Dp K H v d
  | .none, _, h => by cases h; exact .non
  | .bool b, _, h => by cases h; exact .bl b
  | .int i, _, h => by cases h; exact .int i
  | .str x, _, h => by cases h; exact .str x
  | .list ds, _, h => by
    cases h with
    | lst h1 h2 => exact .lst (.inl (.inl (e _ _ h1))) (RpL.dp e ds h2)
  | .tuple ds, _, h => by
    cases h with
    | tup h1 h2 => exact .tup (.inl (.inl (e _ _ h1))) (RpL.dp e ds h2)
  | .dict _, _, h => by cases h
theorem RpL.dp {K : PySem.W.Frag} {F H : Hp} (e : Ex F H) : ∀ (ds : List PyData) {vs : List V}, RpL F vs ds → DpAll K H vs ds
  | [], _, h => by cases h; exact .nil
  | d :: ds, _, h => by
    cases h with
    | cons h1 h2 => exact .cons (Rp.dp e d h1) (RpL.dp e ds h2)
end
theorem RpL.length {F : Hp} : ∀ {vs : List V} {ds : List PyData}, RpL F vs ds → vs.length = ds.length
  | _, _, .nil => rfl
  | _, _, .cons _ h => by simp [RpL.length h]
theorem RpL.get {F : Hp} : ∀ {vs : List V} {ds : List PyData} {i : Nat} {d : PyData}, RpL F vs ds → ds[i]? = some d → ∃ v, vs[i]? = some v ∧ Rp F v d
  | _, _, _, _, .nil, e => by simp at e
  | _, _, 0, _, .cons h _, e => by simp at e; subst e; exact ⟨_, rfl, h⟩
  | _, _, i + 1, d, .cons _ t, e => by
    obtain ⟨v, h1, h2⟩ := RpL.get (i := i) (d := d) t (by simpa using e)
    exact ⟨v, by simpa using h1, h2⟩
theorem RpL.getV {F : Hp} : ∀ {vs : List V} {ds : List PyData} {i : Nat} {v : V}, RpL F vs ds → vs[i]? = some v → ∃ d, ds[i]? = some d ∧ Rp F v d
  | _, _, _, _, .nil, e => by simp at e
  | _, _, 0, _, .cons h _, e => by simp at e; subst e; exact ⟨_, rfl, h⟩
  | _, _, i + 1, d, .cons _ t, e => by
    obtain ⟨v, h1, h2⟩ := RpL.getV (i := i) (v := d) t (by simpa using e)
    exact ⟨v, by simpa using h1, h2⟩
theorem RpL.append {F : Hp} : ∀ {vs ws : List V} {ds es : List PyData}, RpL F vs ds → RpL F ws es → RpL F (vs ++ ws) (ds ++ es)
  | _, _, _, _, .nil, s => s
  | _, _, _, _, .cons r t, s => .cons r (RpL.append t s)
theorem RpL.take {F : Hp} : ∀ {vs : List V} {ds : List PyData} (n : Nat), RpL F vs ds → RpL F (vs.take n) (ds.take n)
  | _, _, 0, _ => .nil
  | _, _, _ + 1, .nil => .nil
  | _, _, n + 1, .cons r t => .cons r (RpL.take n t)
theorem RpL.drop {F : Hp} : ∀ {vs : List V} {ds : List PyData} (n : Nat), RpL F vs ds → RpL F (vs.drop n) (ds.drop n)
  | _, _, 0, r => r
  | _, _, _ + 1, .nil => .nil
  | _, _, n + 1, .cons _ t => RpL.drop n t
theorem RpL.set {F : Hp} {v : V} {d : PyData} (r : Rp F v d) : ∀ {vs : List V} {ds : List PyData} (i : Nat), RpL F vs ds → RpL F (vs.set i v) (ds.set i d)
  | _, _, _, .nil => .nil
  | _, _, 0, .cons _ t => .cons r t
  | _, _, i + 1, .cons q t => .cons q (RpL.set r i t)
theorem RpL.reverse {F : Hp} : ∀ {vs : List V} {ds : List PyData}, RpL F vs ds → RpL F vs.reverse ds.reverse
  | _, _, .nil => .nil
  | _, _, .cons r t => by
    rw [List.reverse_cons, List.reverse_cons]
    exact RpL.append (RpL.reverse t) (.cons r .nil)
theorem RpL.ints {F : Hp} : ∀ {vs : List V} {ns : List Int}, RpL F vs (ns.map PyData.int) → vs = ns.map V.int
  | _, [], h => by cases h; rfl
  | _, n :: ns, h => by
    cases h with
    | cons h1 h2 =>
      cases h1
      rw [RpL.ints h2]
      rfl
theorem RpL.bls {F : Hp} : ∀ {vs : List V} {ns : List Bool}, RpL F vs (ns.map PyData.bool) → vs = ns.map V.bl
  | _, [], h => by cases h; rfl
  | _, n :: ns, h => by
    cases h with
    | cons h1 h2 =>
      cases h1
      rw [RpL.bls h2]
      rfl
theorem RpL.strs {F : Hp} : ∀ {vs : List V} {ns : List Str}, RpL F vs (ns.map PyData.str) → vs = ns.map V.str
  | _, [], h => by cases h; rfl
  | _, n :: ns, h => by
    cases h with
    | cons h1 h2 =>
      cases h1
      rw [RpL.strs h2]
      rfl

abbrev DA (F : Hp) (ds : List VD) (vs : List V) : Prop := Paired (fun (x : VD) (v : V) => x.P F v) ds vs
theorem DA.mono {F F' : Hp} (e : Fx F F') {ds : List VD} {vs : List V} (h : DA F ds vs) : DA F' ds vs := Paired.mapP h fun x _ q => x.mono e q
theorem DA.get {F : Hp} : ∀ {ds : List VD} {vs : List V} {i : Nat} {d : VD}, DA F ds vs → ds[i]? = some d → ∃ v, vs[i]? = some v ∧ d.P F v
  | _, _, _, _, .nil, e => by simp at e
  | _, _, 0, _, .cons h _, e => by simp at e; subst e; exact ⟨_, rfl, h⟩
  | _, _, i + 1, d, .cons _ t, e => by
    obtain ⟨v, h1, h2⟩ := DA.get (i := i) (d := d) t (by simpa using e)
    exact ⟨v, by simpa using h1, h2⟩
theorem DA.append {F : Hp} : ∀ {vs ws : List V} {ds es : List VD}, DA F ds vs → DA F es ws → DA F (ds ++ es) (vs ++ ws)
  | _, _, _, _, .nil, s => s
  | _, _, _, _, .cons r t, s => .cons r (DA.append t s)
theorem DA.set {F : Hp} {v : V} {d : VD} (r : d.P F v) : ∀ {vs : List V} {ds : List VD} (i : Nat), DA F ds vs → DA F (ds.set i d) (vs.set i v)
  | _, _, _, .nil => .nil
  | _, _, 0, .cons _ t => .cons r t
  | _, _, i + 1, .cons q t => .cons q (DA.set r i t)

/-! ### descriptions of values -/
def dat (d : PyData) : VD := ⟨fun F v => Rp F v d, fun e h => h.mono e⟩
def val (v0 : V) : VD := ⟨fun _ v => v = v0, fun _ h => h⟩
def vtup (xs : List VD) : VD := ⟨fun F v => ∃ a vs, v = .ref a ∧ F a = some (.tup vs) ∧ DA F xs vs, fun e ⟨a, vs, h1, h2, h3⟩ => ⟨a, vs, h1, e.pl _ _ h2 rfl, h3.mono e⟩⟩
def vlst (xs : List VD) : VD := ⟨fun F v => ∃ a vs, v = .ref a ∧ F a = some (.lst vs) ∧ DA F xs vs, fun e ⟨a, vs, h1, h2, h3⟩ => ⟨a, vs, h1, e.pl _ _ h2 rfl, h3.mono e⟩⟩
/-- a list of ints that is only read: the script -/
def vscr (K : PySem.W.Frag) (ns : List Int) : VD := ⟨fun F v => ∃ a, v = .ref a ∧ SqL K F a (ns.map V.int), fun {F F' v} e ⟨a, h1, h2⟩ => ⟨a, h1, by
  rcases h2 with (h | ⟨o, h⟩) | h
  · exact .inl (.inl (e.pl _ _ h rfl))
  · exact .inl (.inr ⟨o, e.pl _ _ h rfl⟩)
  · exact .inr h⟩⟩
abbrev vi (i : Int) : VD := dat (.int i)
abbrev vb (b : Bool) : VD := dat (.bool b)
abbrev vt (x : Str) : VD := dat (.str x)
abbrev vn : VD := dat .none
theorem DA.of_dat {F : Hp} : ∀ {ds : List PyData} {vs : List V}, DA F (ds.map dat) vs ↔ RpL F vs ds
  | [], vs => by
    constructor
    · intro h; cases h; exact .nil
    · intro h; cases h; exact .nil
  | d :: ds, vs => by
    constructor
    · intro h
      cases h with
      | cons h1 h2 => exact .cons h1 (DA.of_dat.mp h2)
    · intro h
      cases h with
      | cons h1 h2 => exact .cons h1 (DA.of_dat.mpr h2)
theorem vtup_dat {F : Hp} {v : V} {ds : List PyData} : (vtup (ds.map dat)).P F v ↔ (dat (.tuple ds)).P F v := by
  constructor
  · rintro ⟨a, ws, rfl, h1, h2⟩
    exact .tup h1 (DA.of_dat.mp h2)
  · intro h
    cases h with
    | tup h1 h2 => exact ⟨_, _, rfl, h1, DA.of_dat.mpr h2⟩
theorem vlst_dat {F : Hp} {v : V} {ds : List PyData} : (vlst (ds.map dat)).P F v ↔ (dat (.list ds)).P F v := by
  constructor
  · rintro ⟨a, ws, rfl, h1, h2⟩
    exact .lst h1 (DA.of_dat.mp h2)
  · intro h
    cases h with
    | lst h1 h2 => exact ⟨_, _, rfl, h1, DA.of_dat.mpr h2⟩

/-! ### descriptions of cells -/
def cL (xs : List VD) : CD := ⟨fun F p o => F p = none ∧ ∃ vs, o = .lst vs ∧ DA F xs vs, fun e q ⟨h0, vs, h1, h2⟩ => ⟨q.trans h0, vs, h1, h2.mono e⟩⟩
/-- a list of data -/
def cLd (ds : List PyData) : CD := ⟨fun F p o => F p = none ∧ ∃ vs, o = .lst vs ∧ RpL F vs ds, fun e q ⟨h0, vs, h1, h2⟩ => ⟨q.trans h0, vs, h1, h2.mono e⟩⟩
def FA (F : Hp) (ns : List Str) (xs : List VD) (fs : List (Str × V)) : Prop := fs.map (·.1) = ns ∧ DA F xs (fs.map (·.2))
def cI (C : Addr) (ns : List Str) (xs : List VD) : CD := ⟨fun F p o => F p = none ∧ ∃ dx fs, o = .ins C dx fs ∧ FA F ns xs fs, fun e q ⟨h0, dx, fs, h1, h2, h3⟩ => ⟨q.trans h0, dx, fs, h1, h2, h3.mono e⟩⟩

/-! ### frames, states -/
def Fr.and (Φ : Fr) (x : VD) (v : V) : Fr := ⟨Φ.N, fun F => Φ.P F ∧ x.P F v, fun e ⟨h1, h2⟩ => ⟨Φ.mono e h1, x.mono e h2⟩⟩
def Fr.andA (Φ : Fr) (ds : List VD) (vs : List V) : Fr := ⟨Φ.N, fun F => Φ.P F ∧ DA F ds vs, fun e ⟨h1, h2⟩ => ⟨Φ.mono e h1, h2.mono e⟩⟩
def Fr.top : Fr := ⟨[], fun _ => True, fun _ h => h⟩
def Slots (F : Hp) (σ : L2.St) (ρ : Env) : Prop := σ.length = ρ.length ∧ ∀ (i : Nat) (x : VD), ρ[i]? = some (some x) → ∃ v : V, σ[i]? = some (some v) ∧ x.P F v
theorem Slots.mono {F F' : Hp} {σ : L2.St} {ρ : Env} (e : Fx F F') (h : Slots F σ ρ) : Slots F' σ ρ := ⟨h.1, fun i x q => let ⟨v, h1, h2⟩ := h.2 i x q; ⟨v, h1, x.mono e h2⟩⟩
def Fr.slots (Φ : Fr) (σ : L2.St) (ρ : Env) : Fr := ⟨Φ.N, fun F => Φ.P F ∧ Slots F σ ρ, fun e ⟨h1, h2⟩ => ⟨Φ.mono e h1, h2.mono e⟩⟩
/-- more cells besides -/
def Fr.more (Φ : Fr) (c : Addr × CD) : Fr := ⟨c :: Φ.N, Φ.P, Φ.mono⟩
structure Le (Φ Ψ : Fr) : Prop where
  n : Ψ.N.Sublist Φ.N
  p : ∀ F, Φ.P F → Ψ.P F
theorem Le.refl (Φ : Fr) : Le Φ Φ := ⟨List.Sublist.refl _, fun _ h => h⟩
theorem Le.trans {Φ Ψ Χ : Fr} (a : Le Φ Ψ) (b : Le Ψ Χ) : Le Φ Χ := ⟨b.n.trans a.n, fun F h => b.p F (a.p F h)⟩
theorem Le.of {Φ Ψ : Fr} (e : Φ.N = Ψ.N) (h : ∀ F, Φ.P F → Ψ.P F) : Le Φ Ψ := ⟨by rw [e]; exact List.Sublist.refl _, h⟩
theorem Le.and {Φ : Fr} {x : VD} {v : V} : Le (Φ.and x v) Φ := .of rfl fun _ h => h.1
theorem Le.andA {Φ : Fr} {x : List VD} {v : List V} : Le (Φ.andA x v) Φ := .of rfl fun _ h => h.1
theorem Le.slots {Φ : Fr} {x : Env} {v : L2.St} : Le (Φ.slots v x) Φ := .of rfl fun _ h => h.1
theorem Le.more {Φ : Fr} {c : Addr × CD} : Le (Φ.more c) Φ := ⟨List.sublist_cons_self _ _, fun _ h => h⟩

structure SatF (F : Hp) (Φ : Fr) (ρ : Env) (M : Cells) (σ : L2.St) (H : Hp) : Prop where
  ex : Ex F H
  fr : Φ.P F
  sl : Slots F σ ρ
  nd : ((M ++ Φ.N).map (·.1)).Nodup
  ce : ∀ c ∈ M ++ Φ.N, ∃ o, H c.1 = some o ∧ c.2.P F c.1 o
def Sat (Φ : Fr) (ρ : Env) (M : Cells) (σ : L2.St) (H : Hp) : Prop := ∃ F, SatF F Φ ρ M σ H
theorem Sat.weak {Φ Ψ : Fr} {ρ : Env} {M : Cells} {σ : L2.St} {H : Hp} (h : Sat Φ ρ M σ H) (l : Le Φ Ψ) : Sat Ψ ρ M σ H :=
  let ⟨F, s⟩ := h; ⟨F, s.ex, l.p F s.fr, s.sl, List.Pairwise.sublist ((List.Sublist.append (List.Sublist.refl M) l.n).map _) s.nd, fun c hc => s.ce c ((List.Sublist.append (List.Sublist.refl M) l.n).subset hc)⟩
theorem Sat.weak1 {Φ : Fr} {x : VD} {v : V} {ρ : Env} {M : Cells} {σ : L2.St} {H : Hp} (h : Sat (Φ.and x v) ρ M σ H) : Sat Φ ρ M σ H := h.weak Le.and
/-- a new plain object -/
theorem SatF.new {F : Hp} {Φ : Fr} {ρ : Env} {M : Cells} {σ : L2.St} {H : Hp} {p : Addr} {o : HO} (s : SatF F Φ ρ M σ H) (hp : H p = none) : SatF (upd F p o) Φ ρ M σ (upd H p o) ∧ Fx F (upd F p o) := by
  have hF : F p = none := fresh_back s.ex hp
  have fx : Fx F (upd F p o) := Fx.of (Ex.new hF)
  refine ⟨⟨fun a u e => ?_, Φ.mono fx s.fr, s.sl.mono fx, s.nd, fun c hc => ?_⟩, fx⟩
  · by_cases h : a = p
    · subst h; rw [upd_same] at e ⊢; exact e
    · rw [upd_ne h] at e ⊢; exact s.ex a u e
  · obtain ⟨u, h1, h2⟩ := s.ce c hc
    have hne : c.1 ≠ p := ne_of_none h1 hp
    exact ⟨u, by rw [upd_ne hne]; exact h1, c.2.mono fx (upd_ne hne) h2⟩
/-- the heap alone grows -/
theorem SatF.newH {F : Hp} {Φ : Fr} {ρ : Env} {M : Cells} {σ : L2.St} {H : Hp} {p : Addr} {o : HO} (s : SatF F Φ ρ M σ H) (hp : H p = none) : SatF F Φ ρ M σ (upd H p o) := by
  refine ⟨fun a u e => ?_, s.fr, s.sl, s.nd, fun c hc => ?_⟩
  · rw [upd_ne (ne_of_none (s.ex a u e) hp)]; exact s.ex a u e
  · obtain ⟨u, h1, h2⟩ := s.ce c hc
    exact ⟨u, by rw [upd_ne (ne_of_none h1 hp)]; exact h1, h2⟩
/-- a new object, owned -/
theorem SatF.newC {F : Hp} {Φ : Fr} {ρ : Env} {M : Cells} {σ : L2.St} {H : Hp} {p : Addr} {o : HO} {c : CD} (s : SatF F Φ ρ M σ H) (hp : H p = none) (hc : F p = none → c.P F p o) : SatF F Φ ρ ((p, c) :: M) σ (upd H p o) := by
  have s' := s.newH (o := o) hp
  refine ⟨s'.ex, s'.fr, s'.sl, ?_, fun d hd => ?_⟩
  · rw [List.cons_append, List.map_cons, List.nodup_cons]
    refine ⟨fun hm => ?_, s.nd⟩
    obtain ⟨d, hd, e⟩ := List.mem_map.mp hm
    obtain ⟨u, h1, _⟩ := s.ce d hd
    rw [e, hp] at h1
    cases h1
  · rcases List.mem_cons.mp hd with rfl | hd
    · exact ⟨o, upd_same, hc (fresh_back s.ex hp)⟩
    · exact s'.ce d hd

/-! ### cells: one is found; one is put in another's place -/
inductive Put (p : Addr) (c c' : CD) : Cells → Cells → Prop
  | here {l : Cells} : Put p c c' ((p, c) :: l) ((p, c') :: l)
  | there {x : Addr × CD} {l l' : Cells} : Put p c c' l l' → Put p c c' (x :: l) (x :: l')
theorem Put.mem {p : Addr} {c c' : CD} {M M' : Cells} (h : Put p c c' M M') : (p, c) ∈ M := by
  induction h with
  | here => exact List.mem_cons_self
  | there _ ih => exact List.mem_cons_of_mem _ ih
theorem Put.addrs {p : Addr} {c c' : CD} {M M' : Cells} (h : Put p c c' M M') : M'.map (·.1) = M.map (·.1) := by
  induction h with
  | here => rfl
  | there _ ih => simp [ih]
theorem Put.mem' {p : Addr} {c c' : CD} {M M' : Cells} (h : Put p c c' M M') : ∀ d ∈ M', d = (p, c') ∨ d ∈ M := by
  induction h with
  | here =>
    intro d hd
    rcases List.mem_cons.mp hd with e | hd
    · exact .inl e
    · exact .inr (List.mem_cons_of_mem _ hd)
  | there _ ih =>
    intro d hd
    rcases List.mem_cons.mp hd with e | hd
    · exact .inr (by rw [e]; exact List.mem_cons_self)
    · exact (ih d hd).imp_right (List.mem_cons_of_mem _)
theorem Put.uniq {p : Addr} {c c' : CD} {M M' : Cells} (h : Put p c c' M M') (nd : (M.map (·.1)).Nodup) : ∀ d ∈ M', d ≠ (p, c') → d.1 ≠ p := by
  induction h with
  | @here l =>
    intro d hd hne e
    rcases List.mem_cons.mp hd with q | hd
    · exact hne q
    · have := (List.nodup_cons.mp nd).1
      exact this (List.mem_map.mpr ⟨d, hd, e⟩)
  | @there x l l' hp ih =>
    intro d hd hne e
    rcases List.mem_cons.mp hd with q | hd
    · subst q
      have := (List.nodup_cons.mp nd).1
      exact this (List.mem_map.mpr ⟨(p, c), hp.mem, e.symm⟩)
    · exact ih (List.nodup_cons.mp nd).2 d hd hne e
theorem Put.app {p : Addr} {c c' : CD} {M M' : Cells} (h : Put p c c' M M') (N : Cells) : Put p c c' (M ++ N) (M' ++ N) := by
  induction h with
  | here => exact .here
  | there _ ih => exact .there ih
theorem Put.behind {p : Addr} {c c' : CD} {N N' : Cells} (h : Put p c c' N N') : ∀ M : Cells, Put p c c' (M ++ N) (M ++ N')
  | [] => h
  | _ :: M => .there (Put.behind h M)
/-- an owned cell is written -/
theorem SatF.put {F : Hp} {Φ Φ' : Fr} {ρ : Env} {M M' : Cells} {σ : L2.St} {H : Hp} {p : Addr} {o : HO} {c c' : CD} (s : SatF F Φ ρ M σ H) (h : Put p c c' (M ++ Φ.N) (M' ++ Φ'.N)) (hΦ : Φ'.P F) (hF : F p = none) (hc : c'.P F p o) : SatF F Φ' ρ M' σ (upd H p o) := by
  refine ⟨fun a u e => ?_, hΦ, s.sl, by rw [h.addrs]; exact s.nd, fun d hd => ?_⟩
  · have : a ≠ p := ne_of_none e hF
    rw [upd_ne this]; exact s.ex a u e
  · rcases Classical.em (d = (p, c')) with e | e
    · subst e; exact ⟨o, upd_same, hc⟩
    · have hne := h.uniq s.nd d hd e
      obtain ⟨u, h1, h2⟩ := s.ce d ((h.mem' d hd).resolve_left e)
      exact ⟨u, by rw [upd_ne hne]; exact h1, h2⟩
theorem SatF.put1 {F : Hp} {Φ : Fr} {ρ : Env} {M M' : Cells} {σ : L2.St} {H : Hp} {p : Addr} {o : HO} {c c' : CD} (s : SatF F Φ ρ M σ H) (h : Put p c c' M M') (hF : F p = none) (hc : c'.P F p o) : SatF F Φ ρ M' σ (upd H p o) := s.put (h.app _) s.fr hF hc
theorem SatF.at {F : Hp} {Φ : Fr} {ρ : Env} {M : Cells} {σ : L2.St} {H : Hp} {p : Addr} {c : CD} (s : SatF F Φ ρ M σ H) (h : (p, c) ∈ M) : ∃ o, H p = some o ∧ c.P F p o := s.ce _ (List.mem_append_left _ h)
theorem Put.same {p : Addr} {c : CD} : ∀ {M : Cells}, (p, c) ∈ M → Put p c c M M
  | [], h => by cases h
  | x :: l, h => by
    by_cases e : (p, c) = x
    · subst e; exact .here
    · exact .there (Put.same ((List.mem_cons.mp h).resolve_left e))

/-! ### slots -/
inductive SetAt (x : VD) : Env → Nat → Env → Prop
  | here {a : Option VD} {l : Env} : SetAt x (a :: l) 0 (some x :: l)
  | there {a : Option VD} {l l' : Env} {i : Nat} : SetAt x l i l' → SetAt x (a :: l) (i + 1) (a :: l')
theorem SetAt.eq {x : VD} {ρ ρ' : Env} {i : Nat} (h : SetAt x ρ i ρ') : ρ' = ρ.set i (some x) := by
  induction h with
  | here => rfl
  | there _ ih => simp [ih]
theorem Slots.set {F : Hp} {σ : L2.St} {ρ : Env} (h : Slots F σ ρ) {i : Nat} {x : VD} {v : V} (hv : x.P F v) : Slots F (σ.set i (some v)) (ρ.set i (some x)) := by
  refine ⟨by simp [h.1], fun j y e => ?_⟩
  by_cases q : i = j
  · subst q
    by_cases hl : i < ρ.length
    · rw [List.getElem?_set_self hl] at e
      cases e
      exact ⟨v, by rw [List.getElem?_set_self (by rw [h.1]; exact hl)], hv⟩
    · rw [List.getElem?_eq_none (by simp; omega)] at e
      cases e
  · rw [List.getElem?_set_ne q] at e
    obtain ⟨w, h1, h2⟩ := h.2 j y e
    exact ⟨w, by rw [List.getElem?_set_ne q]; exact h1, h2⟩
theorem Slots.wipe {F : Hp} {σ : L2.St} {ρ : Env} (h : Slots F σ ρ) (i : Nat) : Slots F (σ.set i none) (ρ.set i none) := by
  refine ⟨by simp [h.1], fun j y e => ?_⟩
  by_cases q : i = j
  · subst q
    by_cases hl : i < ρ.length
    · rw [List.getElem?_set_self hl] at e
      cases e
    · rw [List.getElem?_eq_none (by simp; omega)] at e
      cases e
  · rw [List.getElem?_set_ne q] at e
    obtain ⟨w, h1, h2⟩ := h.2 j y e
    exact ⟨w, by rw [List.getElem?_set_ne q]; exact h1, h2⟩
inductive At (x : VD) : Env → Nat → Prop
  | here {l : Env} : At x (some x :: l) 0
  | there {a : Option VD} {l : Env} {i : Nat} : At x l i → At x (a :: l) (i + 1)
theorem At.get {x : VD} {ρ : Env} {i : Nat} (h : At x ρ i) : ρ[i]? = some (some x) := by
  induction h with
  | here => rfl
  | there _ ih => simpa using ih

/-! ### what evaluates to what -/
def Ev (te : TE) (ρ : Env) (M : Cells) (x : VD) (M' : Cells) : Prop := ∀ (Φ : Fr) (σ : L2.St) (H : Hp) (Q : VK), Sat Φ ρ M σ H → (∀ v H', Sat (Φ.and x v) ρ M' σ H' → Q v H') → te σ H Q
def EvA (ta : TA) (ρ : Env) (M : Cells) (ds : List VD) (M' : Cells) : Prop := ∀ (Φ : Fr) (σ : L2.St) (H : Hp) (Q : List V → Hp → Prop), Sat Φ ρ M σ H → (∀ v H', Sat (Φ.andA ds v) ρ M' σ H' → Q v H') → ta σ H Q
/-- .. all of them data -/
def EvD (ta : TA) (ρ : Env) (M : Cells) (ds : List PyData) (M' : Cells) : Prop := EvA ta ρ M (ds.map dat) M'
def EvT (tt : TT) (ρ : Env) (M : Cells) (b : Bool) (M' : Cells) : Prop := ∀ (Φ : Fr) (σ : L2.St) (H : Hp) (Q : Bool → Hp → Prop), Sat Φ ρ M σ H → (∀ H', Sat Φ ρ M' σ H' → Q b H') → tt σ H Q
def EvO (to : TO) (ρ : Env) (M : Cells) (o : Option Int) (M' : Cells) : Prop := ∀ (Φ : Fr) (σ : L2.St) (H : Hp) (Q : Option Int → Hp → Prop), Sat Φ ρ M σ H → (∀ H', Sat Φ ρ M' σ H' → Q o H') → to σ H Q
def RV (r : R2) (x y : VD) (M : Cells) (z : VD) (M' : Cells) : Prop := ∀ (Φ : Fr) (ρ : Env) (σ : L2.St) (v w : V) (H : Hp) (Q : VK), Sat ((Φ.and x v).and y w) ρ M σ H → (∀ u H', Sat (Φ.and z u) ρ M' σ H' → Q u H') → r v w H Q
def RU (r : V → Hp → VK → Prop) (x : VD) (M : Cells) (z : VD) (M' : Cells) : Prop := ∀ (Φ : Fr) (ρ : Env) (σ : L2.St) (v : V) (H : Hp) (Q : VK), Sat (Φ.and x v) ρ M σ H → (∀ u H', Sat (Φ.and z u) ρ M' σ H' → Q u H') → r v H Q
def RC (r : List V → Hp → VK → Prop) (ds : List VD) (M : Cells) (z : VD) (M' : Cells) : Prop := ∀ (Φ : Fr) (ρ : Env) (σ : L2.St) (vs : List V) (H : Hp) (Q : VK), Sat (Φ.andA ds vs) ρ M σ H → (∀ u H', Sat (Φ.and z u) ρ M' σ H' → Q u H') → r vs H Q
def RM (r : V → List V → Hp → VK → Prop) (x : VD) (ds : List VD) (M : Cells) (z : VD) (M' : Cells) : Prop := ∀ (Φ : Fr) (ρ : Env) (σ : L2.St) (v : V) (vs : List V) (H : Hp) (Q : VK), Sat ((Φ.and x v).andA ds vs) ρ M σ H → (∀ u H', Sat (Φ.and z u) ρ M' σ H' → Q u H') → r v vs H Q

section
variable {ρ : Env} {M M1 M2 M3 M' : Cells} {ta tb te : TE} {x y z : VD}
theorem Ev.imp {w : VD} (h : Ev te ρ M x M') (k : ∀ F v, x.P F v → w.P F v) : Ev te ρ M w M' := fun Φ σ H Q s q => h Φ σ H Q s fun v H' s' => q v H' (s'.weak (.of rfl fun F p => ⟨p.1, k F v p.2⟩))
theorem Ev.eq {w : VD} (h : Ev te ρ M x M') (k : x = w) : Ev te ρ M w M' := k ▸ h
theorem ev_var {i : Nat} (h : At x ρ i) : Ev (tVar i) ρ M x M := fun Φ σ H Q ⟨F, s⟩ q => by
  obtain ⟨v, h1, h2⟩ := s.sl.2 i x h.get
  exact ⟨v, h1, q v H ⟨F, s.ex, ⟨s.fr, h2⟩, s.sl, s.nd, s.ce⟩⟩
theorem ev_c {v : V} {d : PyData} (h : ∀ F, Rp F v d) : Ev (tC v) ρ M (dat d) M := fun Φ σ H Q ⟨F, s⟩ q => q v H ⟨F, s.ex, ⟨s.fr, h F⟩, s.sl, s.nd, s.ce⟩
theorem ev_int {i : Int} : Ev (tC (.int i)) ρ M (dat (.int i)) M := ev_c fun _ => .int i
theorem ev_bl {i : Bool} : Ev (tC (.bl i)) ρ M (dat (.bool i)) M := ev_c fun _ => .bl i
theorem ev_str {i : Str} : Ev (tC (.str i)) ρ M (dat (.str i)) M := ev_c fun _ => .str i
theorem ev_non : Ev (tC .non) ρ M (dat .none) M := ev_c fun _ => .non
theorem ev_val {v : V} : Ev (tC v) ρ M (val v) M := fun Φ σ H Q ⟨F, s⟩ q => q v H ⟨F, s.ex, ⟨s.fr, rfl⟩, s.sl, s.nd, s.ce⟩
theorem ev_op {r : R2} (ha : Ev ta ρ M x M1) (hb : Ev tb ρ M1 y M2) (hr : RV r x y M2 z M3) : Ev (tOp r ta tb) ρ M z M3 := fun Φ σ H Q s q =>
  ha Φ σ H _ s fun v H1 s1 => hb _ σ H1 _ s1 fun w H2 s2 => hr Φ ρ σ v w H2 Q s2 q
theorem ev_un {r : V → Hp → VK → Prop} (ha : Ev ta ρ M x M1) (hr : RU r x M1 z M2) : Ev (tUn r ta) ρ M z M2 := fun Φ σ H Q s q =>
  ha Φ σ H _ s fun v H1 s1 => hr Φ ρ σ v H1 Q s1 q
theorem ea_nil : EvA tNil ρ M [] M := fun Φ σ H Q ⟨F, s⟩ q => q [] H ⟨F, s.ex, ⟨s.fr, .nil⟩, s.sl, s.nd, s.ce⟩
theorem ea_cons {tr : TA} {ds : List VD} (ha : Ev ta ρ M x M1) (hr : EvA tr ρ M1 ds M2) : EvA (tCons ta tr) ρ M (x :: ds) M2 := fun Φ σ H Q s q =>
  ha Φ σ H _ s fun v H1 s1 => hr _ σ H1 _ s1 fun vs H2 s2 => q (v :: vs) H2 (s2.weak (.of rfl fun F p => ⟨p.1.1, .cons p.1.2 p.2⟩))
theorem ed_nil : EvD tNil ρ M [] M := ea_nil
theorem ed_cons {tr : TA} {d : PyData} {ds : List PyData} (ha : Ev ta ρ M (dat d) M1) (hr : EvD tr ρ M1 ds M2) : EvD (tCons ta tr) ρ M (d :: ds) M2 := ea_cons ha hr
theorem ev_tupD {t : TA} {ds : List PyData} (h : EvD t ρ M ds M') (hl : ds.length ≤ sizeLine) : Ev (tTup t) ρ M (dat (.tuple ds)) M' := fun Φ σ H Q s q =>
  h Φ σ H _ s fun vs H1 ⟨F, s1⟩ => by
    have hr := DA.of_dat.mp s1.fr.2
    refine ⟨by rw [hr.length]; exact hl, fun p hp => ?_⟩
    obtain ⟨s2, fx⟩ := s1.new (o := .tup vs) hp
    exact q _ _ ⟨_, s2.ex, ⟨s2.fr.1, .tup upd_same (hr.mono fx)⟩, s2.sl, s2.nd, s2.ce⟩
theorem ev_lstD {t : TA} {ds : List PyData} (h : EvD t ρ M ds M') (hl : ds.length ≤ sizeLine) : Ev (tLst t) ρ M (dat (.list ds)) M' := fun Φ σ H Q s q =>
  h Φ σ H _ s fun vs H1 ⟨F, s1⟩ => by
    have hr := DA.of_dat.mp s1.fr.2
    refine ⟨by rw [hr.length]; exact hl, fun p hp => ?_⟩
    obtain ⟨s2, fx⟩ := s1.new (o := .lst vs) hp
    exact q _ _ ⟨_, s2.ex, ⟨s2.fr.1, .lst upd_same (hr.mono fx)⟩, s2.sl, s2.nd, s2.ce⟩
theorem ev_tupV {t : TA} {ds : List VD} (h : EvA t ρ M ds M') (hl : ds.length ≤ sizeLine) : Ev (tTup t) ρ M (vtup ds) M' := fun Φ σ H Q s q =>
  h Φ σ H _ s fun vs H1 ⟨F, s1⟩ => by
    have hr := s1.fr.2
    refine ⟨by rw [← Paired.length hr]; exact hl, fun p hp => ?_⟩
    obtain ⟨s2, fx⟩ := s1.new (o := .tup vs) hp
    exact q _ _ ⟨_, s2.ex, ⟨s2.fr.1, ⟨p, vs, rfl, upd_same, hr.mono fx⟩⟩, s2.sl, s2.nd, s2.ce⟩
theorem ev_lstV {t : TA} {ds : List VD} (h : EvA t ρ M ds M') (hl : ds.length ≤ sizeLine) : Ev (tLst t) ρ M (vlst ds) M' := fun Φ σ H Q s q =>
  h Φ σ H _ s fun vs H1 ⟨F, s1⟩ => by
    have hr := s1.fr.2
    refine ⟨by rw [← Paired.length hr]; exact hl, fun p hp => ?_⟩
    obtain ⟨s2, fx⟩ := s1.new (o := .lst vs) hp
    exact q _ _ ⟨_, s2.ex, ⟨s2.fr.1, ⟨p, vs, rfl, upd_same, hr.mono fx⟩⟩, s2.sl, s2.nd, s2.ce⟩
theorem ev_if {t : TT} {b : Bool} (h : EvT t ρ M b M1) (h1 : b = true → Ev ta ρ M1 x M2) (h2 : b = false → Ev tb ρ M1 x M2) : Ev (tIf t ta tb) ρ M x M2 := fun Φ σ H Q s q =>
  h Φ σ H _ s fun H1 s1 => by
    cases b with
    | true =>
      rw [if_pos rfl]
      exact h1 rfl Φ σ H1 Q s1 q
    | false =>
      rw [if_neg Bool.false_ne_true]
      exact h2 rfl Φ σ H1 Q s1 q
end
end Sx

set_option Elab.async false
set_option linter.all false
set_option maxRecDepth 100000
set_option maxHeartbeats 2000000
/-! Sx2: operators, by descriptions. -/
namespace Sx
open PySem L2 Evl

/-! ### what stands as a list, a tuple -/
def IsLst (x : VD) (M : Cells) (ds : List PyData) : Prop := ∀ {F Φ ρ σ H v}, SatF F Φ ρ M σ H → x.P F v → ∃ a ws, v = .ref a ∧ H a = some (.lst ws) ∧ RpL F ws ds
def IsTup (x : VD) (M : Cells) (ds : List PyData) : Prop := ∀ {F Φ ρ σ H v}, SatF F Φ ρ M σ H → x.P F v → ∃ a ws, v = .ref a ∧ H a = some (.tup ws) ∧ RpL F ws ds
def IsLstV (x : VD) (M : Cells) (ds : List VD) : Prop := ∀ {F Φ ρ σ H v}, SatF F Φ ρ M σ H → x.P F v → ∃ a ws, v = .ref a ∧ H a = some (.lst ws) ∧ DA F ds ws
def IsTupV (x : VD) (M : Cells) (ds : List VD) : Prop := ∀ {F Φ ρ σ H v}, SatF F Φ ρ M σ H → x.P F v → ∃ a ws, v = .ref a ∧ H a = some (.tup ws) ∧ DA F ds ws
theorem isl_dat {M : Cells} {ds : List PyData} : IsLst (dat (.list ds)) M ds := fun s h => by
  cases h with
  | lst h1 h2 => exact ⟨_, _, rfl, s.ex _ _ h1, h2⟩
theorem ist_dat {M : Cells} {ds : List PyData} : IsTup (dat (.tuple ds)) M ds := fun s h => by
  cases h with
  | tup h1 h2 => exact ⟨_, _, rfl, s.ex _ _ h1, h2⟩
theorem isl_cell {M : Cells} {ds : List PyData} {p : Addr} (m : (p, cLd ds) ∈ M) : IsLst (val (.ref p)) M ds := fun s h => by
  obtain ⟨o, h1, h2, ws, h3, h4⟩ := s.at m
  exact ⟨p, ws, h, by rw [h1, h3], h4⟩
theorem islv_cell {M : Cells} {ds : List VD} {p : Addr} (m : (p, cL ds) ∈ M) : IsLstV (val (.ref p)) M ds := fun s h => by
  obtain ⟨o, h1, h2, ws, h3, h4⟩ := s.at m
  exact ⟨p, ws, h, by rw [h1, h3], h4⟩
theorem islv_vlst {M : Cells} {ds : List VD} : IsLstV (vlst ds) M ds := fun s ⟨a, ws, h1, h2, h3⟩ => ⟨a, ws, h1, s.ex _ _ h2, h3⟩
theorem istv_vtup {M : Cells} {ds : List VD} : IsTupV (vtup ds) M ds := fun s ⟨a, ws, h1, h2, h3⟩ => ⟨a, ws, h1, s.ex _ _ h2, h3⟩
theorem IsLst.v {x : VD} {M : Cells} {ds : List PyData} (h : IsLst x M ds) : IsLstV x M (ds.map dat) := fun s q => by
  obtain ⟨a, ws, h1, h2, h3⟩ := h s q
  exact ⟨a, ws, h1, h2, DA.of_dat.mpr h3⟩
theorem IsTup.v {x : VD} {M : Cells} {ds : List PyData} (h : IsTup x M ds) : IsTupV x M (ds.map dat) := fun s q => by
  obtain ⟨a, ws, h1, h2, h3⟩ := h s q
  exact ⟨a, ws, h1, h2, DA.of_dat.mpr h3⟩
/-- either -/
def IsSeq (K : PySem.W.Frag) (x : VD) (M : Cells) (ds : List VD) : Prop := ∀ {F Φ ρ σ H v}, SatF F Φ ρ M σ H → x.P F v → ∃ a ws, v = .ref a ∧ (SqL K H a ws ∨ SqT K H a ws) ∧ DA F ds ws
theorem iss_l {K : PySem.W.Frag} {x : VD} {M : Cells} {ds : List VD} (h : IsLstV x M ds) : IsSeq K x M ds := fun s q => by
  obtain ⟨a, ws, h1, h2, h3⟩ := h s q
  exact ⟨a, ws, h1, .inl (sq_of h2), h3⟩
theorem iss_t {K : PySem.W.Frag} {x : VD} {M : Cells} {ds : List VD} (h : IsTupV x M ds) : IsSeq K x M ds := fun s q => by
  obtain ⟨a, ws, h1, h2, h3⟩ := h s q
  exact ⟨a, ws, h1, .inr (st_of h2), h3⟩

/-- the state behind a value that was just made; data said of it -/
theorem Sat.ret {F : Hp} {Φ : Fr} {ρ : Env} {M : Cells} {σ : L2.St} {H : Hp} {x : VD} {v : V} (s : SatF F Φ ρ M σ H) (h : x.P F v) : Sat (Φ.and x v) ρ M σ H := ⟨F, s.ex, ⟨s.fr, h⟩, s.sl, s.nd, s.ce⟩
theorem SatF.weak {F : Hp} {Φ Ψ : Fr} {ρ : Env} {M : Cells} {σ : L2.St} {H : Hp} (s : SatF F Φ ρ M σ H) (l : Le Φ Ψ) : SatF F Ψ ρ M σ H := ⟨s.ex, l.p F s.fr, s.sl, List.Pairwise.sublist ((List.Sublist.append (List.Sublist.refl M) l.n).map _) s.nd, fun c hc => s.ce c ((List.Sublist.append (List.Sublist.refl M) l.n).subset hc)⟩
theorem SatF.base {F : Hp} {Φ : Fr} {ρ : Env} {M : Cells} {σ : L2.St} {H : Hp} {x y : VD} {v w : V} (s : SatF F ((Φ.and x v).and y w) ρ M σ H) : SatF F Φ ρ M σ H := s.weak (.of rfl fun _ h => h.1.1)
theorem Sat.retNew {F : Hp} {Φ : Fr} {ρ : Env} {M : Cells} {σ : L2.St} {H : Hp} {x : VD} {v : V} {p : Addr} {o : HO} (s : SatF F Φ ρ M σ H) (hp : H p = none) (h : ∀ F', Fx F F' → F' p = some o → x.P F' v) : Sat (Φ.and x v) ρ M σ (upd H p o) := by
  obtain ⟨s2, fx⟩ := s.new (o := o) hp
  exact ⟨_, s2.ex, ⟨s2.fr, h _ fx upd_same⟩, s2.sl, s2.nd, s2.ce⟩

/-! ### + -/
def rAddS : R2 := fun x y H Q => ∃ i j, x = .str i ∧ y = .str j ∧ i.length + j.length ≤ sizeLine ∧ Q (.str (i ++ j)) H
def rAddU (K : PySem.W.Frag) : R2 := fun x y H Q => rI0 (fun i j => .int (i + j)) x y H Q ∨ (rAddS x y H Q ∨ (rCat x y H Q ∨ rCatA K x y H Q))
theorem op_addU {X : Cx} : OpR X (binaryOp .Add) (rAddU X.K) := op_add.or (op_add_str.or (op_cat.or op_catA))
section
variable {K : PySem.W.Frag} {ρ : Env} {M M' : Cells} {x y z : VD}
theorem rv_addI {i j : Int} : RV (rAddU K) (dat (.int i)) (dat (.int j)) M (dat (.int (i + j))) M := fun Φ ρ σ v w H Q ⟨F, s⟩ q => by
  cases s.fr.1.2; cases s.fr.2
  exact .inl ⟨i, j, rfl, rfl, q _ _ (Sat.ret s.base (.int _))⟩
theorem rv_addS {i j : Str} (hl : i.length + j.length ≤ sizeLine) : RV (rAddU K) (dat (.str i)) (dat (.str j)) M (dat (.str (i ++ j))) M := fun Φ ρ σ v w H Q ⟨F, s⟩ q => by
  cases s.fr.1.2; cases s.fr.2
  exact .inr (.inl ⟨i, j, rfl, rfl, hl, q _ _ (Sat.ret s.base (.str _))⟩)
theorem rv_cat {as bs : List PyData} (hx : IsLst x M as) (hy : IsLst y M bs) (hl : as.length + bs.length ≤ sizeLine) : RV (rAddU K) x y M (dat (.list (as ++ bs))) M := fun Φ ρ σ v w H Q ⟨F, s⟩ q => by
  obtain ⟨a, vs1, rfl, h1, h2⟩ := hx s s.fr.1.2
  obtain ⟨b, vs2, rfl, h3, h4⟩ := hy s s.fr.2
  refine .inr (.inr (.inl ⟨a, b, vs1, vs2, rfl, rfl, h1, h3, by rw [h2.length, h4.length]; exact hl, fun p hp => q _ _ (Sat.retNew s.base hp fun F' fx e => .lst e ((h2.append h4).mono fx))⟩))
theorem rv_catV {as bs : List VD} (hx : IsLstV x M as) (hy : IsLstV y M bs) (hl : as.length + bs.length ≤ sizeLine) : RV (rAddU K) x y M (vlst (as ++ bs)) M := fun Φ ρ σ v w H Q ⟨F, s⟩ q => by
  obtain ⟨a, vs1, rfl, h1, h2⟩ := hx s s.fr.1.2
  obtain ⟨b, vs2, rfl, h3, h4⟩ := hy s s.fr.2
  refine .inr (.inr (.inl ⟨a, b, vs1, vs2, rfl, rfl, h1, h3, by rw [← Paired.length h2, ← Paired.length h4]; exact hl, fun p hp => q _ _ (Sat.retNew s.base hp fun F' fx e => ⟨p, _, rfl, e, (h2.append h4).mono fx⟩)⟩))
theorem rv_catT {as bs : List PyData} (hx : IsTup x M as) (hy : IsTup y M bs) (hfx : ∀ F v, x.P F v → (dat (.tuple as)).P F v) (hfy : ∀ F v, y.P F v → (dat (.tuple bs)).P F v) (hl : as.length + bs.length ≤ sizeLine) : RV (rAddU K) x y M (dat (.tuple (as ++ bs))) M := fun Φ ρ σ v w H Q ⟨F, s⟩ q => by
  have e1 := hfx F _ s.fr.1.2
  have e2 := hfy F _ s.fr.2
  obtain ⟨a, vs1, rfl, h1, h2⟩ := hx s s.fr.1.2
  obtain ⟨b, vs2, rfl, h3, h4⟩ := hy s s.fr.2
  refine .inr (.inr (.inr ⟨a, b, vs1, vs2, rfl, rfl, st_of h1, st_of h3, by rw [h2.length, h4.length]; exact hl, fun he => ?_, fun _ he => ?_, fun _ _ p hp => q _ _ (Sat.retNew s.base hp fun F' fx e => .tup e ((h2.append h4).mono fx))⟩))
  · subst he
    have : as = [] := List.eq_nil_of_length_eq_zero h2.length.symm
    subst this
    exact q _ _ (Sat.ret s.base e2)
  · subst he
    have : bs = [] := List.eq_nil_of_length_eq_zero h4.length.symm
    subst this
    exact q _ _ (Sat.ret s.base (by rw [List.append_nil]; exact e1))
theorem rv_catTd {as bs : List PyData} (hl : as.length + bs.length ≤ sizeLine) : RV (rAddU K) (dat (.tuple as)) (dat (.tuple bs)) M (dat (.tuple (as ++ bs))) M := rv_catT ist_dat ist_dat (fun _ _ h => h) (fun _ _ h => h) hl

/-! ### the other operators on ints -/
theorem rv_I0 {g : Int → Int → V} {d : Int → Int → PyData} {i j : Int} (h : ∀ F, Rp F (g i j) (d i j)) : RV (rI0 g) (dat (.int i)) (dat (.int j)) M (dat (d i j)) M := fun Φ ρ σ v w H Q ⟨F, s⟩ q => by
  cases s.fr.1.2; cases s.fr.2
  exact ⟨i, j, rfl, rfl, q _ _ (Sat.ret s.base (h F))⟩
theorem rv_int0 {g : Int → Int → Int} {i j : Int} : RV (rI0 fun i j => .int (g i j)) (dat (.int i)) (dat (.int j)) M (dat (.int (g i j))) M := rv_I0 (d := fun i j => .int (g i j)) fun _ => .int _
theorem rv_bl0 {g : Int → Int → Bool} {i j : Int} : RV (rI0 fun i j => .bl (g i j)) (dat (.int i)) (dat (.int j)) M (dat (.bool (g i j))) M := rv_I0 (d := fun i j => .bool (g i j)) fun _ => .bl _
theorem rv_intC {C : Int → Int → Prop} {g : Int → Int → Int} {i j : Int} (hc : C i j) : RV (rI C fun i j => .int (g i j)) (dat (.int i)) (dat (.int j)) M (dat (.int (g i j))) M := fun Φ ρ σ v w H Q ⟨F, s⟩ q => by
  cases s.fr.1.2; cases s.fr.2
  exact ⟨i, j, rfl, rfl, hc, q _ _ (Sat.ret s.base (.int _))⟩
theorem ru_neg {i : Int} : RU (rU fun i => .int (-i)) (dat (.int i)) M (dat (.int (-i))) M := fun Φ ρ σ v H Q ⟨F, s⟩ q => by
  cases s.fr.2
  exact ⟨i, rfl, q _ _ (Sat.ret (s.weak Le.and) (.int _))⟩

/-! ### == -/
/-- data as it stands, its own list cells too -/
def IsDat (K : PySem.W.Frag) (x : VD) (M : Cells) (d : PyData) : Prop := ∀ {F Φ ρ σ H v}, SatF F Φ ρ M σ H → x.P F v → Dp K H v d
def IsDats (K : PySem.W.Frag) (xs : List VD) (M : Cells) (ds : List PyData) : Prop := ∀ {F Φ ρ σ H vs}, SatF F Φ ρ M σ H → DA F xs vs → DpAll K H vs ds
theorem isd_dat {d : PyData} : IsDat K (dat d) M d := fun s h => Rp.dp s.ex d h
theorem isd_cell {ds : List PyData} {p : Addr} (m : (p, cLd ds) ∈ M) : IsDat K (val (.ref p)) M (.list ds) := fun s h => by
  obtain ⟨a, ws, rfl, h1, h2⟩ := isl_cell m s h
  exact .lst (sq_of h1) (RpL.dp s.ex ds h2)
theorem isds_nil : IsDats K [] M [] := fun s h => by cases h; exact .nil
theorem isds_cons {d : PyData} {xs : List VD} {ds : List PyData} (h1 : IsDat K x M d) (h2 : IsDats K xs M ds) : IsDats K (x :: xs) M (d :: ds) := fun s h => by
  cases h with
  | cons q1 q2 => exact .cons (h1 s q1) (h2 s q2)
theorem isd_vtup {xs : List VD} {ds : List PyData} (h : IsDats K xs M ds) : IsDat K (vtup xs) M (.tuple ds) := fun s ⟨a, ws, e, h1, h2⟩ => by
  subst e
  exact .tup (st_of (s.ex _ _ h1)) (h s h2)
theorem isd_vlst {xs : List VD} {ds : List PyData} (h : IsDats K xs M ds) : IsDat K (vlst xs) M (.list ds) := fun s ⟨a, ws, e, h1, h2⟩ => by
  subst e
  exact .lst (sq_of (s.ex _ _ h1)) (h s h2)
/-- of such a depth, its texts of our kind -/
def Shp (n : Nat) (d : PyData) : Prop := d.canLay0 = true ∧ d.depth ≤ n
theorem Shp.ok {n : Nat} {d : PyData} (h : Shp n d) (hn : n ≤ 64) : SeqAt.shaped d = true := by
  unfold SeqAt.shaped
  rw [h.1, decide_eq_true (Nat.le_trans h.2 hn)]
  rfl
theorem shp_int {n : Nat} {i : Int} : Shp n (.int i) := ⟨rfl, Nat.zero_le _⟩
theorem shp_none {n : Nat} : Shp n .none := ⟨rfl, Nat.zero_le _⟩
theorem shp_bool {n : Nat} {i : Bool} : Shp n (.bool i) := ⟨rfl, Nat.zero_le _⟩
theorem shp_str {n : Nat} {x : Str} (h : PyData.strOk x = true) : Shp n (.str x) := ⟨by rw [PyData.canLay0]; exact h, Nat.zero_le _⟩
def ShpA (n : Nat) (ds : List PyData) : Prop := PyData.canLayAll0 ds = true ∧ PyData.depthAll ds ≤ n
theorem shpA_nil {n : Nat} : ShpA n [] := ⟨rfl, Nat.zero_le _⟩
theorem shpA_cons {n : Nat} {d : PyData} {ds : List PyData} (h : Shp n d) (t : ShpA n ds) : ShpA n (d :: ds) := ⟨by rw [PyData.canLayAll0, h.1, t.1]; rfl, by rw [PyData.depthAll]; exact Nat.max_le.mpr ⟨h.2, t.2⟩⟩
theorem shpA_of {n : Nat} : ∀ {ds : List PyData}, (∀ d ∈ ds, Shp n d) → ShpA n ds
  | [], _ => shpA_nil
  | d :: ds, h => shpA_cons (h d List.mem_cons_self) (shpA_of fun e he => h e (List.mem_cons_of_mem _ he))
theorem shp_list {n : Nat} {ds : List PyData} (h : ShpA n ds) : Shp (n + 1) (.list ds) := ⟨by rw [PyData.canLay0]; exact h.1, by rw [PyData.depth]; exact Nat.succ_le_succ h.2⟩
theorem shp_tuple {n : Nat} {ds : List PyData} (h : ShpA n ds) : Shp (n + 1) (.tuple ds) := ⟨by rw [PyData.canLay0]; exact h.1, by rw [PyData.depth]; exact Nat.succ_le_succ h.2⟩
theorem shpA_map {α : Type} {n : Nat} {f : α → PyData} {xs : List α} (h : ∀ x ∈ xs, Shp n (f x)) : ShpA n (xs.map f) := shpA_of fun d hd => by
  obtain ⟨x, hx, rfl⟩ := List.mem_map.mp hd
  exact h x hx
/-- equal as data just if equal -/
def EqOk {α : Type} (f : α → PyData) : Prop := ∀ x y, PyData.eqv (f x) (f y) = true ↔ x = y
theorem eqvAll_map {α : Type} {f : α → PyData} (h : EqOk f) : ∀ xs ys : List α, PyData.eqvAll (xs.map f) (ys.map f) = true ↔ xs = ys
  | [], [] => by simp [PyData.eqvAll]
  | x :: xs, [] => by simp [PyData.eqvAll]
  | [], y :: ys => by simp [PyData.eqvAll]
  | x :: xs, y :: ys => by
    rw [List.map_cons, List.map_cons, PyData.eqvAll, Bool.and_eq_true, h x y, eqvAll_map h xs ys, List.cons.injEq]
theorem eqok_list {α : Type} {f : α → PyData} (h : EqOk f) : EqOk fun xs : List α => .list (xs.map f) := fun xs ys => by
  show PyData.eqv (.list (xs.map f)) (.list (ys.map f)) = true ↔ _
  rw [PyData.eqv]; exact eqvAll_map h xs ys
theorem eqok_tuple {α : Type} {f : α → PyData} (h : EqOk f) : EqOk fun xs : List α => .tuple (xs.map f) := fun xs ys => by
  show PyData.eqv (.tuple (xs.map f)) (.tuple (ys.map f)) = true ↔ _
  rw [PyData.eqv]; exact eqvAll_map h xs ys
theorem eqok_int : EqOk PyData.int := fun x y => by simp [PyData.eqv]
theorem eqok_str : EqOk PyData.str := fun x y => by simp [PyData.eqv]
theorem eqok_bool : EqOk PyData.bool := fun x y => by simp [PyData.eqv]
theorem EqOk.dec {α : Type} [DecidableEq α] {f : α → PyData} (h : EqOk f) (x y : α) : PyData.eqv (f x) (f y) = decide (x = y) := by
  rw [Bool.eq_iff_iff, h x y, decide_eq_true_iff]
def rEqU (K : PySem.W.Frag) : R2 := fun x y H Q => rEqD K x y H Q ∨ rEq x y H Q
def rNeU (K : PySem.W.Frag) : R2 := fun x y H Q => rNeD K x y H Q ∨ rNe x y H Q
theorem op_eqU {X : Cx} (hu : X.A.units + 64 < cLine) : OpR X (compareOp .Eq) (rEqU X.K) := (op_eqD hu).or op_eq
theorem op_neU {X : Cx} (hu : X.A.units + 64 < cLine) : OpR X (compareOp .NotEq) (rNeU X.K) := (op_neD hu).or op_ne
theorem rv_eqD {d e : PyData} (hx : IsDat K x M d) (hy : IsDat K y M e) (sd : Shp 64 d) (se : Shp 64 e) : RV (rEqU K) x y M (dat (.bool (PyData.eqv d e))) M := fun Φ ρ σ v w H Q ⟨F, s⟩ q =>
  .inl ⟨d, e, hx s s.fr.1.2, hy s s.fr.2, sd.ok (Nat.le_refl _), se.ok (Nat.le_refl _), q _ _ (Sat.ret s.base (.bl _))⟩
theorem rv_neD {d e : PyData} (hx : IsDat K x M d) (hy : IsDat K y M e) (sd : Shp 64 d) (se : Shp 64 e) : RV (rNeU K) x y M (dat (.bool (!PyData.eqv d e))) M := fun Φ ρ σ v w H Q ⟨F, s⟩ q =>
  .inl ⟨d, e, hx s s.fr.1.2, hy s s.fr.2, sd.ok (Nat.le_refl _), se.ok (Nat.le_refl _), q _ _ (Sat.ret s.base (.bl _))⟩
theorem eqv_int {i j : Int} : PyData.eqv (.int i) (.int j) = decide (i = j) := by simp [PyData.eqv, Bool.beq_eq_decide_eq]
theorem eqv_str {i j : Str} : PyData.eqv (.str i) (.str j) = decide (i = j) := by simp [PyData.eqv, Bool.beq_eq_decide_eq]
theorem eqv_bool {i j : Bool} : PyData.eqv (.bool i) (.bool j) = decide (i = j) := by simp [PyData.eqv, Bool.beq_eq_decide_eq]
theorem rv_eqI {i j : Int} : RV (rEqU K) (dat (.int i)) (dat (.int j)) M (dat (.bool (decide (i = j)))) M := by
  have h := rv_eqD (K := K) (M := M) (isd_dat (d := .int i)) (isd_dat (d := .int j)) shp_int shp_int
  rw [eqv_int] at h; exact h
theorem rv_neI {i j : Int} : RV (rNeU K) (dat (.int i)) (dat (.int j)) M (dat (.bool (!decide (i = j)))) M := by
  have h := rv_neD (K := K) (M := M) (isd_dat (d := .int i)) (isd_dat (d := .int j)) shp_int shp_int
  rw [eqv_int] at h; exact h
theorem rv_eqS {i j : Str} : RV (rEqU K) (dat (.str i)) (dat (.str j)) M (dat (.bool (decide (i = j)))) M := fun Φ ρ σ v w H Q ⟨F, s⟩ q => by
  cases s.fr.1.2; cases s.fr.2
  refine .inr ⟨rfl, ?_⟩
  have e : decide (V.str i = V.str j) = decide (i = j) := by simp
  rw [e]
  exact q _ _ (Sat.ret s.base (.bl _))
theorem rv_neS {i j : Str} : RV (rNeU K) (dat (.str i)) (dat (.str j)) M (dat (.bool (!decide (i = j)))) M := fun Φ ρ σ v w H Q ⟨F, s⟩ q => by
  cases s.fr.1.2; cases s.fr.2
  refine .inr ⟨rfl, ?_⟩
  have e : decide (V.str i = V.str j) = decide (i = j) := by simp
  rw [e]
  exact q _ _ (Sat.ret s.base (.bl _))
/-! ### is None -/
def rIsN : R2 := fun x y H Q => y = .non ∧ Q (.bl (decide (x = .non))) H
def rNotN : R2 := fun x y H Q => y = .non ∧ Q (.bl (!decide (x = .non))) H
theorem op_isN' {X : Cx} : OpR X (compareOp .Is) rIsN := op_isN
theorem op_notN' {X : Cx} : OpR X (compareOp .IsNot) rNotN := op_notN
def isNoneD : PyData → Bool
  | .none => true
  | _ => false
theorem rp_none {F : Hp} {v : V} {d : PyData} (h : Rp F v d) : decide (v = .non) = isNoneD d := by
  cases h <;> rfl
theorem rv_isN {d : PyData} : RV rIsN (dat d) (dat .none) M (dat (.bool (isNoneD d))) M := fun Φ ρ σ v w H Q ⟨F, s⟩ q => by
  have h := rp_none s.fr.1.2
  cases s.fr.2
  exact ⟨rfl, by rw [h]; exact q _ _ (Sat.ret s.base (.bl _))⟩
theorem rv_notN {d : PyData} : RV rNotN (dat d) (dat .none) M (dat (.bool (!isNoneD d))) M := fun Φ ρ σ v w H Q ⟨F, s⟩ q => by
  have h := rp_none s.fr.1.2
  cases s.fr.2
  exact ⟨rfl, by rw [h]; exact q _ _ (Sat.ret s.base (.bl _))⟩

/-! ### subscripts, slices -/
theorem rpl_atI {F : Hp} {ws : List V} {ds : List PyData} {i : Int} {d : PyData} (h : RpL F ws ds) (e : atI ds i = some d) : ∃ v, atI ws i = some v ∧ Rp F v d := by
  unfold atI at e ⊢
  rw [h.length]
  cases q : ixN ds.length i with
  | none => rw [q] at e; cases e
  | some j =>
    rw [q] at e
    exact h.get e
theorem da_atI {F : Hp} {ws : List V} {ds : List VD} {i : Int} {d : VD} (h : DA F ds ws) (e : atI ds i = some d) : ∃ v, atI ws i = some v ∧ d.P F v := by
  unfold atI at e ⊢
  rw [← Paired.length h]
  cases q : ixN ds.length i with
  | none => rw [q] at e; cases e
  | some j =>
    rw [q] at e
    exact h.get e
theorem rv_ixL {ds : List PyData} {i : Int} {d : PyData} (hx : IsLst x M ds) (e : atI ds i = some d) : RV (rIx K) x (dat (.int i)) M (dat d) M := fun Φ ρ σ v w H Q ⟨F, s⟩ q => by
  obtain ⟨a, ws, rfl, h1, h2⟩ := hx s s.fr.1.2
  cases s.fr.2
  obtain ⟨v, h3, h4⟩ := rpl_atI h2 e
  exact .inl ⟨a, ws, i, v, rfl, rfl, sq_of h1, h3, q _ _ (Sat.ret s.base h4)⟩
theorem rv_ixT {ds : List PyData} {i : Int} {d : PyData} (hx : IsTup x M ds) (e : atI ds i = some d) : RV (rIx K) x (dat (.int i)) M (dat d) M := fun Φ ρ σ v w H Q ⟨F, s⟩ q => by
  obtain ⟨a, ws, rfl, h1, h2⟩ := hx s s.fr.1.2
  cases s.fr.2
  obtain ⟨v, h3, h4⟩ := rpl_atI h2 e
  exact .inr (.inl ⟨a, ws, i, v, rfl, rfl, st_of h1, h3, q _ _ (Sat.ret s.base h4)⟩)
theorem rv_ixLV {ds : List VD} {i : Int} {d : VD} (hx : IsLstV x M ds) (e : atI ds i = some d) : RV (rIx K) x (dat (.int i)) M d M := fun Φ ρ σ v w H Q ⟨F, s⟩ q => by
  obtain ⟨a, ws, rfl, h1, h2⟩ := hx s s.fr.1.2
  cases s.fr.2
  obtain ⟨v, h3, h4⟩ := da_atI h2 e
  exact .inl ⟨a, ws, i, v, rfl, rfl, sq_of h1, h3, q _ _ (Sat.ret s.base h4)⟩
theorem rv_ixTV {ds : List VD} {i : Int} {d : VD} (hx : IsTupV x M ds) (e : atI ds i = some d) : RV (rIx K) x (dat (.int i)) M d M := fun Φ ρ σ v w H Q ⟨F, s⟩ q => by
  obtain ⟨a, ws, rfl, h1, h2⟩ := hx s s.fr.1.2
  cases s.fr.2
  obtain ⟨v, h3, h4⟩ := da_atI h2 e
  exact .inr (.inl ⟨a, ws, i, v, rfl, rfl, st_of h1, h3, q _ _ (Sat.ret s.base h4)⟩)
theorem rv_ixScr {ns : List Int} {i : Int} {n : Int} (e : atI ns i = some n) : RV (rIx K) (vscr K ns) (dat (.int i)) M (dat (.int n)) M := fun Φ ρ σ v w H Q ⟨F, s⟩ q => by
  obtain ⟨a, rfl, h1⟩ := s.fr.1.2
  cases s.fr.2
  refine .inl ⟨a, ns.map V.int, i, .int n, rfl, rfl, ex_l s.ex h1, ?_, q _ _ (Sat.ret s.base (.int _))⟩
  unfold atI at e ⊢
  rw [List.length_map]
  cases q : ixN ns.length i with
  | none => rw [q] at e; cases e
  | some j =>
    rw [q] at e
    show (ns.map V.int)[j]? = _
    have e' : ns[j]? = some n := e
    rw [List.getElem?_map, e']
    rfl
def cutD {α : Type} (xs : List α) (lo hi : Option Int) : List α := (xs.drop (HT.sIx xs.length 0 lo)).take (HT.sIx xs.length xs.length hi - HT.sIx xs.length 0 lo)
theorem rpl_cut {F : Hp} {ws : List V} {ds : List PyData} (h : RpL F ws ds) (lo hi : Option Int) : RpL F (cutV ws lo hi) (cutD ds lo hi) := by
  unfold cutV cutD
  rw [h.length]
  exact (h.drop _).take _
/-- a slice of a list, a tuple, a text -/
def rSlU (K : PySem.W.Frag) : V → Option Int → Option Int → Hp → VK → Prop := fun x lo hi H Q => rSlL K x lo hi H Q ∨ rSlA K x lo hi H Q
theorem sl_U {X : Cx} : SlR X (rSlU X.K) := sl_list.or sl_tupA
theorem eo_none : EvO tNoPart ρ M none M := fun Φ σ H Q s q => q H s
theorem eo_some {te : TE} {i : Int} (h : Ev te ρ M (dat (.int i)) M') : EvO (tPart te) ρ M (some i) M' := fun Φ σ H Q s q => h Φ σ H _ s fun v H1 ⟨F, s1⟩ => by
  cases s1.fr.2
  exact ⟨i, rfl, q H1 ⟨F, s1.weak Le.and⟩⟩
theorem ev_slL {te : TE} {tl th : TO} {M1 M2 M3 : Cells} {lo hi : Option Int} {ds : List PyData} (h : Ev te ρ M x M1) (h1 : EvO tl ρ M1 lo M2) (h2 : EvO th ρ M2 hi M3) (hx : IsLst x M3 ds) : Ev (tSl (rSlU K) te tl th) ρ M (dat (.list (cutD ds lo hi))) M3 := fun Φ σ H Q s q =>
  h Φ σ H _ s fun v H1 s1 => h1 _ σ H1 _ s1 fun H2 s2 => h2 _ σ H2 _ s2 fun H3 ⟨F, s3⟩ => by
    obtain ⟨a, ws, rfl, h1, h2⟩ := hx s3 s3.fr.2
    exact .inl ⟨a, ws, rfl, sq_of h1, fun p hp => q _ _ (Sat.retNew (s3.weak Le.and) hp fun F' fx e => .lst e ((rpl_cut h2 lo hi).mono fx))⟩
theorem cut_whole {ds : List PyData} {lo hi : Option Int} (h1 : HT.sIx ds.length 0 lo = 0) (h2 : HT.sIx ds.length ds.length hi = ds.length) : cutD ds lo hi = ds := by
  unfold cutD
  rw [h1, h2]
  simp
theorem ev_slT {te : TE} {tl th : TO} {M1 M2 M3 : Cells} {lo hi : Option Int} {ds : List PyData} (h : Ev te ρ M (dat (.tuple ds)) M1) (h1 : EvO tl ρ M1 lo M2) (h2 : EvO th ρ M2 hi M3) : Ev (tSl (rSlU K) te tl th) ρ M (dat (.tuple (cutD ds lo hi))) M3 := fun Φ σ H Q s q =>
  h Φ σ H _ s fun v H1 s1 => h1 _ σ H1 _ s1 fun H2 s2 => h2 _ σ H2 _ s2 fun H3 ⟨F, s3⟩ => by
    have e0 := s3.fr.2
    obtain ⟨a, ws, rfl, h1, h2⟩ := ist_dat s3 s3.fr.2
    refine .inr ⟨a, ws, rfl, st_of h1, fun hw => q _ _ (Sat.ret (s3.weak Le.and) ?_), fun hw p hp => q _ _ (Sat.retNew (s3.weak Le.and) hp fun F' fx e => .tup e ((rpl_cut h2 lo hi).mono fx))⟩
    rw [h2.length] at hw
    rw [cut_whole hw.1 hw.2]
    exact e0
end

/-! ### tests -/
section
variable {K : PySem.W.Frag} {ρ : Env} {M M1 M2 M' : Cells} {x y z : VD} {te ta tb : TE} {t u : TT}
theorem et_test {b : Bool} (h : Ev te ρ M (dat (.bool b)) M') : EvT (tTest te) ρ M b M' := fun Φ σ H Q s q => h Φ σ H _ s fun v H1 s1 => by
  have ⟨F, s2⟩ := s1
  cases s2.fr.2
  exact ⟨b, rfl, q H1 s1.weak1⟩
theorem et_B {b : Bool} (h : Ev te ρ M (dat (.bool b)) M') : EvT (tB te) ρ M b M' := fun Φ σ H Q s q => h Φ σ H _ s fun v H1 s1 => by
  have ⟨F, s2⟩ := s1
  cases s2.fr.2
  exact ⟨b, rfl, q H1 s1.weak1⟩
theorem et_yes : EvT tYes ρ M true M := fun Φ σ H Q s q => q H s
/-- the second one is asked where the first one lets -/
theorem et_and {a b : Bool} (h1 : EvT t ρ M a M1) (h2 : a = true → EvT u ρ M1 b M1) : EvT (tAnd t u) ρ M (a && b) M1 := fun Φ σ H Q s q => h1 Φ σ H _ s fun H1 s1 => by
  cases a with
  | true => rw [if_pos rfl]; exact h2 rfl Φ σ H1 Q s1 q
  | false => rw [if_neg Bool.false_ne_true]; exact q H1 s1
theorem et_or {a b : Bool} (h1 : EvT t ρ M a M1) (h2 : a = false → EvT u ρ M1 b M1) : EvT (tOr t u) ρ M (a || b) M1 := fun Φ σ H Q s q => h1 Φ σ H _ s fun H1 s1 => by
  cases a with
  | true => rw [if_pos rfl]; exact q H1 s1
  | false => rw [if_neg Bool.false_ne_true]; exact h2 rfl Φ σ H1 Q s1 q
theorem et_andT {b : Bool} (h1 : EvT t ρ M true M1) (h2 : EvT u ρ M1 b M2) : EvT (tAnd t u) ρ M b M2 := fun Φ σ H Q s q => h1 Φ σ H _ s fun H1 s1 => by
  rw [if_pos rfl]; exact h2 Φ σ H1 Q s1 q
theorem et_andF (h1 : EvT t ρ M false M1) : EvT (tAnd t u) ρ M false M1 := fun Φ σ H Q s q => h1 Φ σ H _ s fun H1 s1 => by
  rw [if_neg Bool.false_ne_true]; exact q H1 s1
theorem et_orF {b : Bool} (h1 : EvT t ρ M false M1) (h2 : EvT u ρ M1 b M2) : EvT (tOr t u) ρ M b M2 := fun Φ σ H Q s q => h1 Φ σ H _ s fun H1 s1 => by
  rw [if_neg Bool.false_ne_true]; exact h2 Φ σ H1 Q s1 q
theorem et_orT (h1 : EvT t ρ M true M1) : EvT (tOr t u) ρ M true M1 := fun Φ σ H Q s q => h1 Φ σ H _ s fun H1 s1 => by
  rw [if_pos rfl]; exact q H1 s1
theorem et_not {a : Bool} (h1 : EvT t ρ M a M') : EvT (tNot t) ρ M (!a) M' := fun Φ σ H Q s q => h1 Φ σ H _ s q
theorem EvT.eq {a b : Bool} (h : EvT t ρ M a M') (e : a = b) : EvT t ρ M b M' := e ▸ h
theorem ev_andV {a b : Bool} (h1 : Ev ta ρ M (dat (.bool a)) M1) (h2 : a = true → Ev tb ρ M1 (dat (.bool b)) M1) : Ev (tAndV ta tb) ρ M (dat (.bool (a && b))) M1 := fun Φ σ H Q s q => h1 Φ σ H _ s fun v H1 s1 => by
  have ⟨F, s2⟩ := s1
  cases s2.fr.2
  refine ⟨a, rfl, ?_⟩
  cases a with
  | true => rw [if_pos rfl]; exact h2 rfl Φ σ H1 Q s1.weak1 q
  | false => rw [if_neg Bool.false_ne_true]; exact q _ H1 s1
theorem ev_orV {a b : Bool} (h1 : Ev ta ρ M (dat (.bool a)) M1) (h2 : a = false → Ev tb ρ M1 (dat (.bool b)) M1) : Ev (tOrV ta tb) ρ M (dat (.bool (a || b))) M1 := fun Φ σ H Q s q => h1 Φ σ H _ s fun v H1 s1 => by
  have ⟨F, s2⟩ := s1
  cases s2.fr.2
  refine ⟨a, rfl, ?_⟩
  cases a with
  | true => rw [if_pos rfl]; exact q _ H1 s1
  | false => rw [if_neg Bool.false_ne_true]; exact h2 rfl Φ σ H1 Q s1.weak1 q
theorem ev_notV {a : Bool} (h1 : Ev ta ρ M (dat (.bool a)) M') : Ev (tNotV ta) ρ M (dat (.bool (!a))) M' := fun Φ σ H Q s q => h1 Φ σ H _ s fun v H1 s1 => by
  have ⟨F, s2⟩ := s1
  cases s2.fr.2
  exact ⟨a, rfl, q _ H1 ⟨F, s2.ex, ⟨s2.fr.1, .bl _⟩, s2.sl, s2.nd, s2.ce⟩⟩
/-- a < b < c -/
theorem ev_chain {r r' : R2} {tc : TE} {a b : Bool} (h1 : Ev ta ρ M x M) (h2 : Ev tb ρ M y M) (hr : RV r x y M (dat (.bool a)) M) (h3 : a = true → Ev tc ρ M z M) (hr' : a = true → RV r' y z M (dat (.bool b)) M) : Ev (tChain r r' ta tb tc) ρ M (dat (.bool (a && b))) M := fun Φ σ H Q s q =>
  h1 Φ σ H _ s fun v H1 s1 => h2 _ σ H1 _ s1 fun w H2 s2 => by
    refine hr (Φ.and y w) ρ σ v w H2 _ (s2.weak (.of rfl fun F p => ⟨⟨⟨p.1.1, p.2⟩, p.1.2⟩, p.2⟩)) fun u H3 s3 => ?_
    have ⟨F, s4⟩ := s3
    cases s4.fr.2
    refine ⟨a, rfl, ?_⟩
    cases a with
    | false =>
      rw [if_neg Bool.false_ne_true]
      exact q _ H3 (s3.weak (.of rfl fun F p => ⟨p.1.1, p.2⟩))
    | true =>
      rw [if_pos rfl]
      refine h3 rfl _ σ H3 _ (s3.weak Le.and) fun c H4 s5 => ?_
      exact hr' rfl Φ ρ σ w c H4 Q s5 q
end
end Sx

set_option Elab.async false
set_option linter.all false
set_option maxRecDepth 100000
set_option maxHeartbeats 2000000
/-! Sx3: attributes, calls, statements, loops, comprehensions, by descriptions. -/
namespace Sx
open PySem L2 Evl

/-! ### attributes -/
inductive FGet (f : Str) (x : VD) : List Str → List VD → Prop
  | here {ns : List Str} {xs : List VD} : FGet f x (f :: ns) (x :: xs)
  | there {g : Str} {y : VD} {ns : List Str} {xs : List VD} : ¬ f = g → FGet f x ns xs → FGet f x (g :: ns) (y :: xs)
inductive FPut (f : Str) (y : VD) : List Str → List VD → List Str → List VD → Prop
  | here {z : VD} {ns : List Str} {xs : List VD} : FPut f y (f :: ns) (z :: xs) (f :: ns) (y :: xs)
  | there {g : Str} {z : VD} {ns ns' : List Str} {xs xs' : List VD} : ¬ g = f → FPut f y ns xs ns' xs' → FPut f y (g :: ns) (z :: xs) (g :: ns') (z :: xs')
  | new : FPut f y [] [] [f] [y]
theorem FA.cons_inv {F : Hp} {n : Str} {ns : List Str} {x : VD} {xs : List VD} {fs : List (Str × V)} (h : FA F (n :: ns) (x :: xs) fs) : ∃ v r, fs = (n, v) :: r ∧ x.P F v ∧ FA F ns xs r := by
  obtain ⟨h1, h2⟩ := h
  cases fs with
  | nil => simp at h1
  | cons a r =>
    obtain ⟨k, v⟩ := a
    simp only [List.map_cons, List.cons.injEq] at h1
    obtain ⟨rfl, h1⟩ := h1
    cases h2 with
    | cons q1 q2 => exact ⟨v, r, rfl, q1, h1, q2⟩
theorem FGet.look {f : Str} {x : VD} {F : Hp} {ns : List Str} {xs : List VD} (h : FGet f x ns xs) : ∀ {fs : List (Str × V)}, FA F ns xs fs → ∃ v, fs.lookup f = some v ∧ x.P F v := by
  induction h with
  | here =>
    intro fs a
    obtain ⟨v, r, rfl, q1, q2⟩ := a.cons_inv
    exact ⟨v, by simp [List.lookup], q1⟩
  | there hne _ ih =>
    intro fs a
    obtain ⟨v, r, rfl, q1, q2⟩ := a.cons_inv
    obtain ⟨w, h1, h2⟩ := ih q2
    refine ⟨w, ?_, h2⟩
    have hb : (f == _) = false := beq_eq_false_iff_ne.mpr hne
    simp only [List.lookup, hb]
    exact h1
theorem FPut.put {f : Str} {y : VD} {F : Hp} {v : V} (hv : y.P F v) {ns ns' : List Str} {xs xs' : List VD} (h : FPut f y ns xs ns' xs') : ∀ {fs : List (Str × V)}, FA F ns xs fs → FA F ns' xs' (putF f v fs) := by
  induction h with
  | here =>
    intro fs a
    obtain ⟨w, r, rfl, q1, q2⟩ := a.cons_inv
    rw [putF, if_pos rfl]
    exact ⟨by simp [q2.1], .cons hv q2.2⟩
  | there hne _ ih =>
    intro fs a
    obtain ⟨w, r, rfl, q1, q2⟩ := a.cons_inv
    rw [putF, if_neg hne]
    have := ih q2
    exact ⟨by simp [this.1], .cons q1 this.2⟩
  | new =>
    intro fs a
    obtain ⟨h1, h2⟩ := a
    cases fs with
    | nil => exact ⟨rfl, .cons hv .nil⟩
    | cons _ _ => simp at h1
theorem FA.lookup_none {F : Hp} {m : Str} : ∀ {ns : List Str} {xs : List VD} {fs : List (Str × V)}, FA F ns xs fs → m ∉ ns → fs.lookup m = none
  | [], xs, fs, h, _ => by
    cases fs with
    | nil => rfl
    | cons _ _ => simp [FA] at h
  | n :: ns, xs, fs, h, hm => by
    have hl := Paired.length h.2
    cases xs with
    | nil =>
      have := congrArg List.length h.1
      simp at this hl
      omega
    | cons x xs =>
      obtain ⟨v, r, rfl, q1, q2⟩ := h.cons_inv
      have hne : ¬ m = n := fun e => hm (e ▸ List.mem_cons_self)
      have hb : (m == n) = false := beq_eq_false_iff_ne.mpr hne
      simp only [List.lookup, hb]
      exact FA.lookup_none q2 fun z => hm (List.mem_cons_of_mem _ z)
theorem FA.len {F : Hp} {ns : List Str} {xs : List VD} {fs : List (Str × V)} (h : FA F ns xs fs) : fs.length = ns.length := by rw [← h.1, List.length_map]

section
variable {K : PySem.W.Frag} {ρ ρ' : Env} {M M1 M2 M3 M' : Cells} {x y z : VD} {te ta tb tv : TE} {t u : TS} {C p : Addr} {f : Str} {ns ns' : List Str} {xs xs' : List VD} {Φ : Fr} {D : Ends}
/-- what the text must have of a class: it is plain, none of the names is its own -/
structure ClsF (K : PySem.W.Frag) (C : Addr) (ns : List Str) : Prop where
  cl : Cls K C
  no : ∀ f ∈ ns, NoAttr K C f
theorem ev_fld (h : Ev ta ρ M (val (.ref p)) M1) (m : (p, cI C ns xs) ∈ M1) (c : ClsF K C ns') (hf : f ∈ ns') (g : FGet f x ns xs) : Ev (tFld K ta f) ρ M x M1 := fun Φ σ H Q s q => h Φ σ H _ s fun v H1 s1 => by
  have ⟨F, s2⟩ := s1
  have e : v = .ref p := s2.fr.2
  obtain ⟨o, h1, h0, dx, fs, rfl, h3⟩ := s2.at m
  obtain ⟨w, h4, h5⟩ := g.look h3
  exact ⟨p, C, dx, fs, w, e, h1, c.cl, c.no f hf, h4, q w H1 ⟨F, s2.ex, ⟨s2.fr.1, h5⟩, s2.sl, s2.nd, s2.ce⟩⟩

/-! ### calls -/
abbrev FSpec := List VD → Cells → (VD → Cells → Prop) → Prop
/-- one outcome alone -/
def Det (x : VD) (M : Cells) : VD → Cells → Prop := fun y N => y = x ∧ N = M
/-- a def's promise -/
def spF (n : Nat) (S : FSpec) : Sp := fun vs H Q _ => ∃ (Φ : Fr) (ρ : Env) (σ : L2.St) (ds : List VD) (M : Cells) (P : VD → Cells → Prop), Sat (Φ.andA ds vs) ρ M σ H ∧ vs.length = n ∧ S ds M P ∧
  ∀ x M' v H', P x M' → Sat (Φ.and x v) ρ M' σ H' → Q v H'
theorem spF_len {n : Nat} {S : FSpec} {vs : List V} {H : Hp} {Q : VK} {E : XK} (h : spF n S vs H Q E) : vs.length = n := let ⟨_, _, _, _, _, _, _, e, _⟩ := h; e
/-- several outcomes -/
def EvR (te : TE) (ρ : Env) (M : Cells) (P : VD → Cells → Prop) : Prop := ∀ (Φ : Fr) (σ : L2.St) (H : Hp) (Q : VK), Sat Φ ρ M σ H → (∀ x M' v H', P x M' → Sat (Φ.and x v) ρ M' σ H' → Q v H') → te σ H Q
theorem EvR.of (h : Ev te ρ M x M') : EvR te ρ M (Det x M') := fun Φ σ H Q s q => h Φ σ H Q s fun v H' s' => q x M' v H' ⟨rfl, rfl⟩ s'
theorem EvR.ev (h : EvR te ρ M (Det x M')) : Ev te ρ M x M' := fun Φ σ H Q s q => h Φ σ H Q s fun x1 M1 v H' ⟨e1, e2⟩ s' => by
  subst e1; subst e2
  exact q v H' s'
theorem EvR.imp {P P' : VD → Cells → Prop} (h : EvR te ρ M P) (k : ∀ x M', P x M' → P' x M') : EvR te ρ M P' := fun Φ σ H Q s q => h Φ σ H Q s fun x M' v H' p s' => q x M' v H' (k x M' p) s'
theorem er_call {n : Nat} {S : FSpec} {P : VD → Cells → Prop} {E : XK} {ta : TA} {ds : List VD} (h : EvA ta ρ M ds M1) (hn : ds.length = n) (hS : S ds M1 P) : EvR (tCall (spF n S) [] E ta) ρ M P := fun Φ σ H Q s q =>
  h Φ σ H _ s fun vs H1 s1 => by
    have ⟨F, s2⟩ := s1
    have hl := Paired.length s2.fr.2
    rw [List.append_nil]
    exact ⟨Φ, ρ, σ, ds, M1, P, s1, by rw [← hl]; exact hn, hS, fun x M' v H' p s' => q x M' v H' p s'⟩
theorem ev_call {n : Nat} {S : FSpec} {E : XK} {ta : TA} {ds : List VD} (h : EvA ta ρ M ds M1) (hn : ds.length = n) (hS : S ds M1 (Det x M2)) : Ev (tCall (spF n S) [] E ta) ρ M x M2 := (er_call h hn hS).ev
theorem er_meth {n : Nat} {S : FSpec} {P : VD → Cells → Prop} {E : XK} {m : Str} {t : TA} {ds : List VD} (ho : Ev ta ρ M (val (.ref p)) M1) (hm : (p, cI C ns xs) ∈ M1) (hf : m ∉ ns) (h : EvA t ρ M1 ds M2) (hn : ds.length + 1 = n) (hS : S (val (.ref p) :: ds) M2 P) : EvR (tMeth C m (spF n S) [] E ta t) ρ M P := fun Φ σ H Q s q =>
  ho Φ σ H _ s fun v H1 s1 => by
    have ⟨F, s2⟩ := s1
    have e : v = .ref p := s2.fr.2
    obtain ⟨o, h1, h0, dx, fs, rfl, h3⟩ := s2.at hm
    refine ⟨p, dx, fs, e, h1, h3.lookup_none hf, h _ σ H1 _ s1 fun vs H2 s3 => ?_⟩
    have ⟨F', s4⟩ := s3
    have hl := Paired.length s4.fr.2
    rw [List.append_nil]
    exact ⟨Φ, ρ, σ, val (.ref p) :: ds, M2, P, s3.weak (.of rfl fun F h => ⟨h.1.1, .cons h.1.2 h.2⟩), by rw [List.length_cons, ← hl]; exact hn, hS, fun x M' v H' p s' => q x M' v H' p s'⟩
theorem ev_meth {n : Nat} {S : FSpec} {E : XK} {m : Str} {t : TA} {ds : List VD} (ho : Ev ta ρ M (val (.ref p)) M1) (hm : (p, cI C ns xs) ∈ M1) (hf : m ∉ ns) (h : EvA t ρ M1 ds M2) (hn : ds.length + 1 = n) (hS : S (val (.ref p) :: ds) M2 (Det x M3)) : Ev (tMeth C m (spF n S) [] E ta t) ρ M x M3 := (er_meth ho hm hf h hn hS).ev
/-- C(..): the new instance anywhere -/
theorem er_make {n : Nat} {S : FSpec} {P : VD → Cells → Prop} {E : XK} {t : TA} {ds : List VD} (h : EvA t ρ M ds M1) (hn : ds.length + 1 = n) (hS : ∀ p, S (val (.ref p) :: ds) ((p, cI C [] []) :: M1) fun y M' => y = vn ∧ P (val (.ref p)) M') : EvR (tMake C (spF n S) [] E t) ρ M P := fun Φ σ H Q s q =>
  h Φ σ H _ s fun vs H1 s1 => fun x dx hx hdx hne => by
    have ⟨F, s2⟩ := s1
    have hl := Paired.length s2.fr.2
    rw [List.append_nil]
    have s3 := (s2.newH (o := .own x) hdx).newC (c := cI C [] []) (o := .ins C dx []) (p := x) (by rw [upd_ne hne.symm]; exact hx) fun e => ⟨e, dx, [], rfl, rfl, .nil⟩
    refine ⟨Φ, ρ, σ, val (.ref x) :: ds, (x, cI C [] []) :: M1, fun y M' => y = vn ∧ P (val (.ref x)) M', ⟨F, s3.weak (.of rfl fun F h => ⟨h.1, .cons rfl h.2⟩)⟩, by rw [List.length_cons, ← hl]; exact hn, hS x, fun y M' v H' hp s' => ?_⟩
    obtain ⟨rfl, hp⟩ := hp
    have ⟨F', s5⟩ := s'
    refine ⟨?_, q (val (.ref x)) M' (.ref x) H' hp ⟨F', s5.ex, ⟨s5.fr.1, rfl⟩, s5.sl, s5.nd, s5.ce⟩⟩
    have e : Rp F' v .none := s5.fr.2
    cases e
    rfl

/-! ### built-in calls, methods of built-in types -/
theorem ev_cb {r : List V → Hp → VK → Prop} {ta : TA} {ds : List VD} (h : EvA ta ρ M ds M1) (hr : RC r ds M1 z M2) : Ev (tCB r ta) ρ M z M2 := fun Φ σ H Q s q => h Φ σ H _ s fun vs H1 s1 => hr Φ ρ σ vs H1 Q s1 q
def IsTy (K : PySem.W.Frag) (T : String) (x : VD) (M : Cells) : Prop := ∀ {F Φ ρ σ H v}, SatF F Φ ρ M σ H → x.P F v → tyV K T v H
theorem ity_l {ds : List VD} (h : IsLstV x M ds) : IsTy K "list" x M := fun s q => by
  obtain ⟨a, ws, rfl, h1, _⟩ := h s q
  exact .inl ⟨rfl, ws, sq_of h1⟩
theorem ity_s {i : Str} : IsTy K "str" (dat (.str i)) M := fun s q => by cases q; exact rfl
theorem ev_bm {T : String} {r : V → List V → Hp → VK → Prop} {ta : TA} {ds : List VD} (ho : Ev tb ρ M x M1) (ty : IsTy K T x M1) (h : EvA ta ρ M1 ds M2) (hr : RM r x ds M2 z M3) : Ev (tBM K T r tb ta) ρ M z M3 := fun Φ σ H Q s q =>
  ho Φ σ H _ s fun v H1 ⟨F, s1⟩ => ⟨ty s1 s1.fr.2, h _ σ H1 _ ⟨F, s1⟩ fun vs H2 s2 => hr Φ ρ σ v vs H2 Q s2 q⟩
theorem ev_bm0 {T : String} {r : V → List V → Hp → VK → Prop} (ho : Ev tb ρ M x M1) (ty : IsTy K T x M1) (hr : RM r x [] M1 z M2) : Ev (tBM0 K T r tb) ρ M z M2 := fun Φ σ H Q s q =>
  ho Φ σ H _ s fun v H1 ⟨F, s1⟩ => ⟨ty s1 s1.fr.2, hr Φ ρ σ v [] H1 Q ⟨F, s1.ex, ⟨s1.fr, .nil⟩, s1.sl, s1.nd, s1.ce⟩ q⟩
/-- xs.append(e) -/
theorem rm_append {ds : List PyData} {d : PyData} (h : Put p (cLd ds) (cLd (ds ++ [d])) M M') (hl : ds.length < sizeLine) : RM rAppend (val (.ref p)) [dat d] M vn M' := fun Φ ρ σ v vs H Q ⟨F, s⟩ q => by
  have e : v = .ref p := s.fr.1.2
  cases s.fr.2 with
  | cons q1 q2 =>
    cases q2
    obtain ⟨o, h1, h0, ws, rfl, h3⟩ := s.at h.mem
    refine ⟨p, ws, _, e, rfl, h1, by rw [h3.length]; exact hl, q .non _ ⟨F, ?_⟩⟩
    have s' := s.put1 (o := .lst (ws ++ [_])) h h0 ⟨h0, _, rfl, h3.append (.cons q1 .nil)⟩
    exact ⟨s'.ex, ⟨s'.fr.1.1, .non⟩, s'.sl, s'.nd, s'.ce⟩
theorem rm_appendV {ds : List VD} {d : VD} (h : Put p (cL ds) (cL (ds ++ [d])) M M') (hl : ds.length < sizeLine) : RM rAppend (val (.ref p)) [d] M vn M' := fun Φ ρ σ v vs H Q ⟨F, s⟩ q => by
  have e : v = .ref p := s.fr.1.2
  cases s.fr.2 with
  | cons q1 q2 =>
    cases q2
    obtain ⟨o, h1, h0, ws, rfl, h3⟩ := s.at h.mem
    refine ⟨p, ws, _, e, rfl, h1, by rw [← Paired.length h3]; exact hl, q .non _ ⟨F, ?_⟩⟩
    have s' := s.put1 (o := .lst (ws ++ [_])) h h0 ⟨h0, _, rfl, h3.append (.cons q1 .nil)⟩
    exact ⟨s'.ex, ⟨s'.fr.1.1, .non⟩, s'.sl, s'.nd, s'.ce⟩
/-- len -/
def rLen (K : PySem.W.Frag) : List V → Hp → VK → Prop := fun xs H Q => ∃ x n, xs = [x] ∧ LenV K x H n ∧ Q (.int n) H
theorem call_len' {X : Cx} : CallR X (.builtin "len") (rLen X.K) := call_len
def rLenD : List V → Hp → VK → Prop := fun xs H Q => ∃ a kvs, xs = [V.ref a] ∧ H a = some (.dK kvs) ∧ Q (.int kvs.length) H
def rLenU (K : PySem.W.Frag) : List V → Hp → VK → Prop := fun xs H Q => rLen K xs H Q ∨ rLenD xs H Q
theorem call_lenU {X : Cx} : CallR X (.builtin "len") (rLenU X.K) := call_len'.or call_lenD
theorem rc1 {ds : List VD} {F : Hp} {vs : List V} (h : DA F [x] vs) : ∃ v, vs = [v] ∧ x.P F v := by
  cases h with
  | cons q1 q2 => cases q2; exact ⟨_, rfl, q1⟩
theorem rc2 {F : Hp} {vs : List V} (h : DA F [x, y] vs) : ∃ v w, vs = [v, w] ∧ x.P F v ∧ y.P F w := by
  cases h with
  | cons q1 q2 =>
    cases q2 with
    | cons q3 q4 => cases q4; exact ⟨_, _, rfl, q1, q3⟩
theorem SatF.base1 {F : Hp} {σ : L2.St} {H : Hp} {ds : List VD} {vs : List V} (s : SatF F (Φ.andA ds vs) ρ M σ H) : SatF F Φ ρ M σ H := s.weak Le.andA
theorem rc_len {ds : List VD} (hx : IsSeq K x M ds) : RC (rLenU K) [x] M (dat (.int ds.length)) M := fun Φ ρ σ vs H Q ⟨F, s⟩ q => by
  obtain ⟨v, rfl, h1⟩ := rc1 (ds := []) s.fr.2
  obtain ⟨a, ws, rfl, h2, h3⟩ := hx s h1
  have hl := Paired.length h3
  refine .inl ⟨_, ws.length, rfl, ?_, q _ _ (Sat.ret s.base1 (by rw [← hl]; exact .int _))⟩
  rcases h2 with h2 | h2
  · exact .inl ⟨ws, h2, rfl⟩
  · exact .inr ⟨ws, h2, rfl⟩
theorem rc_lenL {ds : List PyData} (hx : IsLst x M ds) : RC (rLenU K) [x] M (dat (.int ds.length)) M := by
  have h := rc_len (K := K) (iss_l (K := K) hx.v)
  rw [List.length_map] at h; exact h
theorem rc_lenT {ds : List PyData} (hx : IsTup x M ds) : RC (rLenU K) [x] M (dat (.int ds.length)) M := by
  have h := rc_len (K := K) (iss_t (K := K) hx.v)
  rw [List.length_map] at h; exact h
theorem rc_lenScr {is : List Int} : RC (rLenU K) [vscr K is] M (dat (.int is.length)) M := fun Φ ρ σ vs H Q ⟨F, s⟩ q => by
  obtain ⟨v, rfl, a, rfl, h1⟩ := rc1 (ds := []) s.fr.2
  refine .inl ⟨_, (is.map V.int).length, rfl, .inl ⟨_, ex_l s.ex h1, rfl⟩, q _ _ (Sat.ret s.base1 (by rw [List.length_map]; exact .int _))⟩
theorem rc_lenS {i : Str} (h : i.length ≤ sizeLine) : RC (rLenU K) [dat (.str i)] M (dat (.int i.length)) M := fun Φ ρ σ vs H Q ⟨F, s⟩ q => by
  obtain ⟨v, rfl, h1⟩ := rc1 (ds := []) s.fr.2
  cases h1
  exact .inl ⟨_, i.length, rfl, ⟨h, rfl⟩, q _ _ (Sat.ret s.base1 (.int _))⟩
/-- tuple(xs), list(xs) -/
def rTupOf (K : PySem.W.Frag) : List V → Hp → VK → Prop := fun xs H Q => ∃ p ys, xs = [.ref p] ∧ ((SqL K H p ys ∧ ∀ l, H l = none → Q (.ref l) (upd H l (.tup ys))) ∨ (SqT K H p ys ∧ Q (.ref p) H))
theorem call_tuple_of' {X : Cx} : CallR X (.type "tuple") (rTupOf X.K) := call_tuple_of
def rLstOf (K : PySem.W.Frag) : List V → Hp → VK → Prop := fun xs H Q => ∃ p ys, xs = [.ref p] ∧ (SqL K H p ys ∨ SqT K H p ys) ∧ ∀ l, H l = none → Q (.ref l) (upd H l (.lst ys))
theorem call_list_of' {X : Cx} : CallR X (.type "list") (rLstOf X.K) := call_list_of
theorem rc_tupL {ds : List PyData} (hx : IsLst x M ds) : RC (rTupOf K) [x] M (dat (.tuple ds)) M := fun Φ ρ σ vs H Q ⟨F, s⟩ q => by
  obtain ⟨v, rfl, h1⟩ := rc1 (ds := []) s.fr.2
  obtain ⟨a, ws, rfl, h2, h3⟩ := hx s h1
  exact ⟨a, ws, rfl, .inl ⟨sq_of h2, fun l hl => q _ _ (Sat.retNew s.base1 hl fun F' fx e => .tup e (h3.mono fx))⟩⟩
theorem rc_tupT {ds : List PyData} : RC (rTupOf K) [dat (.tuple ds)] M (dat (.tuple ds)) M := fun Φ ρ σ vs H Q ⟨F, s⟩ q => by
  obtain ⟨v, rfl, h1⟩ := rc1 (ds := []) s.fr.2
  have h1' := h1
  obtain ⟨a, ws, rfl, h2, h3⟩ := ist_dat s h1
  exact ⟨a, ws, rfl, .inr ⟨st_of h2, q _ _ (Sat.ret s.base1 h1')⟩⟩
theorem rc_lstL {ds : List PyData} (hx : IsLst x M ds) : RC (rLstOf K) [x] M (dat (.list ds)) M := fun Φ ρ σ vs H Q ⟨F, s⟩ q => by
  obtain ⟨v, rfl, h1⟩ := rc1 (ds := []) s.fr.2
  obtain ⟨a, ws, rfl, h2, h3⟩ := hx s h1
  exact ⟨a, ws, rfl, .inl (sq_of h2), fun l hl => q _ _ (Sat.retNew s.base1 hl fun F' fx e => .lst e (h3.mono fx))⟩
theorem rc_lstT {ds : List PyData} (hx : IsTup x M ds) : RC (rLstOf K) [x] M (dat (.list ds)) M := fun Φ ρ σ vs H Q ⟨F, s⟩ q => by
  obtain ⟨v, rfl, h1⟩ := rc1 (ds := []) s.fr.2
  obtain ⟨a, ws, rfl, h2, h3⟩ := hx s h1
  exact ⟨a, ws, rfl, .inr (st_of h2), fun l hl => q _ _ (Sat.retNew s.base1 hl fun F' fx e => .lst e (h3.mono fx))⟩
/-- any, all of a list of truth values -/
theorem rc_any {bs : List Bool} (hx : IsLst x M (bs.map PyData.bool)) : RC (rAny K) [x] M (dat (.bool (bs.any id))) M := fun Φ ρ σ vs H Q ⟨F, s⟩ q => by
  obtain ⟨v, rfl, h1⟩ := rc1 (ds := []) s.fr.2
  obtain ⟨a, ws, rfl, h2, h3⟩ := hx s h1
  cases h3.bls
  exact ⟨a, bs, rfl, sq_of h2, q _ _ (Sat.ret s.base1 (.bl _))⟩
theorem rc_all {bs : List Bool} (hx : IsLst x M (bs.map PyData.bool)) : RC (rAll K) [x] M (dat (.bool (bs.all id))) M := fun Φ ρ σ vs H Q ⟨F, s⟩ q => by
  obtain ⟨v, rfl, h1⟩ := rc1 (ds := []) s.fr.2
  obtain ⟨a, ws, rfl, h2, h3⟩ := hx s h1
  cases h3.bls
  exact ⟨a, bs, rfl, sq_of h2, q _ _ (Sat.ret s.base1 (.bl _))⟩
/-- max, min of two ints; abs; int -/
def rMax2 : List V → Hp → VK → Prop := fun xs H Q => ∃ i j, xs = [.int i, .int j] ∧ Q (.int (if j > i then j else i)) H
def rMin2 : List V → Hp → VK → Prop := fun xs H Q => ∃ i j, xs = [.int i, .int j] ∧ Q (.int (if j < i then j else i)) H
def rAbs : List V → Hp → VK → Prop := fun xs H Q => ∃ i, xs = [.int i] ∧ Q (.int (if i < 0 then -i else i)) H
def rInt1 : List V → Hp → VK → Prop := fun xs H Q => (∃ i, xs = [.int i] ∧ Q (.int i) H) ∨ ∃ k, xs = [.bl k] ∧ Q (.int (if k then 1 else 0)) H
theorem call_max2' {X : Cx} (hc : X.calm = true) : CallR X (.builtin "max") rMax2 := call_max2 hc
theorem call_min2' {X : Cx} (hc : X.calm = true) : CallR X (.builtin "min") rMin2 := call_min2 hc
theorem call_abs' {X : Cx} : CallR X (.builtin "abs") rAbs := call_abs
theorem call_int1' {X : Cx} : CallR X (.type "int") rInt1 := call_int1
theorem rc_max2 {i j : Int} : RC rMax2 [dat (.int i), dat (.int j)] M (dat (.int (max i j))) M := fun Φ ρ σ vs H Q ⟨F, s⟩ q => by
  obtain ⟨v, w, rfl, h1, h2⟩ := rc2 s.fr.2
  cases h1; cases h2
  have e : (if j > i then j else i) = max i j := by split <;> omega
  exact ⟨i, j, rfl, by rw [e]; exact q _ _ (Sat.ret s.base1 (.int _))⟩
theorem rc_min2 {i j : Int} : RC rMin2 [dat (.int i), dat (.int j)] M (dat (.int (min i j))) M := fun Φ ρ σ vs H Q ⟨F, s⟩ q => by
  obtain ⟨v, w, rfl, h1, h2⟩ := rc2 s.fr.2
  cases h1; cases h2
  have e : (if j < i then j else i) = min i j := by split <;> omega
  exact ⟨i, j, rfl, by rw [e]; exact q _ _ (Sat.ret s.base1 (.int _))⟩
theorem rc_abs {i : Int} : RC rAbs [dat (.int i)] M (dat (.int (if i < 0 then -i else i))) M := fun Φ ρ σ vs H Q ⟨F, s⟩ q => by
  obtain ⟨v, rfl, h1⟩ := rc1 (ds := []) s.fr.2
  cases h1
  exact ⟨i, rfl, q _ _ (Sat.ret s.base1 (.int _))⟩
theorem rc_int {i : Int} : RC rInt1 [dat (.int i)] M (dat (.int i)) M := fun Φ ρ σ vs H Q ⟨F, s⟩ q => by
  obtain ⟨v, rfl, h1⟩ := rc1 (ds := []) s.fr.2
  cases h1
  exact .inl ⟨i, rfl, q _ _ (Sat.ret s.base1 (.int _))⟩
end

/-! ### statements -/
def Cont (k : L2.St → Hp → Prop) (Φ : Fr) (ρ : Env) (M : Cells) : Prop := ∀ σ H, Sat Φ ρ M σ H → k σ H
/-- a word between -/
def InvK (Φ : Fr) (J : Env → Cells → Prop) : L2.St → Hp → Prop := fun σ H => ∃ ρ M, J ρ M ∧ Sat Φ ρ M σ H
/-- what is wanted of what is handed back -/
def RtQ (Q : VK) (Φ : Fr) (P : VD → Cells → Prop) : Prop := ∀ Φ' ρ σ x M v H, Le Φ' Φ → P x M → Sat (Φ'.and x v) ρ M σ H → Q v H
abbrev fnD (Q : VK) : Ends := { nx := fun _ H' => Q .non H', rt := Q }
section
variable {K : PySem.W.Frag} {ρ ρ' ρ1 : Env} {M M1 M2 M3 M' : Cells} {x y z : VD} {te ta tb tv : TE} {t u : TS} {tc : TT} {C p : Addr} {f : Str} {ns ns' nn : List Str} {xs xs' : List VD} {Φ Ψ : Fr} {D : Ends} {Q : VK} {P : VD → Cells → Prop} {J : Env → Cells → Prop}
theorem c_seq (h : Cont (t { D with nx := u D }) Φ ρ M) : Cont (tSeq t u D) Φ ρ M := h
theorem c_cut (h : Cont (t { D with nx := u D }) Φ ρ M) : Cont (tCut t u D) Φ ρ M := fun σ H s => ⟨u D, h σ H s, fun _ _ h => h⟩
/-- .. by a word -/
theorem c_cutW (J : Env → Cells → Prop) (h : Cont (t { D with nx := InvK Φ J }) Φ ρ M) (k : ∀ ρ' M', J ρ' M' → Cont (u D) Φ ρ' M') : Cont (tCut t u D) Φ ρ M := fun σ H s => ⟨InvK Φ J, h σ H s, fun σ' H' ⟨ρ', M', j, s'⟩ => k ρ' M' j σ' H' s'⟩
theorem c_inv (j : J ρ M) (l : Le Ψ Φ) : Cont (InvK Φ J) Ψ ρ M := fun σ H s => ⟨ρ, M, j, s.weak l⟩
theorem c_ret (h : Ev te ρ M x M1) (hQ : RtQ D.rt Φ P) (hP : P x M1) (l : Le Ψ Φ) : Cont (tRet te D) Ψ ρ M := fun σ H s => h Ψ σ H _ s fun v H1 s1 => hQ Ψ ρ σ x M1 v H1 l hP s1
theorem c_retR {P' : VD → Cells → Prop} (h : EvR te ρ M P') (hQ : RtQ D.rt Φ P) (hP : ∀ x M1, P' x M1 → P x M1) (l : Le Ψ Φ) : Cont (tRet te D) Ψ ρ M := fun σ H s => h Ψ σ H _ s fun x M1 v H1 p s1 => hQ Ψ ρ σ x M1 v H1 l (hP x M1 p) s1
theorem Sat.non (s : Sat Φ ρ M σ H) : Sat (Φ.and vn .non) ρ M σ H := let ⟨F, s⟩ := s; ⟨F, s.ex, ⟨s.fr, .non⟩, s.sl, s.nd, s.ce⟩
theorem c_retN (hQ : RtQ D.rt Φ P) (hP : P vn M) (l : Le Ψ Φ) : Cont (tRetN D) Ψ ρ M := fun σ H s => hQ Ψ ρ σ vn M .non H l hP s.non
theorem c_end (hQ : RtQ Q Φ P) (hP : P vn M) (l : Le Ψ Φ) : Cont (fun _ H' => Q .non H') Ψ ρ M := fun σ H s => hQ Ψ ρ σ vn M .non H l hP s.non
theorem c_next (h : Cont D.nx Φ ρ M) : Cont (tNext D) Φ ρ M := h
theorem c_break (h : Cont D.bk Φ ρ M) : Cont (tBreak D) Φ ρ M := h
theorem c_cont (h : Cont D.ct Φ ρ M) : Cont (tCont D) Φ ρ M := h
theorem Sat.asg {v : V} {σ : L2.St} {H : Hp} {i : Nat} (s : Sat (Φ.and x v) ρ M σ H) (h : SetAt x ρ i ρ') : Sat Φ ρ' M (σ.set i (some v)) H := by
  obtain ⟨F, s⟩ := s
  rw [h.eq]
  exact ⟨F, s.ex, s.fr.1, s.sl.set s.fr.2, s.nd, s.ce⟩
theorem c_asg {i : Nat} (h : Ev te ρ M x M1) (hs : SetAt x ρ i ρ') (k : Cont D.nx Φ ρ' M1) : Cont (tAsg te (gName i) D) Φ ρ M := fun σ H s => h Φ σ H _ s fun v H1 s1 => k _ _ (s1.asg hs)
theorem c_asgR {i : Nat} (h : EvR te ρ M P) (k : ∀ x M1, P x M1 → ∃ ρ', SetAt x ρ i ρ' ∧ Cont D.nx Φ ρ' M1) : Cont (tAsg te (gName i) D) Φ ρ M := fun σ H s => h Φ σ H _ s fun x M1 v H1 p s1 => by
  obtain ⟨ρ', hs, k⟩ := k x M1 p
  exact k _ _ (s1.asg hs)
theorem c_drop (h : Ev te ρ M x M1) (k : Cont D.nx Φ ρ M1) : Cont (tDrop te D) Φ ρ M := fun σ H s => h Φ σ H _ s fun v H1 s1 => k σ H1 s1.weak1
theorem c_dropR (h : EvR te ρ M P) (k : ∀ x M1, P x M1 → Cont D.nx Φ ρ M1) : Cont (tDrop te D) Φ ρ M := fun σ H s => h Φ σ H _ s fun x M1 v H1 p s1 => k x M1 p σ H1 s1.weak1
theorem c_if {b : Bool} (h : EvT tc ρ M b M1) (h1 : b = true → Cont (t D) Φ ρ M1) (h2 : b = false → Cont (u D) Φ ρ M1) : Cont (tIfS tc t u D) Φ ρ M := fun σ H s => h Φ σ H _ s fun H1 s1 => by
  cases b with
  | true => rw [if_pos rfl]; exact h1 rfl σ H1 s1
  | false => rw [if_neg Bool.false_ne_true]; exact h2 rfl σ H1 s1
theorem c_aug {i : Nat} {g : Int → Int → Int} {a b : Int} (h0 : At (dat (.int a)) ρ i) (h : Ev te ρ M (dat (.int b)) M1) (hs : SetAt (dat (.int (g a b))) ρ i ρ') (k : Cont D.nx Φ ρ' M1) : Cont (tAug i te (ipI g) D) Φ ρ M := fun σ H s => by
  have ⟨F, s0⟩ := s
  obtain ⟨v, h1, h2⟩ := s0.sl.2 i _ h0.get
  cases h2
  refine ⟨_, h1, h Φ σ H _ s fun w H1 s1 => ?_⟩
  have ⟨F1, s2⟩ := s1
  cases s2.fr.2
  refine ⟨a, b, rfl, rfl, k _ _ ?_⟩
  rw [hs.eq]
  exact ⟨F1, s2.ex, s2.fr.1, s2.sl.set (.int _), s2.nd, s2.ce⟩
theorem c_fld (hv : Ev tv ρ M y M1) (ho : Ev ta ρ M1 (val (.ref p)) M2) (h : Put p (cI C ns xs) (cI C ns' xs') M2 M3) (g : FPut f y ns xs ns' xs') (c : ClsF K C nn) (hf : f ∈ nn) (hl : ns.length < 1000) (k : Cont D.nx Φ ρ M3) : Cont (sFld K ta tv f D) Φ ρ M := fun σ H s =>
  hv Φ σ H _ s fun v H1 s1 => ho _ σ H1 _ s1 fun w H2 ⟨F, s2⟩ => by
    have e : w = .ref p := s2.fr.2
    obtain ⟨o, h1, h0, dx, fs, rfl, h3⟩ := s2.at h.mem
    refine ⟨p, C, dx, fs, e, h1, c.cl, c.no f hf, by rw [h3.len]; exact hl, k σ _ ⟨F, ?_⟩⟩
    exact (s2.put1 (o := .ins C dx (putF f v fs)) h h0 ⟨h0, dx, _, rfl, g.put s2.fr.1.2 h3⟩).weak (.of rfl fun F h => h.1.1)
end
end Sx

set_option Elab.async false
set_option linter.all false
set_option maxRecDepth 100000
set_option maxHeartbeats 2000000
/-! Sx4: targets, loops, comprehensions, by descriptions; a def's body. -/
namespace Sx
open PySem L2 Evl
section
variable {K : PySem.W.Frag} {ρ ρ' ρ1 ρ2 : Env} {M M1 M2 M3 M' : Cells} {x y z : VD} {te ta tb tv : TE} {t u : TS} {tt : TT} {C p : Addr} {Φ Ψ : Fr} {D : Ends} {P : VD → Cells → Prop} {J : Env → Cells → Prop}
/-! ### targets: what they store, where -/
def Tgt (g : TG) (js : List Nat) (x : VD) (ρ : Env) (ρ' : Env) : Prop := ∀ (Φ : Fr) (M : Cells) (v : V) (σ : L2.St) (H : Hp) (k : L2.St → Hp → Prop), Sat (Φ.and x v) ρ M σ H →
  (∀ σ', (∀ i, i ∉ js → σ'[i]? = σ[i]?) → σ'.length = σ.length → Sat Φ ρ' M σ' H → k σ' H) → g v σ H k
def Tgts (g : TGs) (js : List Nat) (xs : List VD) (ρ : Env) (ρ' : Env) : Prop := ∀ (Φ : Fr) (M : Cells) (vs : List V) (σ : L2.St) (H : Hp) (k : L2.St → Hp → Prop), Sat (Φ.andA xs vs) ρ M σ H →
  (∀ σ', (∀ i, i ∉ js → σ'[i]? = σ[i]?) → σ'.length = σ.length → Sat Φ ρ' M σ' H → k σ' H) → g vs σ H k
theorem tg_name {i : Nat} (h : SetAt x ρ i ρ') : Tgt (gName i) [i] x ρ ρ' := fun Φ M v σ H k s q => q _ (fun j hj => List.getElem?_set_ne (by simpa using Ne.symm (by simpa using hj))) (by simp) (s.asg h)
theorem tgs_nil : Tgts gNil [] [] ρ ρ := fun Φ M vs σ H k ⟨F, s⟩ q => by
  have e := s.fr.2
  cases e
  exact ⟨rfl, q σ (fun _ _ => rfl) rfl ⟨F, s.base1⟩⟩
theorem tgs_cons {g : TG} {gs : TGs} {js ks : List Nat} {xs : List VD} (h : Tgt g js x ρ ρ1) (hs : Tgts gs ks xs ρ1 ρ2) : Tgts (gCons g gs) (js ++ ks) (x :: xs) ρ ρ2 := fun Φ M vs σ H k s q => by
  have ⟨F, s0⟩ := s
  have e := s0.fr.2
  cases vs with
  | nil => cases e
  | cons v r =>
    refine ⟨v, r, rfl, h (Φ.andA xs r) M v σ H _ (s.weak (.of rfl fun F h => by
      cases h.2 with
      | cons q1 q2 => exact ⟨⟨h.1, q2⟩, q1⟩)) fun σ1 hj hl s1 => ?_⟩
    exact hs Φ M r σ1 H k s1 fun σ2 hk hl2 s2 => q σ2 (fun i hi => (hk i (fun z => hi (List.mem_append_right _ z))).trans (hj i fun z => hi (List.mem_append_left _ z))) (hl2.trans hl) s2
theorem tg_tup {gs : TGs} {js : List Nat} {n : Nat} {xs : List VD} (hx : ∀ {M}, IsTupV x M xs) (hs : Tgts gs js xs ρ ρ') (hn : xs.length = n) : Tgt (gTup K n gs) js x ρ ρ' := fun Φ M v σ H k ⟨F, s⟩ q => by
  obtain ⟨a, ws, rfl, h1, h2⟩ := hx s s.fr.2
  exact ⟨a, ws, rfl, st_of h1, by rw [← Paired.length h2]; exact hn, hs Φ M ws σ H k ⟨F, s.ex, ⟨s.fr.1, h2⟩, s.sl, s.nd, s.ce⟩ q⟩
theorem tg_tupD {gs : TGs} {js : List Nat} {n : Nat} {ds : List PyData} (hs : Tgts gs js (ds.map dat) ρ ρ') (hn : ds.length = n) : Tgt (gTup K n gs) js (dat (.tuple ds)) ρ ρ' := tg_tup ist_dat.v hs (by rw [List.length_map]; exact hn)
theorem c_asgG {g : TG} {js : List Nat} (h : Ev te ρ M x M1) (hg : Tgt g js x ρ ρ') (k : Cont D.nx Φ ρ' M1) : Cont (tAsg te g D) Φ ρ M := fun σ H s => h Φ σ H _ s fun v H1 s1 => hg Φ M1 v σ H1 _ s1 fun σ' _ _ s' => k σ' H1 s'
/-- a, b = e1, e2 -/
theorem c_par {i j : Nat} {ta : TA} (h : EvA ta ρ M [x, y] M1) (h1 : SetAt x ρ i ρ1) (h2 : SetAt y ρ1 j ρ2) (k : Cont D.nx Φ ρ2 M1) : Cont (tPar i j ta D) Φ ρ M := fun σ H s => h Φ σ H _ s fun vs H1 s1 => by
  have ⟨F, s0⟩ := s1
  obtain ⟨v, w, rfl, q1, q2⟩ := rc2 s0.fr.2
  refine ⟨v, w, rfl, k _ _ ?_⟩
  have s2 : Sat ((Φ.and y w).and x v) ρ M1 σ H1 := s1.weak (.of rfl fun F h => by
    obtain ⟨v', w', e, q1, q2⟩ := rc2 h.2
    cases e
    exact ⟨⟨h.1, q2⟩, q1⟩)
  exact (s2.asg h1).asg h2
theorem c_par3 {i j l : Nat} {ta : TA} {ρ3 : Env} (h : EvA ta ρ M [x, y, z] M1) (h1 : SetAt x ρ i ρ1) (h2 : SetAt y ρ1 j ρ2) (h3 : SetAt z ρ2 l ρ3) (k : Cont D.nx Φ ρ3 M1) : Cont (tPar3 i j l ta D) Φ ρ M := fun σ H s => h Φ σ H _ s fun vs H1 s1 => by
  have ⟨F, s0⟩ := s1
  obtain ⟨v, w, u', rfl⟩ : ∃ a b c, vs = [a, b, c] := by
    have e := Paired.length s0.fr.2
    match vs, e with
    | [a, b, c], _ => exact ⟨a, b, c, rfl⟩
  refine ⟨v, w, u', rfl, k _ _ ?_⟩
  have s2 : Sat (((Φ.and z u').and y w).and x v) ρ M1 σ H1 := s1.weak (.of rfl fun F h => by
    cases h.2 with
    | cons q1 q2 =>
      cases q2 with
      | cons q3 q4 =>
        cases q4 with
        | cons q5 q6 => exact ⟨⟨⟨h.1, q5⟩, q3⟩, q1⟩)
  exact ((s2.asg h1).asg h2).asg h3

/-! ### what is walked -/
def Walks (J : It) (Ψ : Fr) (its : List VD) : Prop := ∃ (G : Hp → Prop) (Y : Nat → Hp → V → Hp → Prop), Walk J its.length G Y ∧ (∀ Φ ρ M σ H, Le Φ Ψ → Sat Φ ρ M σ H → G H) ∧
  ∀ (i : Nat) (d : VD) (x : V) (H H' : Hp) (Φ : Fr) (ρ : Env) (M : Cells) (σ : L2.St), its[i]? = some d → Le Φ Ψ → Sat Φ ρ M σ H → Y i H x H' → Sat (Φ.and d x) ρ M σ H'
def EvI (wi : TI) (ρ : Env) (M : Cells) (its : List VD) (M' : Cells) : Prop := ∀ (Φ : Fr) (σ : L2.St) (H : Hp) (R : It → Hp → Prop), Sat Φ ρ M σ H → (∀ J H' Ψ, Le Ψ Φ → Sat Ψ ρ M' σ H' → Walks J Ψ its → R J H') → wi σ H R
theorem ei_vec {K : PySem.W.Frag} {ds : List VD} {a : Addr} {ws : List V} (hl : ws.length = ds.length) (hq : ∀ Φ ρ M σ H, Le Φ Ψ → Sat Φ ρ M σ H → SqL K H a ws ∧ ∃ F, SatF F Φ ρ M σ H ∧ DA F ds ws) : Walks (Itl K a) Ψ ds := by
  refine ⟨fun H => SqL K H a ws, YAt ws, hl ▸ walk_list, fun Φ ρ M σ H l s => (hq Φ ρ M σ H l s).1, fun i d x H H' Φ ρ M σ hi l s y => ?_⟩
  obtain ⟨rfl, hx⟩ := y
  obtain ⟨_, F, s0, hd⟩ := hq Φ ρ M σ H' l s
  obtain ⟨v, h1, h2⟩ := hd.get hi
  rw [hx] at h1
  cases h1
  exact ⟨F, s0.ex, ⟨s0.fr, h2⟩, s0.sl, s0.nd, s0.ce⟩
theorem ei_vecT {K : PySem.W.Frag} {ds : List VD} {a : Addr} {ws : List V} (hl : ws.length = ds.length) (hq : ∀ Φ ρ M σ H, Le Φ Ψ → Sat Φ ρ M σ H → SqT K H a ws ∧ ∃ F, SatF F Φ ρ M σ H ∧ DA F ds ws) : Walks (Itt K a) Ψ ds := by
  refine ⟨fun H => SqT K H a ws, YAt ws, hl ▸ walk_tup, fun Φ ρ M σ H l s => (hq Φ ρ M σ H l s).1, fun i d x H H' Φ ρ M σ hi l s y => ?_⟩
  obtain ⟨rfl, hx⟩ := y
  obtain ⟨_, F, s0, hd⟩ := hq Φ ρ M σ H' l s
  obtain ⟨v, h1, h2⟩ := hd.get hi
  rw [hx] at h1
  cases h1
  exact ⟨F, s0.ex, ⟨s0.fr, h2⟩, s0.sl, s0.nd, s0.ce⟩
/-- a fact of the frozen part, kept -/
def Fr.also (Φ : Fr) (G : Hp → Prop) (h : ∀ {F F'}, Fx F F' → G F → G F') : Fr := ⟨Φ.N, fun F => Φ.P F ∧ G F, fun e ⟨h1, h2⟩ => ⟨Φ.mono e h1, h e h2⟩⟩
/-- the description is of a frozen list (tuple) of such items -/
def FzL (x : VD) (ds : List VD) : Prop := ∀ F v, x.P F v → (vlst ds).P F v
def FzT (x : VD) (ds : List VD) : Prop := ∀ F v, x.P F v → (vtup ds).P F v
theorem fzl_dat {ds : List PyData} : FzL (dat (.list ds)) (ds.map dat) := fun F v h => vlst_dat.mpr h
theorem fzl_v {ds : List VD} : FzL (vlst ds) ds := fun F v h => h
theorem fzt_dat {ds : List PyData} : FzT (dat (.tuple ds)) (ds.map dat) := fun F v h => vtup_dat.mpr h
theorem fzt_v {ds : List VD} : FzT (vtup ds) ds := fun F v h => h
theorem fz_walkL {ds : List VD} {v : V} {σ : L2.St} {H : Hp} (s : Sat (Φ.and x v) ρ M σ H) (hx : FzL x ds) : ∃ a ws Ψ, v = .ref a ∧ SqL K H a ws ∧ Le Ψ Φ ∧ Sat Ψ ρ M σ H ∧ Walks (Itl K a) Ψ ds := by
  have ⟨F, s0⟩ := s
  obtain ⟨a, ws, rfl, h1, h2⟩ := hx F v s0.fr.2
  refine ⟨a, ws, Φ.also (fun F => F a = some (.lst ws) ∧ DA F ds ws) fun e h => ⟨e.pl _ _ h.1 rfl, h.2.mono e⟩, rfl, sq_of (s0.ex _ _ h1), .of rfl fun F h => h.1, ⟨F, s0.ex, ⟨s0.fr.1, h1, h2⟩, s0.sl, s0.nd, s0.ce⟩, ?_⟩
  refine ei_vec (ws := ws) (Paired.length h2).symm fun Φ' ρ' M' σ' H' l ⟨F', s'⟩ => ?_
  have := l.p F' s'.fr
  exact ⟨sq_of (s'.ex _ _ this.2.1), F', s', this.2.2⟩
theorem fz_walkT {ds : List VD} {v : V} {σ : L2.St} {H : Hp} (s : Sat (Φ.and x v) ρ M σ H) (hx : FzT x ds) : ∃ a ws Ψ, v = .ref a ∧ SqT K H a ws ∧ Le Ψ Φ ∧ Sat Ψ ρ M σ H ∧ Walks (Itt K a) Ψ ds := by
  have ⟨F, s0⟩ := s
  obtain ⟨a, ws, rfl, h1, h2⟩ := hx F v s0.fr.2
  refine ⟨a, ws, Φ.also (fun F => F a = some (.tup ws) ∧ DA F ds ws) fun e h => ⟨e.pl _ _ h.1 rfl, h.2.mono e⟩, rfl, st_of (s0.ex _ _ h1), .of rfl fun F h => h.1, ⟨F, s0.ex, ⟨s0.fr.1, h1, h2⟩, s0.sl, s0.nd, s0.ce⟩, ?_⟩
  refine ei_vecT (ws := ws) (Paired.length h2).symm fun Φ' ρ' M' σ' H' l ⟨F', s'⟩ => ?_
  have := l.p F' s'.fr
  exact ⟨st_of (s'.ex _ _ this.2.1), F', s', this.2.2⟩
/-- a list or a tuple -/
def iSeq (K : PySem.W.Frag) (tl : TE) : TI := fun σ H R => tl σ H fun x H1 => (∃ a, x = .ref a ∧ (∃ xs, SqL K H1 a xs) ∧ R (Itl K a) H1) ∨ ∃ a, x = .ref a ∧ (∃ xs, SqT K H1 a xs) ∧ R (Itt K a) H1
theorem iter_at {X : Cx} {tg : Expr} {pins : List (Addr × Obj)} {σ : L2.St} {H : Hp} {s1 : Shared} {R : It → Hp → Prop} {a : Addr} {xs : List V} (I1 : Inv X pins σ H s1) (hq : SqL X.K H a xs) (q : R (Itl X.K a) H) :
    wpAny (model X.prog X.w) X.A (pyIter (.ref a)) (PIE X pins σ tg R) X.xe s1 := by
  obtain ⟨its, rv, pl, hz⟩ := I1.list hq
  refine PySem.wpAny_pyIter_list pl.isList ?_
  refine ⟨_, [s1.heap.objs.size], _, _, H, rfl, I1.kept (t' := s1.toks) (fun b o => Heap.get?_push_of_some _), turn_list a _, ⟨_, Heap.get?_push_size _ rfl, rfl, rfl⟩, ?_, q⟩
  intro b hb
  cases List.mem_singleton.mp hb
  exact I1.fpOk (Nat.le_refl _) (I1.hok.fresh (Nat.le_refl _))
theorem iter_at_t {X : Cx} {tg : Expr} {pins : List (Addr × Obj)} {σ : L2.St} {H : Hp} {s1 : Shared} {R : It → Hp → Prop} {a : Addr} {xs : List V} (I1 : Inv X pins σ H s1) (hq : SqT X.K H a xs) (q : R (Itt X.K a) H) :
    wpAny (model X.prog X.w) X.A (pyIter (.ref a)) (PIE X pins σ tg R) X.xe s1 := by
  obtain ⟨its, rv, pl, hz⟩ := I1.tuple hq
  refine PySem.wpAny_pyIter_tuple (show s1.heap.IsTuple a its.toArray from pl) ?_
  refine ⟨_, [s1.heap.objs.size], _, _, H, rfl, I1.kept (t' := s1.toks) (fun b o => Heap.get?_push_of_some _), turn_tuple a _, ⟨_, Heap.get?_push_size _ rfl, rfl, rfl⟩, ?_, q⟩
  intro b hb
  cases List.mem_singleton.mp hb
  exact I1.fpOk (Nat.le_refl _) (I1.hok.fresh (Nat.le_refl _))
theorem pi_seq {X : Cx} {tg l : Expr} {tl : TE} (hl : PE X l tl) : PI X tg l (iSeq X.K tl) := by
  refine ⟨fun pins s σ H R I h => ?_⟩
  refine wpAny_mono (hl.run pins s σ H _ I h) (fun v s1 ⟨x, H1, I1, r1, q1⟩ => ?_) fun _ _ z => z
  rcases q1 with ⟨a, e, ⟨xs, hq⟩, q⟩ | ⟨a, e, ⟨xs, hq⟩, q⟩
  · subst e
    cases r1
    exact iter_at I1 hq q
  · subst e
    cases r1
    exact iter_at_t I1 hq q
theorem ei_seqL {tl : TE} {ds : List VD} (h : Ev tl ρ M x M') (hx : FzL x ds) : EvI (iSeq K tl) ρ M ds M' := fun Φ σ H R s q => h Φ σ H _ s fun v H1 s1 => by
  obtain ⟨a, ws, Ψ, e, h1, h2, h3, h4⟩ := fz_walkL (K := K) s1 hx
  exact .inl ⟨a, e, ⟨ws, h1⟩, q _ _ Ψ h2 h3 h4⟩
theorem ei_seqT {tl : TE} {ds : List VD} (h : Ev tl ρ M x M') (hx : FzT x ds) : EvI (iSeq K tl) ρ M ds M' := fun Φ σ H R s q => h Φ σ H _ s fun v H1 s1 => by
  obtain ⟨a, ws, Ψ, e, h1, h2, h3, h4⟩ := fz_walkT (K := K) s1 hx
  exact .inr ⟨a, e, ⟨ws, h1⟩, q _ _ Ψ h2 h3 h4⟩
def irange (lo : Int) (n : Nat) : List VD := (List.range n).map fun i => dat (.int (lo + (i : Nat)))
theorem ei_rng {lo : Int} {n : Nat} : Walks (Itr lo n) Ψ (irange lo n) := by
  refine ⟨fun _ => True, YFn fun i => .int (lo + i), ?_, fun _ _ _ _ _ _ _ => trivial, fun i d x H H' Φ ρ M σ hi l s y => ?_⟩
  · have : (irange lo n).length = n := by simp [irange]
    rw [this]
    exact walk_range
  · obtain ⟨rfl, rfl⟩ := y
    have ⟨F, s0⟩ := s
    have e : d = dat (.int (lo + (i : Nat))) := by
      unfold irange at hi
      rw [List.getElem?_map] at hi
      cases q : (List.range n)[i]? with
      | none => rw [q] at hi; cases hi
      | some j =>
        rw [q] at hi
        have := List.getElem?_eq_some_iff.mp q
        obtain ⟨h1, h2⟩ := this
        rw [List.getElem_range] at h2
        subst h2
        exact (Option.some.inj hi).symm
    subst e
    exact ⟨F, s0.ex, ⟨s0.fr, .int _⟩, s0.sl, s0.nd, s0.ce⟩
theorem ei_rng1 {ta : TA} {n : Int} (h : EvA ta ρ M [dat (.int n)] M') (hn : -(2 ^ 62) ≤ n ∧ n < 2 ^ 62) : EvI (iRng1 ta) ρ M (irange 0 n.toNat) M' := fun Φ σ H R s q => h Φ σ H _ s fun vs H1 s1 => by
  have ⟨F, s0⟩ := s1
  obtain ⟨v, rfl, h1⟩ := rc1 (ds := []) s0.fr.2
  cases h1
  exact ⟨n, rfl, hn.1, hn.2, q _ H1 Φ (.refl _) (s1.weak Le.andA) ei_rng⟩
theorem ei_rng2 {ta : TA} {m n : Int} (h : EvA ta ρ M [dat (.int m), dat (.int n)] M') (hn : -(2 ^ 62) ≤ m ∧ m < 2 ^ 62 ∧ -(2 ^ 62) ≤ n ∧ n < 2 ^ 62) : EvI (iRng2 ta) ρ M (irange m (n - m).toNat) M' := fun Φ σ H R s q => h Φ σ H _ s fun vs H1 s1 => by
  have ⟨F, s0⟩ := s1
  obtain ⟨v, w, rfl, h1, h2⟩ := rc2 s0.fr.2
  cases h1; cases h2
  exact ⟨m, n, rfl, hn, q _ H1 Φ (.refl _) (s1.weak Le.andA) ei_rng⟩
/-- pairs: a new tuple each -/
theorem ei_pair {G : Hp → Prop} {n : Nat} {J : It} {f g : Nat → Option V} {ds es : List VD} (hn : ds.length = n) (hn2 : es.length = n) (w : Walk J n G (YPair f g)) (hG : ∀ Φ ρ M σ H, Le Φ Ψ → Sat Φ ρ M σ H → G H)
    (h : ∀ Φ ρ M σ H, Le Φ Ψ → Sat Φ ρ M σ H → ∃ F, SatF F Φ ρ M σ H ∧ ∀ (i : Nat) d e v w, ds[i]? = some d → es[i]? = some e → f i = some v → g i = some w → d.P F v ∧ e.P F w) : Walks J Ψ ((ds.zip es).map fun p => vtup [p.1, p.2]) := by
  refine ⟨G, YPair f g, ?_, hG, fun i d x H H' Φ ρ M σ hi l s y => ?_⟩
  · have : ((ds.zip es).map fun p => vtup [p.1, p.2]).length = n := by simp [hn, hn2]
    rw [this]
    exact w
  · obtain ⟨T, v, u, rfl, hT, rfl, h1, h2⟩ := y
    obtain ⟨F, s0, hd⟩ := h Φ ρ M σ H l s
    rw [List.getElem?_map] at hi
    cases q : (ds.zip es)[i]? with
    | none => rw [q] at hi; cases hi
    | some p =>
      obtain ⟨d1, e1⟩ := p
      rw [q] at hi
      cases hi
      rw [List.getElem?_zip_eq_some] at q
      obtain ⟨k1, k2⟩ := hd i d1 e1 v u q.1 q.2 h1 h2
      exact Sat.retNew s0 hT fun F' fx e => ⟨T, [v, u], rfl, e, .cons (d1.mono fx k1) (.cons (e1.mono fx k2) .nil)⟩
theorem ei_enum {ta : TA} {ds : List VD} (h : EvA ta ρ M [x] M') (hx : FzL x ds) : EvI (iEnum K ta) ρ M (((irange 0 ds.length).zip ds).map fun p => vtup [p.1, p.2]) M' := fun Φ σ H R s q => h Φ σ H _ s fun vs H1 s1 => by
  have ⟨F, s0⟩ := s1
  obtain ⟨v, rfl, h1⟩ := rc1 (ds := []) s0.fr.2
  obtain ⟨a, ws, rfl, h1, h2⟩ := hx F v h1
  refine ⟨a, ws, rfl, sq_of (s0.ex _ _ h1), q _ H1 (Φ.also (fun F => F a = some (.lst ws) ∧ DA F ds ws) fun e h => ⟨e.pl _ _ h.1 rfl, h.2.mono e⟩) (.of rfl fun F h => h.1) ⟨F, s0.ex, ⟨s0.fr.1, h1, h2⟩, s0.sl, s0.nd, s0.ce⟩ ?_⟩
  have hl := Paired.length h2
  refine ei_pair (n := ws.length) (by simp [irange, hl]) hl (walk_enum (K := K) (a := a) (xs := ws)) (fun Φ' ρ' M' σ' H' l ⟨F', s'⟩ => sq_of (s'.ex _ _ (l.p F' s'.fr).2.1)) fun Φ' ρ' M' σ' H' l ⟨F', s'⟩ => ⟨F', s', fun i d e v w q1 q2 q3 q4 => ?_⟩
  obtain ⟨v', k1, k2⟩ := (l.p F' s'.fr).2.2.get q2
  rw [q4] at k1
  cases k1
  refine ⟨?_, k2⟩
  cases q3
  unfold irange at q1
  rw [List.getElem?_map] at q1
  cases q : (List.range ds.length)[i]? with
  | none => rw [q] at q1; cases q1
  | some j =>
    rw [q] at q1
    obtain ⟨z1, z2⟩ := List.getElem?_eq_some_iff.mp q
    rw [List.getElem_range] at z2
    subst z2
    cases q1
    show Rp F' (V.int (i : Int)) (PyData.int (0 + (i : Int)))
    rw [Int.zero_add]
    exact .int _
theorem ei_zip {ta : TA} {ds es : List VD} (h : EvA ta ρ M [x, y] M') (hx : FzL x ds) (hy : FzL y es) : EvI (iZip K ta) ρ M ((ds.zip es).map fun p => vtup [p.1, p.2]) M' := fun Φ σ H R s q => h Φ σ H _ s fun vs H1 s1 => by
  have ⟨F, s0⟩ := s1
  obtain ⟨v, w, rfl, h1, h2⟩ := rc2 s0.fr.2
  obtain ⟨a, ws, rfl, h1, h3⟩ := hx F v h1
  obtain ⟨b, us, rfl, h2, h4⟩ := hy F w h2
  refine ⟨a, b, ws, us, rfl, sq_of (s0.ex _ _ h1), sq_of (s0.ex _ _ h2), q _ H1 (Φ.also (fun F => (F a = some (.lst ws) ∧ DA F ds ws) ∧ F b = some (.lst us) ∧ DA F es us) fun e h => ⟨⟨e.pl _ _ h.1.1 rfl, h.1.2.mono e⟩, e.pl _ _ h.2.1 rfl, h.2.2.mono e⟩) (.of rfl fun F h => h.1) ⟨F, s0.ex, ⟨s0.fr.1, ⟨h1, h3⟩, h2, h4⟩, s0.sl, s0.nd, s0.ce⟩ ?_⟩
  have hl := Paired.length h3
  have hl2 := Paired.length h4
  have e1 : (ds.take (min ws.length us.length)).zip (es.take (min ws.length us.length)) = ds.zip es := by
    rw [List.zip_eq_zipWith, List.zip_eq_zipWith, ← List.take_zipWith, List.take_of_length_le (by rw [List.length_zipWith]; omega)]
  rw [← e1]
  refine ei_pair (n := min ws.length us.length) (by rw [List.length_take]; omega) (by rw [List.length_take]; omega) (walk_zip (K := K) (a := a) (b := b) (xs := ws) (ys := us) rfl) (fun Φ' ρ' M' σ' H' l ⟨F', s'⟩ => ⟨sq_of (s'.ex _ _ (l.p F' s'.fr).2.1.1), sq_of (s'.ex _ _ (l.p F' s'.fr).2.2.1)⟩) fun Φ' ρ' M' σ' H' l ⟨F', s'⟩ => ⟨F', s', fun i d e v w q1 q2 q3 q4 => ?_⟩
  have hi : i < min ws.length us.length := by
    have := (List.getElem?_eq_some_iff.mp q1).1
    rw [List.length_take] at this
    omega
  rw [List.getElem?_take_of_lt hi] at q1 q2
  obtain ⟨v', k1, k2⟩ := (l.p F' s'.fr).2.1.2.get q1
  obtain ⟨w', k3, k4⟩ := (l.p F' s'.fr).2.2.2.get q2
  rw [q3] at k1
  rw [q4] at k3
  cases k1; cases k3
  exact ⟨k2, k4⟩

/-! ### for -/
theorem c_for {wi : TI} {g : TG} {tb : TS} {its : List VD} (h : EvI wi ρ M its M1) (I : Nat → Env → Cells → Prop) (h0 : I 0 ρ M1)
    (hs : ∀ Ψ, Le Ψ Φ → ∀ (i : Nat) d ρ' M', its[i]? = some d → I i ρ' M' → ∃ ρ'' js, Tgt g js d ρ' ρ'' ∧ Cont (tb { D with nx := InvK Ψ (I (i + 1)), ct := InvK Ψ (I (i + 1)), bk := D.nx }) Ψ ρ'' M')
    (hd : ∀ ρ' M', I its.length ρ' M' → Cont D.nx Φ ρ' M') : Cont (tFor wi g tb D) Φ ρ M := fun σ H s => h Φ σ H _ s fun J H1 Ψ l s1 ⟨G, Y, w, hG, hY⟩ =>
  for_it w (fun i => InvK Ψ (I i)) ⟨ρ, M1, h0, s1⟩ (fun i σ' H' _ ⟨ρ', M', _, s'⟩ => hG Ψ ρ' M' σ' H' (.refl _) s') (fun i x σ' H' H2 hi ⟨ρ', M', j, s'⟩ y => by
    have hi' : its[i]? = some its[i] := by simp [hi]
    obtain ⟨ρ'', js, hg, k⟩ := hs Ψ l i its[i] ρ' M' hi' j
    exact hg Ψ M' x σ' H2 _ (hY i its[i] x H' H2 Ψ ρ' M' σ' hi' (.refl _) s' y) fun σ2 _ _ s2 => k σ2 H2 s2) fun σ' H' ⟨ρ', M', j, s'⟩ => hd ρ' M' j σ' H' (s'.weak l)

theorem for_k {g : TG} {tb : TS} {js : List Nat} {d : VD} {D' : Ends} (h : Tgt g js d ρ ρ') (k : Cont (tb D') Ψ ρ' M) : ∃ ρ'' js, Tgt g js d ρ ρ'' ∧ Cont (tb D') Ψ ρ'' M := ⟨ρ', js, h, k⟩

/-! ### while -/
theorem c_while {tc : TT} {tb : TS} (I : Nat → Env → Cells → Prop) (m0 : Nat) (h0 : I m0 ρ M)
    (hs : ∀ m ρ' M', I m ρ' M' → ∃ b M1, EvT tc ρ' M' b M1 ∧ (b = true → Cont (tb { D with nx := InvK Φ (fun ρ M => ∃ m', m' < m ∧ I m' ρ M), ct := InvK Φ (fun ρ M => ∃ m', m' < m ∧ I m' ρ M), bk := D.nx }) Φ ρ' M1) ∧ (b = false → Cont D.nx Φ ρ' M1)) :
    Cont (tWhile tc tb D) Φ ρ M := fun σ H s => by
  refine ⟨fun m => InvK Φ (I m), ⟨m0, ρ, M, h0, s⟩, ?_⟩
  rintro m σ' H' ⟨ρ', M', j, s'⟩
  obtain ⟨b, M1, hb, h1, h2⟩ := hs m ρ' M' j
  refine hb Φ σ' H' _ s' fun H1 s1 => ?_
  cases b with
  | true =>
    rw [if_pos rfl]
    exact ⟨_, fun σ2 H2 ⟨ρ2, M2, ⟨m', hm, j2⟩, s2⟩ => ⟨m', hm, ρ2, M2, j2, s2⟩, h1 rfl σ' H1 s1⟩
  | false =>
    rw [if_neg Bool.false_ne_true]
    exact h2 rfl σ' H1 s1

/-! ### comprehensions -/
def wipeE (ρ : Env) : List Nat → Env
  | [] => ρ
  | v :: vs => (wipeE ρ vs).set v none
theorem Slots.wipes {F : Hp} {σ : L2.St} {ρ : Env} (h : Slots F σ ρ) : ∀ vs : List Nat, Slots F (L2.wipe σ vs) (wipeE ρ vs)
  | [] => h
  | v :: vs => (Slots.wipes h vs).wipe v
theorem wipe_get (σ : L2.St) : ∀ (vs : List Nat) (i : Nat), (L2.wipe σ vs)[i]? = if i ∈ vs then (if i < σ.length then some none else none) else σ[i]?
  | [], i => by simp [L2.wipe]
  | v :: vs, i => by
    rw [L2.wipe, List.getElem?_set, wipe_length]
    by_cases h : v = i
    · subst h; simp
    · rw [if_neg h, wipe_get σ vs i]
      have : (i ∈ v :: vs) ↔ i ∈ vs := by
        rw [List.mem_cons]
        constructor
        · rintro (e | e)
          · exact absurd e.symm h
          · exact e
        · exact .inr
      simp only [this]
theorem wipe_eq {σ σ' : L2.St} {js vs : List Nat} (h : ∀ i, i ∉ js → σ'[i]? = (L2.wipe σ vs)[i]?) (hl : σ'.length = (L2.wipe σ vs).length) (hj : ∀ i ∈ js, i ∈ vs) : L2.wipe σ' vs = L2.wipe σ vs := by
  apply List.ext_getElem?
  intro i
  rw [wipe_length] at hl
  rw [wipe_get, wipe_get, hl]
  by_cases hi : i ∈ vs
  · rw [if_pos hi, if_pos hi]
  · rw [if_neg hi, if_neg hi, h i (fun z => hi (hj i z)), wipe_get, if_neg hi]
theorem SatF.wiped {F : Hp} {σ : L2.St} {H : Hp} (s : SatF F Φ ρ M σ H) (vs : List Nat) : SatF F Φ (wipeE ρ vs) M (L2.wipe σ vs) H := ⟨s.ex, s.fr, s.sl.wipes vs, s.nd, s.ce⟩
/-- an owned list of values is frozen -/
theorem SatF.freeze {F : Hp} {σ : L2.St} {H : Hp} {D : Addr} {acc : List VD} (s : SatF F (Φ.more (D, cL acc)) ρ M σ H) : Sat (Φ.and (vlst acc) (.ref D)) ρ M σ H := by
  obtain ⟨o, h1, h0, ws, rfl, h3⟩ := s.ce (D, cL acc) (List.mem_append_right _ List.mem_cons_self)
  have fx : Fx F (upd F D (.lst ws)) := Fx.of (Ex.new h0)
  have hsub : (M ++ Φ.N).Sublist (M ++ (Φ.more (D, cL acc)).N) := List.Sublist.append (List.Sublist.refl M) (List.sublist_cons_self _ _)
  refine ⟨upd F D (.lst ws), fun a u e => ?_, ⟨Φ.mono fx s.fr, D, ws, rfl, upd_same, h3.mono fx⟩, s.sl.mono fx, s.nd.sublist (hsub.map _), fun c hc => ?_⟩
  · by_cases h : a = D
    · subst h; rw [upd_same] at e; cases e; exact h1
    · rw [upd_ne h] at e; exact s.ex a u e
  · obtain ⟨u, k1, k2⟩ := s.ce c (hsub.subset hc)
    have hne : c.1 ≠ D := fun e => by
      have nd := s.nd
      have hmem : c ∈ M ++ Φ.N := hc
      have hp : (M ++ (Φ.more (D, cL acc)).N).Perm ((D, cL acc) :: (M ++ Φ.N)) := List.perm_middle
      have nd2 := (hp.map (·.1)).nodup_iff.mp nd
      rw [List.map_cons, List.nodup_cons] at nd2
      exact nd2.1 (List.mem_map.mpr ⟨c, hmem, e⟩)
    exact ⟨u, k1, c.2.mono fx (upd_ne hne) k2⟩
/-- the general one: I by the turn, what is made so far, the cells -/
theorem er_lc {wi : TI} {g : TG} {tt : TT} {vs : List Nat} {its : List VD} (h : EvI wi ρ M its M1) (I : Nat → List VD → Cells → Prop) (h0 : I 0 [] M1) (hl : its.length ≤ 16000000)
    (hI : ∀ i acc M', I i acc M' → acc.length ≤ i)
    (hs : ∀ (i : Nat) d acc M', its[i]? = some d → I i acc M' → ∃ ρ'' js b M2, Tgt g js d (wipeE ρ vs) ρ'' ∧ (∀ i ∈ js, i ∈ vs) ∧ EvT tt ρ'' M' b M2 ∧ (b = true → EvR te ρ'' M2 fun y M3 => I (i + 1) (acc ++ [y]) M3) ∧ (b = false → I (i + 1) acc M2)) :
    EvR (tLc wi g tt te vs) ρ M fun y M' => ∃ acc, y = vlst acc ∧ I its.length acc M' := fun Φ σ H Q s q => h Φ σ H _ s fun J H1 Ψ l s1 ⟨G, Y, w, hG, hY⟩ => fun Dl hD => by
  have ⟨F1, s2⟩ := s1
  have lm : ∀ c, Le (Ψ.more c) Ψ := fun c => Le.more
  -- the frame's slots are kept aside
  let Ψ0 : Fr := Ψ.slots σ ρ
  refine lc_it w (fun i H' => ∃ acc M', I i acc M' ∧ Sat (Ψ0.more (Dl, cL acc)) (wipeE ρ vs) M' (L2.wipe σ vs) H') ⟨[], M1, h0, ?_⟩ (fun i H' _ ⟨acc, M', _, s'⟩ => hG _ _ _ _ _ (Le.trans Le.more Le.slots) s') (fun i x H' H2 hi ⟨acc, M', j, s'⟩ y => ?_) (fun H' ⟨acc, M', j, s'⟩ => ?_)
  · have s3 := s2.newC (c := cL []) (o := .lst []) hD fun e => ⟨e, [], rfl, .nil⟩
    refine ⟨F1, s3.ex, ⟨s3.fr, s3.sl⟩, s3.sl.wipes vs, ?_, fun c hc => ?_⟩
    · have hp : (M1 ++ (Ψ0.more (Dl, cL [])).N).Perm ((Dl, cL []) :: M1 ++ Ψ.N) := List.perm_middle
      exact (hp.map (·.1)).nodup_iff.mpr s3.nd
    · have hp : (M1 ++ (Ψ0.more (Dl, cL [])).N).Perm ((Dl, cL []) :: M1 ++ Ψ.N) := List.perm_middle
      exact s3.ce c (hp.mem_iff.mp hc)
  · have hi' : its[i]? = some its[i] := by simp [hi]
    obtain ⟨ρ'', js, b, M2, hg, hj, ht, h1, h2⟩ := hs i its[i] acc M' hi' j
    have s3 := hY i its[i] x H' H2 _ _ _ _ hi' (Le.trans Le.more Le.slots) s' y
    refine hg _ M' x _ H2 _ s3 fun σ2 k1 k2 s4 => ⟨wipe_eq k1 k2 hj, ht _ σ2 H2 _ s4 fun H3 s5 => ?_⟩
    -- back to the wiped slots
    have back : ∀ {Φ' : Fr} {acc' : List VD} {M' : Cells} {H' : Hp} {σ3 : L2.St} {ρ3 : Env}, Sat (Ψ0.more (Dl, cL acc')) ρ3 M' σ3 H' → Sat (Ψ0.more (Dl, cL acc')) (wipeE ρ vs) M' (L2.wipe σ vs) H' := fun {_ _ _ _ _ _} ⟨F, z⟩ => ⟨F, z.ex, z.fr, z.fr.2.wipes vs, z.nd, z.ce⟩
    cases b with
    | false =>
      rw [if_neg Bool.false_ne_true]
      exact ⟨acc, M2, h2 rfl, back (Φ' := Ψ) s5⟩
    | true =>
      rw [if_pos rfl]
      refine h1 rfl _ σ2 H3 _ s5 fun y M3 v H4 j4 s6 => ?_
      have ⟨F, s7⟩ := s6
      obtain ⟨o, e1, e0, ws, rfl, e3⟩ := s7.ce (Dl, cL acc) (List.mem_append_right _ List.mem_cons_self)
      refine ⟨ws, e1, ?_, acc ++ [y], M3, j4, back (Φ' := Ψ) (σ3 := σ2) (ρ3 := ρ'') ⟨F, ?_⟩⟩
      · rw [← Paired.length e3]
        have := hI i acc M' j
        have hz : sizeLine = 16777216 := sizeLine_eq
        omega
      · exact s7.put (Φ' := Ψ0.more (Dl, cL (acc ++ [y]))) (c := cL acc) (Put.behind .here M3) s7.fr.1 e0 ⟨e0, _, rfl, e3.append (.cons s7.fr.2 .nil)⟩
  · have ⟨F, s3⟩ := s'
    have s4 : SatF F (Ψ0.more (Dl, cL acc)) ρ M' σ H' := ⟨s3.ex, s3.fr, s3.fr.2, s3.nd, s3.ce⟩
    exact q (vlst acc) M' (.ref Dl) H' ⟨acc, rfl, j⟩ (s4.freeze.weak ⟨by show Φ.N.Sublist Ψ.N; exact l.n, fun F h => ⟨l.p F h.1.1, h.2⟩⟩)
theorem lc_k {g : TG} {tt : TT} {js vs : List Nat} {d : VD} {b : Bool} {Pe : Env → Prop} (h : Tgt g js d ρ ρ') (hj : ∀ i ∈ js, i ∈ vs) (ht : EvT tt ρ' M b M) (k : Pe ρ') :
    ∃ ρ'' js, Tgt g js d ρ ρ'' ∧ (∀ i ∈ js, i ∈ vs) ∧ EvT tt ρ'' M b M ∧ Pe ρ'' := ⟨ρ', js, h, hj, ht, k⟩
/-- data for each item that is let by, nothing else changes -/
theorem ev_lc {α : Type} {wi : TI} {g : TG} {tt : TT} {vs : List Nat} {e : α → VD} {xs : List α} {f : α → Bool} {r : α → PyData} (h : EvI wi ρ M (xs.map e) M1) (hl : xs.length ≤ 16000000)
    (hs : ∀ a, a ∈ xs → ∃ ρ'' js, Tgt g js (e a) (wipeE ρ vs) ρ'' ∧ (∀ i ∈ js, i ∈ vs) ∧ EvT tt ρ'' M1 (f a) M1 ∧ (f a = true → Ev te ρ'' M1 (dat (r a)) M1)) : Ev (tLc wi g tt te vs) ρ M (dat (.list ((xs.filter f).map r))) M1 := by
  refine Ev.imp (EvR.ev ((er_lc h (fun i acc M' => M' = M1 ∧ acc = (((xs.take i).filter f).map r).map dat) ⟨rfl, rfl⟩ (by rw [List.length_map]; exact hl) (fun i acc M' ⟨_, e⟩ => ?_) fun i d acc M' hi ⟨e1, e2⟩ => ?_).imp (P' := Det (vlst (((xs.filter f).map r).map dat)) M1) fun x M' ⟨acc, e, e1, e2⟩ => ?_)) fun F v h => vlst_dat.mp h
  · subst e
    rw [List.length_map, List.length_map]
    exact Nat.le_trans (List.length_filter_le _ _) (by rw [List.length_take]; omega)
  · subst e1; subst e2
    rw [List.getElem?_map] at hi
    cases q : xs[i]? with
    | none => rw [q] at hi; cases hi
    | some a =>
      rw [q] at hi
      cases hi
      have htk : xs.take (i + 1) = xs.take i ++ [a] := by rw [List.take_succ, q]; rfl
      obtain ⟨ρ'', js, h1, hj, h2, h3⟩ := hs a (List.mem_of_getElem? q)
      refine ⟨ρ'', js, f a, M', h1, hj, h2, fun hf => (EvR.of (h3 hf)).imp fun y M3 ⟨z1, z2⟩ => ?_, fun hf => ⟨rfl, ?_⟩⟩
      · subst z1; subst z2
        refine ⟨rfl, ?_⟩
        rw [htk, List.filter_append, List.map_append, List.map_append, List.filter_cons_of_pos hf]
        rfl
      · rw [htk, List.filter_append, List.map_append, List.map_append, List.filter_cons_of_neg (by rw [hf]; exact Bool.false_ne_true)]
        simp
  · subst e
    rw [List.length_map, List.take_length] at e2
    exact ⟨by rw [e2], e1⟩
end

/-! ### a def's body -/
def entry (N : List Str) (ds : List VD) : Env := ds.map some ++ List.replicate (N.length - ds.length) none
theorem slots_entry {F : Hp} {N : List Str} {ds : List VD} {vs : List V} (h : DA F ds vs) : Slots F (L2.start N vs) (entry N ds) := by
  have hl := Paired.length h
  refine ⟨by simp [L2.start, entry, hl], fun i x e => ?_⟩
  unfold entry at e
  by_cases hi : i < ds.length
  · rw [List.getElem?_append_left (by simpa using hi), List.getElem?_map] at e
    cases q : ds[i]? with
    | none => rw [q] at e; cases e
    | some d =>
      rw [q] at e
      cases e
      obtain ⟨v, h1, h2⟩ := h.get q
      refine ⟨v, ?_, h2⟩
      unfold L2.start
      rw [List.getElem?_append_left (by rw [List.length_map]; omega), List.getElem?_map, h1]
      rfl
  · rw [List.getElem?_append_right (by simpa using hi), List.getElem?_replicate] at e
    split at e <;> cases e
theorem fn_start {n : Nat} {S : FSpec} {vs : List V} {H : Hp} {Q : VK} {E : XK} {t : TS} {N : List Str} (h : spF n S vs H Q E)
    (k : ∀ ds M P Φ, ds.length = n → S ds M P → RtQ Q Φ P → Cont (t (fnD Q)) Φ (entry N ds) M) : t { nx := fun _ H' => Q .non H', rt := Q } (L2.start N vs) H := by
  obtain ⟨Φ, ρ, σ, ds, M, P, s, e, hS, hq⟩ := h
  have ⟨F, s0⟩ := s
  refine k ds M P (Φ.slots σ ρ) ((Paired.length s0.fr.2).trans e) hS (fun Φ' ρ' σ' x M' v H' l hp s' => ?_) _ _ ⟨F, s0.ex, ⟨s0.fr.1, s0.sl⟩, slots_entry s0.fr.2, s0.nd, s0.ce⟩
  have s2 := s'.weak (Ψ := (Φ.slots σ ρ).and x v) ⟨l.n, fun F h => ⟨l.p F h.1, h.2⟩⟩
  have ⟨F', s3⟩ := s2
  exact hq x M' v H' hp ⟨F', s3.ex, ⟨s3.fr.1.1, s3.fr.2⟩, s3.fr.1.2, s3.nd, s3.ce⟩
end Sx

set_option Elab.async false
set_option linter.all false
set_option maxRecDepth 100000
set_option maxHeartbeats 2000000
/-! Sx5: more rules; what all our laws have: the script's cells, drawn numbers. -/
namespace Sx
open PySem L2 Evl
/-- a list's item, by values -/
theorem get_list {X : Cx} : PGet X (rIxL X.K) := by
  intro pins s σ H o i ov iv Q I ro ri h
  obtain ⟨p, xs, j, z, rfl, rfl, hq, he, q⟩ := h
  cases ro
  obtain ⟨t, rfl⟩ := ri
  obtain ⟨its, r, pl, hz⟩ := I.list hq
  obtain ⟨k, h1, h2, h3, h4, h5⟩ := atI_get he
  obtain ⟨w, ew, rw'⟩ := r.get h2
  have hl := r.length
  have hn := line63
  by_cases h0 : 0 ≤ j
  · have hj : j.toNat = k := by
      rw [PySem.seqIndex_of h0 h5] at h1
      exact Option.some.inj h1
    exact PySem.wpAny_getItem_list pl.isList h0 (by omega) (by rw [hj]; simpa using ew) ⟨z, H, I, rw', q⟩
  · have hj : (j + (its.toArray.size : Int)).toNat = k := by
      rw [PySem.seqIndex_neg (by omega) h4] at h1
      rw [List.size_toArray, ← hl]
      exact Option.some.inj h1
    exact PySem.wpAny_getItem_list_neg pl.isList (by omega) (by rw [List.size_toArray] <;> omega) (by omega) (by rw [hj]; simpa using ew) ⟨z, H, I, rw', q⟩
section
variable {K : PySem.W.Frag} {ρ ρ' : Env} {M M1 M2 M3 M' : Cells} {x y z : VD} {te ta tb tv : TE} {t u : TS} {p : Addr} {Φ : Fr} {D : Ends}
theorem ixN_lt {n : Nat} {k : Int} {j : Nat} (h : ixN n k = some j) : j < n := (ixN_seq h).2.1
/-- xs[i] op= n, an owned list whose item is an int -/
theorem c_augS {g : Int → Int → Int} {xs : List VD} {k a b : Int} {j : Nat} (ho : Ev ta ρ M (val (.ref p)) M) (hi : Ev tb ρ M (dat (.int k)) M) (hj : ixN xs.length k = some j) (hx : xs[j]? = some (dat (.int a))) (hv : Ev tv ρ M (dat (.int b)) M) (hp : Put p (cL xs) (cL (xs.set j (dat (.int (g a b))))) M M') (kk : Cont D.nx Φ ρ M') :
    Cont (tAugS ta tb tv (rIxL K) (ipI g) rSetL D) Φ ρ M := fun σ H s => ho Φ σ H _ s fun v1 H1 s1 => hi _ σ H1 _ s1 fun v2 H2 s2 => by
  have ⟨F2, z2⟩ := s2
  have e1 : v1 = .ref p := z2.fr.1.2
  cases z2.fr.2
  subst e1
  obtain ⟨o, k1, k0, ws, rfl, k3⟩ := z2.at hp.mem
  obtain ⟨w, q1, q2⟩ := k3.get hx
  refine ⟨p, ws, k, w, rfl, rfl, sq_of k1, ?_, ?_⟩
  · unfold atI
    rw [← Paired.length k3, hj]
    exact q1
  · cases q2
    refine hv _ σ H2 _ s2 fun v3 H3 s3 => ?_
    have ⟨F3, z3⟩ := s3
    cases z3.fr.2
    refine ⟨a, b, rfl, rfl, ?_⟩
    obtain ⟨o, k1, k0, ws, rfl, k3⟩ := z3.at hp.mem
    refine ⟨p, ws, k, j, rfl, rfl, k1, by rw [← Paired.length k3]; exact hj, kk σ _ ⟨F3, ?_⟩⟩
    exact (z3.put1 (o := .lst (ws.set j (.int (g a b)))) hp k0 ⟨k0, _, rfl, DA.set (d := dat (.int (g a b))) (Rp.int _) j k3⟩).weak (.of rfl fun F h => h.1.1.1)
theorem dpAll_ints {H : Hp} : ∀ ns : List Int, DpAll K H (ns.map V.int) (ns.map PyData.int)
  | [] => .nil
  | n :: ns => .cons (.int n) (dpAll_ints ns)
/-- the script, as data -/
theorem isd_scr {ns : List Int} : IsDat K (vscr K ns) M (.list (ns.map .int)) := fun s ⟨a, e, h⟩ => by
  subst e
  exact .lst (ex_l s.ex h) (dpAll_ints ns)
/-- an owned list is made of a written one -/
theorem er_lstC {t : TA} {ds : List VD} (h : EvA t ρ M ds M1) (hl : ds.length ≤ sizeLine) : EvR (tLst t) ρ M fun y M' => ∃ p, y = val (.ref p) ∧ M' = (p, cL ds) :: M1 := fun Φ σ H Q s q =>
  h Φ σ H _ s fun vs H1 ⟨F, s1⟩ => by
    have hr := s1.fr.2
    refine ⟨by rw [← Paired.length hr]; exact hl, fun p hp => ?_⟩
    have s2 := s1.newC (c := cL ds) (o := .lst vs) hp fun e => ⟨e, vs, rfl, hr⟩
    exact q _ _ _ _ ⟨p, rfl, rfl⟩ ⟨F, s2.ex, ⟨s2.fr.1, rfl⟩, s2.sl, s2.nd, s2.ce⟩
theorem er_lstCd {t : TA} {ds : List PyData} (h : EvD t ρ M ds M1) (hl : ds.length ≤ sizeLine) : EvR (tLst t) ρ M fun y M' => ∃ p, y = val (.ref p) ∧ M' = (p, cLd ds) :: M1 := fun Φ σ H Q s q =>
  h Φ σ H _ s fun vs H1 ⟨F, s1⟩ => by
    have hr := DA.of_dat.mp s1.fr.2
    refine ⟨by rw [hr.length]; exact hl, fun p hp => ?_⟩
    have s2 := s1.newC (c := cLd ds) (o := .lst vs) hp fun e => ⟨e, vs, rfl, hr⟩
    exact q _ _ _ _ ⟨p, rfl, rfl⟩ ⟨F, s2.ex, ⟨s2.fr.1, rfl⟩, s2.sl, s2.nd, s2.ce⟩
/-- cells that are no longer needed -/
theorem Sat.drop {σ : L2.St} {H : Hp} (s : Sat Φ ρ M σ H) (h : M'.Sublist M) : Sat Φ ρ M' σ H :=
  let ⟨F, s⟩ := s
  let hs := List.Sublist.append h (List.Sublist.refl Φ.N)
  ⟨F, s.ex, s.fr, s.sl, s.nd.sublist (hs.map _), fun c hc => s.ce c (hs.subset hc)⟩
theorem c_dropC {k : L2.St → Hp → Prop} (h : M'.Sublist M) (c : Cont k Φ ρ M') : Cont k Φ ρ M := fun σ H s => c σ H (s.drop h)
/-- the order of the cells -/
theorem Sat.perm {σ : L2.St} {H : Hp} (s : Sat Φ ρ M σ H) (h : M.Perm M') : Sat Φ ρ M' σ H :=
  let ⟨F, s⟩ := s
  let hs := h.append_right Φ.N
  ⟨F, s.ex, s.fr, s.sl, (hs.map (·.1)).nodup_iff.mp s.nd, fun c hc => s.ce c (hs.mem_iff.mpr hc)⟩
theorem c_perm {k : L2.St → Hp → Prop} (h : M.Perm M') (c : Cont k Φ ρ M') : Cont k Φ ρ M := fun σ H s => c σ H (s.perm h)
/-- what is known of a slot may be said otherwise -/
theorem Sat.slots {σ : L2.St} {H : Hp} (s : Sat Φ ρ M σ H) (h : ∀ F, Slots F σ ρ → Slots F σ ρ') : Sat Φ ρ' M σ H := let ⟨F, s⟩ := s; ⟨F, s.ex, s.fr, h F s.sl, s.nd, s.ce⟩
/-- slots that are no longer needed: forgotten -/
inductive Fgt : Env → Env → Prop
  | nil : Fgt [] []
  | keep {a : Option VD} {l l' : Env} : Fgt l l' → Fgt (a :: l) (a :: l')
  | drop {a : Option VD} {l l' : Env} : Fgt l l' → Fgt (a :: l) (none :: l')
theorem Fgt.len {l l' : Env} (h : Fgt l l') : l'.length = l.length := by
  induction h with
  | nil => rfl
  | keep _ ih => simp [ih]
  | drop _ ih => simp [ih]
theorem Fgt.get {l l' : Env} (h : Fgt l l') : ∀ {i : Nat} {x : VD}, l'[i]? = some (some x) → l[i]? = some (some x) := by
  induction h with
  | nil => intro i x e; exact e
  | keep _ ih =>
    intro i x e
    cases i with
    | zero => exact e
    | succ i => simpa using ih (by simpa using e)
  | drop _ ih =>
    intro i x e
    cases i with
    | zero => simp at e
    | succ i => simpa using ih (by simpa using e)
theorem c_fgt {k : L2.St → Hp → Prop} (h : Fgt ρ ρ') (c : Cont k Φ ρ' M) : Cont k Φ ρ M := fun σ H s => c σ H (s.slots fun F q => ⟨q.1.trans h.len.symm, fun i x e => q.2 i x (h.get e)⟩)
end

/-! ### the numbers of our laws -/
def scrCell (s : List Int) (i : Int) : Int :=
  let c := s.getD (i % s.length).toNat 0
  if (if c < 0 then -c else c) ≥ 10 ^ 60 then c % 10 ^ 18 else c
def lawNum (s : List Int) (i : Int) : Int :=
  if s = [] then (i * 48271 + 12345) % 2147483647
  else (((scrCell s i + 977 * i) * 48271 + 31 * s.length) % 2147483647 * 69621 % 2147483629 * 16807 + i) % 2147483587
def tk (s : List Int) (k m : Int) : Int := lawNum s k % m
theorem tk_nn {s : List Int} {k m : Int} (h : 0 < m) : 0 ≤ tk s k m := Int.emod_nonneg _ (by omega)
theorem tk_lt {s : List Int} {k m : Int} (h : 0 < m) : tk s k m < m := Int.emod_lt_of_pos _ h
abbrev cDraw (K : PySem.W.Frag) (s : List Int) (k : Int) : CD := cL [vscr K s, dat (.int k)]
end Sx

set_option Elab.async false
set_option linter.all false
set_option maxRecDepth 100000
set_option maxHeartbeats 2000000
/-! Sx6: more rules, and small facts of lists. -/
namespace Sx
open PySem L2 Evl
section
variable {K : PySem.W.Frag} {ρ ρ' ρ1 : Env} {M M1 M2 M3 M' : Cells} {x y z : VD} {te ta tb tv : TE} {t u : TS} {p : Addr} {Φ : Fr} {D : Ends} {P : VD → Cells → Prop}
/-! ### several outcomes -/
def EvAR (ta : TA) (ρ : Env) (M : Cells) (P : List VD → Cells → Prop) : Prop := ∀ (Φ : Fr) (σ : L2.St) (H : Hp) (Q : List V → Hp → Prop), Sat Φ ρ M σ H → (∀ ds M' v H', P ds M' → Sat (Φ.andA ds v) ρ M' σ H' → Q v H') → ta σ H Q
theorem ear_nil {P : List VD → Cells → Prop} (h : P [] M) : EvAR tNil ρ M P := fun Φ σ H Q ⟨F, s⟩ q => q [] M [] H h ⟨F, s.ex, ⟨s.fr, .nil⟩, s.sl, s.nd, s.ce⟩
theorem ear_cons {tr : TA} {P : List VD → Cells → Prop} {Pa : VD → Cells → Prop} (ha : EvR ta ρ M Pa) (hr : ∀ x M1, Pa x M1 → EvAR tr ρ M1 fun ds M2 => P (x :: ds) M2) : EvAR (tCons ta tr) ρ M P := fun Φ σ H Q s q =>
  ha Φ σ H _ s fun x M1 v H1 hx s1 => hr x M1 hx _ σ H1 _ s1 fun ds M2 vs H2 hp s2 => q (x :: ds) M2 (v :: vs) H2 hp (s2.weak (.of rfl fun F p => ⟨p.1.1, .cons p.1.2 p.2⟩))
theorem EvAR.of {t : TA} {ds : List VD} {P : List VD → Cells → Prop} (h : EvA t ρ M ds M1) (hp : P ds M1) : EvAR t ρ M P := fun Φ σ H Q s q => h Φ σ H _ s fun vs H1 s1 => q ds M1 vs H1 hp s1
theorem er_tupV {t : TA} (h : EvAR t ρ M fun ds M' => ds.length ≤ sizeLine ∧ P (vtup ds) M') : EvR (tTup t) ρ M P := fun Φ σ H Q s q =>
  h Φ σ H _ s fun ds M1 vs H1 ⟨hl, hp⟩ ⟨F, s1⟩ => by
    have hr := s1.fr.2
    refine ⟨by rw [← Paired.length hr]; exact hl, fun p hp' => ?_⟩
    obtain ⟨s2, fx⟩ := s1.new (o := .tup vs) hp'
    exact q _ M1 _ _ hp ⟨_, s2.ex, ⟨s2.fr.1, ⟨p, vs, rfl, upd_same, hr.mono fx⟩⟩, s2.sl, s2.nd, s2.ce⟩
theorem er_lstV {t : TA} (h : EvAR t ρ M fun ds M' => ds.length ≤ sizeLine ∧ P (vlst ds) M') : EvR (tLst t) ρ M P := fun Φ σ H Q s q =>
  h Φ σ H _ s fun ds M1 vs H1 ⟨hl, hp⟩ ⟨F, s1⟩ => by
    have hr := s1.fr.2
    refine ⟨by rw [← Paired.length hr]; exact hl, fun p hp' => ?_⟩
    obtain ⟨s2, fx⟩ := s1.new (o := .lst vs) hp'
    exact q _ M1 _ _ hp ⟨_, s2.ex, ⟨s2.fr.1, ⟨p, vs, rfl, upd_same, hr.mono fx⟩⟩, s2.sl, s2.nd, s2.ce⟩
theorem c_asgGR {g : TG} (h : EvR te ρ M P) (k : ∀ x M1, P x M1 → ∃ ρ' js, Tgt g js x ρ ρ' ∧ Cont D.nx Φ ρ' M1) : Cont (tAsg te g D) Φ ρ M := fun σ H s => h Φ σ H _ s fun x M1 v H1 hp s1 => by
  obtain ⟨ρ', js, hg, kk⟩ := k x M1 hp
  exact hg Φ M1 v σ H1 _ s1 fun σ' _ _ s' => kk σ' H1 s'
/-- o.f = e, several outcomes -/
theorem c_fldR {C : Addr} {f : Str} {nn : List Str} (hv : EvR tv ρ M P) (k : ∀ y M1, P y M1 → ∃ p ns ns' xs xs' M2 M3, Ev ta ρ M1 (val (.ref p)) M2 ∧ Put p (cI C ns xs) (cI C ns' xs') M2 M3 ∧ FPut f y ns xs ns' xs' ∧ ns.length < 1000 ∧ Cont D.nx Φ ρ M3)
    (c : ClsF K C nn) (hf : f ∈ nn) : Cont (sFld K ta tv f D) Φ ρ M := fun σ H s =>
  hv Φ σ H _ s fun y M1 v H1 hp s1 => by
    obtain ⟨p, ns, ns', xs, xs', M2, M3, ho, h, g, hl, k⟩ := k y M1 hp
    refine ho _ σ H1 _ s1 fun w H2 ⟨F, s2⟩ => ?_
    have e : w = .ref p := s2.fr.2
    obtain ⟨o, h1, h0, dx, fs, rfl, h3⟩ := s2.at h.mem
    refine ⟨p, C, dx, fs, e, h1, c.cl, c.no f hf, by rw [h3.len]; exact hl, k σ _ ⟨F, ?_⟩⟩
    exact (s2.put1 (o := .ins C dx (putF f v fs)) h h0 ⟨h0, dx, _, rfl, g.put s2.fr.1.2 h3⟩).weak (.of rfl fun F h => h.1.1)
theorem fld_k {C : Addr} {f : Str} {ns ns' : List Str} {xs xs' : List VD} (ho : Ev ta ρ M1 (val (.ref p)) M2) (h : Put p (cI C ns xs) (cI C ns' xs') M2 M3) (g : FPut f y ns xs ns' xs') (hl : ns.length < 1000) (k : Cont D.nx Φ ρ M3) :
    ∃ p ns ns' xs xs' M2 M3, Ev ta ρ M1 (val (.ref p)) M2 ∧ Put p (cI C ns xs) (cI C ns' xs') M2 M3 ∧ FPut f y ns xs ns' xs' ∧ ns.length < 1000 ∧ Cont D.nx Φ ρ M3 := ⟨p, ns, ns', xs, xs', M2, M3, ho, h, g, hl, k⟩
/-- what is said of an empty list -/
theorem eqv_nil {ds : List PyData} : PyData.eqv (.list ds) (.list []) = ds.isEmpty := by
  cases ds <;> simp [PyData.eqv, PyData.eqvAll]
theorem eqv_nilT {ds : List PyData} : PyData.eqv (.tuple ds) (.tuple []) = ds.isEmpty := by
  cases ds <;> simp [PyData.eqv, PyData.eqvAll]
theorem c_asgP {i : Nat} (h : Ev te ρ M x M) (hs : SetAt x ρ i ρ') (k : Cont D.nx Φ ρ' M) : Cont (tAsg te (gName i) D) Φ ρ M := c_asg h hs k
theorem rc_lenM {α : Type} {f : α → PyData} {xs : List α} (hx : IsLst x M (xs.map f)) : RC (rLenU K) [x] M (dat (.int (xs.length : Int))) M := by
  have h := rc_lenL (K := K) hx
  rw [List.length_map] at h; exact h
theorem rc_lenMT {α : Type} {f : α → PyData} {xs : List α} : RC (rLenU K) [dat (.tuple (xs.map f))] M (dat (.int (xs.length : Int))) M := by
  have h := rc_lenT (K := K) (M := M) (ist_dat (ds := xs.map f))
  rw [List.length_map] at h; exact h
/-! ### slices -/
theorem cut_map {α β : Type} (f : α → β) (xs : List α) (lo hi : Option Int) : cutD (xs.map f) lo hi = (cutD xs lo hi).map f := by
  unfold cutD
  rw [List.length_map, List.map_take, List.map_drop]
theorem cut_nn {α : Type} (xs : List α) (a b : Nat) : cutD xs (some (a : Int)) (some (b : Int)) = (xs.drop a).take (b - a) := by
  unfold cutD
  rw [HT.sIx_nat, HT.sIx_nat]
  apply List.ext_getElem?
  intro i
  rw [List.getElem?_take, List.getElem?_take, List.getElem?_drop, List.getElem?_drop]
  by_cases h : i < b - a
  · rw [if_pos h]
    by_cases h2 : i < min b xs.length - min a xs.length
    · rw [if_pos h2]
      have : min a xs.length = a := by omega
      rw [this]
    · rw [if_neg h2, List.getElem?_eq_none (by omega)]
  · rw [if_neg h, if_neg (by omega)]
theorem cut_0n {α : Type} (xs : List α) (b : Nat) : cutD xs none (some (b : Int)) = xs.take b := by
  have := cut_nn xs 0 b
  unfold cutD at this ⊢
  rw [HT.sIx_none]
  rw [show ((0 : Nat) : Int) = 0 from rfl] at this
  have e : HT.sIx xs.length 0 (some 0) = 0 := by
    have := HT.sIx_nat xs.length 0 0
    simpa using this
  rw [e] at this
  simpa using this
theorem cut_n0 {α : Type} (xs : List α) (a : Nat) : cutD xs (some (a : Int)) none = xs.drop a := by
  unfold cutD
  rw [HT.sIx_nat, HT.sIx_none]
  apply List.ext_getElem?
  intro i
  rw [List.getElem?_take, List.getElem?_drop, List.getElem?_drop]
  by_cases h2 : i < xs.length - min a xs.length
  · rw [if_pos h2]
    have : min a xs.length = a := by omega
    rw [this]
  · rw [if_neg h2, List.getElem?_eq_none (by omega)]
theorem ev_slT1 {te : TE} {tl th : TO} {d : PyData} {ds : List PyData} (h : Ev te ρ M (dat (.tuple (d :: ds))) M1) (h1 : EvO tl ρ M1 (some 1) M2) (h2 : EvO th ρ M2 none M3) : Ev (tSl (rSlU K) te tl th) ρ M (dat (.tuple ds)) M3 := by
  have := ev_slT (K := K) h h1 h2
  have e : cutD (d :: ds) (some ((1 : Nat) : Int)) none = ds := by rw [cut_n0]; rfl
  rw [show (some (1 : Int)) = some ((1 : Nat) : Int) from rfl, e] at this
  exact this
theorem ei_seqTM {α : Type} {f : α → PyData} {xs : List α} {tl : TE} (h : Ev tl ρ M (dat (.tuple (xs.map f))) M') : EvI (iSeq K tl) ρ M (xs.map fun a => dat (f a)) M' := by
  have := ei_seqT (K := K) h fzt_dat
  rw [List.map_map] at this
  exact this
theorem ei_seqLM {α : Type} {f : α → PyData} {xs : List α} {tl : TE} (h : Ev tl ρ M (dat (.list (xs.map f))) M') : EvI (iSeq K tl) ρ M (xs.map fun a => dat (f a)) M' := by
  have := ei_seqL (K := K) h fzl_dat
  rw [List.map_map] at this
  exact this
theorem any_map_id {α : Type} (xs : List α) (g : α → Bool) : (xs.map g).any id = xs.any g := by
  induction xs with
  | nil => rfl
  | cons x xs ih => simp [ih]
theorem all_map_id {α : Type} (xs : List α) (g : α → Bool) : (xs.map g).all id = xs.all g := by
  induction xs with
  | nil => rfl
  | cons x xs ih => simp [ih]
theorem rc_anyM {α : Type} {g : α → Bool} {xs : List α} : RC (rAny K) [dat (.list (xs.map fun a => .bool (g a)))] M (dat (.bool (xs.any g))) M := by
  have := rc_any (K := K) (M := M) (bs := xs.map g) (x := dat (.list ((xs.map g).map PyData.bool))) isl_dat
  rw [any_map_id, List.map_map] at this
  exact this
theorem rc_allM {α : Type} {g : α → Bool} {xs : List α} : RC (rAll K) [dat (.list (xs.map fun a => .bool (g a)))] M (dat (.bool (xs.all g))) M := by
  have := rc_all (K := K) (M := M) (bs := xs.map g) (x := dat (.list ((xs.map g).map PyData.bool))) isl_dat
  rw [all_map_id, List.map_map] at this
  exact this
theorem c_invF {J : Env → Cells → Prop} {Φ Ψ : Fr} (j : J ρ' M) (h : Fgt ρ ρ') (l : Le Ψ Φ) : Cont (InvK Φ J) Ψ ρ M := c_fgt h (c_inv j l)
theorem asgR_k {k : L2.St → Hp → Prop} {Φ : Fr} {i : Nat} (h : SetAt x ρ i ρ') (c : Cont k Φ ρ' M) : ∃ ρ', SetAt x ρ i ρ' ∧ Cont k Φ ρ' M := ⟨ρ', h, c⟩
theorem asgGR_k {k : L2.St → Hp → Prop} {Φ : Fr} {g : TG} {js : List Nat} (h : Tgt g js x ρ ρ') (c : Cont k Φ ρ' M) : ∃ ρ' js, Tgt g js x ρ ρ' ∧ Cont k Φ ρ' M := ⟨ρ', js, h, c⟩
def TgtsD (gs : TGs) (js : List Nat) (ds : List PyData) (ρ ρ' : Env) : Prop := Tgts gs js (ds.map dat) ρ ρ'
theorem td_nil : TgtsD gNil [] [] ρ ρ := tgs_nil
theorem td_cons {ρ2 : Env} {g : TG} {gs : TGs} {js ks : List Nat} {d : PyData} {ds : List PyData} (h : Tgt g js (dat d) ρ ρ1) (hs : TgtsD gs ks ds ρ1 ρ2) : TgtsD (gCons g gs) (js ++ ks) (d :: ds) ρ ρ2 := tgs_cons h hs
theorem td_tup {gs : TGs} {js : List Nat} {n : Nat} {ds : List PyData} (hs : TgtsD gs js ds ρ ρ') (hn : ds.length = n) : Tgt (gTup K n gs) js (dat (.tuple ds)) ρ ρ' := tg_tupD hs hn
/-! ### enumerate, data -/
theorem ei_enumD {α : Type} {f : α → PyData} {xs : List α} {ta : TA} (h : EvA ta ρ M [x] M') (hx : FzL x ((xs.map f).map dat)) : EvI (iEnum K ta) ρ M (xs.zipIdx.map fun p => vtup [dat (.int (p.2 : Int)), dat (f p.1)]) M' := by
  have h := ei_enum (K := K) h hx
  have e : (((irange 0 ((xs.map f).map dat).length).zip ((xs.map f).map dat)).map fun p => vtup [p.1, p.2]) = xs.zipIdx.map fun p => vtup [dat (.int (p.2 : Int)), dat (f p.1)] := by
    apply List.ext_getElem?
    intro i
    rw [List.getElem?_map, List.getElem?_map, List.getElem?_zipIdx]
    by_cases hi : i < xs.length
    · have h1 : xs[i]? = some xs[i] := by simp [hi]
      have h2 : (irange 0 ((xs.map f).map dat).length)[i]? = some (dat (.int (i : Int))) := by
        unfold irange
        rw [List.getElem?_map, List.getElem?_range (by simpa using hi)]
        simp
      have h3 : ((xs.map f).map dat)[i]? = some (dat (f xs[i])) := by simp [hi]
      have h4 : ((irange 0 ((xs.map f).map dat).length).zip ((xs.map f).map dat))[i]? = some (dat (.int (i : Int)), dat (f xs[i])) := List.getElem?_zip_eq_some.mpr ⟨h2, h3⟩
      rw [h4, h1]
      simp
    · have h1 : xs[i]? = none := by simp; omega
      have h4 : ((irange 0 ((xs.map f).map dat).length).zip ((xs.map f).map dat))[i]? = none := by
        apply List.getElem?_eq_none
        rw [List.length_zip]
        simp
        omega
      rw [h4, h1]
      simp
  rw [e] at h
  exact h
theorem rng_map (lo : Int) (n : Nat) : irange lo n = (List.range n).map fun i => dat (.int (lo + (i : Nat))) := rfl
/-- each item gives one -/
theorem ev_lcY {α : Type} {wi : TI} {g : TG} {vs : List Nat} {e : α → VD} {xs : List α} {r : α → PyData} (h : EvI wi ρ M (xs.map e) M1) (hl : xs.length ≤ 16000000)
    (hs : ∀ a, a ∈ xs → ∃ ρ'' js, Tgt g js (e a) (wipeE ρ vs) ρ'' ∧ (∀ i ∈ js, i ∈ vs) ∧ Ev te ρ'' M1 (dat (r a)) M1) : Ev (tLc wi g tYes te vs) ρ M (dat (.list (xs.map r))) M1 := by
  have := ev_lc (tt := tYes) (f := fun _ => true) (r := r) h hl fun a ha => let ⟨ρ'', js, h1, hj, h2⟩ := hs a ha; ⟨ρ'', js, h1, hj, et_yes, fun _ => h2⟩
  have e : xs.filter (fun _ => true) = xs := by simp
  rw [e] at this
  exact this
theorem lcY_k {g : TG} {js vs : List Nat} {d : VD} (h : Tgt g js d ρ ρ') (hj : ∀ i ∈ js, i ∈ vs) (k : Ev te ρ' M x M) : ∃ ρ'' js, Tgt g js d ρ ρ'' ∧ (∀ i ∈ js, i ∈ vs) ∧ Ev te ρ'' M x M := ⟨ρ', js, h, hj, k⟩
theorem lcF_k {g : TG} {tt : TT} {js vs : List Nat} {d : VD} {b : Bool} (h : Tgt g js d ρ ρ') (hj : ∀ i ∈ js, i ∈ vs) (ht : EvT tt ρ' M b M) (k : b = true → Ev te ρ' M x M) : ∃ ρ'' js, Tgt g js d ρ ρ'' ∧ (∀ i ∈ js, i ∈ vs) ∧ EvT tt ρ'' M b M ∧ (b = true → Ev te ρ'' M x M) := ⟨ρ', js, h, hj, ht, k⟩
end
section
/-! ### some cells are changed, the others stay as they are -/
def Sw (cs cs' : Cells) (M M' : Cells) : Prop := ∃ L, M.Perm (cs ++ L) ∧ M'.Perm (cs' ++ L)
inductive Pk (p : Addr) (c c' : CD) : Cells → Cells → Cells → Cells → Prop
  | here {r r' : Cells} : Pk p c c' ((p, c) :: r) ((p, c') :: r') r r'
  | there {x x' : Addr × CD} {cs cs' r r' : Cells} : Pk p c c' cs cs' r r' → Pk p c c' (x :: cs) (x' :: cs') (x :: r) (x' :: r')
theorem Pk.perm {p : Addr} {c c' : CD} {cs cs' r r' : Cells} (h : Pk p c c' cs cs' r r') : cs.Perm ((p, c) :: r) ∧ cs'.Perm ((p, c') :: r') := by
  induction h with
  | here => exact ⟨.refl _, .refl _⟩
  | there _ ih => exact ⟨(ih.1.cons _).trans (.swap _ _ _), (ih.2.cons _).trans (.swap _ _ _)⟩
theorem sw_nil {M : Cells} : Sw [] [] M M := ⟨M, .refl _, .refl _⟩
theorem sw_pick {p : Addr} {c c' : CD} {cs cs' r r' M M' : Cells} (h : Pk p c c' cs cs' r r') (k : Sw r r' M M') : Sw cs cs' ((p, c) :: M) ((p, c') :: M') := by
  obtain ⟨L, h1, h2⟩ := k
  exact ⟨L, (h1.cons _).trans (h.perm.1.symm.append_right L), (h2.cons _).trans (h.perm.2.symm.append_right L)⟩
theorem sw_skip {x : Addr × CD} {cs cs' M M' : Cells} (k : Sw cs cs' M M') : Sw cs cs' (x :: M) (x :: M') := by
  obtain ⟨L, h1, h2⟩ := k
  exact ⟨x :: L, (h1.cons _).trans List.perm_middle.symm, (h2.cons _).trans List.perm_middle.symm⟩
inductive Rm (c : Addr × CD) : Cells → Cells → Prop
  | here {l : Cells} : Rm c (c :: l) l
  | there {x : Addr × CD} {l l' : Cells} : Rm c l l' → Rm c (x :: l) (x :: l')
theorem Rm.perm {c : Addr × CD} {l l' : Cells} (h : Rm c l l') : l.Perm (c :: l') := by
  induction h with
  | here => exact .refl _
  | there _ ih => exact (ih.cons _).trans (.swap _ _ _)
theorem perm_step {c : Addr × CD} {l l' r : Cells} (h : Rm c l l') (k : l'.Perm r) : l.Perm (c :: r) := h.perm.trans (k.cons c)
/-- behind a def: the order of the cells, and cells of its own -/
def Up (P : VD → Cells → Prop) : VD → Cells → Prop := fun x N => ∃ N1 N', N.Perm N1 ∧ N'.Sublist N1 ∧ P x N'
theorem RtQ.up {Q : VK} {Φ : Fr} {P : VD → Cells → Prop} (h : RtQ Q Φ P) : RtQ Q Φ (Up P) := fun Φ' ρ σ x M v H l ⟨N1, N', h1, h2, hp⟩ s => h Φ' ρ σ x N' v H l hp ((s.perm h1).drop h2)
theorem up_perm {P : VD → Cells → Prop} {x : VD} {N N' : Cells} (h : N.Perm N') (hp : P x N') : Up P x N := ⟨N', N', h, .refl _, hp⟩
theorem up_of {P : VD → Cells → Prop} {x : VD} {N : Cells} (hp : P x N) : Up P x N := ⟨N, N, .refl _, .refl _, hp⟩
theorem up_drop {P : VD → Cells → Prop} {x : VD} {N N' : Cells} (h : N'.Sublist N) (hp : P x N') : Up P x N := ⟨N, N', .refl _, h, hp⟩
end
/-- None or an int -/
def oi : Option Int → PyData
  | none => .none
  | some i => .int i
theorem isNone_oi (o : Option Int) : isNoneD (oi o) = o.isNone := by cases o <;> rfl
theorem eqok_oi : EqOk oi := fun x y => by cases x <;> cases y <;> simp [oi, PyData.eqv]
theorem shp_oi {n : Nat} (o : Option Int) : Shp n (oi o) := by
  cases o with
  | none => exact shp_none
  | some i => exact shp_int
end Sx

set_option Elab.async false
set_option linter.all false
set_option maxRecDepth 100000
set_option maxHeartbeats 2000000
/-! Sx7: dicts. A dict that never changes is a value (vdi); one that does, or is walked, is a cell (cD). -/
namespace Sx
open PySem L2 Evl
section
variable {α β : Type}
def valG (kvs : List (L2.Key × β)) (k : L2.Key) : Option β := (kvs.find? fun kv => decide (kv.1 = k)).map (·.2)
def putG (kvs : List (L2.Key × β)) (k : L2.Key) (v : β) : List (L2.Key × β) :=
  if (kvs.any fun kv => decide (kv.1 = k)) = true then kvs.map (fun kv => if kv.1 = k then (kv.1, v) else kv) else kvs ++ [(k, v)]
def mergeG (kvs more : List (L2.Key × β)) : List (L2.Key × β) := more.foldl (fun acc kv => putG acc kv.1 kv.2) kvs
theorem valG_cons (p : L2.Key × β) (r : List (L2.Key × β)) (k : L2.Key) : valG (p :: r) k = if p.1 = k then some p.2 else valG r k := by
  unfold valG
  rw [List.find?_cons]
  by_cases h : p.1 = k <;> simp [h]
theorem valG_map (f : α → β) (kvs : List (L2.Key × α)) (k : L2.Key) : valG (kvs.map fun p => (p.1, f p.2)) k = (valG kvs k).map f := by
  induction kvs with
  | nil => rfl
  | cons p r ih => rw [List.map_cons, valG_cons, valG_cons, ih]; by_cases h : p.1 = k <;> simp [h]
theorem valG_snoc (k j : L2.Key) (y : β) : ∀ kvs : List (L2.Key × β), valG kvs k = none → valG (kvs ++ [(k, y)]) j = if j = k then some y else valG kvs j
  | [], _ => by
    rw [List.nil_append, valG_cons]
    by_cases h : j = k
    · rw [if_pos h, if_pos h.symm]
    · rw [if_neg h, if_neg (fun e => h e.symm)]
  | p :: r, hn => by
    rw [valG_cons] at hn
    by_cases h : p.1 = k
    · rw [if_pos h] at hn; cases hn
    · rw [if_neg h] at hn
      rw [List.cons_append, valG_cons, valG_cons, valG_snoc k j y r hn]
      by_cases h2 : p.1 = j
      · rw [if_pos h2, if_pos h2, if_neg (fun e => h (h2.trans e))]
      · rw [if_neg h2, if_neg h2]
theorem valG_any (kvs : List (L2.Key × β)) (k : L2.Key) : (kvs.any fun kv => decide (kv.1 = k)) = (valG kvs k).isSome := by
  induction kvs with
  | nil => rfl
  | cons p r ih => rw [List.any_cons, valG_cons, ih]; by_cases h : p.1 = k <;> simp [h]
theorem valG_put (kvs : List (L2.Key × β)) (k j : L2.Key) (y : β) : valG (putG kvs k y) j = if j = k then some y else valG kvs j := by
  unfold putG
  rw [valG_any]
  cases h : valG kvs k with
  | none => rw [if_neg (by simp)]; exact valG_snoc k j y kvs h
  | some z =>
    rw [if_pos (by rfl)]
    have hz : ∀ kvs : List (L2.Key × β), valG (kvs.map fun kv => if kv.1 = k then (kv.1, y) else kv) j = (valG kvs j).map fun x => if j = k then y else x := by
      intro kvs
      induction kvs with
      | nil => rfl
      | cons p r ih =>
        rw [List.map_cons, valG_cons, valG_cons, ih]
        by_cases h1 : p.1 = k
        · simp only [if_pos h1]
          by_cases h2 : p.1 = j
          · rw [if_pos h2, if_pos h2, Option.map_some, if_pos (h2.symm.trans h1)]
          · rw [if_neg h2, if_neg h2]
        · simp only [if_neg h1]
          by_cases h2 : p.1 = j
          · rw [if_pos h2, if_pos h2, Option.map_some, if_neg (fun e => h1 (h2.trans e))]
          · rw [if_neg h2, if_neg h2]
    rw [hz]
    by_cases hj : j = k
    · subst hj; rw [h, Option.map_some, if_pos rfl, if_pos rfl]
    · rw [if_neg hj]
      simp [hj]
theorem length_putG (kvs : List (L2.Key × β)) (k : L2.Key) (v : β) : (putG kvs k v).length ≤ kvs.length + 1 := by
  unfold putG
  split
  · rw [List.length_map]; omega
  · rw [List.length_append, List.length_singleton]; omega
theorem putG_map (f : α → β) (kvs : List (L2.Key × α)) (k : L2.Key) (v : α) : putG (kvs.map fun p => (p.1, f p.2)) k (f v) = (putG kvs k v).map fun p => (p.1, f p.2) := by
  have e : ((kvs.map fun p => (p.1, f p.2)).any fun kv => decide (kv.1 = k)) = (kvs.any fun kv => decide (kv.1 = k)) := by rw [List.any_map]; rfl
  unfold putG
  rw [e]
  split
  · rw [List.map_map, List.map_map]
    apply List.map_congr_left
    intro p _
    simp only [Function.comp]
    by_cases h : p.1 = k <;> simp [h]
  · rw [List.map_append]; rfl
end
def kD : L2.Key → PyData
  | .inl i => .int i
  | .inr x => .str x
theorem kv_of {F : Hp} {k : L2.Key} {v : V} (h : Rp F v (kD k)) : v = kV k := by
  cases k <;> (cases h; rfl)
/-! ### pairs of keys and values -/
abbrev PrV (F : Hp) (p : L2.Key × VD) (q : L2.Key × V) : Prop := p.1 = q.1 ∧ p.2.P F q.2
abbrev DP (F : Hp) : List (L2.Key × VD) → List (L2.Key × V) → Prop := Paired (PrV F)
theorem DP.mono {F F' : Hp} (e : Fx F F') : ∀ {kvs : List (L2.Key × VD)} {vs : List (L2.Key × V)}, DP F kvs vs → DP F' kvs vs
  | _, _, .nil => .nil
  | _, _, .cons h t => .cons ⟨h.1, VD.mono _ e h.2⟩ (DP.mono e t)
inductive OptR (F : Hp) : Option VD → Option V → Prop
  | none : OptR F none none
  | some {x : VD} {v : V} : x.P F v → OptR F (some x) (some v)
theorem DP.val {F : Hp} (k : L2.Key) : ∀ {kvs : List (L2.Key × VD)} {vs : List (L2.Key × V)}, DP F kvs vs → OptR F (valG kvs k) (valV vs k)
  | _, _, .nil => .none
  | _, _, .cons (a := p) (b := q) h t => by
    rw [valG_cons]
    by_cases e : p.1 = k
    · rw [if_pos e, valV_pos (h.1.symm.trans e)]
      exact .some h.2
    · rw [if_neg e, valV_neg (fun z => e (h.1.trans z))]
      exact DP.val k t
theorem OptR.isSome {F : Hp} {o : Option VD} {u : Option V} (h : OptR F o u) : u.isSome = o.isSome := by cases h <;> rfl
theorem OptR.getD {F : Hp} {o : Option VD} {u : Option V} {x : VD} {v : V} (h : OptR F o u) (hx : x.P F v) : (o.getD x).P F (u.getD v) := by
  cases h with
  | none => exact hx
  | some h => exact h
theorem DP.put {F : Hp} (k : L2.Key) {x : VD} {v : V} (hx : x.P F v) {kvs : List (L2.Key × VD)} {vs : List (L2.Key × V)} (h : DP F kvs vs) : DP F (putG kvs k x) (putK vs k v) := by
  have e : (vs.any fun kv => decide (kv.1 = k)) = (kvs.any fun kv => decide (kv.1 = k)) := by
    rw [valG_any kvs, valV_any]; exact (h.val k).isSome
  unfold putG putK
  rw [e]
  split
  · have hz : ∀ {kvs : List (L2.Key × VD)} {vs : List (L2.Key × V)}, DP F kvs vs → DP F (kvs.map fun kv => if kv.1 = k then (kv.1, x) else kv) (vs.map fun kv => if kv.1 = k then (kv.1, v) else kv) := by
     intro kvs vs h
     induction h with
     | nil => exact .nil
     | @cons a b l1 l2 h t ih =>
      refine .cons ?_ ih
      show PrV F (if a.1 = k then (a.1, x) else a) (if b.1 = k then (b.1, v) else b)
      by_cases z : a.1 = k
      · rw [if_pos z, if_pos (h.1.symm.trans z)]; exact ⟨h.1, hx⟩
      · rw [if_neg z, if_neg (fun y => z (h.1.trans y))]; exact h
    exact hz h
  · have hz : ∀ {kvs : List (L2.Key × VD)} {vs : List (L2.Key × V)}, DP F kvs vs → DP F (kvs ++ [(k, x)]) (vs ++ [(k, v)]) := by
     intro kvs vs h
     induction h with
     | nil => exact .cons ⟨rfl, hx⟩ .nil
     | cons h t ih => exact .cons h ih
    exact hz h
theorem DP.merge {F : Hp} : ∀ {more : List (L2.Key × VD)} {ms : List (L2.Key × V)} {kvs : List (L2.Key × VD)} {vs : List (L2.Key × V)}, DP F more ms → DP F kvs vs → DP F (mergeG kvs more) (mergeK vs ms)
  | _, _, _, _, .nil, h => h
  | _, _, _, _, .cons (a := p) (b := q) h t, g => by
    show DP F (mergeG (putG _ p.1 p.2) _) (mergeK (putK _ q.1 q.2) _)
    rw [← h.1]
    exact DP.merge t (g.put p.1 h.2)
theorem DP.len {F : Hp} {kvs : List (L2.Key × VD)} {vs : List (L2.Key × V)} (h : DP F kvs vs) : kvs.length = vs.length := Paired.length h
/-- a dict that stays -/
def vdi (kvs : List (L2.Key × VD)) : VD := ⟨fun F v => ∃ a vs, v = .ref a ∧ F a = some (.dK vs) ∧ DP F kvs vs, fun e ⟨a, vs, h1, h2, h3⟩ => ⟨a, vs, h1, e.pl _ _ h2 rfl, h3.mono e⟩⟩
/-- a dict of one's own -/
def cD (kvs : List (L2.Key × VD)) : CD := ⟨fun F p o => F p = none ∧ ∃ vs, o = .dK vs ∧ DP F kvs vs, fun e q ⟨h0, vs, h1, h2⟩ => ⟨q.trans h0, vs, h1, h2.mono e⟩⟩
/-- .. while a loop walks it -/
def cDl (kvs : List (L2.Key × VD)) : CD := ⟨fun F p o => F p = none ∧ ∃ od vs, o = .frz od (.dK vs) ∧ DP F kvs vs, fun e q ⟨h0, od, vs, h1, h2⟩ => ⟨q.trans h0, od, vs, h1, h2.mono e⟩⟩
def IsDi (x : VD) (M : Cells) (kvs : List (L2.Key × VD)) : Prop := ∀ {F Φ ρ σ H v}, SatF F Φ ρ M σ H → x.P F v → ∃ a vs, v = .ref a ∧ Rd H a (.dK vs) ∧ DP F kvs vs
def IsDu (x : VD) (M : Cells) (kvs : List (L2.Key × VD)) : Prop := ∀ {F Φ ρ σ H v}, SatF F Φ ρ M σ H → x.P F v → ∃ a vs, v = .ref a ∧ H a = some (.dK vs) ∧ DP F kvs vs
section
variable {K : PySem.W.Frag} {ρ ρ' : Env} {M M1 M2 M3 M4 M' : Cells} {x y z : VD} {te td ty tv ta tb : TE} {p : Addr} {Φ : Fr} {D : Ends} {kvs ls : List (L2.Key × VD)} {k : L2.Key} {P : VD → Cells → Prop}
theorem isdu_v : IsDu (vdi kvs) M kvs := fun s ⟨a, vs, h1, h2, h3⟩ => ⟨a, vs, h1, s.ex _ _ h2, h3⟩
theorem isdu_c (m : (p, cD kvs) ∈ M) : IsDu (val (.ref p)) M kvs := fun s h => by
  obtain ⟨o, h1, h0, vs, rfl, h3⟩ := s.at m
  exact ⟨p, vs, h, h1, h3⟩
theorem IsDu.r (h : IsDu x M kvs) : IsDi x M kvs := fun s q => let ⟨a, vs, h1, h2, h3⟩ := h s q; ⟨a, vs, h1, .inl h2, h3⟩
theorem isdi_v : IsDi (vdi kvs) M kvs := IsDu.r isdu_v
theorem isdi_c (m : (p, cD kvs) ∈ M) : IsDi (val (.ref p)) M kvs := IsDu.r (isdu_c m)
theorem isdi_l (m : (p, cDl kvs) ∈ M) : IsDi (val (.ref p)) M kvs := fun s h => by
  obtain ⟨o, h1, h0, od, vs, rfl, h3⟩ := s.at m
  exact ⟨p, vs, h, .inr ⟨od, h1⟩, h3⟩
/-! ### made -/
theorem ev_dnewK : Ev tDNewK ρ M (vdi []) M := fun Φ σ H Q ⟨F, s⟩ q => fun p hp => q _ _ (Sat.retNew s hp fun F' fx e => ⟨p, [], rfl, e, .nil⟩)
theorem er_dnewC : EvR tDNewK ρ M fun y M' => ∃ p, y = val (.ref p) ∧ M' = (p, cD []) :: M := fun Φ σ H Q ⟨F, s⟩ q => fun p hp => by
  have s2 := s.newC (c := cD []) (o := .dK []) hp fun e => ⟨e, [], rfl, .nil⟩
  exact q _ _ _ _ ⟨p, rfl, rfl⟩ ⟨F, s2.ex, ⟨s2.fr, rfl⟩, s2.sl, s2.nd, s2.ce⟩
/-! ### read -/
theorem ev_dget1 (hd : Ev td ρ M x M1) (h1 : IsDi x M1 kvs) (hk : Ev ty ρ M1 (dat (kD k)) M2) (h2 : IsDi x M2 kvs) : Ev (tDGet1 td ty) ρ M ((valG kvs k).getD vn) M2 := fun Φ σ H Q s q => hd Φ σ H _ s fun v H1 s1 => by
  have ⟨F1, z1⟩ := s1
  obtain ⟨a, vs, rfl, e1, -⟩ := h1 z1 z1.fr.2
  refine ⟨a, rfl, .inl ⟨vs, e1⟩, hk _ σ H1 _ s1 fun w H2 s2 => ?_⟩
  have ⟨F2, z2⟩ := s2
  obtain ⟨a', vs2, e, e2, d2⟩ := h2 z2 z2.fr.1.2
  cases e
  cases kv_of z2.fr.2
  exact ⟨valV vs2 k, .inl ⟨vs2, k, e2, rfl, rfl⟩, q _ _ (Sat.ret z2.base ((d2.val k).getD .non))⟩
theorem ev_dget2 (hd : Ev td ρ M x M1) (h1 : IsDi x M1 kvs) (hk : Ev ty ρ M1 (dat (kD k)) M2) (hv : Ev tv ρ M2 y M3) (h2 : IsDi x M3 kvs) : Ev (tDGet2 td ty tv) ρ M ((valG kvs k).getD y) M3 := fun Φ σ H Q s q => hd Φ σ H _ s fun v H1 s1 => by
  have ⟨F1, z1⟩ := s1
  obtain ⟨a, vs, rfl, e1, -⟩ := h1 z1 z1.fr.2
  refine ⟨a, rfl, .inl ⟨vs, e1⟩, hk _ σ H1 _ s1 fun w H2 s2 => hv _ σ H2 _ s2 fun u H3 s3 => ?_⟩
  have ⟨F3, z3⟩ := s3
  obtain ⟨a', vs2, e, e2, d2⟩ := h2 z3 z3.fr.1.1.2
  cases e
  cases kv_of z3.fr.1.2
  exact ⟨valV vs2 k, .inl ⟨vs2, k, e2, rfl, rfl⟩, q _ _ (Sat.ret (z3.base.weak Le.and) ((d2.val k).getD z3.fr.2))⟩
theorem ev_dget (hd : Ev td ρ M x M1) (hk : Ev ty ρ M1 (dat (kD k)) M2) (h2 : IsDi x M2 kvs) (hv : valG kvs k = some y) : Ev (tDGet td ty) ρ M y M2 := fun Φ σ H Q s q => hd Φ σ H _ s fun v H1 s1 => hk _ σ H1 _ s1 fun w H2 s2 => by
  have ⟨F2, z2⟩ := s2
  obtain ⟨a', vs2, rfl, e2, d2⟩ := h2 z2 z2.fr.1.2
  cases kv_of z2.fr.2
  have r := d2.val k
  rw [hv] at r
  generalize hw : valV vs2 k = ow at r
  cases r with
  | some hr => exact ⟨a', _, rfl, .inl ⟨vs2, k, e2, rfl, hw.symm⟩, q _ _ (Sat.ret z2.base hr)⟩
theorem ev_din (hk : Ev ty ρ M (dat (kD k)) M1) (hd : Ev td ρ M1 x M2) (h2 : IsDi x M2 kvs) : Ev (tDIn ty td) ρ M (dat (.bool (valG kvs k).isSome)) M2 := fun Φ σ H Q s q => hk Φ σ H _ s fun w H1 s1 => hd _ σ H1 _ s1 fun v H2 s2 => by
  have ⟨F2, z2⟩ := s2
  obtain ⟨a', vs2, rfl, e2, d2⟩ := h2 z2 z2.fr.2
  cases kv_of z2.fr.1.2
  refine ⟨a', valV vs2 k, rfl, .inl ⟨vs2, k, e2, rfl, rfl⟩, ?_⟩
  rw [(d2.val k).isSome]
  exact q _ _ (Sat.ret z2.base (.bl _))
theorem ev_dnin (hk : Ev ty ρ M (dat (kD k)) M1) (hd : Ev td ρ M1 x M2) (h2 : IsDi x M2 kvs) : Ev (tDNotIn ty td) ρ M (dat (.bool (!(valG kvs k).isSome))) M2 := fun Φ σ H Q s q => hk Φ σ H _ s fun w H1 s1 => hd _ σ H1 _ s1 fun v H2 s2 => by
  have ⟨F2, z2⟩ := s2
  obtain ⟨a', vs2, rfl, e2, d2⟩ := h2 z2 z2.fr.2
  cases kv_of z2.fr.1.2
  refine ⟨a', valV vs2 k, rfl, .inl ⟨vs2, k, e2, rfl, rfl⟩, ?_⟩
  rw [(d2.val k).isSome]
  exact q _ _ (Sat.ret z2.base (.bl _))
/-! ### stored -/
theorem c_dput (hv : Ev tv ρ M x M1) (hd : Ev td ρ M1 (val (.ref p)) M2) (hk : Ev ty ρ M2 (dat (kD k)) M3) (hp : Put p (cD kvs) (cD (putG kvs k x)) M3 M4) (hl : kvs.length < sizeLine) (c : Cont D.nx Φ ρ M4) :
    Cont (sDPut td ty tv D) Φ ρ M := fun σ H s => hv Φ σ H _ s fun v H1 s1 => hd _ σ H1 _ s1 fun w H2 s2 => hk _ σ H2 _ s2 fun u H3 s3 => by
  have ⟨F3, z3⟩ := s3
  have ew : w = .ref p := z3.fr.1.2
  cases kv_of z3.fr.2
  subst ew
  obtain ⟨o, k1, k0, vs, rfl, k3⟩ := z3.at hp.mem
  refine ⟨p, _, rfl, .inl ⟨vs, k, k1, rfl, by rw [← k3.len]; exact hl, rfl⟩, c σ _ ⟨F3, ?_⟩⟩
  exact (z3.put1 (o := .dK (putK vs k v)) hp k0 ⟨k0, _, rfl, k3.put k z3.fr.1.1.2⟩).weak (.of rfl fun F h => h.1.1.1)
end
end Sx

set_option Elab.async false
set_option linter.all false
set_option maxRecDepth 100000
set_option maxHeartbeats 2000000
/-! SxEb: an attribute is stored on an exception whose class stands over a class of ours over Exception. -/
namespace PySem
namespace XeB
open Builtin Builtin.ObjectAttr PySem.ESX
section
variable {prog : Program} {w : World} {A : Around} {R : Result → Shared → Prop} {hp : Heap} {g : Array GenState} {dw : Drawn} {t : Nat} {os : OsState}
theorem has_it {C D : Addr} {b : Value} (hb : exTail.contains b = true) : (Value.ref C :: Value.ref D :: exTail).contains b = true := by
  rw [List.contains_cons, List.contains_cons, hb, Bool.or_true, Bool.or_true]
theorem mro2 {K : W.Frag} {C D : Addr} {cd : ClassData} (hcd : W.clsIn K C = some cd) (hm : cd.mro = .ref C :: .ref D :: exTail) {b : Value} (hb : (Value.ref C :: Value.ref D :: exTail).contains b = true) : W.mroIn K C b = some true := by
  unfold W.mroIn
  rw [hcd, Option.bind_some, hm, if_neg (show ¬ (List.isEmpty (Value.ref C :: Value.ref D :: exTail) = true) from Bool.false_ne_true), hb]
theorem put_new {K : W.Frag} {name : Str} {tk : Tok} {v : Value} {x C D : Addr} {fv : Array Value} {cd : ClassData}
    (X : K.In hp) (hx : hp.get? x = some { cls := .ref C, data := .fields fv }) (hcd : W.clsIn K C = some cd) (hm : cd.mro = .ref C :: .ref D :: exTail) (hh : cd.hasDict = true) (ha : W.findIn K (.ref C) name = some none)
    (fin : ∀ h' tk' dx, (∀ b o, b ≠ x → hp.get? b = some o → h'.get? b = some o) → hp.objs.size ≤ dx → dx ≠ x → h'.get? x = some { cls := .ref C, dict := some dx, data := .fields fv } →
      h'.Ns1 dx (fun y => if y = name then some v else none) → R (.ok (.ret .none)) ⟨h', g, dw, tk', os⟩) :
    codeAny (model prog w) A (.call (.builtin "object.__setattr__") ⟨[.ref x, .str name tk, v], []⟩) R ⟨hp, g, dw, t, os⟩ := by
  have J : W.InstAt hp x { cls := .ref C, data := .fields fv } C none := ⟨hx, rfl, rfl, trivial⟩
  have ne : x ≠ hp.objs.size := Nat.ne_of_lt (Heap.lt_size hx)
  have S0 := F.store_object
  have so : W.Looks (model prog w) hp (isInstance (.ref x) (.type "object")) true := J.type.andThen (W.looks_mroIn X (mro2 hcd hm (has_it (by decide +kernel))))
  have lm : W.Looks (model prog w) hp (mroOf (.ref C)) cd.mro := (W.looks_clsIn X hcd).andThen .now
  have l3 : W.Looks (model prog w) hp (storeTaker? none) none := .now
  have lc : W.Looks (model prog w) hp (classData C) cd := W.looks_clsIn X hcd
  have pass : refuseLoop (.ref x) "__setattr__" cd.mro = pure () := by
    rw [hm, refuseLoop_ref, refuseLoop_ref]
    exact F.store_Exception.passes _
  refine codeAny_call_builtin S0.slot.plain S0.entry (@W.check_slot (model prog w) _ _ ⟨hp, g, dw, t, os⟩ "object.__setattr__" "object" "__setattr__" (.ref x) [.str name tk, v] [] _ S0.kind S0.split so (S0.args (.ref x) (.str name tk) v) ?_)
  rw [W.osa_eq, refuse_eq]
  refine wpAny_bind (wpAny_bind (J.type.at (wpAny_bind (lm.at ?_)))); rw [pass]
  refine wpAny_pure (wpAny_bind (J.type.at (wpAny_bind ((W.looks_findIn X ha).at (wpAny_bind (l3.at ?_))))))
  obtain ⟨nm, bs, mro, ns, qn, hd, sn, sb, ab, col, del⟩ := cd
  dsimp only at hh
  subst hh
  unfold storeInOwnDict ownDictForStores
  repeat (first | with_reducible refine HandSPX.store_in_new ?_ ?_ | with_reducible refine wpAny_loadPart_at hx ?_ | with_reducible refine lc.at ?_ | wp_step)
  · exact ⟨_, #[], _, (Heap.get?_update_ne _ _ _ _ ne.symm).trans (Heap.get?_push_at rfl rfl), rfl, fun e he => absurd he (by simp), fun _ => rfl⟩
  · intro h' tk' hn' hs
    have hx1 : (hp.push { cls := .type "dict", data := .dict #[] }).get? x = some { cls := .ref C, data := .fields fv } := Heap.get?_push_of_some _ hx
    refine fin h' tk' hp.objs.size (fun b o hb ho => ?_) (Nat.le_refl _) ne.symm ((hs.2 x ne).trans (Heap.get?_update_self _ hx1 rfl)) hn'
    exact (hs.2 b (Nat.ne_of_lt (Heap.lt_size ho))).trans ((Heap.get?_update_ne _ _ _ _ hb).trans (Heap.get?_push_of_some _ ho))
theorem has_same {D : Addr} (Y : String) : (Value.ref D :: exTail).contains (.type Y) = exTail.contains (.type Y) := by
  rw [List.contains_cons]
  simp
theorem mod_keeps {K : W.Frag} {mg : Str → Option Value} {h h' : Heap} (M0 : L2.Mod K mg h) (k : ∀ b o, h.get? b = some o → h'.get? b = some o) : L2.Mod K mg h' :=
  let ⟨mb, h1, h2⟩ := M0.blt
  ⟨M0.kin.keeps k, M0.glob.keeps k, ⟨mb, h1.keeps k, h2⟩, M0.nolimit.keeps k⟩
theorem mod_at {X : L2.Cx} {pins : List (Addr × Obj)} {σ : L2.St} {H : L2.Hp} {s : Shared} (I : L2.Inv X pins σ H s) : L2.Mod X.K X.mg s.heap := mod_keeps I.mod I.bk
/-- a made exception with one field -/
structure OwnMade (h h' : Heap) (e C d : Addr) (f : Str) (v : Value) : Prop where
  keep : ∀ b o, h.get? b = some o → h'.get? b = some o
  new : h.objs.size ≤ e
  obj : ∃ oe vs, h'.get? e = some oe ∧ oe.cls = .ref C ∧ oe.dict = some d ∧ oe.data = .fields vs ∧ vs[1]? = some .none
  dbig : h.objs.size ≤ d
  dne : d ≠ e
  ns : h'.Ns1 d (fun y => if y = f then some v else none)
end
section
open L2 PySem.HandSPX
/-- C(e) -/
def tMk (C : Addr) (f : Str) (ta : TA) : St → Hp → XK → Prop := fun σ H Q => ta σ H fun vs H1 => ∃ v, vs = [v] ∧ ∀ d, H1 d = none → Q (.ref C) (some d) (upd H1 d (.xd [(f, v)]))
theorem relO_one {v : V} {v' : Value} (r : RelV v v') (f g : Str) : RelO (List.lookup g [(f, v)]) (if g = f then some v' else none) := by
  by_cases h : g = f
  · subst h
    rw [if_pos rfl]
    simp only [List.lookup, beq_self_eq_true]
    exact r
  · have q : (g == f) = false := by simpa using h
    rw [if_neg h]
    simp only [List.lookup, q]
    trivial
theorem mk_fin {X : Cx} {pins : List (Addr × Obj)} {σ : St} {H1 : Hp} {Q : XK} {s1 : Shared} {C : Addr} {f : Str} {v : V} {v' : Value} (I1 : Inv X pins σ H1 s1) (rv : RelV v v')
    (exC : W.subIn X.K (.ref C) (.type "BaseException") = some true) (tyC : W.typeIn X.K (.ref C) = some (.type "type")) (q1 : ∀ d, H1 d = none → Q (.ref C) (some d) (upd H1 d (.xd [(f, v)])))
    (mk : ∀ (R : Result → Shared → Prop), (∀ h' tk e d, OwnMade s1.heap h' e C d f v' → R (.ok (.ret (.ref e))) { s1 with heap := h', toks := tk }) → codeAny (model X.prog X.w) X.A (.call (.ref C) ⟨[v'], []⟩) R s1) :
    wpAny (model X.prog X.w) X.A (call (.ref C) [v']) (MkP X pins σ Q) X.xe s1 := by
  obtain ⟨hp, g, dr, tk, os⟩ := s1
  refine wpAny_call (mk _ fun h' tk' e d M => ?_)
  show MkP X pins σ Q (.ref e) ⟨h', g, dr, tk', os⟩
  obtain ⟨oe, fv, hoe, hc, hd, hdat, h1⟩ := M.obj
  obtain ⟨G', g1, g2⟩ := restrict h' fun b => decide (b ≠ e)
  have gk : ∀ b, b ≠ e → G'.get? b = h'.get? b := fun b hb => g1 b (decide_eq_true hb)
  have ge : G'.get? e = none := g2 e (by simp)
  have old : ∀ b o, hp.get? b = some o → G'.get? b = some o := fun b o q => (gk b (Nat.ne_of_lt (Nat.lt_of_lt_of_le (Heap.lt_size q) M.new))).trans (M.keep b o q)
  have ob : ObjOk X.prog X.w (upd H1 d (.xd [(f, v)])) G' d (.xd [(f, v)]) := ⟨_, M.ns.at (fun o q => (gk d M.dne).trans q), fun y => relO_one rv f y⟩
  have J : Inv X pins σ (upd H1 d (.xd [(f, v)])) ⟨G', g, dr, tk', os⟩ := I1.laid (t' := tk') old M.dbig ob
  refine ⟨e, oe, fv, ⟨G', g, dr, tk', os⟩, _, .ref C, some d, rfl, J, fun b o q => ?_, ge, hoe, ?_, hdat, h1, ?_, rfl, I1.bare, raises_own exC tyC, q1 d (I1.hok.fresh M.dbig)⟩
  · by_cases hb : b = e
    · have q' : G'.get? b = some o := q
      rw [hb, ge] at q'; cases q'
    · exact (gk b hb).symm.trans q
  · exact ⟨hc, hd⟩
  · rw [upd_ne (Ne.symm M.dne)]; exact I1.hok.fresh M.new
end
end XeB
end PySem

set_option Elab.async false
set_option linter.all false
set_option maxRecDepth 100000
set_option maxHeartbeats 2000000
/-! Sx8: defs that may raise; raise, try. -/
namespace Sx
open PySem L2 Evl PyProof.Rows
/-! ### calls within a try, or of a def that raises itself: the wish W of what leaves -/
section
variable {X : Cx} {CX : CXT} {k : Nat} {f C : Addr} {fd : FuncData} {ps : List Str} {sp : Sp} {E : L2.St → XK} {x m : Str} {p pos apos : Pos} {e o : Expr} {es : List Expr} {ta : TE} {t : TA}
theorem pe_callS0 (F : FnOk X.prog X.w X.K X.mg X.base CX k f fd ps sp) (hr : Room k X.A) (hg : Gl X x) (hm : X.mg x = some (.ref f)) (hk : PySem.W.keepIn X.K (.ref f) = true) (hb : Binds X.K fd ps []) (hx : ∀ σ, PassesAt CX X σ (E σ))
    (hdb : (x == ("__debug__" : Str)) = false := by decide) : PE X (.Call (.Name x p) [] [] pos) (tCallS sp E tNil) :=
  ⟨fun pins s σ H Q I h => wpAny_Call_Name_kw (ld_glob I hg hm (PySem.W.callWith_K0 I.kIn hk (run_fnS (us := []) F hr hb (hx σ) I .nil h)) hdb)⟩
def tMethS (C : Addr) (m : Str) (sp : Sp) (E : L2.St → XK) (ta : TE) (t : TA) : TE := fun σ H Q => ta σ H fun x H1 => ∃ a dx fs, x = .ref a ∧ H1 a = some (.ins C dx fs) ∧ fs.lookup m = none ∧
  t σ H1 fun vs H2 => sp (x :: vs) H2 Q (E σ)
theorem pe_methS {pl : Sem Bool} (he : PE X o ta) (c : Cls X.K C) (hm : Meth X.K C m f) (F : FnOk X.prog X.w X.K X.mg X.base CX k f fd ps sp) (hr : Room k X.A) (hb : Binds X.K fd ps []) (hx : ∀ σ, PassesAt CX X σ (E σ)) (ha : PA X (e :: es) t)
    (hst : starEach (e :: es) X.env = (false, eval e X.env) :: starEach es X.env := by rfl) (hpl : (backTo pos (starEach es X.env)).any (·.1) = false := by rfl)
    (ht : eval (.Call (.Attribute o m apos) (e :: es) [] pos) X.env = (do let ov ← eval o X.env; standAt apos.atName; let (f, first) ← holding [ov] (getMethod ov m pl); callWith pos f first (backTo pos (starEach (e :: es) X.env)) (backToKw pos (keywordEach [] X.env))) := by rfl) :
    PE X (.Call (.Attribute o m apos) (e :: es) [] pos) (tMethS C m sp E ta t) := ⟨fun pins s σ H Q I h => by
  refine PySem.W.methodCall_KW (pl := pl) (thn (he.run pins s σ H _ I h) fun u s1 ⟨y, H1, I1, ry, a, dx, fs, ey, ea, l, q⟩ => ?_) ht
  subst ey; obtain rfl : u = Value.ref a := ry
  refine getmeth_ok I1 ea c hm l (PySem.W.callWith_K (first := [.ref a]) (h₀ := X.base) I.ok.mod.kin hm.kp (thn (ha.run pos pins s1 σ H1 _ I1 q) fun us s2 ⟨vs, H2, I2, r, q2⟩ => ⟨I2.kIn, ?_⟩) hst hpl)
  exact run_fnS (us := .ref a :: us) (vs := .ref a :: vs) F hr hb (hx σ) I2 (.cons rfl r) q2⟩
theorem pe_methS0 {pl : Sem Bool} (he : PE X o ta) (c : Cls X.K C) (hm : Meth X.K C m f) (F : FnOk X.prog X.w X.K X.mg X.base CX k f fd ps sp) (hr : Room k X.A) (hb : Binds X.K fd ps []) (hx : ∀ σ, PassesAt CX X σ (E σ))
    (ht : eval (.Call (.Attribute o m apos) [] [] pos) X.env = (do let ov ← eval o X.env; standAt apos.atName; let (f, first) ← holding [ov] (getMethod ov m pl); callWith pos f first (backTo pos (starEach [] X.env)) (backToKw pos (keywordEach [] X.env))) := by rfl) :
    PE X (.Call (.Attribute o m apos) [] [] pos) (tMethS C m sp E ta tNil) := ⟨fun pins s σ H Q I h => by
  refine PySem.W.methodCall_KW (pl := pl) (thn (he.run pins s σ H _ I h) fun u s1 ⟨y, H1, I1, ry, a, dx, fs, ey, ea, l, q⟩ => ?_) ht
  subst ey; obtain rfl : u = Value.ref a := ry
  refine getmeth_ok I1 ea c hm l (PySem.W.callWith_K0 I1.kIn hm.kp ?_)
  exact run_fnS (us := [.ref a]) (vs := [.ref a]) F hr hb (hx σ) I1 (.cons rfl .nil) q⟩
def tMakeS (C : Addr) (sp : Sp) (E : L2.St → XK) (t : TA) : TE := fun σ H Q => t σ H fun vs H1 => ∀ x dx, H1 x = none → H1 dx = none → dx ≠ x →
  sp (.ref x :: vs) (upd (upd H1 dx (.own x)) x (.ins C dx [])) (fun v H2 => v = .non ∧ Q (.ref x) H2) (E σ)
theorem run_makeS {pins : List (Addr × Obj)} {σ : L2.St} {H : Hp} {s : Shared} {Q : VK} {us : List Value} {vs : List V} (M : Mk X.K C f) (F : FnOk X.prog X.w X.K X.mg X.base CX k f fd ps sp) (hr : Room (k + 1) X.A) (hb : Binds X.K fd ps [])
    (hx : PassesAt CX X σ (E σ)) (I : Inv X pins σ H s) (r : Vals vs us)
    (h : ∀ x dx, H x = none → H dx = none → dx ≠ x → sp (.ref x :: vs) (upd (upd H dx (.own x)) x (.ins C dx [])) (fun v H2 => v = .non ∧ Q (.ref x) H2) (E σ)) :
    wpAny (model X.prog X.w) X.A (call (.ref C) us) (EP X pins σ Q) X.xe s := by
  have z1 := Nat.le_succ s.heap.objs.size
  have hq := h (s.heap.objs.size + 1) s.heap.objs.size (I.hok.fresh z1) (I.hok.fresh (Nat.le_refl _)) (Nat.ne_of_lt (Nat.lt_succ_self _))
  have J := Inv.made (C := C) I
  have r2 : Vals (V.ref (s.heap.objs.size + 1) :: vs) (Value.ref (s.heap.objs.size + 1) :: us) := .cons rfl r
  have hl : (Value.ref (s.heap.objs.size + 1) :: us ++ []).length = ps.length := by
    rw [List.append_nil, ← r2.length]; exact F.len _ _ _ _ hq
  have b := hb _ (Value.ref (s.heap.objs.size + 1) :: us) J.kIn hl
  rw [List.append_nil] at b
  refine wpAny_call (make_map (f := f) I.kIn M.makes M.init (beq_iff_eq.mp M.fn) (codeAny_mono (F.run _ X.stack _ _ ⟨Value.ref (s.heap.objs.size + 1) :: us, []⟩ _ _ _ (E σ) (hr.make C us []) (J.env0.make C us []) b r2 hq) fun r s' hq' => ?_))
  match r, hq' with
  | .error e, hq' => exact hx pins _ _ e s' J hq'
  | .ok (.ret u), hq' =>
    obtain ⟨v, H', I3, rv, ev, q3⟩ := J.after hq'
    subst ev
    exact ⟨rv, ⟨V.ref (s.heap.objs.size + 1), H', I3, rfl, q3⟩⟩
  | .ok .next, hq' => exact False.elim hq'
  | .ok .brk, hq' => exact False.elim hq'
  | .ok .cont, hq' => exact False.elim hq'
theorem pe_makeS (M : Mk X.K C f) (F : FnOk X.prog X.w X.K X.mg X.base CX k f fd ps sp) (hr : Room (k + 1) X.A) (hg : Gl X x) (hm : X.mg x = some (.ref C)) (hb : Binds X.K fd ps []) (hx : ∀ σ, PassesAt CX X σ (E σ))
    (ha : PA X (e :: es) t) (hdb : (x == ("__debug__" : Str)) = false := by decide) (he : starEach (e :: es) X.env = (false, eval e X.env) :: starEach es X.env := by rfl) (hpl : (backTo pos (starEach es X.env)).any (·.1) = false := by rfl) :
    PE X (.Call (.Name x p) (e :: es) [] pos) (tMakeS C sp E t) :=
  ⟨fun pins s σ H Q I h => wpAny_Call_Name_kw (ld_glob I hg hm (PySem.W.callWith_K (h₀ := X.base) I.ok.mod.kin M.kp (thn (ha.run pos pins s σ H _ I h) fun us s1 ⟨vs, H1, I1, r, q⟩ => ⟨I1.kIn, run_makeS M F hr hb (hx σ) I1 r q⟩) he hpl) hdb)⟩
end
/-! ### the wish, told by descriptions -/
def cX (f : Str) (y : VD) : CD := ⟨fun F p o => F p = none ∧ ∃ v, o = .xd [(f, v)] ∧ y.P F v, fun e q ⟨h0, v, h1, h2⟩ => ⟨q.trans h0, v, h1, y.mono e h2⟩⟩
abbrev W0 : WX := fun _ _ _ _ => False
abbrev PXT := Env → Addr → Str → VD → Cells → Prop
/-- W is content with the exceptions that PE tells -/
def RtX (W : WX) (Φ : Fr) (PE : PXT) : Prop := ∀ Φ' ρ σ C f y dd M H, Le Φ' Φ → PE ρ C f y M → Sat Φ' ρ ((dd, cX f y) :: M) σ H → W (.ref C) (some dd) σ H
/-- an expression below a frame, several outcomes -/
def EvL (Φ0 : Fr) (te : TE) (ρ : Env) (M : Cells) (P : VD → Cells → Prop) : Prop := ∀ (Φ : Fr) (σ : L2.St) (H : Hp) (Q : VK), Le Φ Φ0 → Sat Φ ρ M σ H → (∀ x M' v H', P x M' → Sat (Φ.and x v) ρ M' σ H' → Q v H') → te σ H Q
/-- a def that may raise: its promise -/
abbrev XSpec := List VD → Cells → (VD → Cells → Prop) → (Addr → Str → VD → Cells → Prop) → Prop
def spX (n : Nat) (S : XSpec) : Sp := fun vs H Q E => ∃ (Φ : Fr) (ρ : Env) (σ : L2.St) (ds : List VD) (M : Cells) (P : VD → Cells → Prop) (PE : Addr → Str → VD → Cells → Prop), Sat (Φ.andA ds vs) ρ M σ H ∧ vs.length = n ∧ S ds M P PE ∧
  (∀ x M' v H', P x M' → Sat (Φ.and x v) ρ M' σ H' → Q v H') ∧ ∀ C f y dd M' H', PE C f y M' → Sat Φ ρ ((dd, cX f y) :: M') σ H' → E (.ref C) (some dd) H'
theorem spX_len {n : Nat} {S : XSpec} {vs : List V} {H : Hp} {Q : VK} {E : XK} (h : spX n S vs H Q E) : vs.length = n := let ⟨_, _, _, _, _, _, _, _, e, _⟩ := h; e
section
variable {K : PySem.W.Frag} {ρ ρ' ρ1 : Env} {M M1 M2 M' : Cells} {x y z : VD} {te ta tb : TE} {t : TA} {C p : Addr} {f : Str} {Φ Ψ : Fr} {D : Ends} {Q : VK} {P : VD → Cells → Prop} {PE : PXT} {W : WX} {n : Nat} {ds : List VD}
theorem EvR.l (h : EvR te ρ M P) : EvL Φ te ρ M P := fun Φ' σ H Q _ s q => h Φ' σ H Q s q
theorem Ev.l (h : Ev te ρ M x M') (hp : P x M') : EvL Φ te ρ M P := fun Φ' σ H Q _ s q => h Φ' σ H Q s fun v H' s' => q x M' v H' hp s'
theorem EvL.imp {P' : VD → Cells → Prop} (h : EvL Φ te ρ M P) (k : ∀ x M', P x M' → P' x M') : EvL Φ te ρ M P' := fun Φ' σ H Q l s q => h Φ' σ H Q l s fun x M' v H' hp s' => q x M' v H' (k x M' hp) s'
theorem EvL.le (h : EvL Φ te ρ M P) (l : Le Ψ Φ) : EvL Ψ te ρ M P := fun Φ' σ H Q l' s q => h Φ' σ H Q (l'.trans l) s q
theorem rtx0 : RtX W0 Φ (fun _ _ _ _ _ => False) := fun _ _ _ _ _ _ _ _ _ _ z _ => z.elim
theorem RtX.le (h : RtX W Φ PE) (l : Le Ψ Φ) : RtX W Ψ PE := fun Φ' ρ σ C f y dd M H l' hp s => h Φ' ρ σ C f y dd M H (l'.trans l) hp s
theorem evl_call {S : XSpec} {PE' : Addr → Str → VD → Cells → Prop} (ha : EvA t ρ M ds M1) (hn : ds.length = n) (hS : S ds M1 P PE') (hX : RtX W Φ PE) (hP : ∀ C f y M', PE' C f y M' → PE ρ C f y M') : EvL Φ (tCallS (spX n S) (WE W) t) ρ M P := fun Φ' σ H Q l s q =>
  ha Φ' σ H _ s fun vs H1 s1 => ⟨Φ', ρ, σ, ds, M1, P, PE', s1, let ⟨F, s2⟩ := s1; (Paired.length s2.fr.2).symm.trans hn, hS, fun x M' v H' hp s' => q x M' v H' hp s', fun C f y dd M' H' hp s' => hX Φ' ρ σ C f y dd M' H' l (hP C f y M' hp) s'⟩
theorem evl_meth {m : Str} {S : XSpec} {PE' : Addr → Str → VD → Cells → Prop} {ns : List Str} {xs : List VD} (ho : Ev ta ρ M (val (.ref p)) M1) (hc : (p, cI C ns xs) ∈ M1) (hno : ¬ m ∈ ns) (ha : EvA t ρ M1 ds M2) (hn : ds.length + 1 = n) (hS : S (val (.ref p) :: ds) M2 P PE') (hX : RtX W Φ PE) (hP : ∀ C f y M', PE' C f y M' → PE ρ C f y M') : EvL Φ (tMethS C m (spX n S) (WE W) ta t) ρ M P := fun Φ' σ H Q l s q =>
  ho Φ' σ H _ s fun v H1 s1 => by
    have ⟨F, z⟩ := s1
    have e : v = .ref p := z.fr.2
    subst e
    obtain ⟨o, h1, h0, dx, fs, rfl, h3⟩ := z.at hc
    refine ⟨p, dx, fs, rfl, h1, h3.lookup_none hno, ha _ σ H1 _ s1 fun vs H2 s2 => ?_⟩
    have s3 : Sat (Φ'.andA (val (.ref p) :: ds) (.ref p :: vs)) ρ M2 σ H2 := s2.weak (.of rfl fun F p => ⟨p.1.1, .cons p.1.2 p.2⟩)
    exact ⟨Φ', ρ, σ, _, M2, P, PE', s3, let ⟨F, s2⟩ := s3; (Paired.length s2.fr.2).symm.trans hn, hS, fun x M' v H' hp s' => q x M' v H' hp s', fun C f y dd M' H' hp s' => hX Φ' ρ σ C f y dd M' H' l (hP C f y M' hp) s'⟩
theorem evl_make {S : XSpec} {PE' : Addr → Str → VD → Cells → Prop} (h : EvA t ρ M ds M1) (hn : ds.length + 1 = n) (hS : ∀ p, S (val (.ref p) :: ds) ((p, cI C [] []) :: M1) (fun y M' => y = vn ∧ P (val (.ref p)) M') PE') (hX : RtX W Φ PE) (hP : ∀ C f y M', PE' C f y M' → PE ρ C f y M') : EvL Φ (tMakeS C (spX n S) (WE W) t) ρ M P := fun Φ' σ H Q l s q =>
  h Φ' σ H _ s fun vs H1 s1 => fun x dx hx hdx hne => by
    have ⟨F, s2⟩ := s1
    have hl := Paired.length s2.fr.2
    have s3 := (s2.newH (o := .own x) hdx).newC (c := cI C [] []) (o := .ins C dx []) (p := x) (by rw [upd_ne hne.symm]; exact hx) fun e => ⟨e, dx, [], rfl, rfl, .nil⟩
    refine ⟨Φ', ρ, σ, val (.ref x) :: ds, (x, cI C [] []) :: M1, fun y M' => y = vn ∧ P (val (.ref x)) M', PE', ⟨F, s3.weak (.of rfl fun F h => ⟨h.1, .cons rfl h.2⟩)⟩, by rw [List.length_cons, ← hl]; exact hn, hS x, fun y M' v H' hp s' => ?_, fun C f y dd M' H' hp s' => hX Φ' ρ σ C f y dd M' H' l (hP C f y M' hp) s'⟩
    obtain ⟨rfl, hp⟩ := hp
    have ⟨F', s5⟩ := s'
    refine ⟨?_, q (val (.ref x)) M' (.ref x) H' hp ⟨F', s5.ex, ⟨s5.fr.1, rfl⟩, s5.sl, s5.nd, s5.ce⟩⟩
    have e : Rp F' v .none := s5.fr.2
    cases e
    rfl
/-! ### statements -/
theorem c_asgL {i : Nat} (h : EvL Φ te ρ M P) (k : ∀ x M1, P x M1 → ∃ ρ', SetAt x ρ i ρ' ∧ Cont D.nx Φ ρ' M1) : Cont (tAsg te (gName i) D) Φ ρ M := fun σ H s => h Φ σ H _ (.refl _) s fun x M1 v H1 p s1 => by
  obtain ⟨ρ', hs, k⟩ := k x M1 p
  exact k _ _ (s1.asg hs)
theorem c_dropL (h : EvL Φ te ρ M P) (k : ∀ x M1, P x M1 → Cont D.nx Φ ρ M1) : Cont (tDrop te D) Φ ρ M := fun σ H s => h Φ σ H _ (.refl _) s fun x M1 v H1 p s1 => k x M1 p σ H1 s1.weak1
theorem c_retL {P' : VD → Cells → Prop} (h : EvL Ψ te ρ M P') (hQ : RtQ D.rt Φ P) (hP : ∀ x M1, P' x M1 → P x M1) (l : Le Ψ Φ) : Cont (tRet te D) Ψ ρ M := fun σ H s => h Ψ σ H _ (.refl _) s fun x M1 v H1 p s1 => hQ Ψ ρ σ x M1 v H1 l (hP x M1 p) s1
def tRaise (C : Addr) (f : Str) (W : WX) (t : TA) : TS := fun _ σ H => XeB.tMk C f t σ H fun cls d H' => W cls d σ H'
theorem c_raise (h : EvA t ρ M [y] M1) (hX : RtX W Φ PE) (hP : PE ρ C f y M1) (l : Le Ψ Φ) : Cont (tRaise C f W t D) Ψ ρ M := fun σ H s => h Ψ σ H _ s fun vs H1 s1 => by
  have ⟨F, z⟩ := s1
  obtain ⟨v, rfl, hv⟩ := rc1 (ds := []) z.fr.2
  refine ⟨v, rfl, fun d hd => ?_⟩
  have z2 := z.newC (c := cX f y) (o := .xd [(f, v)]) hd fun e => ⟨e, v, rfl, hv⟩
  exact hX Ψ ρ σ C f y d M1 _ l hP ⟨F, z2.ex, z2.fr.1, z2.sl, z2.nd, z2.ce⟩
theorem Sat.unset {σ : L2.St} {H : Hp} (s : Sat Φ ρ M σ H) (i : Nat) : Sat Φ (ρ.set i none) M (σ.set i none) H := let ⟨F, s⟩ := s
  ⟨F, s.ex, s.fr, ⟨by rw [List.length_set, List.length_set]; exact s.sl.1, fun j x e => by
    rw [List.getElem?_set] at e
    by_cases h : i = j
    · rw [if_pos h] at e
      split at e <;> cases e
    · rw [if_neg h] at e
      rw [List.getElem?_set, if_neg h]
      exact s.sl.2 j x e⟩, s.nd, s.ce⟩
theorem c_unset {k : L2.St → Hp → Prop} {i : Nat} (c : Cont k Φ (ρ.set i none) M) : Cont (fun σ' H' => k (σ'.set i none) H') Φ ρ M := fun σ H s => c _ H (s.unset i)
abbrev tTryAs (K : PySem.W.Frag) (c : Value) (i : Nat) (ts : Addr → Value → Option Addr → TS) (Wout : WX) (tb : WX → TS) : TS := fun D σ H => tb (wAs K c i ts Wout D) D σ H
abbrev sEnds (D : Ends) (i : Nat) : Ends := { nx := fun σ' H' => D.nx (σ'.set i none) H', rt := D.rt, bk := fun σ' H' => D.bk (σ'.set i none) H', ct := fun σ' H' => D.ct (σ'.set i none) H' }
theorem c_tryAs {i : Nat} {c : Value} {ts : Addr → Value → Option Addr → TS} {Wout : WX} {tb : WX → TS} (PE : PXT) (hb : ∀ W, RtX W Φ PE → Cont (tb W D) Φ ρ M)
    (hs : ∀ Ψ ρ' C f y M' dd, Le Ψ Φ → PE ρ' C f y M' → PySem.W.exmOne K (.ref C) c = some true ∧ ∀ a, Cont (ts a (.ref C) (some dd) (sEnds D i)) Ψ (ρ'.set i (some (val (.ref a)))) ((dd, cX f y) :: M')) : Cont (tTryAs K c i ts Wout tb D) Φ ρ M :=
  hb (wAs K c i ts Wout D) fun Ψ ρ' σ C f y dd M' H l hp s => by
    obtain ⟨h1, h2⟩ := hs Ψ ρ' C f y M' dd l hp
    refine ⟨true, h1, fun _ a _ => h2 a _ _ ?_, fun z => Bool.noConfusion z⟩
    have ⟨F, z⟩ := s
    exact ⟨F, z.ex, z.fr, z.sl.set (x := val (.ref a)) (v := .ref a) rfl, z.nd, z.ce⟩
/-- the caught one's field -/
theorem ev_xf {a dd : Addr} (h : Ev te ρ M (val (.ref a)) M1) (hm : (dd, cX f y) ∈ M1) : Ev (tXf a (.ref C) (some dd) C f te) ρ M y M1 := fun Φ σ H Q s q => h Φ σ H _ s fun v H1 s1 => by
  have ⟨F, z⟩ := s1
  obtain ⟨o, k1, k0, w, rfl, k3⟩ := z.at hm
  refine ⟨z.fr.2, rfl, dd, _, w, rfl, k1, ?_, q _ _ (Sat.ret (z.weak Le.and) k3)⟩
  simp [List.lookup]
theorem fn_startX {n : Nat} {S : XSpec} {vs : List V} {H : Hp} {Q : VK} {E : XK} {t : WX → TS} {N : List Str} (h : spX n S vs H Q E)
    (k : ∀ W ds M P PE Φ, ds.length = n → S ds M P PE → RtQ Q Φ P → RtX W Φ (fun _ => PE) → Cont (t W (fnD Q)) Φ (entry N ds) M) : t (fun cls d _ H => E cls d H) { nx := fun _ H' => Q .non H', rt := Q } (L2.start N vs) H := by
  obtain ⟨Φ, ρ, σ, ds, M, P, PE, s, e, hS, hq, hx⟩ := h
  have ⟨F, s0⟩ := s
  refine k _ ds M P PE (Φ.slots σ ρ) ((Paired.length s0.fr.2).trans e) hS (fun Φ' ρ' σ' x M' v H' l hp s' => ?_) (fun Φ' ρ' σ' C f y dd M' H' l hp s' => ?_) _ _ ⟨F, s0.ex, ⟨s0.fr.1, s0.sl⟩, slots_entry s0.fr.2, s0.nd, s0.ce⟩
  · have s2 := s'.weak (Ψ := (Φ.slots σ ρ).and x v) ⟨l.n, fun F h => ⟨l.p F h.1, h.2⟩⟩
    have ⟨F', s3⟩ := s2
    exact hq x M' v H' hp ⟨F', s3.ex, ⟨s3.fr.1.1, s3.fr.2⟩, s3.fr.1.2, s3.nd, s3.ce⟩
  · have s2 := s'.weak l
    have ⟨F', s3⟩ := s2
    exact hx C f y dd M' H' hp ⟨F', s3.ex, s3.fr.1, s3.fr.2, s3.nd, s3.ce⟩
end
end Sx

set_option Elab.async false
set_option linter.all false
set_option maxRecDepth 100000
set_option maxHeartbeats 2000000
/-! Sx9: isinstance, a star in a display, a list's place set, dict displays, str(n), dict(rows). -/
namespace Sx
open PySem L2 Evl StX
section
variable {K : PySem.W.Frag} {ρ ρ' ρ1 : Env} {M M1 M2 M3 M4 M' : Cells} {x y z : VD} {te ta tb ty tv : TE} {t : TA} {p : Addr} {Φ : Fr} {D : Ends} {P : VD → Cells → Prop} {ds es : List VD}
/-! ### isinstance of data -/
def tyD : PyData → String
  | .none => "NoneType"
  | .bool _ => "bool"
  | .int _ => "int"
  | .str _ => "str"
  | .list _ => "list"
  | .tuple _ => "tuple"
  | .dict _ => "dict"
theorem rc_isi {d : PyData} {c : String} {b : Bool} (h : kitB (tyD d) c = some b) : RC (rIsi K) [dat d, val (.ty c)] M (dat (.bool b)) M := fun Φ ρ σ vs H Q ⟨F, s⟩ q => by
  obtain ⟨v, w, rfl, h1, h2⟩ := rc2 s.fr.2
  have e2 : w = .ty c := h2
  subst e2
  refine ⟨v, _, .type (tyD d), .type c, b, rfl, .ty c, .base ?_, kit_ty h, q _ _ (Sat.ret (s.weak Le.andA) (.bl b))⟩
  cases h1 with
  | non => exact .non
  | bl b => exact .bl _
  | int i => exact .int _
  | str x => exact .str _
  | lst h1 h2 => exact .lst (s.ex _ _ h1)
  | tup h1 h2 => exact .tup (s.ex _ _ h1)
/-! ### (*xs, y) -/
theorem ea_starT {ds' : List PyData} (h : Ev te ρ M x M1) (hx : IsTup x M1 ds') (hr : EvA t ρ M1 es M2) : EvA (tStar K te t) ρ M (ds'.map dat ++ es) M2 := fun Φ σ H Q s q => h Φ σ H _ s fun v H1 s1 => by
  have ⟨F, z⟩ := s1
  obtain ⟨a, ws, rfl, h1, h2⟩ := hx z z.fr.2
  refine ⟨a, ws, rfl, .inl (st_of h1), ?_⟩
  have s2 : Sat (Φ.andA (ds'.map dat) ws) ρ M1 σ H1 := ⟨F, z.ex, ⟨z.fr.1, DA.of_dat.mpr h2⟩, z.sl, z.nd, z.ce⟩
  exact hr _ σ H1 _ s2 fun vs H2 s3 => q _ _ (s3.weak (.of rfl fun F p => ⟨p.1.1, DA.append p.1.2 p.2⟩))
/-! ### xs[i] = v -/
theorem c_setL {xs : List VD} {k : Int} {j : Nat} (hv : Ev te ρ M x M1) (ho : Ev ta ρ M1 (val (.ref p)) M2) (hi : Ev tb ρ M2 (dat (.int k)) M3) (hj : ixN xs.length k = some j) (hp : Put p (cL xs) (cL (xs.set j x)) M3 M4) (kk : Cont D.nx Φ ρ M4) :
    Cont (tAsg te (gSub ta tb rSetL) D) Φ ρ M := fun σ H s => hv Φ σ H _ s fun v H1 s1 => ho _ σ H1 _ s1 fun w H2 s2 => hi _ σ H2 _ s2 fun u H3 s3 => by
  have ⟨F, z⟩ := s3
  have e1 : w = .ref p := z.fr.1.2
  cases z.fr.2
  subst e1
  obtain ⟨o, k1, k0, ws, rfl, k3⟩ := z.at hp.mem
  refine ⟨p, ws, k, j, rfl, rfl, k1, by rw [← Paired.length k3]; exact hj, kk σ _ ⟨F, ?_⟩⟩
  exact (z.put1 (o := .lst (ws.set j v)) hp k0 ⟨k0, _, rfl, DA.set z.fr.1.1.2 j k3⟩).weak (.of rfl fun F h => h.1.1.1)
theorem c_setLd {xs : List PyData} {d : PyData} {k : Int} {j : Nat} (hv : Ev te ρ M (dat d) M1) (ho : Ev ta ρ M1 (val (.ref p)) M2) (hi : Ev tb ρ M2 (dat (.int k)) M3) (hj : ixN xs.length k = some j) (hp : Put p (cLd xs) (cLd (xs.set j d)) M3 M4) (kk : Cont D.nx Φ ρ M4) :
    Cont (tAsg te (gSub ta tb rSetL) D) Φ ρ M := fun σ H s => hv Φ σ H _ s fun v H1 s1 => ho _ σ H1 _ s1 fun w H2 s2 => hi _ σ H2 _ s2 fun u H3 s3 => by
  have ⟨F, z⟩ := s3
  have e1 : w = .ref p := z.fr.1.2
  cases z.fr.2
  subst e1
  obtain ⟨o, k1, k0, ws, rfl, k3⟩ := z.at hp.mem
  refine ⟨p, ws, k, j, rfl, rfl, k1, by rw [k3.length]; exact hj, kk σ _ ⟨F, ?_⟩⟩
  have r : RpL F (ws.set j v) (xs.set j d) := by
    have := DA.set (d := dat d) z.fr.1.1.2 j (DA.of_dat.mpr k3)
    rw [← List.map_set] at this
    exact DA.of_dat.mp this
  exact (z.put1 (o := .lst (ws.set j v)) hp k0 ⟨k0, _, rfl, r⟩).weak (.of rfl fun F h => h.1.1.1)
theorem ed_starT {ds' es' : List PyData} (h : Ev te ρ M x M1) (hx : IsTup x M1 ds') (hr : EvD t ρ M1 es' M2) : EvD (tStar K te t) ρ M (ds' ++ es') M2 := by
  have := ea_starT (K := K) h hx hr
  rw [← List.map_append] at this
  exact this
/-! ### a dict with texts as keys -/
theorem valG_here {β : Type} {k : L2.Key} {y : β} {l : List (L2.Key × β)} : valG ((k, y) :: l) k = some y := by rw [valG_cons, if_pos rfl]
theorem ev_dgetS {td : TE} {kvs : List (L2.Key × VD)} {k : Str} (hd : Ev td ρ M x M1) (hk : Ev ty ρ M1 (dat (.str k)) M2) (h2 : IsDi x M2 kvs) (hv : valG kvs (.inr k) = some y) : Ev (tDGet td ty) ρ M y M2 := ev_dget (k := .inr k) hd hk h2 hv
theorem c_dputS {td : TE} {kvs kvs' : List (L2.Key × VD)} {k : Str} (hv : Ev tv ρ M x M1) (hd : Ev td ρ M1 (val (.ref p)) M2) (hk : Ev ty ρ M2 (dat (.str k)) M3) (hp : Put p (cD kvs) (cD kvs') M3 M4) (he : putG kvs (.inr k) x = kvs') (hl : kvs.length < sizeLine) (c : Cont D.nx Φ ρ M4) :
    Cont (sDPut td ty tv D) Φ ρ M := c_dput (k := .inr k) hv hd hk (he ▸ hp) hl c
/-! ### dict displays -/
theorem SatF.inN {F : Hp} {σ : L2.St} {H : Hp} {c : Addr × CD} (s : SatF F Φ ρ (c :: M) σ H) : SatF F (Φ.more c) ρ M σ H := by
  have hp : (M ++ (Φ.more c).N).Perm (c :: (M ++ Φ.N)) := List.perm_middle
  exact ⟨s.ex, s.fr, s.sl, (hp.map (·.1)).nodup_iff.mpr s.nd, fun d hd => s.ce d (hp.mem_iff.mp hd)⟩
theorem SatF.outN {F : Hp} {σ : L2.St} {H : Hp} {c : Addr × CD} (s : SatF F (Φ.more c) ρ M σ H) : SatF F Φ ρ (c :: M) σ H := by
  have hp : (M ++ (Φ.more c).N).Perm (c :: (M ++ Φ.N)) := List.perm_middle
  exact ⟨s.ex, s.fr, s.sl, (hp.map (·.1)).nodup_iff.mp s.nd, fun d hd => s.ce d (hp.mem_iff.mpr hd)⟩
def Fr.andP (Φ : Fr) (kvs : List (L2.Key × VD)) (ps : List (V × V)) : Fr := ⟨Φ.N, fun F => Φ.P F ∧ ∃ vs : List (L2.Key × V), ps = vs.map (fun kv => (kV kv.1, kv.2)) ∧ DP F kvs vs, fun e ⟨h, vs, h1, h2⟩ => ⟨Φ.mono e h, vs, h1, h2.mono e⟩⟩
def EvPs (trs : List (TE × TE)) (ρ : Env) (M : Cells) (kvs : List (L2.Key × VD)) (M' : Cells) : Prop := ∀ (Φ : Fr) (σ : L2.St) (H : Hp) (Q : List (V × V) → Hp → Prop), Sat Φ ρ M σ H → (∀ ps H', Sat (Φ.andP kvs ps) ρ M' σ H' → Q ps H') → tPairs trs σ H Q
theorem ep_nil : EvPs [] ρ M [] M := fun Φ σ H Q ⟨F, s⟩ q => q [] H ⟨F, s.ex, ⟨s.fr, [], rfl, .nil⟩, s.sl, s.nd, s.ce⟩
theorem ep_cons {trs : List (TE × TE)} {k : L2.Key} {kvs : List (L2.Key × VD)} (hk : Ev ta ρ M (dat (kD k)) M1) (hv : Ev tb ρ M1 x M2) (hr : EvPs trs ρ M2 kvs M3) : EvPs ((ta, tb) :: trs) ρ M ((k, x) :: kvs) M3 := fun Φ σ H Q s q =>
  hk Φ σ H _ s fun v H1 s1 => hv _ σ H1 _ s1 fun w H2 s2 => hr _ σ H2 _ s2 fun ps H3 s3 => q _ H3 (by
    have e : v = kV k := let ⟨F, z⟩ := s3; kv_of z.fr.1.1.2
    subst e
    exact s3.weak (.of rfl fun F h => ⟨h.1.1.1, let ⟨vs, h1, h2⟩ := h.2; ⟨(k, w) :: vs, by rw [h1]; rfl, .cons ⟨rfl, h.1.2⟩ h2⟩⟩))
theorem er_disp {trs : List (TE × TE)} {kvs : List (L2.Key × VD)} (h : EvPs trs ρ M kvs M1) (hl : kvs.length ≤ 15) : EvR (tDisp trs) ρ M fun y M' => ∃ p, y = val (.ref p) ∧ M' = (p, cD (mergeG [] kvs)) :: M1 := fun Φ σ H Q ⟨F, s⟩ q => fun p hp =>
  h (Φ.more (p, cD [])) σ _ _ ⟨F, (s.newC (c := cD []) (o := .dK []) hp fun e => ⟨e, [], rfl, .nil⟩).inN⟩ fun ps H2 ⟨F2, z⟩ => by
    obtain ⟨vs, e1, e2⟩ := z.fr.2
    have z1 : SatF F2 (Φ.more (p, cD [])) ρ M1 σ H2 := ⟨z.ex, z.fr.1, z.sl, z.nd, z.ce⟩
    have z2 := z1.outN
    obtain ⟨o, k1, k0, ws, rfl, k3⟩ := z2.at List.mem_cons_self
    cases k3
    refine ⟨k1, vs, e1, by rw [← e2.len]; exact hl, ?_⟩
    have z3 := z2.put1 (o := .dK (mergeK [] vs)) (c' := cD (mergeG [] kvs)) .here k0 ⟨k0, _, rfl, DP.merge e2 .nil⟩
    exact q _ _ _ _ ⟨p, rfl, rfl⟩ ⟨F2, z3.ex, ⟨z3.fr, rfl⟩, z3.sl, z3.nd, z3.ce⟩
/-! ### str(n) -/
abbrev rStrInt : List V → Hp → VK → Prop := fun xs H Q => ∃ i, xs = [.int i] ∧ i.natAbs.log2 < 1920 ∧ Q (.str (toString i)) H
theorem call_str_int' {X : Cx} : CallR X (.type "str") rStrInt := call_str_int
theorem rc_strI {i : Int} (h : i.natAbs.log2 < 1920) : RC rStrInt [dat (.int i)] M (dat (.str (toString i))) M := fun Φ ρ σ vs H Q ⟨F, s⟩ q => by
  obtain ⟨v, rfl, h1⟩ := rc1 (ds := []) s.fr.2
  cases h1
  exact ⟨i, rfl, h, q _ _ (Sat.ret (s.weak Le.andA) (.str _))⟩
end
end Sx

set_option Elab.async false
set_option linter.all false
set_option maxRecDepth 100000
set_option maxHeartbeats 2000000
/-! Sx10: tuples known to their object; dict(x) of pairs; dicts compared. -/
namespace L2
open PySem PySem.Spec PyProof.Rows
section
variable {X : Cx}
/-- a tuple display, known to its object -/
def tTupZ (t : TA) : TE := fun σ H Q => t σ H fun xs H1 => xs.length ≤ sizeLine ∧ ∀ p o, H1 p = none → o.dict = none → Q (.ref p) (upd H1 p (.frz o (.tup xs)))
theorem pe_tupZ {es : List Expr} {t : TA} {x1} {pos : Pos} (h : PA X es t) : PE X (.Tuple es x1 pos) (tTupZ t) := by
  refine ⟨fun pins s σ H Q I hq => ?_⟩
  refine wpAny_Tuple_spliced (thn (h.run pos pins s σ H _ I hq) fun us s1 ⟨xs, H1, I1, r, z, q⟩ => ⟨by rw [← r.length]; exact z, ?_⟩)
  have fresh : H1 s1.heap.objs.size = none := I1.hok.fresh (Nat.le_refl _)
  refine ⟨.ref s1.heap.objs.size, upd H1 s1.heap.objs.size (.frz { cls := .type "tuple", data := .seq us.toArray } (.tup xs)), I1.laid (t' := s1.toks) (fun b u e => Heap.get?_push_of_some _ e) (Nat.le_refl _) ?_, rfl, q _ _ fresh rfl⟩
  exact ⟨Heap.get?_push_size _ rfl, z, us, r, ⟨_, Heap.get?_push_size _ rfl, rfl, _, rfl⟩⟩
/-- tuple(xs) of a list, known to its object -/
def rTupZ (K : PySem.W.Frag) : List V → Hp → VK → Prop := fun xs H Q => ∃ p ys, xs = [.ref p] ∧ SqL K H p ys ∧ ∀ l o, H l = none → o.dict = none → Q (.ref l) (upd H l (.frz o (.tup ys)))
theorem call_tupZ : CallR X (.type "tuple") (rTupZ X.K) := by
  intro pins s σ H xs us Q I r h
  obtain ⟨p, ys, rfl, hq, q⟩ := h
  obtain ⟨u, rfl, rx⟩ := vals1 r
  cases rx
  obtain ⟨its, r', pl, hz⟩ := I.list hq
  have many := r'.length
  refine call_tuple_list pl.isList (fun h' kp => ?_) (by simp only [List.size_toArray] <;> omega)
  have J1 : Inv X pins σ H { s with heap := h' } := I.kept (t' := s.toks) kp
  have J2 : Inv X pins σ (upd H h'.objs.size (.frz { cls := .type "tuple", data := .seq its.toArray } (.tup ys))) { s with heap := h'.push { cls := .type "tuple", data := .seq its.toArray } } :=
    J1.laid (t' := s.toks) (fun b o e => Heap.get?_push_of_some _ e) (Nat.le_refl _) ⟨Heap.get?_push_size _ rfl, hz, its, r', IsTup.new _ _⟩
  exact ⟨.ref h'.objs.size, _, J2, rfl, q _ _ (J1.hok.fresh (Nat.le_refl _)) rfl⟩
/-- pairs in tuples that are laid -/
theorem pairs_laid {pins : List (Addr × Obj)} {σ : St} {H : Hp} {s : Shared} (I : Inv X pins σ H s) : ∀ {ps : List Addr} {kvs : List (Key × V)}, Paired (fun p kv => SqT X.K H p [kV kv.1, kv.2]) ps kvs →
    ∃ (prs : List (Key × Value)) (pv : List (Value × Value)), KV kvs prs ∧ prs.length = ps.length ∧ pv.length = ps.length ∧ ∀ (j : Nat) (b : Addr), ps[j]? = some b → ∃ k u y, prs[j]? = some (k, y) ∧ pv[j]? = some (u, y) ∧ IsTup s.heap b #[u, y] ∧ (mixKind X.prog X.w).is k u = true
  | _, _, .nil => ⟨[], [], .nil, rfl, rfl, fun j b e => by simp at e⟩
  | _, _, .cons (a := p) (b := kv) h t => by
    obtain ⟨prs, pv, r, l1, l2, hp⟩ := pairs_laid I t
    obtain ⟨its, rv, ht, _⟩ := I.tuple h
    obtain ⟨u, y, ei, ru, ry⟩ := vals2 rv
    subst ei
    refine ⟨(kv.1, y) :: prs, (u, y) :: pv, .cons ⟨rfl, ry⟩ r, by rw [List.length_cons, List.length_cons, l1], by rw [List.length_cons, List.length_cons, l2], fun j b e => ?_⟩
    cases j with
    | zero =>
      have e' : p = b := Option.some.inj e
      subst e'
      exact ⟨kv.1, u, y, rfl, rfl, ht, kV_is ru⟩
    | succ j =>
      obtain ⟨k, u', y', e1, e2, e3⟩ := hp j b (by simpa using e)
      exact ⟨k, u', y', by simpa using e1, by simpa using e2, e3⟩
/-- dict(xs): xs a list of pairs, or a tuple of pairs that is known to its object -/
def rDictP (K : PySem.W.Frag) : List V → Hp → VK → Prop := fun xs H Q => ∃ (a : Addr) (ps : List Addr) (kvs : List (Key × V)), xs = [.ref a] ∧ (SqL K H a (ps.map V.ref) ∨ ∃ o, H a = some (.frz o (.tup (ps.map V.ref))) ∧ o.dict = none) ∧
  Paired (fun p kv => SqT K H p [kV kv.1, kv.2]) ps kvs ∧ ∀ p, H p = none → Q (.ref p) (upd H p (.dK (mergeK [] kvs)))
theorem call_dictP' (hcalm : X.calm = true) : CallR X (.type "dict") (rDictP X.K) := by
  intro pins s σ H xs us Q I r h
  obtain ⟨a, ps, kvs, ex, hq, hp, q⟩ := h
  rcases hq with hq | ⟨o, hq, hod⟩
  · exact call_dictP hcalm pins s σ H xs us Q I r ⟨a, ps, kvs, ex, hq, hp, q⟩
  subst ex
  obtain ⟨u, eu, rx⟩ := vals1 r
  subst eu
  cases rx
  obtain ⟨ho, hz, its, rv, o', ho', hc, n, hdat⟩ := (show ObjOk X.prog X.w H s.heap a (.frz o (.tup (ps.map V.ref))) from I.hok a _ hq)
  rw [ho] at ho'
  cases ho'
  have ei := refs_at rv
  subst ei
  rw [List.length_map] at hz
  obtain ⟨prs, pv, rel, l1, l2, hpr⟩ := pairs_laid I hp
  have P := PySem.PairArg.tuple (prog := X.prog) (w := X.w) a (ps.map Value.ref).toArray (fun j => ps.getD j 0) pv
  refine PySem.call_dict_pairs (knd := mixKind X.prog X.w) (kvs := prs) P (I.ok.hd hcalm) ⟨⟨o, n, ho, hc, hod, hdat⟩, by simp [l2], fun j k v e => ?_⟩ ⟨by rw [l1, l2], fun i key v e => ?_⟩ (by rw [l2]; exact hz) fun h' tk hd' k => ?_
  · have hj : j < ps.length := by rw [← l2]; exact (List.getElem?_eq_some_iff.mp e).1
    obtain ⟨k', u, y, e1, e2, e3, _⟩ := hpr j ps[j] (List.getElem?_eq_getElem hj)
    rw [e2] at e
    obtain ⟨rfl, rfl⟩ := Prod.mk.inj (Option.some.inj e)
    refine ⟨by simp [hj, List.getD], .inl ?_⟩
    show s.heap.IsTuple (ps.getD j 0) _
    rw [show ps.getD j 0 = ps[j] by simp [List.getD, hj]]
    exact e3
  · have hj : i < ps.length := by rw [← l2]; exact (List.getElem?_eq_some_iff.mp e).1
    obtain ⟨k', u, y, e1, e2, _, e4⟩ := hpr i ps[i] (List.getElem?_eq_getElem hj)
    have e : pv[i]? = some (key, v) := e
    rw [e2] at e
    obtain ⟨rfl, rfl⟩ := Prod.mk.inj (Option.some.inj e)
    exact ⟨k', e1, e4⟩
  · have hm : (s.heap.objs.size == sysModules) = false := beq_eq_false_iff_ne.mpr (Nat.ne_of_gt I.big)
    have few : (mergeK [] kvs).length ≤ sizeLine := by
      refine Nat.le_trans (length_mergeK kvs []) ?_
      rw [List.length_nil, Nat.zero_add, rel.length, l1]
      exact hz
    exact ⟨.ref s.heap.objs.size, upd H s.heap.objs.size (.dK (mergeK [] kvs)), I.laid (t' := tk) (fun b o e => k b o (fun z => nomatch z) e) (Nat.le_refl _) (show ObjOk X.prog X.w _ _ _ (.dK (mergeK [] kvs)) from ⟨few, hm, merged [] prs, KV.merge rel .nil, hd'⟩), rfl, q _ (I.hok.fresh (Nat.le_refl _))⟩
/-- a != b of two dicts that say the same -/
def rNeDi : R2 := fun x y H Q => ∃ a b ks, x = .ref a ∧ y = .ref b ∧ H a = some (.dK ks) ∧ H b = some (.dK ks) ∧ (∀ p ∈ ks, flatB p.2 = true) ∧ Q (.bl false) H
theorem hits_alike {A : Around} {s : Shared} {vb : List (Key × Value)} : ∀ {ks : List (Key × V)} {va vb' : List (Key × Value)}, KV ks va → KV ks vb' → (∀ q ∈ vb', valueAt vb q.1 = some q.2) → (∀ p ∈ ks, flatB p.2 = true) → PySem.W.KeqHits A s vb va true
  | _, _, _, .nil, .nil, _, _ => .nil
  | _, _, _, .cons (b := q1) h1 t1, .cons (b := q2) h2 t2, hv, hf => by
    obtain ⟨k, v⟩ := q1
    obtain ⟨k2, v2⟩ := q2
    have e : k = k2 := h1.1.symm.trans h2.1
    subst e
    exact PySem.W.KeqHits.hit (e := true) (b := true) (hv _ List.mem_cons_self) (eqAt_same h1.2 h2.2 (hf _ List.mem_cons_self)) (hits_alike t1 t2 (fun q m => hv q (List.mem_cons_of_mem _ m)) fun p m => hf p (List.mem_cons_of_mem _ m))
theorem val_once : ∀ {vb : List (Key × Value)}, (vb.map (·.1)).Nodup → ∀ q ∈ vb, valueAt vb q.1 = some q.2
  | [], _, _, h => nomatch h
  | p :: r, hn, q, h => by
    rw [List.map_cons, List.nodup_cons] at hn
    unfold valueAt
    rw [List.find?_cons]
    rcases List.mem_cons.mp h with rfl | h
    · simp
    · have hne : ¬ p.1 = q.1 := fun e => hn.1 (e ▸ List.mem_map_of_mem h)
      simp only [hne, decide_false]
      exact val_once hn.2 q h
theorem op_neDi (hu : X.A.units + 64 < cLine) : OpR X (compareOp .NotEq) rNeDi := by
  intro pins s σ H x y v u Q I rx ry h
  obtain ⟨a, b, ks, rfl, rfl, ha, hb, hf, q⟩ := h
  cases (show v = Value.ref a from rx)
  cases (show u = Value.ref b from ry)
  obtain ⟨_, ya, va, ra, da⟩ := dk_of I.hok ha
  obtain ⟨_, yb, vb, rb, db⟩ := dk_of I.hok hb
  have hn : (vb.map (·.1)).Nodup := let ⟨_, _, _, _, _, _, _, _, z⟩ := db; z
  refine PySem.W.keq_ne (knd := mixKind X.prog X.w) (r := true) ya yb da db (by omega) (fun _ => hits_alike ra rb (val_once hn) hf) ?_
  have e : va.length = vb.length := by rw [← ra.length, ← rb.length]
  rw [show (!(va.length == vb.length && true)) = false by simp [e]]
  exact ⟨.bl false, H, I, rfl, q⟩
end
end L2
namespace Sx
open PySem L2 Evl
/-- a tuple of data, known to its object: it has no dict of its own -/
def vzt (ds : List PyData) : VD := ⟨fun F v => ∃ a o vs, v = .ref a ∧ F a = some (.frz o (.tup vs)) ∧ o.dict = none ∧ RpL F vs ds, fun e ⟨a, o, vs, h1, h2, h3, h4⟩ => ⟨a, o, vs, h1, e.pl _ _ h2 rfl, h3, h4.mono e⟩⟩
def encPr (p : L2.Key × PyData) : PyData := .tuple [kD p.1, p.2]
abbrev dKs (l : List (L2.Key × PyData)) : List (L2.Key × VD) := l.map fun p => (p.1, dat p.2)
def rNeW (K : PySem.W.Frag) : R2 := fun x y H Q => rNeU K x y H Q ∨ rNeDi x y H Q
theorem op_neW {X : Cx} (hu : X.A.units + 64 < cLine) : OpR X (compareOp .NotEq) (rNeW X.K) := (op_neU hu).or (op_neDi hu)
theorem pairs_rp {K : PySem.W.Frag} {F H : Hp} (ex : ∀ a u, F a = some u → H a = some u) : ∀ {l : List (L2.Key × PyData)} {vs : List V}, RpL F vs (l.map encPr) → ∃ (ps : List Addr) (kvs : List (L2.Key × V)), vs = ps.map V.ref ∧ Paired (fun p kv => SqT K H p [kV kv.1, kv.2]) ps kvs ∧ DP F (dKs l) kvs
  | [], _, .nil => ⟨[], [], rfl, .nil, .nil⟩
  | (k, d) :: l, _, .cons h t => by
    obtain ⟨ps, kvs, rfl, hp, hd⟩ := pairs_rp ex t
    cases h with
    | @tup a xs _ h1 h2 =>
      cases h2 with
      | cons g1 g2 =>
        cases g2 with
        | cons g3 g4 =>
          cases g4
          cases kv_of g1
          exact ⟨a :: ps, (k, _) :: kvs, rfl, .cons (.inl (.inl (ex _ _ h1))) hp, .cons ⟨rfl, g3⟩ hd⟩
section
variable {K : PySem.W.Frag} {ρ ρ' : Env} {M M1 M2 M' : Cells} {x y : VD} {te ta tb : TE} {t : TA} {Φ : Fr} {l : List (L2.Key × PyData)}
theorem rc_dicL : RC (rDictP K) [dat (.list (l.map encPr))] M (vdi (mergeG [] (dKs l))) M := fun Φ ρ σ vs H Q ⟨F, s⟩ q => by
  obtain ⟨v, rfl, h1⟩ := rc1 (ds := []) s.fr.2
  cases h1 with
  | @lst a xs _ g1 g2 =>
    obtain ⟨ps, kvs, rfl, hp, hd⟩ := pairs_rp (K := K) s.ex g2
    exact ⟨a, ps, kvs, rfl, .inl (sq_of (s.ex _ _ g1)), hp, fun p hp' => q _ _ (Sat.retNew s.base1 hp' fun F' fx e => ⟨p, _, rfl, e, (hd.merge .nil).mono fx⟩)⟩
theorem rc_dicZ : RC (rDictP K) [vzt (l.map encPr)] M (vdi (mergeG [] (dKs l))) M := fun Φ ρ σ vs H Q ⟨F, s⟩ q => by
  obtain ⟨v, rfl, a, o, xs, rfl, g1, g3, g2⟩ := rc1 (ds := []) s.fr.2
  obtain ⟨ps, kvs, rfl, hp, hd⟩ := pairs_rp (K := K) s.ex g2
  exact ⟨a, ps, kvs, rfl, .inr ⟨o, s.ex _ _ g1, g3⟩, hp, fun p hp' => q _ _ (Sat.retNew s.base1 hp' fun F' fx e => ⟨p, _, rfl, e, (hd.merge .nil).mono fx⟩)⟩
theorem rc_lstZ {ds : List PyData} : RC (rLstOf K) [vzt ds] M (dat (.list ds)) M := fun Φ ρ σ vs H Q ⟨F, s⟩ q => by
  obtain ⟨v, rfl, a, o, xs, rfl, g1, g3, g2⟩ := rc1 (ds := []) s.fr.2
  exact ⟨a, xs, rfl, .inr (.inl (.inr ⟨o, s.ex _ _ g1⟩)), fun l hl => q _ _ (Sat.retNew s.base1 hl fun F' fx e => .lst e (g2.mono fx))⟩
theorem rc_tupZ {ds : List PyData} (hx : IsLst x M ds) : RC (rTupZ K) [x] M (vzt ds) M := fun Φ ρ σ vs H Q ⟨F, s⟩ q => by
  obtain ⟨v, rfl, h1⟩ := rc1 (ds := []) s.fr.2
  obtain ⟨a, ws, rfl, h2, h3⟩ := hx s h1
  exact ⟨a, ws, rfl, sq_of h2, fun l o hl ho => q _ _ (Sat.retNew s.base1 hl fun F' fx e => ⟨l, o, ws, rfl, e, ho, h3.mono fx⟩)⟩
theorem ev_tupZ {ds : List PyData} (h : EvD t ρ M ds M1) (hl : ds.length ≤ sizeLine) : Ev (tTupZ t) ρ M (vzt ds) M1 := fun Φ σ H Q s q => h Φ σ H _ s fun vs H1 ⟨F, s1⟩ => by
  have hr := DA.of_dat.mp s1.fr.2
  refine ⟨by rw [hr.length]; exact hl, fun p o hp ho => ?_⟩
  obtain ⟨s2, fx⟩ := s1.new (o := .frz o (.tup vs)) hp
  exact q _ _ ⟨_, s2.ex, ⟨s2.fr.1, p, o, vs, rfl, upd_same, ho, hr.mono fx⟩, s2.sl, s2.nd, s2.ce⟩
theorem rv_neDi {ks : List (L2.Key × Int)} : RV (rNeW K) (vdi (dKs (ks.map fun p => (p.1, .int p.2)))) (vdi (dKs (ks.map fun p => (p.1, .int p.2)))) M (dat (.bool false)) M := fun Φ ρ σ v w H Q ⟨F, s⟩ q => by
  obtain ⟨a, va, rfl, e1, d1⟩ := s.fr.1.2
  obtain ⟨b, vb, rfl, e2, d2⟩ := s.fr.2
  have hz : ∀ {ks : List (L2.Key × Int)} {va : List (L2.Key × V)}, DP F (dKs (ks.map fun p => (p.1, .int p.2))) va → va = ks.map fun p => (p.1, V.int p.2) := by
    intro ks
    induction ks with
    | nil => intro va h; cases h; rfl
    | cons p r ih =>
      intro va h
      cases h with
      | cons h t =>
        rename_i b l
        obtain ⟨k, v⟩ := b
        obtain ⟨g1, g2⟩ := h
        cases g1
        cases g2
        rw [ih t]
        rfl
  have q1 := hz d1
  have q2 := hz d2
  subst q1
  subst q2
  refine .inr ⟨a, b, _, rfl, rfl, s.ex _ _ e1, s.ex _ _ e2, fun p hp => ?_, q _ _ (Sat.ret s.base (.bl _))⟩
  obtain ⟨r, _, rfl⟩ := List.mem_map.mp hp
  rfl
theorem rc_tupZv {ds : List PyData} : RC (rTupZ K) [vlst (ds.map dat)] M (vzt ds) M := fun Φ ρ σ vs H Q s q => rc_tupZ (isl_dat (ds := ds)) Φ ρ σ vs H Q (s.weak (.of rfl fun F h => by
  obtain ⟨v, rfl, h1⟩ := rc1 (ds := []) h.2
  exact ⟨h.1, .cons (vlst_dat.mp h1) .nil⟩)) q
/-- an expression with one outcome, told with others -/
theorem Ev.er {P : VD → Cells → Prop} (h : Ev te ρ M x M') (hp : P x M') : EvR te ρ M P := fun Φ σ H Q s q => h Φ σ H Q s fun v H' s' => q x M' v H' hp s'
theorem er_cb {r : List V → Hp → VK → Prop} {P : VD → Cells → Prop} (h : EvAR t ρ M fun ds M1 => ∃ z M2, RC r ds M1 z M2 ∧ P z M2) : EvR (tCB r t) ρ M P := fun Φ σ H Q s q => h Φ σ H _ s fun ds M1 vs H1 ⟨z, M2, hr, hp⟩ s1 => hr Φ ρ σ vs H1 Q s1 fun w H2 s2 => q z M2 w H2 hp s2
theorem er_op {r : R2} {P Pa : VD → Cells → Prop} (ha : EvR ta ρ M Pa) (hb : ∀ x M1, Pa x M1 → EvR tb ρ M1 fun y M2 => ∃ z M3, RV r x y M2 z M3 ∧ P z M3) : EvR (tOp r ta tb) ρ M P := fun Φ σ H Q s q =>
  ha Φ σ H _ s fun x M1 v H1 hx s1 => hb x M1 hx _ σ H1 _ s1 fun y M2 w H2 ⟨z, M3, hr, hp⟩ s2 => hr Φ ρ σ v w H2 Q s2 fun u H3 s3 => q z M3 u H3 hp s3
/-- i, j = .., several outcomes -/
theorem c_parR {D : Ends} {P : List VD → Cells → Prop} {i j : Nat} (h : EvAR t ρ M P) (k : ∀ ds M1, P ds M1 → ∃ x y ρ1 ρ2, ds = [x, y] ∧ SetAt x ρ i ρ1 ∧ SetAt y ρ1 j ρ2 ∧ Cont D.nx Φ ρ2 M1) : Cont (tPar i j t D) Φ ρ M := fun σ H s => h Φ σ H _ s fun ds M1 vs H1 hp s1 => by
  obtain ⟨x, y, ρ1, ρ2, rfl, h1, h2, kk⟩ := k ds M1 hp
  have ⟨F, s0⟩ := s1
  obtain ⟨v, w, rfl, q1, q2⟩ := rc2 s0.fr.2
  refine ⟨v, w, rfl, kk _ _ ?_⟩
  have s2 : Sat ((Φ.and y w).and x v) ρ M1 σ H1 := s1.weak (.of rfl fun F h => by
    obtain ⟨v', w', e, q1, q2⟩ := rc2 h.2
    cases e
    exact ⟨⟨h.1, q2⟩, q1⟩)
  exact (s2.asg h1).asg h2
theorem c_par3R {D : Ends} {P : List VD → Cells → Prop} {i j l : Nat} (h : EvAR t ρ M P) (k : ∀ ds M1, P ds M1 → ∃ x y z ρ1 ρ2 ρ3, ds = [x, y, z] ∧ SetAt x ρ i ρ1 ∧ SetAt y ρ1 j ρ2 ∧ SetAt z ρ2 l ρ3 ∧ Cont D.nx Φ ρ3 M1) : Cont (tPar3 i j l t D) Φ ρ M := fun σ H s => h Φ σ H _ s fun ds M1 vs H1 hp s1 => by
  obtain ⟨x, y, z, ρ1, ρ2, ρ3, rfl, h1, h2, h3, kk⟩ := k ds M1 hp
  have ⟨F, s0⟩ := s1
  obtain ⟨v, w, u', rfl⟩ : ∃ a b c, vs = [a, b, c] := by
    have e := Paired.length s0.fr.2
    match vs, e with
    | [a, b, c], _ => exact ⟨a, b, c, rfl⟩
  refine ⟨v, w, u', rfl, kk _ _ ?_⟩
  have s2 : Sat (((Φ.and z u').and y w).and x v) ρ M1 σ H1 := s1.weak (.of rfl fun F h => by
    cases h.2 with
    | cons q1 q2 =>
      cases q2 with
      | cons q3 q4 =>
        cases q4 with
        | cons q5 q6 => exact ⟨⟨⟨h.1, q5⟩, q3⟩, q1⟩)
  exact ((s2.asg h1).asg h2).asg h3
end
end Sx

set_option Elab.async false
set_option linter.all false
set_option maxRecDepth 100000
set_option maxHeartbeats 2000000
/-! Sx11: cells told anew, frozen in a slot; comprehensions that give a list of one's own; max of a tuple. -/
namespace Sx
open PySem L2 Evl
section
variable {K : PySem.W.Frag} {ρ ρ' : Env} {M M1 M2 M' : Cells} {x y : VD} {te ta tb : TE} {t : TA} {Φ : Fr} {p : Addr}
theorem Sat.cell {c c' : CD} {σ : L2.St} {H : Hp} (h : ∀ F p o, c.P F p o → c'.P F p o) (s : Sat Φ ρ ((p, c) :: M) σ H) : Sat Φ ρ ((p, c') :: M) σ H := let ⟨F, s⟩ := s
  ⟨F, s.ex, s.fr, s.sl, s.nd, fun d hd => by
    rcases List.mem_cons.mp hd with rfl | hd
    · obtain ⟨o, h1, h2⟩ := s.ce (p, c) List.mem_cons_self
      exact ⟨o, h1, h _ _ _ h2⟩
    · exact s.ce d (List.mem_cons_of_mem _ hd)⟩
/-- a cell told in another way -/
theorem c_cell {k : L2.St → Hp → Prop} {c c' : CD} (h : ∀ F p o, c.P F p o → c'.P F p o) (kk : Cont k Φ ρ ((p, c') :: M)) : Cont k Φ ρ ((p, c) :: M) := fun σ H s => kk σ H (s.cell h)
theorem cLd_cL {ds : List PyData} : ∀ F p o, (cLd ds).P F p o → (cL (ds.map dat)).P F p o := fun F p o ⟨h0, vs, h1, h2⟩ => ⟨h0, vs, h1, DA.of_dat.mpr h2⟩
theorem cL_cLd {ds : List PyData} : ∀ F p o, (cL (ds.map dat)).P F p o → (cLd ds).P F p o := fun F p o ⟨h0, vs, h1, h2⟩ => ⟨h0, vs, h1, DA.of_dat.mp h2⟩
/-- a list of one's own that stands in a slot, and is not changed any more -/
theorem c_frz {k : L2.St → Hp → Prop} {i : Nat} {ds : List PyData} (hi : At (val (.ref p)) ρ i) (hs : SetAt (dat (.list ds)) ρ i ρ') (kk : Cont k Φ ρ' M) : Cont k Φ ρ ((p, cLd ds) :: M) := fun σ H s => by
  have ⟨F0, s0⟩ := s.cell (c' := cL (ds.map dat)) cLd_cL
  obtain ⟨F, z⟩ := SatF.freeze s0.inN
  have e : σ[i]? = some (some (.ref p)) := by
    obtain ⟨v, h1, h2⟩ := s0.sl.2 i _ hi.get
    rw [h1, show v = .ref p from h2]
  refine kk σ H ⟨F, z.ex, z.fr.1, ?_, z.nd, z.ce⟩
  have q := z.sl.set (i := i) (x := dat (.list ds)) (v := .ref p) (vlst_dat.mp z.fr.2)
  rw [← hs.eq] at q
  have hσ : σ.set i (some (.ref p)) = σ := by
    apply List.ext_getElem?
    intro j
    rw [List.getElem?_set]
    by_cases h : i = j
    · subst h
      rw [if_pos rfl, if_pos (List.getElem?_eq_some_iff.mp e).1, e]
    · rw [if_neg h]
  rw [hσ] at q
  exact q
/-- a comprehension that gives a list of one's own -/
theorem er_lcC {wi : TI} {g : TG} {tt : TT} {vs : List Nat} {its : List VD} (h : EvI wi ρ M its M1) (I : Nat → List VD → Cells → Prop) (h0 : I 0 [] M1) (hl : its.length ≤ 16000000)
    (hI : ∀ i acc M', I i acc M' → acc.length ≤ i)
    (hs : ∀ (i : Nat) d acc M', its[i]? = some d → I i acc M' → ∃ ρ'' js b M2, Tgt g js d (wipeE ρ vs) ρ'' ∧ (∀ i ∈ js, i ∈ vs) ∧ EvT tt ρ'' M' b M2 ∧ (b = true → EvR te ρ'' M2 fun y M3 => I (i + 1) (acc ++ [y]) M3) ∧ (b = false → I (i + 1) acc M2)) :
    EvR (tLc wi g tt te vs) ρ M fun y M' => ∃ acc D M'', y = val (.ref D) ∧ I its.length acc M'' ∧ M' = (D, cL acc) :: M'' := fun Φ σ H Q s q => h Φ σ H _ s fun J H1 Ψ l s1 ⟨G, Y, w, hG, hY⟩ => fun Dl hD => by
  have ⟨F1, s2⟩ := s1
  have lm : ∀ c, Le (Ψ.more c) Ψ := fun c => Le.more
  let Ψ0 : Fr := Ψ.slots σ ρ
  refine lc_it w (fun i H' => ∃ acc M', I i acc M' ∧ Sat (Ψ0.more (Dl, cL acc)) (wipeE ρ vs) M' (L2.wipe σ vs) H') ⟨[], M1, h0, ?_⟩ (fun i H' _ ⟨acc, M', _, s'⟩ => hG _ _ _ _ _ (Le.trans Le.more Le.slots) s') (fun i x H' H2 hi ⟨acc, M', j, s'⟩ y => ?_) (fun H' ⟨acc, M', j, s'⟩ => ?_)
  · have s3 := s2.newC (c := cL []) (o := .lst []) hD fun e => ⟨e, [], rfl, .nil⟩
    refine ⟨F1, s3.ex, ⟨s3.fr, s3.sl⟩, s3.sl.wipes vs, ?_, fun c hc => ?_⟩
    · have hp : (M1 ++ (Ψ0.more (Dl, cL [])).N).Perm ((Dl, cL []) :: M1 ++ Ψ.N) := List.perm_middle
      exact (hp.map (·.1)).nodup_iff.mpr s3.nd
    · have hp : (M1 ++ (Ψ0.more (Dl, cL [])).N).Perm ((Dl, cL []) :: M1 ++ Ψ.N) := List.perm_middle
      exact s3.ce c (hp.mem_iff.mp hc)
  · have hi' : its[i]? = some its[i] := by simp [hi]
    obtain ⟨ρ'', js, b, M2, hg, hj, ht, h1, h2⟩ := hs i its[i] acc M' hi' j
    have s3 := hY i its[i] x H' H2 _ _ _ _ hi' (Le.trans Le.more Le.slots) s' y
    refine hg _ M' x _ H2 _ s3 fun σ2 k1 k2 s4 => ⟨wipe_eq k1 k2 hj, ht _ σ2 H2 _ s4 fun H3 s5 => ?_⟩
    have back : ∀ {Φ' : Fr} {acc' : List VD} {M' : Cells} {H' : Hp} {σ3 : L2.St} {ρ3 : Env}, Sat (Ψ0.more (Dl, cL acc')) ρ3 M' σ3 H' → Sat (Ψ0.more (Dl, cL acc')) (wipeE ρ vs) M' (L2.wipe σ vs) H' := fun {_ _ _ _ _ _} ⟨F, z⟩ => ⟨F, z.ex, z.fr, z.fr.2.wipes vs, z.nd, z.ce⟩
    cases b with
    | false =>
      rw [if_neg Bool.false_ne_true]
      exact ⟨acc, M2, h2 rfl, back (Φ' := Ψ) s5⟩
    | true =>
      rw [if_pos rfl]
      refine h1 rfl _ σ2 H3 _ s5 fun y M3 v H4 j4 s6 => ?_
      have ⟨F, s7⟩ := s6
      obtain ⟨o, e1, e0, ws, rfl, e3⟩ := s7.ce (Dl, cL acc) (List.mem_append_right _ List.mem_cons_self)
      refine ⟨ws, e1, ?_, acc ++ [y], M3, j4, back (Φ' := Ψ) (σ3 := σ2) (ρ3 := ρ'') ⟨F, ?_⟩⟩
      · rw [← Paired.length e3]
        have := hI i acc M' j
        have hz : sizeLine = 16777216 := sizeLine_eq
        omega
      · exact s7.put (Φ' := Ψ0.more (Dl, cL (acc ++ [y]))) (c := cL acc) (Put.behind .here M3) s7.fr.1 e0 ⟨e0, _, rfl, e3.append (.cons s7.fr.2 .nil)⟩
  · have ⟨F, s3⟩ := s'
    have s4 : SatF F (Ψ0.more (Dl, cL acc)) ρ M' σ H' := ⟨s3.ex, s3.fr, s3.fr.2, s3.nd, s3.ce⟩
    refine q (val (.ref Dl)) _ (.ref Dl) H' ⟨acc, Dl, M', rfl, j, rfl⟩ ⟨F, ?_⟩
    exact s4.outN.weak ⟨by show Φ.N.Sublist Ψ.N; exact l.n, fun F h => ⟨l.p F h.1, rfl⟩⟩
/-- data for each item that is let by, nothing else changes: a list of one's own -/
theorem er_lcCd {α : Type} {wi : TI} {g : TG} {tt : TT} {vs : List Nat} {e : α → VD} {xs : List α} {f : α → Bool} {r : α → PyData} (h : EvI wi ρ M (xs.map e) M1) (hl : xs.length ≤ 16000000)
    (hs : ∀ a, a ∈ xs → ∃ ρ'' js, Tgt g js (e a) (wipeE ρ vs) ρ'' ∧ (∀ i ∈ js, i ∈ vs) ∧ EvT tt ρ'' M1 (f a) M1 ∧ (f a = true → Ev te ρ'' M1 (dat (r a)) M1)) : EvR (tLc wi g tt te vs) ρ M fun y M' => ∃ D, y = val (.ref D) ∧ M' = (D, cLd ((xs.filter f).map r)) :: M1 := by
  have z := er_lcC (te := te) (g := g) (tt := tt) (vs := vs) h (fun i acc M' => M' = M1 ∧ acc = (((xs.take i).filter f).map r).map dat) ⟨rfl, rfl⟩ (by rw [List.length_map]; exact hl) (fun i acc M' ⟨_, e⟩ => by
    subst e
    rw [List.length_map, List.length_map]
    exact Nat.le_trans (List.length_filter_le _ _) (by rw [List.length_take]; omega)) fun i d acc M' hi ⟨e1, e2⟩ => by
    subst e1; subst e2
    rw [List.getElem?_map] at hi
    cases q : xs[i]? with
    | none => rw [q] at hi; cases hi
    | some a =>
      rw [q] at hi
      cases hi
      have htk : xs.take (i + 1) = xs.take i ++ [a] := by rw [List.take_succ, q]; rfl
      obtain ⟨ρ'', js, h1, hj, h2, h3⟩ := hs a (List.mem_of_getElem? q)
      refine ⟨ρ'', js, f a, M', h1, hj, h2, fun hf => (EvR.of (h3 hf)).imp fun y M3 ⟨z1, z2⟩ => ?_, fun hf => ⟨rfl, ?_⟩⟩
      · subst z1; subst z2
        refine ⟨rfl, ?_⟩
        rw [htk, List.filter_append, List.map_append, List.map_append, List.filter_cons_of_pos hf]
        rfl
      · rw [htk, List.filter_append, List.map_append, List.map_append, List.filter_cons_of_neg (by rw [hf]; exact Bool.false_ne_true)]
        simp
  intro Φ σ H Q s q
  refine z Φ σ H Q s fun y M' v H' ⟨acc, D, M'', e0, ⟨e1, e2⟩, e3⟩ s' => ?_
  subst e0; subst e1; subst e3
  rw [List.length_map, List.take_length] at e2
  subst e2
  exact q _ _ v H' ⟨D, rfl, rfl⟩ (s'.cell cL_cLd)
end
end Sx

set_option Elab.async false
set_option linter.all false
set_option maxRecDepth 100000
set_option maxHeartbeats 2000000
/-! Sx12: o.f += int; a list of one's own frozen in a field; exceptions, the cells in another order; sequences of data let by a comprehension. -/
namespace L2
open PySem PySem.Spec PyProof.Rows
/-- max(t), a tuple of ints -/
def rMaxT (K : PySem.W.Frag) : List V → Hp → VK → Prop := fun xs H Q => ∃ (a : Addr) (n : Int) (ns : List Int), xs = [.ref a] ∧ SqT K H a ((n :: ns).map V.int) ∧ Q (.int (ns.foldl max n)) H
theorem maxOf_int (n : Int) (ns : List Int) : PySem.W.maxOf n ns = ns.foldl max n := by
  unfold PySem.W.maxOf
  congr 1
  funext a y
  show (if decide (a < y) = true then y else a) = max a y
  by_cases h : a < y
  · rw [if_pos (decide_eq_true h)]; omega
  · rw [if_neg (by simpa using h)]; omega
theorem cr_maxT {X : Cx} (hc : X.calm = true) (hu : X.A.units + 64 < cLine) : CallR X (.builtin "max") (rMaxT X.K) := by
  intro pins s σ H vs us Q I r h
  obtain ⟨a, n, ns, rfl, hs, q⟩ := h
  obtain ⟨its, rv, hl, _⟩ := I.tuple hs
  rw [Vals.ref1 r]
  obtain ⟨as, hr⟩ := Dp.readsAll I _ _ its (Sx.dpAll_ints (n :: ns)) rv
  refine PySem.W.max_tuple_datum (α := Int) (x := n) (xs := ns) (I.ok.hd hc) hl ⟨as, hr⟩ (by show X.A.units + 1 + 0 < cLine; omega) fun i v h' tk hi hh hk => ?_
  obtain ⟨bs, hb⟩ := hh
  rw [maxOf_int] at hb
  cases hb
  exact ⟨.int _, H, I.kept hk, ⟨_, rfl⟩, q⟩
end L2
namespace Sx
open PySem L2 Evl
section
variable {K : PySem.W.Frag} {ρ ρ' : Env} {M M1 M2 M' : Cells} {x y : VD} {te ta tb tv : TE} {t : TA} {Φ : Fr} {p q C : Addr} {f : Str} {ns nn : List Str} {xs xs' : List VD} {D : Ends}
/-- o.f += j -/
theorem c_fldAug {i j : Int} (ho : Ev ta ρ M (val (.ref p)) M) (hm : (p, cI C ns xs) ∈ M) (hg : FGet f (dat (.int i)) ns xs) (hv : Ev tv ρ M (dat (.int j)) M) (h : Put p (cI C ns xs) (cI C ns xs') M M') (g : FPut f (dat (.int (i + j))) ns xs ns xs') (c : ClsF K C nn) (hf : f ∈ nn) (hl : ns.length < 1000) (k : Cont D.nx Φ ρ M') :
    Cont (sFldAug K ta tv rAdd f D) Φ ρ M := fun σ H s => ho Φ σ H _ s fun w H1 s1 => by
  have ⟨F, z⟩ := s1
  have e : w = .ref p := z.fr.2
  subst e
  obtain ⟨o, h1, h0, dx, fs, rfl, h3⟩ := z.at hm
  obtain ⟨v, h4, h5⟩ := hg.look h3
  cases h5
  refine ⟨p, C, dx, fs, _, rfl, h1, c.cl, c.no f hf, h4, hv _ σ H1 _ s1 fun u H2 s2 => ?_⟩
  have ⟨F2, z2⟩ := s2
  cases z2.fr.2
  obtain ⟨o2, k1, k0, dx2, fs2, rfl, k3⟩ := z2.at h.mem
  refine ⟨i, j, rfl, rfl, dx2, fs2, k1, by rw [k3.len]; exact hl, k σ _ ⟨F2, ?_⟩⟩
  exact (z2.put1 (o := .ins C dx2 (putF f (.int (i + j)) fs2)) h k0 ⟨k0, dx2, _, rfl, g.put (y := dat (.int (i + j))) (Rp.int _) k3⟩).weak (.of rfl fun F h => h.1.1)
theorem DA.setL {F : Hp} {d : VD} {v : V} (hd : d.P F v) : ∀ {ds : List VD} {vs : List V} {i : Nat}, DA F ds vs → vs[i]? = some v → DA F (ds.set i d) vs
  | _, _, _, .nil, h => by simp at h
  | _, _, 0, .cons h t, e => by
    cases Option.some.inj e
    exact .cons hd t
  | _, _, i + 1, .cons h t, e => .cons h (DA.setL hd t (by simpa using e))
/-- a list of one's own that stands in a field, and is not changed any more -/
theorem c_frzI {k : L2.St → Hp → Prop} {i : Nat} {ds : List PyData} (hi : xs[i]? = some (val (.ref q))) (kk : Cont k Φ ρ ((p, cI C ns (xs.set i (dat (.list ds)))) :: M)) : Cont k Φ ρ ((q, cLd ds) :: (p, cI C ns xs) :: M) := fun σ H s => by
  have ⟨F0, s0⟩ := s.cell (c' := cL (ds.map dat)) cLd_cL
  obtain ⟨F, z⟩ := SatF.freeze s0.inN
  refine kk σ H ⟨F, z.ex, z.fr.1, z.sl, z.nd, fun c hc => ?_⟩
  rcases List.mem_cons.mp hc with rfl | hc
  · obtain ⟨o, h1, h0, dx, fs, rfl, h2, h3⟩ := z.ce (p, cI C ns xs) List.mem_cons_self
    refine ⟨_, h1, h0, dx, fs, rfl, h2, ?_⟩
    obtain ⟨v, k1, k2⟩ := h3.get hi
    have e : v = .ref q := k2
    subst e
    exact DA.setL (vlst_dat.mp z.fr.2) h3 k1
  · exact z.ce c (List.mem_cons_of_mem _ hc)
theorem RtX.up {W : WX} {PE : Addr → Str → VD → Cells → Prop} (h : RtX W Φ (fun _ => PE)) : RtX W Φ (fun _ C f y N => ∃ N', N.Perm N' ∧ PE C f y N') := fun Φ' ρ σ C f y dd M H l ⟨N', h1, h2⟩ s => h Φ' ρ σ C f y dd N' H l h2 (s.perm (h1.cons _))
theorem rc_maxT {i j : Int} : RC (rMaxT K) [dat (.tuple [.int i, .int j])] M (dat (.int (max i j))) M := fun Φ ρ σ vs H Q ⟨F, s⟩ q => by
  obtain ⟨v, rfl, h1⟩ := rc1 (ds := []) s.fr.2
  cases h1 with
  | @tup a xs _ g1 g2 =>
    cases g2 with
    | cons q1 q2 =>
      cases q1
      cases q2 with
      | cons q3 q4 =>
        cases q3
        cases q4
        exact ⟨a, i, [j], rfl, .inl (.inl (s.ex _ _ g1)), q _ _ (Sat.ret (s.weak Le.andA) (.int _))⟩
theorem ei_lcM {α : Type} {r : α → PyData} {xs : List α} {te : TE} (h : Ev te ρ M (dat (.list (xs.map r))) M1) : EvI (iSeq K te) ρ M (xs.map fun a => dat (r a)) M1 := ei_seqLM h
end
end Sx

set_option Elab.async false
set_option linter.all false
set_option maxRecDepth 100000
set_option maxHeartbeats 4000000
/-! Sx13: sorted(set(xs)) of a list of ints; chains of three comparisons; list(range(..)), list(d.values()); sorted, min; more of lists. -/
namespace L2
open PySem PySem.Spec PyProof.Rows
/-- a set that was just begun -/
abbrev nso (w : World) : Obj := { cls := .type "set", dict := none, data := .set #[] 0 (.fresh 0 0 (!w.params.followText "set-order")) }
section
variable {P : Program} {w : World} {A : Around} {E : Value → Shared → Prop} {s : Shared}
set_option maxRecDepth 100000 in
theorem set_of_listI {l : Addr} {us : Array Value} (ns : List Int) {Q : Value → Shared → Prop} (hh : A.handled = none) (hl : s.heap.IsList l us) (hu : IntsAre us.toList ns) (hb : ns.length + 1 < scanBound)
    (k : ∀ (g : Heap) (tk c : Nat), SetR w g s.heap.objs.size (fun j => decide (j ∈ ns)) c → c ≤ ns.length → (∀ b o, s.heap.get? b = some o → g.get? b = some o) → Q (.ref s.heap.objs.size) { s with heap := g, toks := tk }) :
    wpAny (model P w) A (call (.type "set") [.ref l]) Q E s := by
  have many : us.size = ns.length := by have q := hu.length; rwa [Array.length_toList] at q
  have ⟨c, tl, m0⟩ := F.called_set.mro
  have m1 := F.called_set.made; have m2 := F.called_set.sub; have m3 := F.called_set.notType; have m4 := F.called_set.canCreate; have m5 := F.typeCall_set_1 (.ref l)
  refine wpAny_call (codeAny_of_tree (wpAny_pure ⟨Code.quiet_builtin _ (by decide +kernel), codeAny_builtin F.entry_type_call ?_⟩))
  rw [Around.under_plain (weight_type_call_type "set" [.ref l] []) rfl]
  repeat (any_goals (first | wp_step | assumption))
  refine codeAny_mono (code_set_led1 (.ref l) (E := E) (Q₁ := fun ob s1 => ob = .ref s.heap.objs.size ∧ s1 = { s with heap := s.heap.push (nso w) }) ⟨rfl, rfl⟩) fun r s1 hr => ?_
  rcases r with e | (_ | _ | _ | ob)
  · exact hr
  iterate 3 exact hr.elim
  obtain ⟨rfl, rfl⟩ := hr
  have at0 : (s.heap.push (nso w)).get? s.heap.objs.size = some (nso w) := Heap.get?_push_size _ rfl
  have ty0 : Shared.TypeIs { s with heap := s.heap.push (nso w) } (.ref s.heap.objs.size) "set" := ⟨_, at0, rfl⟩
  have m6 := F.called_set.init.lookup; have m7 := F.called_set.init.bind (.ref s.heap.objs.size)
  repeat (any_goals (first | wp_step | assumption))
  refine codeAny_mono (codeAny_call_builtin (R := wants (fun r s2 => r = .none ∧ ∃ g tk c, s2 = { s with heap := g, toks := tk } ∧ SetR w g s.heap.objs.size (fun j => decide (j ∈ ns)) c ∧ c ≤ ns.length ∧ ∀ b o, s.heap.get? b = some o → g.get? b = some o) E) F.called_set.init.plain F.entry_set_init (check_set_init_1 ty0 ?_)) fun r2 s2 hr2 => ?_
  · have ⟨⟨lc, ld, lda, ls⟩, hol, hcl, nl, hdl⟩ := hl
    simp only at hcl hdl; subst hcl; subst hdl
    have hol2 : (s.heap.push (nso w)).get? l = some { cls := .type "list", dict := ld, data := .seq us nl, slots := ls } := Heap.get?_push_of_some _ hol
    have m8 := F.sub_list_set; have m9 := F.sub_list_frozenset; have mA : (Value.type "list" == Value.type "dict") = false := by decide
    have li : (s.heap.push (nso w)).IsList l us := ⟨_, hol2, rfl, nl, rfl⟩
    unfold Builtin.«set.__init__» noKeywords Builtin.Frozenset.updateFrom; generalize hPI : pyIter = PI; wp_walk; subst hPI
    refine wpAny_pyIter_list li (wpAny_bind (wpAny_runValue ?_))
    have lt := Heap.lt_size hol; have n1 : (s.heap.push (nso w)).objs.size = s.heap.objs.size + 1 := Heap.size_push ..
    have d1 : ¬ l = (s.heap.push (nso w)).objs.size := n1 ▸ Nat.ne_of_lt (Nat.lt_succ_of_lt lt)
    have d2 : s.heap.objs.size ∉ [(s.heap.push (nso w)).objs.size, l] := by rw [n1]; intro z; rcases List.mem_cons.mp z with z | z; exact Nat.ne_of_lt (Nat.lt_succ_self _) z; exact Nat.ne_of_gt lt (List.mem_singleton.mp z)
    have vl : ∀ (i : Nat) (v : Value), us[i]? = some v → ∃ k t, ns[i]? = some k ∧ v = .int k t := fun i v hv => by
      have hi : i < ns.length := by have := (Array.getElem?_eq_some_iff.mp hv).1; omega
      have ⟨t, e⟩ := PyProof.Rows.IntsAre.int_at hu i v (by rw [Array.getElem?_toList, hv])
      exact ⟨ns[i], t, by simp [hi], by rw [e]; simp [hi]⟩
    refine set_update_ints ((Walks.list (show A.in1.in1.in1.handled = none by simp [hh]) _ l d1 us).toS) s.heap.objs.size d2 ns many hb vl (us.size - 0) 0 _ (by omega) (Nat.zero_le _) ⟨⟨_, Heap.get?_push_size _ rfl, rfl, rfl⟩, li.push _⟩ ⟨0, Nat.le_refl 0, setR_new_at (Heap.get?_push_of_some _ at0)⟩ ?_
    rintro ⟨g, g2, d, tk, os⟩ c2 mv hc2 hS
    obtain rfl : g2 = s.gens := mv.gens
    obtain rfl : d = s.drawn := mv.drawn
    obtain rfl : os = s.os := mv.os
    refine wpAny_pure ?_; show wpAny _ _ (ret Value.none) _ _ _
    refine wpAny_pure ⟨rfl, g, tk, c2, rfl, hS, many ▸ hc2, fun b o e => mv.heap b o ?_ (Heap.get?_push_of_some _ (Heap.get?_push_of_some _ e))⟩
    have bl := Heap.lt_size e; rw [n1]; intro z; rcases List.mem_cons.mp z with z | z; exact Nat.ne_of_lt bl z; exact Nat.ne_of_lt (Nat.lt_succ_of_lt bl) (List.mem_singleton.mp z)
  rcases r2 with e | (_ | _ | _ | ob)
  · exact hr2
  iterate 3 exact hr2.elim
  obtain ⟨rfl, g, tk, c2, rfl, z⟩ := hr2
  repeat (any_goals (first | wp_step | assumption))
  exact k _ _ _ z.1 z.2.1 z.2.2
end
section
variable {X : Cx} {a b c d e o : Expr} {ta tb tc td te : TE} {p p2 apos mpos pos pos2 : Pos}
/-- a reading closed by what follows -/
def tUp (t : TE) : TE := fun σ H Q => ∃ Q0 : VK, t σ H Q0 ∧ ∀ v H', Q0 v H' → Q v H'
theorem PE.up {t : TE} (h : PE X e t) : PE X e (tUp t) := ⟨fun pins s σ H Q I ⟨Q0, q, k⟩ => thn (h.run pins s σ H Q0 I q) fun v s1 ⟨x, H1, I1, r, z⟩ => ⟨x, H1, I1, r, k x H1 z⟩⟩
theorem PE.of {t t' : TE} (h : PE X e t) (k : ∀ σ H Q, t' σ H Q → t σ H Q) : PE X e t' := ⟨fun pins s σ H Q I q => h.run pins s σ H Q I (k σ H Q q)⟩
def rSetLI (K : PySem.W.Frag) (w : World) : List V → Hp → VK → Prop := fun vs H Q => ∃ (a : Addr) (ns : List Int), vs = [.ref a] ∧ SqL K H a (ns.map V.int) ∧ ns.length < 64 ∧ ∀ b n, n ≤ ns.length → H b = none → Q (.ref b) (upd H b (SetO w b (fun j => decide (j ∈ ns)) n))
theorem call_setLI (hc : X.calm = true) : CallR X (.type "set") (rSetLI X.K X.w) := by
  intro pins s σ H vs us Q I r h
  obtain ⟨a, ns, rfl, hs, h64, q⟩ := h
  obtain ⟨its, rv, hl, _⟩ := I.list hs
  rw [Vals.ref1 r]
  refine set_of_listI ns (I.ok.hd hc) hl.isList (by simpa using rv.ints) (by unfold scanBound; omega) fun g tk n hS hn hk => ?_
  exact ⟨.ref s.heap.objs.size, _, I.laid (t' := tk) hk (Nat.le_refl _) (setO_new hS), rfl, q _ n hn (I.hok.fresh (Nat.le_refl _))⟩
def tSortSet (K : PySem.W.Frag) (te : TE) : TE := fun σ H Q => te σ H fun x H1 => ∃ (a : Addr) (ns : List Int), x = .ref a ∧ SqL K H1 a (ns.map V.int) ∧ ns.length < 64 ∧ ∀ (ms : List Int) (b p : Addr) (u : HO), ms.Pairwise (· < ·) → (∀ j, j ∈ ms ↔ j ∈ ns) → H1 b = none → upd H1 b u p = none → Q (.ref p) (upd (upd H1 b u) p (.lst (ms.map V.int)))
theorem pe_sortSet (hc : X.calm = true) (g1 : Gl X "sorted") (n1 : X.mg "sorted" = none) (g2 : Gl X "set") (n2 : X.mg "set" = none) (he : PE X e te)
    (e1 : starEach [e] X.env = (false, eval e X.env) :: starEach [] X.env := by rfl) (e2 : starEach [Expr.Call (.Name "set" p2) [e] [] pos2] X.env = (false, eval (Expr.Call (.Name "set" p2) [e] [] pos2) X.env) :: starEach [] X.env := by rfl) :
    PE X (.Call (.Name "sorted" p) [.Call (.Name "set" p2) [e] [] pos2] [] pos) (tSortSet X.K te) := by
  have k1 : PE X (.Call (.Name "set" p2) [e] [] pos2) (tCB (rSetLI X.K X.w) (tCons (tUp te) tNil)) := pe_callTy (call_setLI hc) g2 n2 (by decide +kernel) (pa_cons he.up pa_nil e1) (by decide) (by decide) e1
  have k2 : PE X (.Call (.Name "sorted" p) [.Call (.Name "set" p2) [e] [] pos2] [] pos) (tCB (rSortedSet X.w) (tCons (tCB (rSetLI X.K X.w) (tCons (tUp te) tNil)) tNil)) := pe_callB (cr_sortedSet hc) g1 n1 (by decide +kernel) (pa_cons k1 pa_nil e2) (by decide) (by decide) e2
  refine k2.of fun σ H Q h => ⟨_, h, ?_⟩
  rintro v H' ⟨a, ns, rfl, hs, h64, q⟩
  exact ⟨a, ns, rfl, hs, h64, fun b n hn hb => ⟨b, _, n, rfl, upd_same, by omega, fun ms p h1 h2 _ hp => q ms b p _ h1 (fun j => by rw [h2]; exact decide_eq_true_iff) hb hp⟩⟩
/-- a op1 b op2 c op3 d -/
def tChain3 (r r' r'' : R2) (ta tb tc td : TE) : TE := fun σ H Q => ta σ H fun x H1 => tb σ H1 fun y H2 => r x y H2 fun z H3 => ∃ k, z = .bl k ∧
  (if k = true then tc σ H3 fun w H4 => r' y w H4 fun z2 H5 => ∃ k2, z2 = .bl k2 ∧ (if k2 = true then td σ H5 fun w2 H6 => r'' w w2 H6 Q else Q (.bl false) H5) else Q (.bl false) H3)
theorem pt_chain3 {op op' op'' : CmpOp} {r r' r'' : R2} (ho : OpR X (compareOp op) r) (ho' : OpR X (compareOp op') r') (ho'' : OpR X (compareOp op'') r'') (ha : PE X a ta) (hb : PE X b tb) (hc : PE X c tc) (hd : PE X d td)
    (hm : lastMarks [op, op', op''] [b, c, d] = false := by with_unfolding_all rfl) : PT X (.Compare a [op, op', op''] [b, c, d] pos) (tTest (tChain3 r r' r'' ta tb tc td)) := ⟨fun pins s σ H Q I h =>
  isTrue_chain (thn (ha.run pins s σ H _ I h) fun v s1 ⟨x, H1, I1, r1, q1⟩ => test_link (thn (hb.run pins s1 σ H1 _ I1 q1) fun u s2 ⟨y, H2, I2, r2, q2⟩ => thn (ho pins s2 σ H2 x y v u _ I2 r1 r2 q2) fun f s3 ⟨z, H3, I3, r3, k, e, q3⟩ => by
    subst e; cases r3
    refine wpAny_truthy_bool ?_
    cases k with
    | false => obtain ⟨k', e', q'⟩ := q3; cases e'; exact ite_ff ⟨H3, I3, q'⟩
    | true =>
      refine ite_tt (test_link (thn (hc.run pins s3 σ H3 _ I3 q3) fun w s4 ⟨z4, H4, I4, r4, q4⟩ => thn (ho' pins s4 σ H4 y z4 u w _ I4 r2 r4 q4) fun f2 s5 ⟨z5, H5, I5, r5, k2, e2, q5⟩ => ?_))
      subst e2; cases r5
      refine wpAny_truthy_bool ?_
      cases k2 with
      | false => obtain ⟨k', e', q'⟩ := q5; cases e'; exact ite_ff ⟨H5, I5, q'⟩
      | true =>
        refine ite_tt (test_last (thn (hd.run pins s5 σ H5 _ I5 q5) fun w2 s6 ⟨z6, H6, I6, r6, q6⟩ => thn (ho'' pins s6 σ H6 z4 z6 w w2 _ I6 r4 r6 q6) fun f3 s7 ⟨z7, H7, I7, r7, k3, e3, q7⟩ => ?_))
        subst e3; cases r7
        exact wpAny_truthy_bool ⟨H7, I7, q7⟩)) hm⟩
/-- list(o.values()) -/
def tListVals (td : TE) : TE := fun σ H Q => td σ H fun x H1 => ∃ a kvs, x = V.ref a ∧ H1 a = some (.dK kvs) ∧ ∀ p, H1 p = none → Q (.ref p) (upd H1 p (.lst (kvs.map (·.2))))
theorem pe_listVals (hc : X.calm = true) (hg : Gl X "list") (hm : X.mg "list" = none) (hd : PE X o td) (hbase : attributeBase o "values" X.env (eval o X.env) = eval o X.env := by rfl) (hline : (apos.endLine == mpos.line) = true := by rfl)
    (na : starEach [Expr.Call (.Attribute o "values" apos) [] [] mpos] X.env = (false, eval (Expr.Call (.Attribute o "values" apos) [] [] mpos) X.env) :: starEach [] X.env := by rfl) :
    PE X (.Call (.Name "list" p) [.Call (.Attribute o "values" apos) [] [] mpos] [] pos) (tListVals td) := ⟨fun pins s σ H Q I h => by
  refine Call_ (ld_blt I hg hm boot_list (PyProof.Rows.callWith_type1 (args_cons (wpAny_Call_method0_late hbase hline (thn (hd.run pins s σ H _ I h) fun v s1 ⟨x, H1, I1, r1, a, kvs, ex, ha, q⟩ => ?_)) na) na))
  subst ex
  cases r1
  have ⟨_, hsys, vs, rel, dof⟩ := dk_of I1.hok ha
  have ⟨ep, dat⟩ := dof.dictAt
  have ⟨ob, es, ho, ex, hdat, hko, hpr, hnd⟩ := dat
  refine ⟨"dict", "dict.values", F.plainAttrs_dict, F.slot_dict_values, F.type_dict_values, ⟨ob, ho, ex.1⟩, fun b e => by cases e; exact ⟨ob, ho, ex.2.1⟩, Calls.callWith_builtin rfl (PySem.evalArgs_none ?_)⟩
  refine call_meetsIn F.slot_dict_values ⟨ob, ho, ex.1⟩ F.entry_dict_values (F.args_dict_values_1 _) (meets_dict_values (mixKind X.prog X.w) a hsys) ⟨⟨vs, dof⟩, args_nil ?_⟩
  have old : ∀ b u, s1.heap.get? b = some u → (s1.heap.push { cls := .type "dict_values", data := .fields #[.ref a] }).get? b = some u := fun b u e => Heap.get?_push_of_some _ e
  have few : vs.length ≤ sizeLine := by have := KV.length rel; omega
  refine PySem.W.kdl_call (PySem.W.kdl_values (knd := mixKind X.prog X.w) (kvs := vs) (ep := ep)) (I.ok.hd hc) ⟨⟨_, Heap.get?_push_size _ rfl, rfl, rfl⟩, dat.keep old⟩ few fun g tk acc c hk hD hacc => ?_
  have new : H1 (s1.heap.push { cls := .type "dict_values", data := .fields #[.ref a] }).objs.size = none := I1.hok.fresh (by rw [Heap.size_push]; exact Nat.le_succ _)
  have rv : Vals (kvs.map (·.2)) acc.toList := by
    have hz : ∀ {ks : List (Key × V)} {us : List (Key × Value)} {ys : List Value}, KV ks us → ys.length = us.length → (∀ (j : Nat) (v : Value), ys[j]? = some v → ∃ k, us[j]? = some (k, v)) → Vals (ks.map (·.2)) ys := by
      intro ks us ys r
      induction r generalizing ys with
      | nil => intro hl _; cases ys with | nil => exact .nil | cons _ _ => simp at hl
      | cons h t ih =>
        intro hl hg
        cases ys with
        | nil => simp at hl
        | cons y ys =>
          obtain ⟨k, e⟩ := hg 0 y rfl
          cases Option.some.inj e
          exact .cons h.2 (ih (by simpa using hl) fun j v e => by simpa using hg (j + 1) v (by simpa using e))
    exact hz rel (by rw [Array.length_toList]; exact hacc.1) fun j v e => hacc.2 j v (by rw [← Array.getElem?_toList]; exact e)
  refine ⟨.ref _, upd H1 _ (.lst (kvs.map (·.2))), I1.laid (t' := tk) (fun b u e => hk b u (old b u e)) (by rw [Heap.size_push]; exact Nat.le_succ _) (show ObjOk X.prog X.w _ _ _ (.lst (kvs.map (·.2))) from ⟨by rw [List.length_map, KV.length rel]; exact few, acc.toList, c, rv, by rw [Array.toArray_toList]; exact hD⟩), rfl, q _ new⟩⟩
end
end L2

set_option Elab.async false
set_option linter.all false
set_option maxRecDepth 100000
set_option maxHeartbeats 2000000
/-! Sx14: the rules of Sx13 by descriptions; in, extend, sorted, min, reversed; d != {}. -/
namespace L2
open PySem PySem.Spec PyProof.Rows
/-- d != {} -/
def rNeEm : R2 := fun x y H Q => ∃ a b ks, x = .ref a ∧ y = .ref b ∧ H a = some (.dK ks) ∧ H b = some (.dK []) ∧ Q (.bl (!ks.isEmpty)) H
section
variable {X : Cx}
theorem op_neEm (hu : X.A.units + 64 < cLine) : OpR X (compareOp .NotEq) rNeEm := by
  intro pins s σ H x y v u Q I rx ry h
  obtain ⟨a, b, ks, rfl, rfl, ha, hb, q⟩ := h
  cases (show v = Value.ref a from rx)
  cases (show u = Value.ref b from ry)
  obtain ⟨_, ya, va, ra, da⟩ := dk_of I.hok ha
  obtain ⟨_, yb, vb, rb, db⟩ := dk_of I.hok hb
  cases rb
  refine PySem.W.keq_ne (knd := mixKind X.prog X.w) (r := true) ya yb da db (by omega) (fun e => ?_) ?_
  · have e2 : va = [] := List.length_eq_zero_iff.mp e
    subst e2
    exact .nil
  · have e : (!(va.length == ([] : List (Key × Value)).length && true)) = !ks.isEmpty := by
      have := KV.length ra
      cases ks with
      | nil => cases ra; rfl
      | cons k ks => cases ra; rfl
    rw [e]
    exact ⟨.bl _, H, I, rfl, q⟩
end
end L2
namespace Sx
open PySem L2 Evl
def rNeX (K : PySem.W.Frag) : R2 := fun x y H Q => rNeU K x y H Q ∨ rNeEm x y H Q
theorem op_neX {X : Cx} (hu : X.A.units + 64 < cLine) : OpR X (compareOp .NotEq) (rNeX X.K) := (op_neU hu).or (op_neEm hu)
/-! ### lists of ints, rising -/
def insR (x : Int) : List Int → List Int
  | [] => [x]
  | y :: r => if x < y then x :: y :: r else if x = y then y :: r else y :: insR x r
def rise (ns : List Int) : List Int := ns.foldr insR []
theorem mem_insR {x j : Int} : ∀ {l : List Int}, j ∈ insR x l ↔ j = x ∨ j ∈ l
  | [] => by simp [insR]
  | y :: r => by
    unfold insR
    split
    · simp
    · split
      · rename_i h; subst h; simp
      · rw [List.mem_cons, mem_insR (l := r), List.mem_cons]
        constructor
        · rintro (h | h | h)
          · exact .inr (.inl h)
          · exact .inl h
          · exact .inr (.inr h)
        · rintro (h | h | h)
          · exact .inr (.inl h)
          · exact .inl h
          · exact .inr (.inr h)
theorem rise_insR {x : Int} : ∀ {l : List Int}, l.Pairwise (· < ·) → (insR x l).Pairwise (· < ·)
  | [], _ => by simp [insR]
  | y :: r, h => by
    obtain ⟨h1, h2⟩ := List.pairwise_cons.mp h
    unfold insR
    split
    · refine List.pairwise_cons.mpr ⟨fun z hz => ?_, h⟩
      rcases List.mem_cons.mp hz with rfl | hz
      · assumption
      · have := h1 z hz; omega
    · split
      · exact h
      · refine List.pairwise_cons.mpr ⟨fun z hz => ?_, rise_insR h2⟩
        rcases mem_insR.mp hz with rfl | hz
        · omega
        · exact h1 z hz
theorem mem_rise {j : Int} : ∀ {ns : List Int}, j ∈ rise ns ↔ j ∈ ns
  | [] => Iff.rfl
  | x :: r => by
    show j ∈ insR x (rise r) ↔ _
    rw [mem_insR, mem_rise, List.mem_cons]
theorem rise_rises : ∀ ns : List Int, (rise ns).Pairwise (· < ·)
  | [] => .nil
  | x :: r => rise_insR (rise_rises r)
theorem rise_uniq : ∀ {xs ys : List Int}, xs.Pairwise (· < ·) → ys.Pairwise (· < ·) → (∀ j, j ∈ xs ↔ j ∈ ys) → xs = ys
  | [], [], _, _, _ => rfl
  | [], y :: ys, _, _, h => nomatch (h y).mpr List.mem_cons_self
  | x :: xs, [], _, _, h => nomatch (h x).mp List.mem_cons_self
  | x :: xs, y :: ys, h1, h2, h => by
    obtain ⟨a1, a2⟩ := List.pairwise_cons.mp h1
    obtain ⟨b1, b2⟩ := List.pairwise_cons.mp h2
    have e : x = y := by
      rcases List.mem_cons.mp ((h x).mp List.mem_cons_self) with e | e
      · exact e
      · rcases List.mem_cons.mp ((h y).mpr List.mem_cons_self) with e2 | e2
        · exact e2.symm
        · have := b1 x e; have := a1 y e2; omega
    subst e
    congr 1
    refine rise_uniq a2 b2 fun j => ⟨fun hj => ?_, fun hj => ?_⟩
    · rcases List.mem_cons.mp ((h j).mp (List.mem_cons_of_mem _ hj)) with e | e
      · have := a1 j hj; omega
      · exact e
    · rcases List.mem_cons.mp ((h j).mpr (List.mem_cons_of_mem _ hj)) with e | e
      · have := b1 j hj; omega
      · exact e
theorem rise_self {ns : List Int} : rise ns = ns ↔ ns.Pairwise (· < ·) := ⟨fun e => e ▸ rise_rises ns, fun h => rise_uniq (rise_rises ns) h fun _ => mem_rise⟩
section
variable {K : PySem.W.Frag} {ρ ρ' : Env} {M M1 M2 M3 M4 M' : Cells} {x y z w : VD} {te ta tb tc td : TE} {tt : TT} {t : TA} {p : Addr} {ns : List Int}
theorem ev_sortSet (h : Ev te ρ M x M1) (hx : IsLst x M1 (ns.map .int)) (hl : ns.length < 64) : Ev (tSortSet K te) ρ M (dat (.list ((rise ns).map .int))) M1 := fun Φ σ H Q s q => h Φ σ H _ s fun v H1 ⟨F, s1⟩ => by
  obtain ⟨a, ws, rfl, h1, h2⟩ := hx s1 s1.fr.2
  cases h2.ints
  refine ⟨a, ns, rfl, sq_of h1, hl, fun ms b p u m1 m2 hb hp => ?_⟩
  have e : ms = rise ns := rise_uniq m1 (rise_rises ns) fun j => by rw [m2, mem_rise]
  subst e
  have s2 := (s1.weak Le.and).newH (o := u) hb
  refine q _ _ (Sat.retNew s2 hp fun F' fx e => .lst e ?_)
  have hz : ∀ is : List Int, RpL F' (is.map V.int) (is.map PyData.int) := fun is => by
    induction is with
    | nil => exact .nil
    | cons i is ih => exact .cons (.int i) ih
  exact hz _
theorem rpl_ints {F : Hp} : ∀ is : List Int, RpL F (is.map V.int) (is.map PyData.int)
  | [] => .nil
  | i :: is => .cons (.int i) (rpl_ints is)
/-- sorted(xs), ints -/
theorem rc_sortI (hx : IsLst x M (ns.map .int)) : RC (rSortedI K) [x] M (dat (.list ((PySem.W.sortI ns).map .int))) M := fun Φ ρ σ vs H Q ⟨F, s⟩ q => by
  obtain ⟨v, rfl, h1⟩ := rc1 (ds := []) s.fr.2
  obtain ⟨a, ws, rfl, h2, h3⟩ := hx s h1
  cases h3.ints
  refine ⟨a, ns, rfl, sq_of h2, fun ms p m1 m2 hp => ?_⟩
  cases PySem.W.eq_sortI m1 m2
  exact q _ _ (Sat.retNew (s.weak Le.andA) hp fun F' fx e => .lst e (rpl_ints _))
/-- min(xs), ints -/
theorem rc_minI {m : Int} (hx : IsLst x M (ns.map .int)) (hm : m ∈ ns) (hle : ∀ j ∈ ns, m ≤ j) : RC (rMin K) [x] M (dat (.int m)) M := fun Φ ρ σ vs H Q ⟨F, s⟩ q => by
  obtain ⟨v, rfl, h1⟩ := rc1 (ds := []) s.fr.2
  obtain ⟨a, ws, rfl, h2, h3⟩ := hx s h1
  cases h3.ints
  refine ⟨a, ns, rfl, sq_of h2, List.length_pos_of_mem hm, fun i m1 m2 => ?_⟩
  have e : i = m := by have := m2 m hm; have := hle i m1; omega
  subst e
  exact q _ _ (Sat.ret (s.weak Le.andA) (.int _))
/-- list(range(i, j)) -/
theorem ev_listRg {i j : Int} (ha : Ev ta ρ M (dat (.int i)) M1) (hb : Ev tb ρ M1 (dat (.int j)) M2) (ok : RgOk i j) : Ev (tLstRg (tRg2 ta tb)) ρ M (dat (.list ((List.range (j - i).toNat).map fun k => .int (i + (k : Nat))))) M2 := fun Φ σ H Q s q =>
  ha Φ σ H _ s fun v H1 s1 => hb _ σ H1 _ s1 fun w H2 ⟨F, s2⟩ => by
    cases s2.fr.1.2
    cases s2.fr.2
    refine ⟨i, j, rfl, rfl, ok, fun p hp => q _ _ (Sat.retNew s2.base hp fun F' fx e => .lst e ?_)⟩
    have e1 : rgV i j = ((List.range (j - i).toNat).map fun k => i + ((k : Nat) : Int)).map V.int := by unfold rgV; rw [List.map_map]; rfl
    have e2 : ((List.range (j - i).toNat).map fun k => PyData.int (i + ((k : Nat) : Int))) = ((List.range (j - i).toNat).map fun k => i + ((k : Nat) : Int)).map PyData.int := by rw [List.map_map]; rfl
    rw [e1, e2]
    exact rpl_ints _
/-- list(d.values()), data -/
theorem ev_listVals {l : List (L2.Key × PyData)} (h : Ev td ρ M x M1) (hx : IsDu x M1 (dKs l)) : Ev (tListVals td) ρ M (dat (.list (l.map (·.2)))) M1 := fun Φ σ H Q s q => h Φ σ H _ s fun v H1 ⟨F, s1⟩ => by
  obtain ⟨a, vs, rfl, h1, h2⟩ := hx s1 s1.fr.2
  refine ⟨a, vs, rfl, h1, fun p hp => q _ _ (Sat.retNew (s1.weak Le.and) hp fun F' fx e => .lst e ?_)⟩
  have hz : ∀ {l : List (L2.Key × PyData)} {vs : List (L2.Key × V)}, DP F (dKs l) vs → RpL F (vs.map (·.2)) (l.map (·.2)) := by
    intro l
    induction l with
    | nil => intro vs h; cases h; exact .nil
    | cons p r ih =>
      intro vs h
      cases h with
      | cons g t => exact .cons g.2 (ih t)
  exact (hz h2).mono fx
/-- d != {} -/
theorem rv_neEm {ks : List (L2.Key × VD)} (hx : IsDu x M ks) : RV (rNeX K) x (vdi []) M (dat (.bool (!ks.isEmpty))) M := fun Φ ρ σ v w H Q ⟨F, s⟩ q => by
  obtain ⟨a, va, rfl, e1, d1⟩ := hx s s.fr.1.2
  obtain ⟨b, vb, rfl, e2, d2⟩ := s.fr.2
  cases d2
  refine .inr ⟨a, b, va, rfl, rfl, e1, s.ex _ _ e2, ?_⟩
  have e : (!va.isEmpty) = !ks.isEmpty := by cases d1 <;> rfl
  rw [e]
  exact q _ _ (Sat.ret s.base (.bl _))
/-- x in xs -/
theorem inV_str {i : Str} : ∀ {is : List Str}, inV (.str i) (is.map V.str) = decide (i ∈ is)
  | [] => rfl
  | j :: is => by
    have := inV_str (i := i) (is := is)
    unfold inV at this ⊢
    rw [List.map_cons, List.any_cons, this]
    by_cases h : i = j
    · subst h; simp [eqV]
    · have : eqV (.str j) (.str i) = false := beq_eq_false_iff_ne.mpr (Ne.symm h)
      rw [this]; simp [h]
theorem inV_int {i : Int} : ∀ {is : List Int}, inV (.int i) (is.map V.int) = decide (i ∈ is)
  | [] => rfl
  | j :: is => by
    have := inV_int (i := i) (is := is)
    unfold inV at this ⊢
    rw [List.map_cons, List.any_cons, this]
    by_cases h : i = j
    · subst h; simp [eqV]
    · have : eqV (.int j) (.int i) = false := beq_eq_false_iff_ne.mpr (Ne.symm h)
      rw [this]; simp [h]
theorem flat_strs : ∀ is : List Str, (is.map V.str).all flatV = true
  | [] => rfl
  | _ :: is => flat_strs is
theorem flat_ints : ∀ is : List Int, (is.map V.int).all flatV = true
  | [] => rfl
  | _ :: is => flat_ints is
theorem rv_inS {i : Str} {is : List Str} {neg : Bool} (hy : (IsTup y M (is.map .str)) ∨ IsLst y M (is.map .str)) : RV (rIn K neg) (dat (.str i)) y M (dat (.bool (if neg then !decide (i ∈ is) else decide (i ∈ is)))) M := fun Φ ρ σ v w H Q ⟨F, s⟩ q => by
  cases s.fr.1.2
  rcases hy with hy | hy
  · obtain ⟨a, ws, rfl, h1, h2⟩ := hy s s.fr.2
    cases h2.strs
    refine ⟨a, _, rfl, .inr (st_of h1), rfl, flat_strs is, ?_⟩
    rw [inV_str]
    exact q _ _ (Sat.ret s.base (.bl _))
  · obtain ⟨a, ws, rfl, h1, h2⟩ := hy s s.fr.2
    cases h2.strs
    refine ⟨a, _, rfl, .inl (sq_of h1), rfl, flat_strs is, ?_⟩
    rw [inV_str]
    exact q _ _ (Sat.ret s.base (.bl _))
theorem rv_inI {i : Int} {is : List Int} {neg : Bool} (hy : IsLst y M (is.map .int)) : RV (rIn K neg) (dat (.int i)) y M (dat (.bool (if neg then !decide (i ∈ is) else decide (i ∈ is)))) M := fun Φ ρ σ v w H Q ⟨F, s⟩ q => by
  cases s.fr.1.2
  obtain ⟨a, ws, rfl, h1, h2⟩ := hy s s.fr.2
  cases h2.ints
  refine ⟨a, _, rfl, .inl (sq_of h1), rfl, flat_ints is, ?_⟩
  rw [inV_int]
  exact q _ _ (Sat.ret s.base (.bl _))
/-- xs.extend(ys) -/
theorem rm_extend {ds es : List PyData} (h : Put p (cLd ds) (cLd (ds ++ es)) M M') (hl : ds.length + es.length ≤ sizeLine) : RM rExtend (val (.ref p)) [dat (.list es)] M vn M' := fun Φ ρ σ v vs H Q ⟨F, s⟩ q => by
  have e : v = .ref p := s.fr.1.2
  obtain ⟨u, rfl, hu⟩ := rc1 (ds := []) s.fr.2
  obtain ⟨b, us, rfl, g1, g2⟩ := isl_dat s hu
  obtain ⟨o, h1, h0, ws, rfl, h3⟩ := s.at h.mem
  refine ⟨p, b, ws, us, e, rfl, h1, g1, by rw [h3.length, g2.length]; exact hl, q .non _ ⟨F, ?_⟩⟩
  have s' := s.put1 (o := .lst (ws ++ us)) h h0 ⟨h0, _, rfl, h3.append g2⟩
  exact ⟨s'.ex, ⟨s'.fr.1.1, .non⟩, s'.sl, s'.nd, s'.ce⟩
/-- xs[::-1] -/
theorem ev_revL {ds : List PyData} (h : Ev te ρ M x M1) (hx : IsLst x M1 ds) : Ev (tRevL K te) ρ M (dat (.list ds.reverse)) M1 := fun Φ σ H Q s q => h Φ σ H _ s fun v H1 ⟨F, s1⟩ => by
  obtain ⟨a, ws, rfl, h1, h2⟩ := hx s1 s1.fr.2
  exact ⟨a, ws, rfl, sq_of h1, fun p hp => q _ _ (Sat.retNew (s1.weak Le.and) hp fun F' fx e => .lst e (h2.reverse.mono fx))⟩
/-- a < b < c < d -/
theorem ev_chain3 {r r' r'' : R2} {a b c : Bool} (h1 : Ev ta ρ M x M) (h2 : Ev tb ρ M y M) (hr : RV r x y M (dat (.bool a)) M) (h3 : a = true → Ev tc ρ M z M) (hr' : a = true → RV r' y z M (dat (.bool b)) M) (h4 : (a && b) = true → Ev td ρ M w M) (hr'' : (a && b) = true → RV r'' z w M (dat (.bool c)) M) :
    Ev (tChain3 r r' r'' ta tb tc td) ρ M (dat (.bool (a && (b && c)))) M := fun Φ σ H Q s q =>
  h1 Φ σ H _ s fun v H1 s1 => h2 _ σ H1 _ s1 fun u H2 s2 => by
    refine hr (Φ.and y u) ρ σ v u H2 _ (s2.weak (.of rfl fun F p => ⟨⟨⟨p.1.1, p.2⟩, p.1.2⟩, p.2⟩)) fun k H3 s3 => ?_
    have ⟨F, s4⟩ := s3
    cases s4.fr.2
    refine ⟨a, rfl, ?_⟩
    cases a with
    | false =>
      rw [if_neg Bool.false_ne_true]
      exact q _ H3 (s3.weak (.of rfl fun F p => ⟨p.1.1, p.2⟩))
    | true =>
      rw [if_pos rfl]
      refine h3 rfl _ σ H3 _ (s3.weak Le.and) fun k2 H4 s5 => ?_
      refine hr' rfl (Φ.and z k2) ρ σ u k2 H4 _ (s5.weak (.of rfl fun F p => ⟨⟨⟨p.1.1, p.2⟩, p.1.2⟩, p.2⟩)) fun k3 H5 s6 => ?_
      have ⟨F2, s7⟩ := s6
      cases s7.fr.2
      refine ⟨b, rfl, ?_⟩
      cases b with
      | false =>
        rw [if_neg Bool.false_ne_true]
        exact q _ H5 (s6.weak (.of rfl fun F p => ⟨p.1.1, p.2⟩))
      | true =>
        rw [if_pos rfl]
        exact h4 rfl _ σ H5 _ (s6.weak Le.and) fun k4 H6 s8 => hr'' rfl Φ ρ σ k2 k4 H6 Q s8 q
end
end Sx

set_option Elab.async false
set_option linter.all false
set_option maxRecDepth 100000
set_option maxHeartbeats 2000000
namespace Lw
open PySem L2 Sx
/-! ### the data: masts, rows, pieces -/
inductive Mt where
  | a
  | b
  | c
  | d
  | z
deriving DecidableEq
def mS : Mt → Str
  | .a => "a"
  | .b => "b"
  | .c => "c"
  | .d => "d"
  | .z => "zz"
def encM (m : Mt) : PyData := .str (mS m)
abbrev Row := List Mt
abbrev Rws := List Row
def encRow (r : Row) : PyData := .tuple (r.map encM)
structure Pc where
  m : Mt
  f : Nat
  l : Nat
deriving DecidableEq
def encPc (p : Pc) : PyData := .tuple [encM p.m, .int (p.f : Int), .int (p.l : Int)]
/-! ### the walks, as functions -/
def rowAt (rs : Rws) (t : Nat) : Row := rs.getD t []
def lasts (rs : Rws) (t : Nat) (m : Mt) : Nat := t + ((rs.drop (t + 1)).takeWhile fun r => decide (m ∈ r)).length
def bestOf (rs : Rws) (t : Nat) (b : Mt) (r : Row) : Mt := r.foldl (fun b m => if lasts rs t b < lasts rs t m then m else b) b
theorem lasts_ge (rs : Rws) (t : Nat) (m : Mt) : t ≤ lasts rs t m := Nat.le_add_right _ _
theorem lasts_lt {rs : Rws} {t : Nat} {m : Mt} (h : t < rs.length) : lasts rs t m < rs.length := by
  unfold lasts
  have h1 : ((rs.drop (t + 1)).takeWhile fun r => decide (m ∈ r)).length ≤ (rs.drop (t + 1)).length := (List.takeWhile_sublist _).length_le
  rw [List.length_drop] at h1
  omega
theorem tw_step {α : Type} (p : α → Bool) (xs : List α) : ∀ i, i < (xs.takeWhile p).length → ∃ x, xs[i]? = some x ∧ p x = true := by
  induction xs with
  | nil => intro i h; simp at h
  | cons y ys ih =>
    intro i h
    rw [List.takeWhile_cons] at h
    by_cases hy : p y = true
    · rw [if_pos hy] at h
      cases i with
      | zero => exact ⟨y, rfl, hy⟩
      | succ i => simpa using ih i (by simpa using h)
    · rw [if_neg hy] at h; simp at h
theorem tw_stop {α : Type} (p : α → Bool) (xs : List α) : ∀ x, xs[(xs.takeWhile p).length]? = some x → p x = false := by
  induction xs with
  | nil => intro x h; simp at h
  | cons y ys ih =>
    intro x h
    rw [List.takeWhile_cons] at h
    by_cases hy : p y = true
    · rw [if_pos hy] at h
      exact ih x (by simpa using h)
    · rw [if_neg hy] at h
      have e : y = x := by simpa using h
      subst e
      simpa using hy
theorem rowAt_drop (rs : Rws) (t i : Nat) : (rs.drop (t + 1))[i]? = rs[t + 1 + i]? := by rw [List.getElem?_drop]
theorem rowAt_get {rs : Rws} {t : Nat} {r : Row} (h : rs[t]? = some r) : rowAt rs t = r := by unfold rowAt; rw [List.getD_eq_getElem?_getD, h]; rfl
theorem rowAt_some {rs : Rws} {t : Nat} (h : t < rs.length) : rs[t]? = some (rowAt rs t) := by
  rw [List.getElem?_eq_getElem h]
  congr 1
  unfold rowAt
  rw [List.getD_eq_getElem?_getD, List.getElem?_eq_getElem h]
  rfl
/-- it stands in the rows that it lasts, behind the first -/
theorem lasts_in {rs : Rws} {t : Nat} {m : Mt} {u : Nat} (h1 : t < u) (h2 : u ≤ lasts rs t m) : m ∈ rowAt rs u := by
  unfold lasts at h2
  obtain ⟨r, hr, hp⟩ := tw_step (fun r : Row => decide (m ∈ r)) (rs.drop (t + 1)) (u - (t + 1)) (by omega)
  rw [rowAt_drop, show t + 1 + (u - (t + 1)) = u by omega] at hr
  rw [rowAt_get hr]
  exact of_decide_eq_true hp
theorem lasts_out {rs : Rws} {t : Nat} {m : Mt} (h : lasts rs t m + 1 < rs.length) : m ∉ rowAt rs (lasts rs t m + 1) := by
  have hr := rowAt_some h
  have := tw_stop (fun r : Row => decide (m ∈ r)) (rs.drop (t + 1)) (rowAt rs (lasts rs t m + 1)) (by
    rw [rowAt_drop]
    unfold lasts at hr ⊢
    rw [show t + 1 + ((rs.drop (t + 1)).takeWhile fun r => decide (m ∈ r)).length = t + ((rs.drop (t + 1)).takeWhile fun r => decide (m ∈ r)).length + 1 by omega]
    exact hr)
  exact of_decide_eq_false this
/-- it lasts at least to u, if it stands in all rows up to there -/
theorem lasts_all {rs : Rws} {t : Nat} {m : Mt} {u : Nat} (hu : u < rs.length) (h0 : t ≤ u) (h : ∀ v, t < v → v ≤ u → m ∈ rowAt rs v) : u ≤ lasts rs t m := by
  apply Nat.le_of_not_lt
  intro hlt
  have hge := lasts_ge rs t m
  exact lasts_out (rs := rs) (t := t) (m := m) (by omega) (h _ (by omega) (by omega))
/-- one step of the loop of lasts -/
theorem lasts_step {rs : Rws} {t : Nat} {m : Mt} : lasts rs t m = if t + 1 < rs.length ∧ m ∈ rowAt rs (t + 1) then lasts rs (t + 1) m else t := by
  by_cases h1 : t + 1 < rs.length
  · have hd : rs.drop (t + 1) = rowAt rs (t + 1) :: rs.drop (t + 2) := by
      rw [List.drop_eq_getElem_cons h1]
      congr 1
      unfold rowAt
      rw [List.getD_eq_getElem?_getD, List.getElem?_eq_getElem h1]
      rfl
    by_cases h2 : m ∈ rowAt rs (t + 1)
    · rw [if_pos ⟨h1, h2⟩]
      unfold lasts
      rw [hd, List.takeWhile_cons, if_pos (decide_eq_true h2), List.length_cons, show t + 1 + 1 = t + 2 from rfl]
      omega
    · rw [if_neg (fun h => h2 h.2)]
      unfold lasts
      rw [hd, List.takeWhile_cons, if_neg (by simpa using h2)]
      rfl
  · rw [if_neg (fun h => h1 h.1)]
    unfold lasts
    rw [List.drop_eq_nil_of_le (by omega)]
    rfl
theorem best_max {rs : Rws} {t : Nat} : ∀ (r : Row) (b : Mt), (bestOf rs t b r = b ∨ bestOf rs t b r ∈ r) ∧ lasts rs t b ≤ lasts rs t (bestOf rs t b r) ∧ ∀ m ∈ r, lasts rs t m ≤ lasts rs t (bestOf rs t b r)
  | [], b => ⟨.inl rfl, Nat.le_refl _, fun _ h => nomatch h⟩
  | m :: r, b => by
    have e : bestOf rs t b (m :: r) = bestOf rs t (if lasts rs t b < lasts rs t m then m else b) r := rfl
    rw [e]
    obtain ⟨h1, h2, h3⟩ := best_max r (if lasts rs t b < lasts rs t m then m else b)
    refine ⟨?_, ?_, fun x hx => ?_⟩
    · rcases h1 with h1 | h1
      · rw [h1]
        split
        · exact .inr List.mem_cons_self
        · exact .inl rfl
      · exact .inr (List.mem_cons_of_mem _ h1)
    · refine Nat.le_trans ?_ h2
      split <;> omega
    · rcases List.mem_cons.mp hx with rfl | hx
      · refine Nat.le_trans ?_ h2
        split <;> omega
      · exact h3 x hx
/-- the pieces from a tick on, as the greedy rule has them -/
inductive Gr (rs : Rws) : Nat → List Pc → Prop
  | nil {t : Nat} : (∀ u, t ≤ u → u < rs.length → rowAt rs u = []) → Gr rs t []
  | cons {t : Nat} {p : Pc} {ps : List Pc} : t ≤ p.f → p.f < rs.length → (∀ u, t ≤ u → u < p.f → rowAt rs u = []) → p.m ∈ rowAt rs p.f → p.l = lasts rs p.f p.m → (∀ m ∈ rowAt rs p.f, lasts rs p.f m ≤ p.l) → Gr rs (p.l + 1) ps → Gr rs t (p :: ps)
theorem Gr.skip {rs : Rws} {t : Nat} {ps : List Pc} (h : rowAt rs t = []) (g : Gr rs (t + 1) ps) : Gr rs t ps := by
  cases g with
  | nil h1 =>
    refine .nil fun u hu hl => ?_
    by_cases e : u = t
    · rw [e]; exact h
    · exact h1 u (by omega) hl
  | cons h1 h2 h3 h4 h5 h6 h7 =>
    refine .cons (by omega) h2 (fun u hu hl => ?_) h4 h5 h6 h7
    by_cases e : u = t
    · rw [e]; exact h
    · exact h3 u (by omega) hl
/-! ### fewest -/
structure Dp where
  r : Row
  v : Mt → Nat
  n : Nat
def lateV (s : Dp) (m : Mt) : Nat := min (if m ∈ s.r then s.v m else s.n + 1) (s.n + 1)
def minV (v : Mt → Nat) : Row → Nat
  | [] => 0
  | [m] => v m
  | m :: r => min (v m) (minV v r)
def stepD (s : Dp) (r : Row) : Dp := ⟨r, lateV s, if r = [] then s.n else minV (lateV s) r⟩
def dp0 : Dp := ⟨[], fun _ => 0, 0⟩
def fewest (rs : Rws) : Nat := (rs.foldl stepD dp0).n
theorem minV_le {v : Mt → Nat} : ∀ {r : Row} {m : Mt}, m ∈ r → minV v r ≤ v m
  | [x], m, h => by cases List.mem_singleton.mp h; exact Nat.le_refl _
  | x :: y :: r, m, h => by
    show min (v x) (minV v (y :: r)) ≤ v m
    rcases List.mem_cons.mp h with rfl | h
    · exact Nat.min_le_left _ _
    · exact Nat.le_trans (Nat.min_le_right _ _) (minV_le h)
theorem minV_mem {v : Mt → Nat} : ∀ {r : Row}, r ≠ [] → ∃ m ∈ r, minV v r = v m
  | [], h => absurd rfl h
  | [x], _ => ⟨x, List.mem_cons_self, rfl⟩
  | x :: y :: r, _ => by
    obtain ⟨m, hm, e⟩ := minV_mem (v := v) (r := y :: r) (by simp)
    by_cases h : v x ≤ minV v (y :: r)
    · exact ⟨x, List.mem_cons_self, by show min _ _ = _; omega⟩
    · exact ⟨m, List.mem_cons_of_mem _ hm, by show min _ _ = _; omega⟩
/-- where it stands behind tick t, between pieces: c pieces so far, none that lasts can go on into tick t -/
structure Btw (rs : Rws) (t c : Nat) (s : Dp) : Prop where
  n : s.n = c
  v : ∀ m ∈ s.r, s.v m = c → t < rs.length → m ∉ rowAt rs t
  w : ∀ m ∈ s.r, c ≤ s.v m
/-- within a piece that began at f -/
structure Wit (rs : Rws) (p : Pc) (t c : Nat) (s : Dp) : Prop where
  n : s.n = c
  r : s.r = rowAt rs t
  v : ∀ m ∈ s.r, s.v m = if t ≤ lasts rs p.f m ∧ m ∈ rowAt rs p.f then c else c + 1
def dpAt (rs : Rws) (t : Nat) : Dp := (rs.take t).foldl stepD dp0
theorem dpAt_succ {rs : Rws} {t : Nat} (h : t < rs.length) : dpAt rs (t + 1) = stepD (dpAt rs t) (rowAt rs t) := by
  unfold dpAt
  rw [List.take_succ, rowAt_some h, List.foldl_append]
  rfl
theorem btw_skip {rs : Rws} {t c : Nat} (h : t < rs.length) (b : Btw rs t c (dpAt rs t)) (he : rowAt rs t = []) : Btw rs (t + 1) c (dpAt rs (t + 1)) := by
  rw [dpAt_succ h, he]
  exact ⟨by show (dpAt rs t).n = c; exact b.n, (fun _ h => nomatch h), fun _ h => nomatch h⟩
theorem btw_skips {rs : Rws} {t c u : Nat} (b : Btw rs t c (dpAt rs t)) (h : ∀ v, t ≤ v → v < u → v < rs.length ∧ rowAt rs v = []) (hu : t ≤ u) : Btw rs u c (dpAt rs u) := by
  obtain ⟨k, rfl⟩ : ∃ k, u = t + k := ⟨u - t, by omega⟩
  induction k with
  | zero => exact b
  | succ k ih =>
    have q := ih (fun v h1 h2 => h v h1 (by omega)) (by omega)
    have z := h (t + k) (by omega) (by omega)
    exact btw_skip z.1 q z.2
theorem wit_start {rs : Rws} {p : Pc} {c : Nat} (h : p.f < rs.length) (hm : p.m ∈ rowAt rs p.f) (b : Btw rs p.f c (dpAt rs p.f)) : Wit rs p p.f (c + 1) (dpAt rs (p.f + 1)) := by
  have hv : ∀ m ∈ rowAt rs p.f, lateV (dpAt rs p.f) m = c + 1 := fun m hm => by
    unfold lateV
    rw [b.n]
    split
    · rename_i hr
      have h1 := b.w m hr
      have h2 := b.v m hr
      have : (dpAt rs p.f).v m ≠ c := fun e => h2 e h hm
      omega
    · omega
  rw [dpAt_succ h]
  refine ⟨?_, rfl, fun m hm' => ?_⟩
  · show (if rowAt rs p.f = [] then _ else minV (lateV (dpAt rs p.f)) (rowAt rs p.f)) = c + 1
    rw [if_neg (fun e => by rw [e] at hm; cases hm)]
    obtain ⟨x, hx, e⟩ := minV_mem (v := lateV (dpAt rs p.f)) (r := rowAt rs p.f) (fun e => by rw [e] at hm; cases hm)
    rw [e, hv x hx]
  · show lateV (dpAt rs p.f) m = _
    rw [hv m hm', if_pos ⟨lasts_ge _ _ _, hm'⟩]
theorem wit_step {rs : Rws} {p : Pc} {t c : Nat} (hl : p.l = lasts rs p.f p.m) (hm : p.m ∈ rowAt rs p.f) (hf : p.f ≤ t) (ht : t + 1 ≤ p.l) (hlen : t + 1 < rs.length) (w : Wit rs p t c (dpAt rs (t + 1))) : Wit rs p (t + 1) c (dpAt rs (t + 2)) := by
  have hv : ∀ m ∈ rowAt rs (t + 1), lateV (dpAt rs (t + 1)) m = if t + 1 ≤ lasts rs p.f m ∧ m ∈ rowAt rs p.f then c else c + 1 := fun m hm' => by
    unfold lateV
    rw [w.n]
    by_cases hr : m ∈ (dpAt rs (t + 1)).r
    · rw [if_pos hr, w.v m hr]
      have hiff : (t ≤ lasts rs p.f m ∧ m ∈ rowAt rs p.f) ↔ (t + 1 ≤ lasts rs p.f m ∧ m ∈ rowAt rs p.f) := by
        constructor
        · rintro ⟨h1, h2⟩
          refine ⟨lasts_all hlen (by omega) fun v h3 h4 => ?_, h2⟩
          by_cases e : v = t + 1
          · rw [e]; exact hm'
          · exact lasts_in h3 (by omega)
        · rintro ⟨h1, h2⟩
          exact ⟨by omega, h2⟩
      by_cases q : t ≤ lasts rs p.f m ∧ m ∈ rowAt rs p.f
      · rw [if_pos q, if_pos (hiff.mp q)]; omega
      · rw [if_neg q, if_neg (fun z => q (hiff.mpr z))]; omega
    · rw [if_neg hr, if_neg ?_]
      · omega
      · rintro ⟨h1, h2⟩
        rw [w.r] at hr
        apply hr
        by_cases e : t = p.f
        · rw [e]; exact h2
        · exact lasts_in (t := p.f) (by omega) (by omega)
  have hpm : p.m ∈ rowAt rs (t + 1) := lasts_in (t := p.f) (by omega) (by omega)
  rw [dpAt_succ (t := t + 1) hlen]
  refine ⟨?_, rfl, fun m hm' => hv m hm'⟩
  show (if rowAt rs (t + 1) = [] then _ else minV (lateV (dpAt rs (t + 1))) (rowAt rs (t + 1))) = c
  rw [if_neg (fun e => by rw [e] at hpm; cases hpm)]
  have h1 := minV_le (v := lateV (dpAt rs (t + 1))) hpm
  rw [hv p.m hpm, if_pos ⟨by omega, hm⟩] at h1
  obtain ⟨x, hx, e⟩ := minV_mem (v := lateV (dpAt rs (t + 1))) (r := rowAt rs (t + 1)) (fun e => by rw [e] at hpm; cases hpm)
  have h2 := hv x hx
  rw [e] at h1 ⊢
  split at h2 <;> omega
theorem wit_end {rs : Rws} {p : Pc} {c : Nat} (hmax : ∀ m ∈ rowAt rs p.f, lasts rs p.f m ≤ p.l) (hge : p.f ≤ p.l) (w : Wit rs p p.l c (dpAt rs (p.l + 1))) : Btw rs (p.l + 1) c (dpAt rs (p.l + 1)) := by
  refine ⟨w.n, fun m hm e hlt hin => ?_, fun m hm => by rw [w.v m hm]; split <;> omega⟩
  rw [w.v m hm] at e
  split at e
  · rename_i q
    have h1 := hmax m q.2
    have h2 := lasts_out (rs := rs) (t := p.f) (m := m)
    have e2 : lasts rs p.f m = p.l := by omega
    rw [e2] at h2
    exact h2 hlt hin
  · omega
theorem fewest_gr {rs : Rws} : ∀ {ps : List Pc} {t c : Nat}, Gr rs t ps → t ≤ rs.length → Btw rs t c (dpAt rs t) → fewest rs = c + ps.length
  | [], t, c, g, ht, b => by
    cases g with
    | nil h =>
      have q := btw_skips (u := rs.length) b (fun v h1 h2 => ⟨h2, h v h1 h2⟩) ht
      have e : dpAt rs rs.length = rs.foldl stepD dp0 := by unfold dpAt; rw [List.take_length]
      rw [e] at q
      exact q.n
  | p :: ps, t, c, g, ht, b => by
    cases g with
    | cons h1 h2 h3 h4 h5 h6 h7 =>
      have hlt : p.l < rs.length := by rw [h5]; exact lasts_lt h2
      have hge : p.f ≤ p.l := by rw [h5]; exact lasts_ge _ _ _
      have q := btw_skips (u := p.f) b (fun v a1 a2 => ⟨by omega, h3 v a1 a2⟩) h1
      have w := wit_start h2 h4 q
      have ws : ∀ k, p.f + k ≤ p.l → Wit rs p (p.f + k) (c + 1) (dpAt rs (p.f + k + 1)) := by
        intro k
        induction k with
        | zero => intro _; exact w
        | succ k ih =>
          intro hk
          exact wit_step (t := p.f + k) h5 h4 (by omega) (by omega) (by omega) (ih (by omega))
      have we := ws (p.l - p.f) (by omega)
      rw [show p.f + (p.l - p.f) = p.l by omega] at we
      have := fewest_gr h7 (by omega) (wit_end h6 hge we)
      rw [this, List.length_cons]
      omega
theorem fewest_is {rs : Rws} {ps : List Pc} (g : Gr rs 0 ps) : fewest rs = ps.length := by
  have := fewest_gr (c := 0) g (Nat.zero_le _) ⟨rfl, (fun _ h => nomatch h), fun _ h => nomatch h⟩
  omega

/-! ### what covers -/
def rng (f l : Nat) : List Nat := (List.range (l + 1 - f)).map (f + ·)
def inAll (rs : Rws) (m : Mt) (f l : Nat) : Bool := (rng f l).all fun t => decide (m ∈ rowAt rs t)
def chainP (rs : Rws) (h : Int) (p : Pc) : Bool := decide (h < (p.f : Int)) && (decide (p.f ≤ p.l) && decide (p.l < rs.length))
def covS (rs : Rws) : Int × List Nat → List Pc → Option (Int × List Nat)
  | st, [] => some st
  | st, p :: ps => if chainP rs st.1 p = true ∧ inAll rs p.m p.f p.l = true then covS rs ((p.l : Int), st.2 ++ rng p.f p.l) ps else none
def fullF (rs : Rws) (t : Nat) : List Nat := ((List.range (rs.length - t)).map (t + ·)).filter fun u => decide (rowAt rs u ≠ [])
def covers (rs : Rws) (ps : List Pc) : Bool := match covS rs (-1, []) ps with
  | none => false
  | some st => decide (st.2 = fullF rs 0)
theorem mem_rng {f l u : Nat} : u ∈ rng f l ↔ f ≤ u ∧ u ≤ l := by
  unfold rng
  rw [List.mem_map]
  constructor
  · rintro ⟨i, hi, rfl⟩
    have := List.mem_range.mp hi
    omega
  · rintro ⟨h1, h2⟩
    exact ⟨u - f, List.mem_range.mpr (by omega), by omega⟩
theorem range_split (t n k : Nat) : (List.range (n + k)).map (t + ·) = (List.range n).map (t + ·) ++ (List.range k).map (t + n + ·) := by
  rw [List.range_add, List.map_append, List.map_map]
  congr 1
  apply List.map_congr_left
  intro i _
  show t + (n + i) = t + n + i
  omega
theorem fullF_at {rs : Rws} {t u : Nat} (h1 : t ≤ u) (h2 : u ≤ rs.length) : fullF rs t = (((List.range (u - t)).map (t + ·)).filter fun v => decide (rowAt rs v ≠ [])) ++ fullF rs u := by
  unfold fullF
  rw [show rs.length - t = (u - t) + (rs.length - u) by omega, range_split, List.filter_append, show t + (u - t) = u by omega]
theorem fullF_ge {rs : Rws} {t u : Nat} (h : u ∈ fullF rs t) : t ≤ u := by
  obtain ⟨i, _, rfl⟩ := List.mem_map.mp (List.mem_filter.mp h).1
  exact Nat.le_add_right _ _
theorem full_mem {rs : Rws} {u : Nat} (h : u < rs.length) (h2 : rowAt rs u ≠ []) : u ∈ fullF rs 0 := List.mem_filter.mpr ⟨List.mem_map.mpr ⟨u, List.mem_range.mpr (by omega), by omega⟩, decide_eq_true h2⟩
theorem inAll_self {rs : Rws} {p : Pc} (h1 : p.m ∈ rowAt rs p.f) (h2 : p.l = lasts rs p.f p.m) : inAll rs p.m p.f p.l = true := by
  unfold inAll
  rw [List.all_eq_true]
  intro u hu
  obtain ⟨a, b⟩ := mem_rng.mp hu
  refine decide_eq_true ?_
  by_cases e : u = p.f
  · rw [e]; exact h1
  · exact lasts_in (t := p.f) (by omega) (by omega)
theorem cov_gr {rs : Rws} : ∀ {ps : List Pc} {t : Nat} {h : Int} {ts : List Nat}, Gr rs t ps → t ≤ rs.length → h < (t : Int) → ∃ h', covS rs (h, ts) ps = some (h', ts ++ fullF rs t)
  | [], t, h, ts, g, ht, hh => by
    cases g with
    | nil h1 =>
      refine ⟨h, ?_⟩
      have e : fullF rs t = [] := by
        rw [fullF_at (u := rs.length) ht (Nat.le_refl _)]
        rw [List.append_eq_nil_iff]
        constructor
        · rw [List.filter_eq_nil_iff]
          intro v hv
          obtain ⟨i, hi, rfl⟩ := List.mem_map.mp hv
          have := List.mem_range.mp hi
          simp [h1 (t + i) (by omega) (by omega)]
        · unfold fullF
          rw [Nat.sub_self]
          rfl
      rw [e, List.append_nil]
      rfl
  | p :: ps, t, h, ts, g, ht, hh => by
    cases g with
    | cons h1 h2 h3 h4 h5 h6 h7 =>
      have hlt : p.l < rs.length := by rw [h5]; exact lasts_lt h2
      have hge : p.f ≤ p.l := by rw [h5]; exact lasts_ge _ _ _
      have hin := inAll_self h4 h5
      have hc : chainP rs h p = true := by
        unfold chainP
        rw [decide_eq_true (show h < (p.f : Int) by omega), decide_eq_true hge, decide_eq_true hlt]
        rfl
      obtain ⟨h', e⟩ := cov_gr (ts := ts ++ rng p.f p.l) (h := (p.l : Int)) h7 (by omega) (by omega)
      refine ⟨h', ?_⟩
      rw [show covS rs (h, ts) (p :: ps) = covS rs ((p.l : Int), ts ++ rng p.f p.l) ps from if_pos ⟨hc, hin⟩, e, List.append_assoc]
      congr 3
      rw [fullF_at (u := p.f) h1 (by omega), fullF_at (u := p.l + 1) (t := p.f) (by omega) (by omega), ← List.append_assoc]
      congr 1
      have ea : (((List.range (p.f - t)).map (t + ·)).filter fun v => decide (rowAt rs v ≠ [])) = [] := by
        rw [List.filter_eq_nil_iff]
        intro v hv
        obtain ⟨i, hi, rfl⟩ := List.mem_map.mp hv
        have := List.mem_range.mp hi
        simp [h3 (t + i) (by omega) (by omega)]
      rw [ea, List.nil_append]
      symm
      show (rng p.f p.l).filter _ = rng p.f p.l
      rw [List.filter_eq_self]
      intro v hv
      have := List.all_eq_true.mp hin v hv
      refine decide_eq_true fun e => ?_
      rw [e] at this
      simp at this
theorem cov_app {rs : Rws} : ∀ (ps qs : List Pc) (st : Int × List Nat), covS rs st (ps ++ qs) = (covS rs st ps).bind fun st' => covS rs st' qs
  | [], _, _ => rfl
  | p :: ps, qs, st => by
    show (if chainP rs st.1 p = true ∧ inAll rs p.m p.f p.l = true then covS rs _ (ps ++ qs) else none) = _
    by_cases h : chainP rs st.1 p = true ∧ inAll rs p.m p.f p.l = true
    · rw [if_pos h, cov_app ps qs, show covS rs st (p :: ps) = covS rs ((p.l : Int), st.2 ++ rng p.f p.l) ps from if_pos h]
    · rw [if_neg h, show covS rs st (p :: ps) = none from if_neg h]
      rfl
theorem cov_ge {rs : Rws} : ∀ (ps : List Pc) (st st' : Int × List Nat), covS rs st ps = some st' → st.1 ≤ st'.1
  | [], st, st', h => by cases h; exact Int.le_refl _
  | p :: ps, st, st', h => by
    by_cases q : chainP rs st.1 p = true ∧ inAll rs p.m p.f p.l = true
    · rw [show covS rs st (p :: ps) = covS rs ((p.l : Int), st.2 ++ rng p.f p.l) ps from if_pos q] at h
      have := cov_ge ps _ _ h
      have hc := q.1
      simp only [chainP, Bool.and_eq_true, decide_eq_true_eq] at hc
      show st.1 ≤ _
      have : (p.l : Int) ≤ st'.1 := this
      omega
    · rw [show covS rs st (p :: ps) = none from if_neg q] at h
      cases h
theorem covers_gr {rs : Rws} {ps : List Pc} (g : Gr rs 0 ps) : covers rs ps = true := by
  obtain ⟨h', e⟩ := cov_gr (h := -1) (ts := []) g (Nat.zero_le _) (by decide)
  unfold covers
  rw [e]
  exact decide_eq_true (List.nil_append _)
theorem covers_some {rs : Rws} {ps : List Pc} (h : covers rs ps = true) : ∃ h', covS rs (-1, []) ps = some (h', fullF rs 0) := by
  unfold covers at h
  cases e : covS rs (-1, []) ps with
  | none => rw [e] at h; cases h
  | some st =>
    rw [e] at h
    obtain ⟨a, b⟩ := st
    have : b = fullF rs 0 := of_decide_eq_true h
    subst this
    exact ⟨a, rfl⟩
/-- another mast for one piece -/
theorem covers_changed {rs : Rws} {pre post : List Pc} {p : Pc} {m : Mt} (h : covers rs (pre ++ p :: post) = true) : covers rs (pre ++ ⟨m, p.f, p.l⟩ :: post) = inAll rs m p.f p.l := by
  obtain ⟨h', e⟩ := covers_some h
  rw [cov_app] at e
  cases q : covS rs (-1, []) pre with
  | none => rw [q] at e; cases e
  | some st =>
    rw [q] at e
    have e2 : covS rs st (p :: post) = some (h', fullF rs 0) := e
    have hc : chainP rs st.1 p = true ∧ inAll rs p.m p.f p.l = true := by
      by_cases hc : chainP rs st.1 p = true ∧ inAll rs p.m p.f p.l = true
      · exact hc
      · rw [show covS rs st (p :: post) = none from if_neg hc] at e2; cases e2
    rw [show covS rs st (p :: post) = covS rs ((p.l : Int), st.2 ++ rng p.f p.l) post from if_pos hc] at e2
    unfold covers
    rw [cov_app, q]
    show (match covS rs st (⟨m, p.f, p.l⟩ :: post) with | none => false | some st => decide (st.2 = fullF rs 0)) = _
    by_cases hm : inAll rs m p.f p.l = true
    · rw [show covS rs st (⟨m, p.f, p.l⟩ :: post) = covS rs ((p.l : Int), st.2 ++ rng p.f p.l) post from if_pos ⟨hc.1, hm⟩, e2, hm]
      exact decide_eq_true rfl
    · rw [show covS rs st (⟨m, p.f, p.l⟩ :: post) = none from if_neg fun z => hm z.2]
      show false = _
      cases h : inAll rs m p.f p.l
      · rfl
      · exact absurd h hm
/-! spoilt pieces -/
theorem spoilt_tail {rs : Rws} {ps : List Pc} (g : Gr rs 0 ps) (hne : ps.tail ≠ ps) : covers rs ps.tail = false := by
  cases ps with
  | nil => exact absurd rfl hne
  | cons p ps =>
    cases g with
    | cons h1 h2 h3 h4 h5 h6 h7 =>
      have hlt : p.l < rs.length := by rw [h5]; exact lasts_lt h2
      have hge : p.f ≤ p.l := by rw [h5]; exact lasts_ge _ _ _
      obtain ⟨h', e⟩ := cov_gr (h := -1) (ts := []) h7 (by omega) (by omega)
      show covers rs ps = false
      unfold covers
      rw [e]
      refine decide_eq_false fun z => ?_
      have hm := full_mem h2 (fun e => by rw [e] at h4; cases h4)
      rw [List.nil_append] at z
      rw [← z] at hm
      have := fullF_ge hm
      omega
theorem spoilt_init {rs : Rws} {ps : List Pc} {q : Pc} (h : covers rs (ps ++ [q]) = true) : covers rs ps = false := by
  obtain ⟨h', e⟩ := covers_some h
  rw [cov_app] at e
  cases z : covS rs (-1, []) ps with
  | none => rw [z] at e; cases e
  | some st =>
    rw [z] at e
    have e2 : covS rs st [q] = some (h', fullF rs 0) := e
    have hc : chainP rs st.1 q = true ∧ inAll rs q.m q.f q.l = true := by
      by_cases hc : chainP rs st.1 q = true ∧ inAll rs q.m q.f q.l = true
      · exact hc
      · rw [show covS rs st [q] = none from if_neg hc] at e2; cases e2
    rw [show covS rs st [q] = some ((q.l : Int), st.2 ++ rng q.f q.l) from if_pos hc] at e2
    have e3 : st.2 ++ rng q.f q.l = fullF rs 0 := by
      have := Option.some.inj e2
      exact congrArg Prod.snd this
    unfold covers
    rw [z]
    refine decide_eq_false fun y => ?_
    have hl := congrArg List.length e3
    rw [List.length_append, y] at hl
    have hc1 := hc.1
    simp only [chainP, Bool.and_eq_true, decide_eq_true_eq] at hc1
    have : (rng q.f q.l).length = q.l + 1 - q.f := by unfold rng; rw [List.length_map, List.length_range]
    omega
theorem spoilt_rev {rs : Rws} {ps : List Pc} (h : covers rs ps = true) (hne : ps.reverse ≠ ps) : covers rs ps.reverse = false := by
  obtain ⟨h', e⟩ := covers_some h
  obtain ⟨pre, r, q, rfl⟩ : ∃ pre r q, ps = pre ++ [r, q] := by
    rcases List.eq_nil_or_concat ps with rfl | ⟨l, q, rfl⟩
    · exact absurd rfl hne
    · rcases List.eq_nil_or_concat l with rfl | ⟨l, r, rfl⟩
      · exact absurd rfl hne
      · exact ⟨l, r, q, by simp⟩
  rw [cov_app] at e
  cases z : covS rs (-1, []) pre with
  | none => rw [z] at e; cases e
  | some st =>
    rw [z] at e
    have e2 : covS rs st [r, q] = some (h', fullF rs 0) := e
    have hc : chainP rs st.1 r = true ∧ inAll rs r.m r.f r.l = true := by
      by_cases hc : chainP rs st.1 r = true ∧ inAll rs r.m r.f r.l = true
      · exact hc
      · rw [show covS rs st [r, q] = none from if_neg hc] at e2; cases e2
    rw [show covS rs st [r, q] = covS rs ((r.l : Int), st.2 ++ rng r.f r.l) [q] from if_pos hc] at e2
    have hc2 : chainP rs (r.l : Int) q = true := by
      by_cases hc : chainP rs (r.l : Int) q = true ∧ inAll rs q.m q.f q.l = true
      · exact hc.1
      · rw [show covS rs ((r.l : Int), st.2 ++ rng r.f r.l) [q] = none from if_neg hc] at e2; cases e2
    have hc1 := hc.1
    simp only [chainP, Bool.and_eq_true, decide_eq_true_eq] at hc1 hc2
    have er : (pre ++ [r, q]).reverse = q :: r :: pre.reverse := by simp
    rw [er]
    unfold covers
    have : covS rs (-1, []) (q :: r :: pre.reverse) = none := by
      by_cases a : chainP rs (-1) q = true ∧ inAll rs q.m q.f q.l = true
      · rw [show covS rs (-1, []) (q :: r :: pre.reverse) = covS rs ((q.l : Int), [] ++ rng q.f q.l) (r :: pre.reverse) from if_pos a]
        refine if_neg fun y => ?_
        have := y.1
        simp only [chainP, Bool.and_eq_true, decide_eq_true_eq] at this
        omega
      · exact if_neg a
    rw [this]
theorem spoilt_more {rs : Rws} {p : Pc} {ps : List Pc} (h : covers rs (p :: ps) = true) : covers rs ((p :: ps) ++ [p]) = false := by
  obtain ⟨h', e⟩ := covers_some h
  have hc : chainP rs (-1) p = true ∧ inAll rs p.m p.f p.l = true := by
    by_cases hc : chainP rs (-1) p = true ∧ inAll rs p.m p.f p.l = true
    · exact hc
    · rw [show covS rs (-1, []) (p :: ps) = none from if_neg hc] at e; cases e
  have e' := e
  rw [show covS rs (-1, []) (p :: ps) = covS rs ((p.l : Int), [] ++ rng p.f p.l) ps from if_pos hc] at e'
  have hge := cov_ge _ _ _ e'
  have hc1 := hc.1
  simp only [chainP, Bool.and_eq_true, decide_eq_true_eq] at hc1
  unfold covers
  rw [cov_app, e]
  have : covS rs (h', fullF rs 0) [p] = none := by
    refine if_neg fun y => ?_
    have := y.1
    simp only [chainP, Bool.and_eq_true, decide_eq_true_eq] at this
    have hge : (p.l : Int) ≤ h' := hge
    omega
  show (match covS rs (h', fullF rs 0) [p] with | none => false | some st => decide (st.2 = fullF rs 0)) = false
  rw [this]
/-! ### what shows -/
def stopOk (rs : Rws) (i : Int) : Bool := (decide (0 ≤ i) && decide (i < (rs.length : Int))) && decide (rowAt rs i.toNat ≠ [])
def gapOk (rs : Rws) (a b : Int) : Bool := (rowAt rs a.toNat).all fun m => decide ((lasts rs a.toNat m : Int) < b)
def showsF (rs : Rws) (ss : List Int) : Bool := decide (ss.Pairwise (· < ·)) && (ss.all (stopOk rs) && (ss.zip ss.tail).all fun p => gapOk rs p.1 p.2)
def stops (ps : List Pc) : List Int := ps.map fun p => (p.f : Int)
theorem gr_lb {rs : Rws} : ∀ {ps : List Pc} {t : Nat}, Gr rs t ps → ∀ p ∈ ps, t ≤ p.f ∧ p.f ≤ p.l ∧ p.f < rs.length ∧ p.m ∈ rowAt rs p.f ∧ p.l = lasts rs p.f p.m
  | [], _, _, _, h => nomatch h
  | q :: ps, t, g, p, h => by
    cases g with
    | cons h1 h2 h3 h4 h5 h6 h7 =>
      have hge : q.f ≤ q.l := by rw [h5]; exact lasts_ge _ _ _
      rcases List.mem_cons.mp h with rfl | h
      · exact ⟨h1, hge, h2, h4, h5⟩
      · obtain ⟨a, b⟩ := gr_lb h7 p h
        exact ⟨by omega, b⟩
theorem gr_sep {rs : Rws} : ∀ {ps : List Pc} {t : Nat}, Gr rs t ps → ∀ p ∈ ps, ∀ q ∈ ps, q.f ≤ p.f ∨ p.l < q.f
  | [], _, _, _, h, _, _ => nomatch h
  | x :: ps, t, g, p, hp, q, hq => by
    cases g with
    | cons h1 h2 h3 h4 h5 h6 h7 =>
      have hge : x.f ≤ x.l := by rw [h5]; exact lasts_ge _ _ _
      rcases List.mem_cons.mp hp with e | hp' <;> rcases List.mem_cons.mp hq with e' | hq'
      · rw [e, e']; exact .inl (Nat.le_refl _)
      · have := (gr_lb h7 q hq').1; rw [e]; exact .inr (by omega)
      · have := (gr_lb h7 p hp').1; rw [e']; exact .inl (by omega)
      · exact gr_sep h7 p hp' q hq'
theorem gr_in {rs : Rws} : ∀ {ps : List Pc} {t u : Nat}, Gr rs t ps → t ≤ u → u < rs.length → rowAt rs u ≠ [] → ∃ p ∈ ps, p.f ≤ u ∧ u ≤ p.l
  | [], t, u, g, h1, h2, h3 => by
    cases g with
    | nil h => exact absurd (h u h1 h2) h3
  | x :: ps, t, u, g, a, b, c => by
    cases g with
    | cons h1 h2 h3 h4 h5 h6 h7 =>
      by_cases q : u < x.f
      · exact absurd (h3 u a q) c
      · by_cases q2 : u ≤ x.l
        · exact ⟨x, List.mem_cons_self, by omega, q2⟩
        · obtain ⟨p, hp, z⟩ := gr_in h7 (by omega) b c
          exact ⟨p, List.mem_cons_of_mem _ hp, z⟩
theorem shows_gr {rs : Rws} : ∀ {ps : List Pc} {t : Nat}, Gr rs t ps → showsF rs (stops ps) = true
  | [], _, _ => rfl
  | p :: ps, t, g => by
    cases g with
    | cons h1 h2 h3 h4 h5 h6 h7 =>
      have hge : p.f ≤ p.l := by rw [h5]; exact lasts_ge _ _ _
      have ih := shows_gr h7
      simp only [showsF, Bool.and_eq_true, decide_eq_true_eq] at ih ⊢
      refine ⟨?_, ?_, ?_⟩
      · show (((p.f : Int)) :: stops ps).Pairwise (· < ·)
        rw [List.pairwise_cons]
        refine ⟨fun x hx => ?_, ih.1⟩
        obtain ⟨q, hq, rfl⟩ := List.mem_map.mp hx
        have := (gr_lb h7 q hq).1
        omega
      · show ((p.f : Int) :: stops ps).all (stopOk rs) = true
        rw [List.all_cons, ih.2.1, Bool.and_true]
        unfold stopOk
        rw [decide_eq_true (show (0 : Int) ≤ (p.f : Int) by omega), decide_eq_true (show (p.f : Int) < (rs.length : Int) by omega), Int.toNat_natCast, decide_eq_true (show rowAt rs p.f ≠ [] from fun e => by rw [e] at h4; cases h4)]
        rfl
      · cases ps with
        | nil => rfl
        | cons q ps =>
          have := (gr_lb h7 q List.mem_cons_self).1
          show (((p.f : Int), (q.f : Int)) :: ((stops (q :: ps)).zip (stops (q :: ps)).tail)).all _ = true
          rw [List.all_cons, ih.2.2, Bool.and_true]
          unfold gapOk
          rw [List.all_eq_true]
          intro m hm
          rw [Int.toNat_natCast] at hm
          show decide ((lasts rs (p.f : Int).toNat m : Int) < (q.f : Int)) = true
          rw [Int.toNat_natCast]
          have := h6 m hm
          exact decide_eq_true (by omega)
theorem shows_bad {rs : Rws} {ss : List Int} {i : Int} (hi : i ∈ ss) (h : stopOk rs i = false) : showsF rs ss = false := by
  cases e : showsF rs ss with
  | false => rfl
  | true =>
    simp only [showsF, Bool.and_eq_true] at e
    have := List.all_eq_true.mp e.2.1 i hi
    rw [h] at this
    cases this
theorem shows_rev {rs : Rws} {a b : Int} {ss : List Int} (h : (a :: b :: ss).Pairwise (· < ·)) : showsF rs (a :: b :: ss).reverse = false := by
  cases e : showsF rs (a :: b :: ss).reverse with
  | false => rfl
  | true =>
    simp only [showsF, Bool.and_eq_true, decide_eq_true_eq] at e
    have h1 := List.pairwise_reverse.mp e.1
    have h2 := (List.pairwise_cons.mp h).1 b List.mem_cons_self
    have h3 := (List.pairwise_cons.mp h1).1 b List.mem_cons_self
    omega
theorem zip_mid {α : Type} : ∀ (pre : List α) (x y : α) (post : List α), (x, y) ∈ (pre ++ x :: y :: post).zip (pre ++ x :: y :: post).tail
  | [], x, y, post => List.mem_cons_self
  | [z], x, y, post => List.mem_cons_of_mem _ List.mem_cons_self
  | z :: w :: pre, x, y, post => by
    have := zip_mid (w :: pre) x y post
    exact List.mem_cons_of_mem _ this
/-- one stop more, where somebody still lasts -/
theorem shows_more {rs : Rws} {ps : List Pc} (g : Gr rs 0 ps) {u : Nat} (hu : u < rs.length) (hr : rowAt rs u ≠ []) (hs : (u : Int) ∉ stops ps) {ms : List Int} (hp : ms.Perm (stops ps ++ [(u : Int)])) (hsort : ms.Pairwise (· ≤ ·)) : showsF rs ms = false := by
  obtain ⟨p, hpm, h1, h2⟩ := gr_in g (Nat.zero_le _) hu hr
  have hne : p.f ≠ u := fun e => hs (List.mem_map.mpr ⟨p, hpm, by rw [e]⟩)
  have hum : (u : Int) ∈ ms := hp.mem_iff.mpr (List.mem_append_right _ List.mem_cons_self)
  obtain ⟨pre, post, rfl⟩ := List.append_of_mem hum
  have hpf : (p.f : Int) ∈ pre := by
    have : (p.f : Int) ∈ pre ++ (u : Int) :: post := hp.mem_iff.mpr (List.mem_append_left _ (List.mem_map.mpr ⟨p, hpm, rfl⟩))
    rcases List.mem_append.mp this with h | h
    · exact h
    · rcases List.mem_cons.mp h with h | h
      · exact absurd (by omega) hne
      · have := (List.pairwise_append.mp hsort).2.1
        have := (List.pairwise_cons.mp this).1 _ h
        omega
  rcases List.eq_nil_or_concat pre with rfl | ⟨pr, x, rfl⟩
  · cases hpf
  · rw [List.concat_eq_append] at *
    -- x is the stop ahead of u
    have hx : x ∈ stops ps ++ [(u : Int)] := hp.mem_iff.mp (by simp)
    have hxle : x ≤ (u : Int) := (List.pairwise_append.mp hsort).2.2 x (by simp) (u : Int) List.mem_cons_self
    have hpx : (p.f : Int) ≤ x := by
      have q := (List.pairwise_append.mp hsort).1
      rcases List.mem_append.mp hpf with h | h
      · exact (List.pairwise_append.mp q).2.2 _ h x List.mem_cons_self
      · rw [List.mem_singleton.mp h]; exact Int.le_refl _
    -- .. and it is the piece's, or u itself
    have hcnt : x = (p.f : Int) ∨ x = (u : Int) := by
      rcases List.mem_append.mp hx with h | h
      · obtain ⟨q, hq, e⟩ := List.mem_map.mp h
        rcases gr_sep g p hpm q hq with z | z
        · exact .inl (by omega)
        · exact absurd z (by omega)
      · exact .inr (List.mem_singleton.mp h)
    cases e : showsF rs (pr ++ [x] ++ (u : Int) :: post) with
    | false => rfl
    | true =>
      simp only [showsF, Bool.and_eq_true, decide_eq_true_eq] at e
      rcases hcnt with rfl | rfl
      · have hz : ((p.f : Int), (u : Int)) ∈ (pr ++ [(p.f : Int)] ++ (u : Int) :: post).zip (pr ++ [(p.f : Int)] ++ (u : Int) :: post).tail := by
          have := zip_mid pr (p.f : Int) (u : Int) post
          simpa using this
        have hg := List.all_eq_true.mp e.2.2 _ hz
        obtain ⟨_, _, _, h4, h5⟩ := gr_lb g p hpm
        unfold gapOk at hg
        have := List.all_eq_true.mp hg p.m (by rw [Int.toNat_natCast]; exact h4)
        rw [decide_eq_true_eq] at this
        have this : (lasts rs (p.f : Int).toNat p.m : Int) < (u : Int) := this
        rw [Int.toNat_natCast] at this
        omega
      · have q := (List.pairwise_append.mp e.1).2.2 (u : Int) (by simp) (u : Int) List.mem_cons_self
        omega

def top (i : Nat) : Stmt := PySem.Challenge.pw_mastcalls_k37_whole_tours.main.body.getD i (.Pass ⟨0, 0, 0, 0⟩)
abbrev s_lasts : Stmt := (top 1)
abbrev s_pieces_of : Stmt := (top 2)
abbrev s_covers : Stmt := (top 3)
abbrev s_stops_of : Stmt := (top 4)
abbrev s_shows_many : Stmt := (top 5)
abbrev s_law_number : Stmt := (top 7)
abbrev s_law_take : Stmt := (top 8)
abbrev s_law_fewest : Stmt := (top 9)
abbrev s_law : Stmt := (top 10)
theorem sc_lasts : FnScope ["rows", "at", "mast"] ["rows", "at", "mast"] (defScope s_lasts) := ⟨rfl, rfl, rfl, by decide +kernel, rfl, by decide +kernel, by decide +kernel⟩
theorem sc_pieces_of : FnScope ["rows", "found", "at", "best", "mast", "last"] ["rows"] (defScope s_pieces_of) := ⟨rfl, rfl, rfl, by decide +kernel, rfl, by decide +kernel, by decide +kernel⟩
theorem sc_covers : FnScope ["rows", "pieces", "here", "ticks", "mast", "first", "last", "at", "row"] ["rows", "pieces"] (defScope s_covers) := ⟨rfl, rfl, rfl, by decide +kernel, rfl, by decide +kernel, by decide +kernel⟩
theorem sc_stops_of : FnScope ["rows", "mast", "first", "last"] ["rows"] (defScope s_stops_of) := ⟨rfl, rfl, rfl, by decide +kernel, rfl, by decide +kernel, by decide +kernel⟩
theorem sc_shows_many : FnScope ["rows", "stops", "one", "other", "mast", "at"] ["rows", "stops"] (defScope s_shows_many) := ⟨rfl, rfl, rfl, by decide +kernel, rfl, by decide +kernel, by decide +kernel⟩
theorem sc_law_number : FnScope ["_law_script", "_law_index", "_law_cell", "_law_blend"] ["_law_script", "_law_index"] (defScope s_law_number) := ⟨rfl, rfl, rfl, by decide +kernel, rfl, by decide +kernel, by decide +kernel⟩
theorem sc_law_take : FnScope ["_law_draw", "_law_many"] ["_law_draw", "_law_many"] (defScope s_law_take) := ⟨rfl, rfl, rfl, by decide +kernel, rfl, by decide +kernel, by decide +kernel⟩
theorem sc_law_fewest : FnScope ["_law_rows", "_law_best", "_law_many", "_law_row", "_law_late", "_law_mast"] ["_law_rows"] (defScope s_law_fewest) := ⟨rfl, rfl, rfl, by decide +kernel, rfl, by decide +kernel, by decide +kernel⟩
theorem sc_law : FnScope ["_law_script", "_law_draw", "_law_turn", "_law_rows", "_law_last", "_law_tick", "_law_pieces", "_law_stops", "_law_mast", "_law_first", "_law_end", "_law_at", "_law_changed", "_law_spoilt", "_law_wrong", "_law_piece"] ["_law_script"] (defScope s_law) := ⟨rfl, rfl, rfl, by decide +kernel, rfl, by decide +kernel, by decide +kernel⟩
/-! what the walk asks of the text as the top has left it -/
structure Tx (K : PySem.W.Frag) (mg : Str → Option Value) where
  Pg : Program
  f_lasts : Addr
  fd_lasts : FuncData
  f_pieces_of : Addr
  fd_pieces_of : FuncData
  f_covers : Addr
  fd_covers : FuncData
  f_stops_of : Addr
  fd_stops_of : FuncData
  f_shows_many : Addr
  fd_shows_many : FuncData
  f_law_number : Addr
  fd_law_number : FuncData
  f_law_take : Addr
  fd_law_take : FuncData
  f_law_fewest : Addr
  fd_law_fewest : FuncData
  f_law : Addr
  fd_law : FuncData
  F_lasts : Fun K "lasts" "lasts" s_lasts f_lasts fd_lasts
  k_lasts : PySem.W.keepIn K (.ref f_lasts) = true
  b_lasts : Binds K fd_lasts ["rows", "at", "mast"] []
  mg_lasts : mg "lasts" = some (.ref f_lasts)
  F_pieces_of : Fun K "pieces_of" "pieces_of" s_pieces_of f_pieces_of fd_pieces_of
  k_pieces_of : PySem.W.keepIn K (.ref f_pieces_of) = true
  b_pieces_of : Binds K fd_pieces_of ["rows"] []
  mg_pieces_of : mg "pieces_of" = some (.ref f_pieces_of)
  F_covers : Fun K "covers" "covers" s_covers f_covers fd_covers
  k_covers : PySem.W.keepIn K (.ref f_covers) = true
  b_covers : Binds K fd_covers ["rows", "pieces"] []
  mg_covers : mg "covers" = some (.ref f_covers)
  F_stops_of : Fun K "stops_of" "stops_of" s_stops_of f_stops_of fd_stops_of
  k_stops_of : PySem.W.keepIn K (.ref f_stops_of) = true
  b_stops_of : Binds K fd_stops_of ["rows"] []
  mg_stops_of : mg "stops_of" = some (.ref f_stops_of)
  F_shows_many : Fun K "shows_many" "shows_many" s_shows_many f_shows_many fd_shows_many
  k_shows_many : PySem.W.keepIn K (.ref f_shows_many) = true
  b_shows_many : Binds K fd_shows_many ["rows", "stops"] []
  mg_shows_many : mg "shows_many" = some (.ref f_shows_many)
  F_law_number : Fun K "_law_number" "_law_number" s_law_number f_law_number fd_law_number
  k_law_number : PySem.W.keepIn K (.ref f_law_number) = true
  b_law_number : Binds K fd_law_number ["_law_script", "_law_index"] []
  mg_law_number : mg "_law_number" = some (.ref f_law_number)
  F_law_take : Fun K "_law_take" "_law_take" s_law_take f_law_take fd_law_take
  k_law_take : PySem.W.keepIn K (.ref f_law_take) = true
  b_law_take : Binds K fd_law_take ["_law_draw", "_law_many"] []
  mg_law_take : mg "_law_take" = some (.ref f_law_take)
  F_law_fewest : Fun K "_law_fewest" "_law_fewest" s_law_fewest f_law_fewest fd_law_fewest
  k_law_fewest : PySem.W.keepIn K (.ref f_law_fewest) = true
  b_law_fewest : Binds K fd_law_fewest ["_law_rows"] []
  mg_law_fewest : mg "_law_fewest" = some (.ref f_law_fewest)
  F_law : Fun K "law" "law" s_law f_law fd_law
  k_law : PySem.W.keepIn K (.ref f_law) = true
  b_law : Binds K fd_law ["_law_script"] []
  mg_law : mg "law" = some (.ref f_law)
  no_abs : mg "abs" = none
  no_all : mg "all" = none
  no_any : mg "any" = none
  no_enumerate : mg "enumerate" = none
  no_int : mg "int" = none
  no_len : mg "len" = none
  no_list : mg "list" = none
  no_min : mg "min" = none
  no_range : mg "range" = none
  no_set : mg "set" = none
  no_sorted : mg "sorted" = none
  no_tuple : mg "tuple" = none
  no_zip : mg "zip" = none
def S_law_number (K : PySem.W.Frag) {mg : Str → Option Value} (T : Tx K mg) : FSpec := fun ds M P => ∃ (s : List Int) (i : Int), ds = [vscr K s, dat (.int i)] ∧ P (dat (.int (lawNum s i))) M
def S_law_take (K : PySem.W.Frag) {mg : Str → Option Value} (T : Tx K mg) : FSpec := fun ds M P => ∃ (s : List Int) (k m : Int) (p : Addr) (M' : Cells), ds = [val (.ref p), dat (.int m)] ∧ 0 < m ∧ Put p (cDraw K s k) (cDraw K s (k + 1)) M M' ∧ P (dat (.int (tk s (k + 1) m))) M'

/-! ### the pieces, as a function; rows as data -/
def grF (rs : Rws) : Nat → Nat → List Pc
  | 0, _ => []
  | n + 1, t => if rowAt rs t = [] then grF rs n (t + 1) else ⟨bestOf rs t ((rowAt rs t).headD .a) (rowAt rs t), t, lasts rs t (bestOf rs t ((rowAt rs t).headD .a) (rowAt rs t))⟩ :: grF rs n (lasts rs t (bestOf rs t ((rowAt rs t).headD .a) (rowAt rs t)) + 1)
theorem rowAt_big {rs : Rws} {t : Nat} (h : rs.length ≤ t) : rowAt rs t = [] := by
  unfold rowAt
  rw [List.getD_eq_getElem?_getD, List.getElem?_eq_none h]
  rfl
theorem grF_end {rs : Rws} : ∀ {n t : Nat}, rs.length ≤ t → grF rs n t = []
  | 0, _, _ => rfl
  | n + 1, t, h => by
    rw [grF, if_pos (rowAt_big h)]
    exact grF_end (by omega)
theorem grF_gr {rs : Rws} : ∀ {n t : Nat}, rs.length ≤ t + n → Gr rs t (grF rs n t)
  | 0, t, h => .nil fun u h1 h2 => by omega
  | n + 1, t, h => by
    rw [grF]
    by_cases e : rowAt rs t = []
    · rw [if_pos e]
      exact Gr.skip e (grF_gr (by omega))
    · rw [if_neg e]
      obtain ⟨x, r, hr⟩ := List.exists_cons_of_ne_nil e
      have hlt : t < rs.length := by
        apply Nat.lt_of_not_le
        intro z
        exact e (rowAt_big z)
      obtain ⟨h1, h2, h3⟩ := best_max (rs := rs) (t := t) (rowAt rs t) ((rowAt rs t).headD .a)
      have hge := lasts_ge rs t (bestOf rs t ((rowAt rs t).headD .a) (rowAt rs t))
      have hmem : bestOf rs t ((rowAt rs t).headD .a) (rowAt rs t) ∈ rowAt rs t := by
        rcases h1 with h1 | h1
        · rw [h1, hr]; exact List.mem_cons_self
        · exact h1
      exact .cons (Nat.le_refl _) hlt (fun u a b => absurd b (by show ¬ u < t; omega)) hmem rfl h3 (grF_gr (by show rs.length ≤ lasts rs t (bestOf rs t ((rowAt rs t).headD .a) (rowAt rs t)) + 1 + n; omega))
def pieces (rs : Rws) : List Pc := grF rs rs.length 0
theorem pieces_gr (rs : Rws) : Gr rs 0 (pieces rs) := grF_gr (by omega)
theorem gr_len {rs : Rws} : ∀ {ps : List Pc} {t : Nat}, Gr rs t ps → t ≤ rs.length → t + ps.length ≤ rs.length
  | [], _, _, h => h
  | p :: ps, t, g, _ => by
    cases g with
    | cons h1 h2 h3 h4 h5 h6 h7 =>
      have hlt : p.l < rs.length := by rw [h5]; exact lasts_lt h2
      have hge : p.f ≤ p.l := by rw [h5]; exact lasts_ge _ _ _
      have := gr_len h7 (by omega)
      rw [List.length_cons]
      omega
theorem pieces_len (rs : Rws) : (pieces rs).length ≤ rs.length := by have := gr_len (pieces_gr rs) (Nat.zero_le _); omega
abbrev rowsD (rs : Rws) : PyData := .list (rs.map encRow)
abbrev pcsD (ps : List Pc) : PyData := .list (ps.map encPc)
abbrev intsD (ns : List Int) : PyData := .list (ns.map PyData.int)
theorem mS_ok : ∀ m, PyData.strOk (mS m) = true := by intro m; cases m <;> decide +kernel
theorem mS_inj : ∀ {a b : Mt}, mS a = mS b → a = b := by intro a b; cases a <;> cases b <;> first | (intro _; rfl) | (intro h; exact absurd h (by decide +kernel))
theorem mem_mS {m : Mt} {r : Row} : mS m ∈ r.map mS ↔ m ∈ r := by
  rw [List.mem_map]
  exact ⟨fun ⟨x, h, e⟩ => mS_inj e ▸ h, fun h => ⟨m, h, rfl⟩⟩
theorem encRow_strs (r : Row) : encRow r = .tuple ((r.map mS).map PyData.str) := by rw [List.map_map]; rfl
theorem rows_at {rs : Rws} {u : Nat} (h : u < rs.length) : L2.atI (rs.map encRow) (u : Int) = some (encRow (rowAt rs u)) := atI_nat (by rw [List.getElem?_map, rowAt_some h]; rfl)
theorem shp_row {r : Row} {n : Nat} : Shp (n + 1) (encRow r) := shp_tuple (shpA_map fun m _ => shp_str (mS_ok m))
theorem shp_rows {rs : Rws} {n : Nat} : Shp (n + 2) (rowsD rs) := shp_list (shpA_map fun r _ => shp_row)
theorem shp_pc {p : Pc} {n : Nat} : Shp (n + 1) (encPc p) := shp_tuple (shpA_cons (shp_str (mS_ok _)) (shpA_cons shp_int (shpA_cons shp_int shpA_nil)))
theorem shp_pcs {ps : List Pc} {n : Nat} : Shp (n + 2) (pcsD ps) := shp_list (shpA_map fun r _ => shp_pc)
theorem shp_ints {ns : List Int} {n : Nat} : Shp (n + 1) (intsD ns) := shp_list (shpA_map fun _ _ => shp_int)
theorem eqok_m : EqOk encM := fun a b => by
  show PyData.eqv (.str (mS a)) (.str (mS b)) = true ↔ _
  rw [eqok_str]
  exact ⟨mS_inj, fun e => by rw [e]⟩
theorem eqok_row : EqOk encRow := eqok_tuple eqok_m
theorem eqok_pc : EqOk encPc := fun a b => by
  obtain ⟨m, f, l⟩ := a
  obtain ⟨m', f', l'⟩ := b
  have h := eqok_m m m'
  have h1 := eqok_int (f : Int) (f' : Int)
  have h2 := eqok_int (l : Int) (l' : Int)
  simp only [encPc, PyData.eqv, PyData.eqvAll, Bool.and_true, Bool.and_eq_true] at h h1 h2 ⊢
  rw [h, h1, h2]
  constructor
  · rintro ⟨rfl, a, b⟩
    cases Int.ofNat.inj a
    cases Int.ofNat.inj b
    rfl
  · intro e
    cases e
    exact ⟨rfl, rfl, rfl⟩
theorem eqok_pcs : EqOk fun ps : List Pc => pcsD ps := eqok_list eqok_pc
theorem eqok_ints : EqOk fun ps : List Int => intsD ps := eqok_list eqok_int
section
variable {K : PySem.W.Frag} {ρ : Sx.Env} {M M' : Cells} {te : TE}
theorem rv_inM {m : Mt} {r : Row} {neg : Bool} : RV (rIn K neg) (dat (encM m)) (dat (encRow r)) M (dat (.bool (if neg then !decide (m ∈ r) else decide (m ∈ r)))) M := by
  have h := rv_inS (K := K) (M := M) (i := mS m) (is := r.map mS) (neg := neg) (y := dat (.tuple ((r.map mS).map PyData.str))) (.inl ist_dat)
  rw [← encRow_strs] at h
  have e : decide (mS m ∈ r.map mS) = decide (m ∈ r) := by simp only [mem_mS]
  rw [e] at h
  exact h
theorem rv_inML {m : Mt} {r : Row} {neg : Bool} : RV (rIn K neg) (dat (encM m)) (dat (.list (r.map encM))) M (dat (.bool (if neg then !decide (m ∈ r) else decide (m ∈ r)))) M := by
  have h := rv_inS (K := K) (M := M) (i := mS m) (is := r.map mS) (neg := neg) (y := dat (.list ((r.map mS).map PyData.str))) (.inr isl_dat)
  have e : decide (mS m ∈ r.map mS) = decide (m ∈ r) := by simp only [mem_mS]
  rw [e, List.map_map] at h
  exact h
end
def S_lasts (K : PySem.W.Frag) {mg : Str → Option Value} (T : Tx K mg) : FSpec := fun ds M P => ∃ (rs : Rws) (t : Nat) (m : Mt), ds = [dat (rowsD rs), dat (.int (t : Int)), dat (encM m)] ∧ P (dat (.int (lasts rs t m : Int))) M
def S_pieces_of (K : PySem.W.Frag) {mg : Str → Option Value} (T : Tx K mg) : FSpec := fun ds M P => ∃ (rs : Rws), ds = [dat (rowsD rs)] ∧ rs.length ≤ 16 ∧ P (dat (pcsD (pieces rs))) M
def S_covers (K : PySem.W.Frag) {mg : Str → Option Value} (T : Tx K mg) : FSpec := fun ds M P => ∃ (rs : Rws) (ps : List Pc), ds = [dat (rowsD rs), dat (pcsD ps)] ∧ rs.length ≤ 16 ∧ ps.length ≤ 100 ∧ P (dat (.bool (covers rs ps))) M
def S_stops_of (K : PySem.W.Frag) {mg : Str → Option Value} (T : Tx K mg) : FSpec := fun ds M P => ∃ (rs : Rws), ds = [dat (rowsD rs)] ∧ rs.length ≤ 16 ∧ P (dat (intsD (stops (pieces rs)))) M
def S_shows_many (K : PySem.W.Frag) {mg : Str → Option Value} (T : Tx K mg) : FSpec := fun ds M P => ∃ (rs : Rws) (ss : List Int), ds = [dat (rowsD rs), dat (intsD ss)] ∧ (rs.length ≤ 16 ∧ ∀ r ∈ rs, r.length ≤ 8) ∧ ss.length < 64 ∧ P (dat (.bool (showsF rs ss))) M
def S_law_fewest (K : PySem.W.Frag) {mg : Str → Option Value} (T : Tx K mg) : FSpec := fun ds M P => ∃ (rs : Rws), ds = [dat (rowsD rs)] ∧ rs.length ≤ 16 ∧ (∀ r ∈ rs, r.Nodup ∧ r.length ≤ 8) ∧ P (dat (.int (fewest rs : Int))) M
def SLaw (K : PySem.W.Frag) : FSpec := fun ds M P => ∃ (s : List Int), ds = [vscr K s] ∧ M = [] ∧ s.length ≤ 63 ∧ (∀ N, P (dat (.bool true)) N)
def S_law (K : PySem.W.Frag) {mg : Str → Option Value} (T : Tx K mg) : FSpec := SLaw K

abbrev rd_law_number_8 (K : PySem.W.Frag) {mg : Str → Option Value} (T : Tx K mg) : TS := (tRet (tCB (rInt1) (tCons (tOp (rI (fun _ j => 0 < j) fun i j => .int (i % j)) (tOp (rAddU K) (tOp (rI CMul fun i j => .int (i * j)) (tOp (rI (fun _ j => 0 < j) fun i j => .int (i % j)) (tOp (rI CMul fun i j => .int (i * j)) (tVar 3) (tC (.int 69621))) (tC (.int 2147483629))) (tC (.int 16807))) (tVar 1)) (tC (.int 2147483587))) tNil)))
abbrev rd_law_number_7 (K : PySem.W.Frag) {mg : Str → Option Value} (T : Tx K mg) : TS := tSeq (tAsg (tOp (rI (fun _ j => 0 < j) fun i j => .int (i % j)) (tOp (rAddU K) (tOp (rI CMul fun i j => .int (i * j)) (tOp (rAddU K) (tVar 2) (tOp (rI CMul fun i j => .int (i * j)) (tC (.int 977)) (tVar 1))) (tC (.int 48271))) (tOp (rI CMul fun i j => .int (i * j)) (tC (.int 31)) (tCB (rLenU K) (tCons (tVar 0) tNil)))) (tC (.int 2147483647))) (gName 3)) (rd_law_number_8 K T)
abbrev rd_law_number_6 (K : PySem.W.Frag) {mg : Str → Option Value} (T : Tx K mg) : TS := tNext
abbrev rd_law_number_5 (K : PySem.W.Frag) {mg : Str → Option Value} (T : Tx K mg) : TS := (tAsg (tOp (rI (fun _ j => 0 < j) fun i j => .int (i % j)) (tVar 2) (tOp (rI CPow fun i j => .int (i ^ j.toNat)) (tC (.int 10)) (tC (.int 18)))) (gName 2))
abbrev rd_law_number_4 (K : PySem.W.Frag) {mg : Str → Option Value} (T : Tx K mg) : TS := Evl.tCut (tIfS (tTest (tOp (rI0 fun i j => .bl (decide (j ≤ i))) (tCB (rAbs) (tCons (tVar 2) tNil)) (tOp (rI CPow fun i j => .int (i ^ j.toNat)) (tC (.int 10)) (tC (.int 60))))) (rd_law_number_5 K T) (rd_law_number_6 K T)) (rd_law_number_7 K T)
abbrev rd_law_number_3 (K : PySem.W.Frag) {mg : Str → Option Value} (T : Tx K mg) : TS := tSeq (tAsg (tOp (rIx K) (tVar 0) (tOp (rI (fun _ j => 0 < j) fun i j => .int (i % j)) (tVar 1) (tCB (rLenU K) (tCons (tVar 0) tNil)))) (gName 2)) (rd_law_number_4 K T)
abbrev rd_law_number_2 (K : PySem.W.Frag) {mg : Str → Option Value} (T : Tx K mg) : TS := tNext
abbrev rd_law_number_1 (K : PySem.W.Frag) {mg : Str → Option Value} (T : Tx K mg) : TS := (tRet (tCB (rInt1) (tCons (tOp (rI (fun _ j => 0 < j) fun i j => .int (i % j)) (tOp (rAddU K) (tOp (rI CMul fun i j => .int (i * j)) (tVar 1) (tC (.int 48271))) (tC (.int 12345))) (tC (.int 2147483647))) tNil)))
abbrev rd_law_number_0 (K : PySem.W.Frag) {mg : Str → Option Value} (T : Tx K mg) : TS := Evl.tCut (tIfS (tTest (tOp (rEqU K) (tVar 0) (tLst tNil))) (rd_law_number_1 K T) (rd_law_number_2 K T)) (rd_law_number_3 K T)
abbrev rd_law_take_1 (K : PySem.W.Frag) {mg : Str → Option Value} (T : Tx K mg) : TS := (tRet (tOp (rI (fun _ j => 0 < j) fun i j => .int (i % j)) (tCB (rInt1) (tCons (tCall (spF 2 (S_law_number K T)) [] E0 (tCons (tOp (rIx K) (tVar 0) (tC (.int 0))) (tCons (tCB (rInt1) (tCons (tOp (rIx K) (tVar 0) (tC (.int 1))) tNil)) tNil))) tNil)) (tVar 1)))
abbrev rd_law_take_0 (K : PySem.W.Frag) {mg : Str → Option Value} (T : Tx K mg) : TS := tSeq (tAugS (tVar 0) (tC (.int 1)) (tC (.int 1)) (rIxL K) (ipI fun i j => i + j) rSetL) (rd_law_take_1 K T)
abbrev rd_lasts_2 (K : PySem.W.Frag) {mg : Str → Option Value} (T : Tx K mg) : TS := (tRet (tVar 1))
abbrev rd_lasts_1 (K : PySem.W.Frag) {mg : Str → Option Value} (T : Tx K mg) : TS := (tAug 1 (tC (.int 1)) (ipI fun i j => i + j))
abbrev rd_lasts_0 (K : PySem.W.Frag) {mg : Str → Option Value} (T : Tx K mg) : TS := Evl.tCut (tWhile (tAnd (tTest (tOp (rI0 fun i j => .bl (decide (i < j))) (tOp (rAddU K) (tVar 1) (tC (.int 1))) (tCB (rLenU K) (tCons (tVar 0) tNil)))) (tTest (tOp (rIn K false) (tVar 2) (tOp (rIx K) (tVar 0) (tOp (rAddU K) (tVar 1) (tC (.int 1))))))) (rd_lasts_1 K T)) (rd_lasts_2 K T)
abbrev rd_pieces_of_14 (K : PySem.W.Frag) {mg : Str → Option Value} (T : Tx K mg) : TS := (tRet (tVar 1))
abbrev rd_pieces_of_13 (K : PySem.W.Frag) {mg : Str → Option Value} (T : Tx K mg) : TS := (tAsg (tOp (rAddU K) (tVar 5) (tC (.int 1))) (gName 2))
abbrev rd_pieces_of_12 (K : PySem.W.Frag) {mg : Str → Option Value} (T : Tx K mg) : TS := tSeq (tDrop (tBM K "list" rAppend (tVar 1) (tCons (tTup (tCons (tVar 3) (tCons (tVar 2) (tCons (tVar 5) tNil)))) tNil))) (rd_pieces_of_13 K T)
abbrev rd_pieces_of_11 (K : PySem.W.Frag) {mg : Str → Option Value} (T : Tx K mg) : TS := tSeq (tAsg (tCall (spF 3 (S_lasts K T)) [] E0 (tCons (tVar 0) (tCons (tVar 2) (tCons (tVar 3) tNil)))) (gName 5)) (rd_pieces_of_12 K T)
abbrev rd_pieces_of_10 (K : PySem.W.Frag) {mg : Str → Option Value} (T : Tx K mg) : TS := tNext
abbrev rd_pieces_of_9 (K : PySem.W.Frag) {mg : Str → Option Value} (T : Tx K mg) : TS := (tAsg (tVar 4) (gName 3))
abbrev rd_pieces_of_8 (K : PySem.W.Frag) {mg : Str → Option Value} (T : Tx K mg) : TS := (tIfS (tTest (tOp (rI0 fun i j => .bl (decide (j < i))) (tCall (spF 3 (S_lasts K T)) [] E0 (tCons (tVar 0) (tCons (tVar 2) (tCons (tVar 4) tNil)))) (tCall (spF 3 (S_lasts K T)) [] E0 (tCons (tVar 0) (tCons (tVar 2) (tCons (tVar 3) tNil)))))) (rd_pieces_of_9 K T) (rd_pieces_of_10 K T))
abbrev rd_pieces_of_7 (K : PySem.W.Frag) {mg : Str → Option Value} (T : Tx K mg) : TS := Evl.tCut (tFor (iSeq K (tOp (rIx K) (tVar 0) (tVar 2))) (gName 4) (rd_pieces_of_8 K T)) (rd_pieces_of_11 K T)
abbrev rd_pieces_of_6 (K : PySem.W.Frag) {mg : Str → Option Value} (T : Tx K mg) : TS := tSeq (tAsg (tOp (rIx K) (tOp (rIx K) (tVar 0) (tVar 2)) (tC (.int 0))) (gName 3)) (rd_pieces_of_7 K T)
abbrev rd_pieces_of_5 (K : PySem.W.Frag) {mg : Str → Option Value} (T : Tx K mg) : TS := tNext
abbrev rd_pieces_of_4 (K : PySem.W.Frag) {mg : Str → Option Value} (T : Tx K mg) : TS := tCont
abbrev rd_pieces_of_3 (K : PySem.W.Frag) {mg : Str → Option Value} (T : Tx K mg) : TS := tSeq (tAug 2 (tC (.int 1)) (ipI fun i j => i + j)) (rd_pieces_of_4 K T)
abbrev rd_pieces_of_2 (K : PySem.W.Frag) {mg : Str → Option Value} (T : Tx K mg) : TS := Evl.tCut (tIfS (tTest (tOp (rEqU K) (tOp (rIx K) (tVar 0) (tVar 2)) (tTup tNil))) (rd_pieces_of_3 K T) (rd_pieces_of_5 K T)) (rd_pieces_of_6 K T)
abbrev rd_pieces_of_1 (K : PySem.W.Frag) {mg : Str → Option Value} (T : Tx K mg) : TS := Evl.tCut (tWhile (tTest (tOp (rI0 fun i j => .bl (decide (i < j))) (tVar 2) (tCB (rLenU K) (tCons (tVar 0) tNil)))) (rd_pieces_of_2 K T)) (rd_pieces_of_14 K T)
abbrev rd_pieces_of_0 (K : PySem.W.Frag) {mg : Str → Option Value} (T : Tx K mg) : TS := tSeq (tPar 1 2 (tCons (tLst tNil) (tCons (tC (.int 0)) tNil))) (rd_pieces_of_1 K T)
abbrev rd_covers_7 (K : PySem.W.Frag) {mg : Str → Option Value} (T : Tx K mg) : TS := (tRet (tOp (rEqU K) (tVar 3) (tLc (iEnum K (tCons (tVar 0) tNil)) (gTup K 2 (gCons (gName 7) (gCons (gName 8) gNil))) (tTest (tOp (rNeU K) (tVar 8) (tTup tNil))) (tVar 7) [7, 8])))
abbrev rd_covers_6 (K : PySem.W.Frag) {mg : Str → Option Value} (T : Tx K mg) : TS := (tAsg (tVar 6) (gName 2))
abbrev rd_covers_5 (K : PySem.W.Frag) {mg : Str → Option Value} (T : Tx K mg) : TS := tSeq (tDrop (tBM K "list" rExtend (tVar 3) (tCons (tLstRg (tRg2 (tVar 5) (tOp (rAddU K) (tVar 6) (tC (.int 1))))) tNil))) (rd_covers_6 K T)
abbrev rd_covers_4 (K : PySem.W.Frag) {mg : Str → Option Value} (T : Tx K mg) : TS := tNext
abbrev rd_covers_3 (K : PySem.W.Frag) {mg : Str → Option Value} (T : Tx K mg) : TS := (tRet (tC (.bl false)))
abbrev rd_covers_2 (K : PySem.W.Frag) {mg : Str → Option Value} (T : Tx K mg) : TS := Evl.tCut (tIfS (tOr (tNot (tTest (tChain3 (rI0 fun i j => .bl (decide (i < j))) (rI0 fun i j => .bl (decide (i ≤ j))) (rI0 fun i j => .bl (decide (i < j))) (tVar 2) (tVar 5) (tVar 6) (tCB (rLenU K) (tCons (tVar 0) tNil))))) (tNot (tB (tCB (rAll K) (tCons (tLc (iRng2 (tCons (tVar 5) (tCons (tOp (rAddU K) (tVar 6) (tC (.int 1))) tNil))) (gName 7) tYes (tOp (rIn K false) (tVar 4) (tOp (rIx K) (tVar 0) (tVar 7))) [7]) tNil))))) (rd_covers_3 K T) (rd_covers_4 K T)) (rd_covers_5 K T)
abbrev rd_covers_1 (K : PySem.W.Frag) {mg : Str → Option Value} (T : Tx K mg) : TS := Evl.tCut (tFor (iSeq K (tVar 1)) (gTup K 3 (gCons (gName 4) (gCons (gName 5) (gCons (gName 6) gNil)))) (rd_covers_2 K T)) (rd_covers_7 K T)
abbrev rd_covers_0 (K : PySem.W.Frag) {mg : Str → Option Value} (T : Tx K mg) : TS := tSeq (tPar 2 3 (tCons (tUn (rU fun i => .int (-i)) (tC (.int 1))) (tCons (tLst tNil) tNil))) (rd_covers_1 K T)
abbrev rd_stops_of_0 (K : PySem.W.Frag) {mg : Str → Option Value} (T : Tx K mg) : TS := (tRet (tLc (iSeq K (tCall (spF 1 (S_pieces_of K T)) [] E0 (tCons (tVar 0) tNil))) (gTup K 3 (gCons (gName 1) (gCons (gName 2) (gCons (gName 3) gNil)))) tYes (tVar 2) [1, 2, 3]))
abbrev rd_shows_many_7 (K : PySem.W.Frag) {mg : Str → Option Value} (T : Tx K mg) : TS := (tRet (tC (.bl true)))
abbrev rd_shows_many_6 (K : PySem.W.Frag) {mg : Str → Option Value} (T : Tx K mg) : TS := tNext
abbrev rd_shows_many_5 (K : PySem.W.Frag) {mg : Str → Option Value} (T : Tx K mg) : TS := (tRet (tC (.bl false)))
abbrev rd_shows_many_4 (K : PySem.W.Frag) {mg : Str → Option Value} (T : Tx K mg) : TS := (tIfS (tB (tCB (rAny K) (tCons (tLc (iSeq K (tOp (rIx K) (tVar 0) (tVar 2))) (gName 4) tYes (tOp (rI0 fun i j => .bl (decide (j ≤ i))) (tCall (spF 3 (S_lasts K T)) [] E0 (tCons (tVar 0) (tCons (tVar 2) (tCons (tVar 4) tNil)))) (tVar 3)) [4]) tNil))) (rd_shows_many_5 K T) (rd_shows_many_6 K T))
abbrev rd_shows_many_3 (K : PySem.W.Frag) {mg : Str → Option Value} (T : Tx K mg) : TS := Evl.tCut (tFor (iZip K (tCons (tVar 1) (tCons (tSl (rSlU K) (tVar 1) (tPart (tC (.int 1))) tNoPart) tNil))) (gTup K 2 (gCons (gName 2) (gCons (gName 3) gNil))) (rd_shows_many_4 K T)) (rd_shows_many_7 K T)
abbrev rd_shows_many_2 (K : PySem.W.Frag) {mg : Str → Option Value} (T : Tx K mg) : TS := tNext
abbrev rd_shows_many_1 (K : PySem.W.Frag) {mg : Str → Option Value} (T : Tx K mg) : TS := (tRet (tC (.bl false)))
abbrev rd_shows_many_0 (K : PySem.W.Frag) {mg : Str → Option Value} (T : Tx K mg) : TS := Evl.tCut (tIfS (tOr (tTest (tOp (rNeU K) (tVar 1) (tSortSet K (tVar 1)))) (tNot (tB (tCB (rAll K) (tCons (tLc (iSeq K (tVar 1)) (gName 5) tYes (tAndV (tChain (rI0 fun i j => .bl (decide (i ≤ j))) (rI0 fun i j => .bl (decide (i < j))) (tC (.int 0)) (tVar 5) (tCB (rLenU K) (tCons (tVar 0) tNil))) (tOp (rNeU K) (tOp (rIx K) (tVar 0) (tVar 5)) (tTup tNil))) [5]) tNil))))) (rd_shows_many_1 K T) (rd_shows_many_2 K T)) (rd_shows_many_3 K T)
abbrev rd_law_fewest_7 (K : PySem.W.Frag) {mg : Str → Option Value} (T : Tx K mg) : TS := (tRet (tVar 2))
abbrev rd_law_fewest_6 (K : PySem.W.Frag) {mg : Str → Option Value} (T : Tx K mg) : TS := (tAsg (tIf (tTest (tOp (rNeX K) (tVar 4) tDNewK)) (tCB (rMin K) (tCons (tListVals (tVar 4)) tNil)) (tVar 2)) (gName 2))
abbrev rd_law_fewest_5 (K : PySem.W.Frag) {mg : Str → Option Value} (T : Tx K mg) : TS := tSeq (tAsg (tVar 4) (gName 1)) (rd_law_fewest_6 K T)
abbrev rd_law_fewest_4 (K : PySem.W.Frag) {mg : Str → Option Value} (T : Tx K mg) : TS := (sDPut (tVar 4) (tVar 5) (tCB rMin2 (tCons (tDGet2 (tVar 1) (tVar 5) (tOp (rAddU K) (tVar 2) (tC (.int 1)))) (tCons (tOp (rAddU K) (tVar 2) (tC (.int 1))) tNil))))
abbrev rd_law_fewest_3 (K : PySem.W.Frag) {mg : Str → Option Value} (T : Tx K mg) : TS := Evl.tCut (tFor (iSeq K (tVar 3)) (gName 5) (rd_law_fewest_4 K T)) (rd_law_fewest_5 K T)
abbrev rd_law_fewest_2 (K : PySem.W.Frag) {mg : Str → Option Value} (T : Tx K mg) : TS := tSeq (tAsg tDNewK (gName 4)) (rd_law_fewest_3 K T)
abbrev rd_law_fewest_1 (K : PySem.W.Frag) {mg : Str → Option Value} (T : Tx K mg) : TS := Evl.tCut (tFor (iSeq K (tVar 0)) (gName 3) (rd_law_fewest_2 K T)) (rd_law_fewest_7 K T)
abbrev rd_law_fewest_0 (K : PySem.W.Frag) {mg : Str → Option Value} (T : Tx K mg) : TS := tSeq (tPar 1 2 (tCons tDNewK (tCons (tC (.int 0)) tNil))) (rd_law_fewest_1 K T)
abbrev rd_law_38 (K : PySem.W.Frag) {mg : Str → Option Value} (T : Tx K mg) : TS := (tRet (tC (.bl true)))
abbrev rd_law_37 (K : PySem.W.Frag) {mg : Str → Option Value} (T : Tx K mg) : TS := tNext
abbrev rd_law_36 (K : PySem.W.Frag) {mg : Str → Option Value} (T : Tx K mg) : TS := (tRet (tC (.bl false)))
abbrev rd_law_35 (K : PySem.W.Frag) {mg : Str → Option Value} (T : Tx K mg) : TS := (tIfS (tAnd (tTest (tOp (rIn K true) (tVar 11) (tVar 7))) (tAnd (tTest (tOp (rNeU K) (tOp (rIx K) (tVar 3) (tVar 11)) (tTup tNil))) (tB (tCall (spF 2 (S_shows_many K T)) [] E0 (tCons (tVar 3) (tCons (tCB (rSortedI K) (tCons (tOp (rAddU K) (tVar 7) (tLst (tCons (tVar 11) tNil))) tNil)) tNil)))))) (rd_law_36 K T) (rd_law_37 K T))
abbrev rd_law_34 (K : PySem.W.Frag) {mg : Str → Option Value} (T : Tx K mg) : TS := (tFor (iRng1 (tCons (tCB (rLenU K) (tCons (tVar 3) tNil)) tNil)) (gName 11) (rd_law_35 K T))
abbrev rd_law_33 (K : PySem.W.Frag) {mg : Str → Option Value} (T : Tx K mg) : TS := tNext
abbrev rd_law_32 (K : PySem.W.Frag) {mg : Str → Option Value} (T : Tx K mg) : TS := (tRet (tC (.bl false)))
abbrev rd_law_31 (K : PySem.W.Frag) {mg : Str → Option Value} (T : Tx K mg) : TS := Evl.tCut (tIfS (tOr (tB (tCall (spF 2 (S_shows_many K T)) [] E0 (tCons (tVar 3) (tCons (tOp (rAddU K) (tVar 7) (tLst (tCons (tCB (rLenU K) (tCons (tVar 3) tNil)) tNil))) tNil)))) (tOr (tB (tCall (spF 2 (S_shows_many K T)) [] E0 (tCons (tVar 3) (tCons (tOp (rAddU K) (tLst (tCons (tUn (rU fun i => .int (-i)) (tC (.int 1))) tNil)) (tVar 7)) tNil)))) (tAnd (tTest (tOp (rI0 fun i j => .bl (decide (j < i))) (tCB (rLenU K) (tCons (tVar 7) tNil)) (tC (.int 1)))) (tB (tCall (spF 2 (S_shows_many K T)) [] E0 (tCons (tVar 3) (tCons (tRevL K (tVar 7)) tNil))))))) (rd_law_32 K T) (rd_law_33 K T)) (rd_law_34 K T)
abbrev rd_law_30 (K : PySem.W.Frag) {mg : Str → Option Value} (T : Tx K mg) : TS := tNext
abbrev rd_law_29 (K : PySem.W.Frag) {mg : Str → Option Value} (T : Tx K mg) : TS := (tRet (tC (.bl false)))
abbrev rd_law_28 (K : PySem.W.Frag) {mg : Str → Option Value} (T : Tx K mg) : TS := Evl.tCut (tIfS (tAnd (tTest (tOp (rNeU K) (tVar 14) (tLst tNil))) (tB (tCall (spF 2 (S_shows_many K T)) [] E0 (tCons (tVar 3) (tCons (tCB (rSortedI K) (tCons (tOp (rAddU K) (tVar 7) (tSl (rSlU K) (tVar 14) tNoPart (tPart (tC (.int 1))))) tNil)) tNil))))) (rd_law_29 K T) (rd_law_30 K T)) (rd_law_31 K T)
abbrev rd_law_27 (K : PySem.W.Frag) {mg : Str → Option Value} (T : Tx K mg) : TS := tSeq (tAsg (tLc (iRng1 (tCons (tCB (rLenU K) (tCons (tVar 3) tNil)) tNil)) (gName 11) (tTest (tOp (rEqU K) (tOp (rIx K) (tVar 3) (tVar 11)) (tTup tNil))) (tVar 11) [11]) (gName 14)) (rd_law_28 K T)
abbrev rd_law_26 (K : PySem.W.Frag) {mg : Str → Option Value} (T : Tx K mg) : TS := tNext
abbrev rd_law_25 (K : PySem.W.Frag) {mg : Str → Option Value} (T : Tx K mg) : TS := (tRet (tC (.bl false)))
abbrev rd_law_24 (K : PySem.W.Frag) {mg : Str → Option Value} (T : Tx K mg) : TS := (tIfS (tAnd (tTest (tOp (rNeU K) (tVar 13) (tVar 6))) (tB (tCall (spF 2 (S_covers K T)) [] E0 (tCons (tVar 3) (tCons (tVar 13) tNil))))) (rd_law_25 K T) (rd_law_26 K T))
abbrev rd_law_23 (K : PySem.W.Frag) {mg : Str → Option Value} (T : Tx K mg) : TS := Evl.tCut (tFor (iSeq K (tTup (tCons (tSl (rSlU K) (tVar 6) (tPart (tC (.int 1))) tNoPart) (tCons (tSl (rSlU K) (tVar 6) tNoPart (tPart (tUn (rU fun i => .int (-i)) (tC (.int 1))))) (tCons (tRevL K (tVar 6)) (tCons (tOp (rAddU K) (tVar 6) (tSl (rSlU K) (tVar 6) tNoPart (tPart (tC (.int 1))))) tNil)))))) (gName 13) (rd_law_24 K T)) (rd_law_27 K T)
abbrev rd_law_22 (K : PySem.W.Frag) {mg : Str → Option Value} (T : Tx K mg) : TS := tNext
abbrev rd_law_21 (K : PySem.W.Frag) {mg : Str → Option Value} (T : Tx K mg) : TS := (tRet (tC (.bl false)))
abbrev rd_law_20 (K : PySem.W.Frag) {mg : Str → Option Value} (T : Tx K mg) : TS := (tIfS (tTest (tOp (rNeU K) (tCall (spF 2 (S_covers K T)) [] E0 (tCons (tVar 3) (tCons (tVar 12) tNil))) (tCB (rAll K) (tCons (tLc (iRng2 (tCons (tOp (rIx K) (tOp (rIx K) (tVar 6) (tVar 11)) (tC (.int 1))) (tCons (tOp (rAddU K) (tOp (rIx K) (tOp (rIx K) (tVar 6) (tVar 11)) (tC (.int 2))) (tC (.int 1))) tNil))) (gName 5) tYes (tOp (rIn K false) (tVar 8) (tOp (rIx K) (tVar 3) (tVar 5))) [5]) tNil)))) (rd_law_21 K T) (rd_law_22 K T))
abbrev rd_law_19 (K : PySem.W.Frag) {mg : Str → Option Value} (T : Tx K mg) : TS := tSeq (tAsg (tOp (rAddU K) (tOp (rAddU K) (tSl (rSlU K) (tVar 6) tNoPart (tPart (tVar 11))) (tLst (tCons (tOp (rAddU K) (tTup (tCons (tVar 8) tNil)) (tSl (rSlU K) (tOp (rIx K) (tVar 6) (tVar 11)) (tPart (tC (.int 1))) tNoPart)) tNil))) (tSl (rSlU K) (tVar 6) (tPart (tOp (rAddU K) (tVar 11) (tC (.int 1)))) tNoPart)) (gName 12)) (rd_law_20 K T)
abbrev rd_law_18 (K : PySem.W.Frag) {mg : Str → Option Value} (T : Tx K mg) : TS := (tFor (iSeq K (tTup (tCons (tC (.str "a")) (tCons (tC (.str "b")) (tCons (tC (.str "c")) (tCons (tC (.str "d")) (tCons (tC (.str "zz")) tNil))))))) (gName 8) (rd_law_19 K T))
abbrev rd_law_17 (K : PySem.W.Frag) {mg : Str → Option Value} (T : Tx K mg) : TS := Evl.tCut (tFor (iRng1 (tCons (tCB (rLenU K) (tCons (tVar 6) tNil)) tNil)) (gName 11) (rd_law_18 K T)) (rd_law_23 K T)
abbrev rd_law_16 (K : PySem.W.Frag) {mg : Str → Option Value} (T : Tx K mg) : TS := tNext
abbrev rd_law_15 (K : PySem.W.Frag) {mg : Str → Option Value} (T : Tx K mg) : TS := (tRet (tC (.bl false)))
abbrev rd_law_14 (K : PySem.W.Frag) {mg : Str → Option Value} (T : Tx K mg) : TS := (tIfS (tB (tCB (rAny K) (tCons (tLc (iRng2 (tCons (tVar 9) (tCons (tOp (rAddU K) (tVar 10) (tC (.int 1))) tNil))) (gName 11) tYes (tOp (rIn K true) (tVar 8) (tOp (rIx K) (tVar 3) (tVar 11))) [11]) tNil))) (rd_law_15 K T) (rd_law_16 K T))
abbrev rd_law_13 (K : PySem.W.Frag) {mg : Str → Option Value} (T : Tx K mg) : TS := Evl.tCut (tFor (iSeq K (tVar 6)) (gTup K 3 (gCons (gName 8) (gCons (gName 9) (gCons (gName 10) gNil)))) (rd_law_14 K T)) (rd_law_17 K T)
abbrev rd_law_12 (K : PySem.W.Frag) {mg : Str → Option Value} (T : Tx K mg) : TS := tNext
abbrev rd_law_11 (K : PySem.W.Frag) {mg : Str → Option Value} (T : Tx K mg) : TS := (tRet (tC (.bl false)))
abbrev rd_law_10 (K : PySem.W.Frag) {mg : Str → Option Value} (T : Tx K mg) : TS := Evl.tCut (tIfS (tNot (tB (tCall (spF 2 (S_shows_many K T)) [] E0 (tCons (tVar 3) (tCons (tVar 7) tNil))))) (rd_law_11 K T) (rd_law_12 K T)) (rd_law_13 K T)
abbrev rd_law_9 (K : PySem.W.Frag) {mg : Str → Option Value} (T : Tx K mg) : TS := tNext
abbrev rd_law_8 (K : PySem.W.Frag) {mg : Str → Option Value} (T : Tx K mg) : TS := (tRet (tC (.bl false)))
abbrev rd_law_7 (K : PySem.W.Frag) {mg : Str → Option Value} (T : Tx K mg) : TS := Evl.tCut (tIfS (tOr (tNot (tB (tCall (spF 2 (S_covers K T)) [] E0 (tCons (tVar 3) (tCons (tVar 6) tNil))))) (tOr (tTest (tOp (rNeU K) (tCB (rLenU K) (tCons (tVar 6) tNil)) (tCall (spF 1 (S_law_fewest K T)) [] E0 (tCons (tVar 3) tNil)))) (tTest (tOp (rNeU K) (tVar 7) (tLc (iSeq K (tVar 6)) (gName 15) tYes (tOp (rIx K) (tVar 15) (tC (.int 1))) [15]))))) (rd_law_8 K T) (rd_law_9 K T)) (rd_law_10 K T)
abbrev rd_law_6 (K : PySem.W.Frag) {mg : Str → Option Value} (T : Tx K mg) : TS := tSeq (tPar 6 7 (tCons (tCall (spF 1 (S_pieces_of K T)) [] E0 (tCons (tVar 3) tNil)) (tCons (tCall (spF 1 (S_stops_of K T)) [] E0 (tCons (tVar 3) tNil)) tNil))) (rd_law_7 K T)
abbrev rd_law_5 (K : PySem.W.Frag) {mg : Str → Option Value} (T : Tx K mg) : TS := (tDrop (tBM K "list" rAppend (tVar 3) (tCons (tCB (rTupOf K) (tCons (tVar 4) tNil)) tNil)))
abbrev rd_law_4 (K : PySem.W.Frag) {mg : Str → Option Value} (T : Tx K mg) : TS := tSeq (tAsg (tLc (iSeq K (tTup (tCons (tC (.str "a")) (tCons (tC (.str "b")) (tCons (tC (.str "c")) (tCons (tC (.str "d")) tNil)))))) (gName 8) (tTest (tOp (rEqU K) (tOp (rI0 fun i j => .bl (decide (j < i))) (tCall (spF 2 (S_law_take K T)) [] E0 (tCons (tVar 1) (tCons (tC (.int 4)) tNil))) (tC (.int 0))) (tOp (rIn K false) (tVar 8) (tVar 4)))) (tVar 8) [8]) (gName 4)) (rd_law_5 K T)
abbrev rd_law_3 (K : PySem.W.Frag) {mg : Str → Option Value} (T : Tx K mg) : TS := Evl.tCut (tFor (iRng1 (tCons (tCall (spF 2 (S_law_take K T)) [] E0 (tCons (tVar 1) (tCons (tC (.int 14)) tNil))) tNil)) (gName 5) (rd_law_4 K T)) (rd_law_6 K T)
abbrev rd_law_2 (K : PySem.W.Frag) {mg : Str → Option Value} (T : Tx K mg) : TS := tSeq (tAsg (tTup (tCons (tLst tNil) (tCons (tLst tNil) tNil))) (gTup K 2 (gCons (gName 3) (gCons (gName 4) gNil)))) (rd_law_3 K T)
abbrev rd_law_1 (K : PySem.W.Frag) {mg : Str → Option Value} (T : Tx K mg) : TS := Evl.tCut (tFor (iRng1 (tCons (tC (.int 4)) tNil)) (gName 2) (rd_law_2 K T)) (rd_law_38 K T)
abbrev rd_law_0 (K : PySem.W.Frag) {mg : Str → Option Value} (T : Tx K mg) : TS := tSeq (tAsg (tLst (tCons (tVar 0) (tCons (tC (.int 0)) tNil))) (gName 1)) (rd_law_1 K T)
/-! ### steps -/
local macro_rules | `(tactic| walk_at "shp") => `(tactic| first
  | exact shp_int
  | exact shp_none
  | exact shp_bool
  | exact shp_oi _
  | (apply shp_str; first | decide +kernel | assumption)
  | (apply shp_list; walk_at "shpA")
  | (apply shp_tuple; walk_at "shpA")
  | assumption)
local macro_rules | `(tactic| walk_at "shpA") => `(tactic| first
  | exact shpA_nil
  | (apply shpA_cons; (· walk_at "shp"); walk_at "shpA")
  | (apply shpA_map; intro _ _; walk_at "shp"))
/-- what is left beside: closed, or left -/
local macro_rules | `(tactic| walk_at "side") => `(tactic| first
  | (with_reducible show Shp _ _); walk_at "shp"
  | (with_reducible show _ ≤ sizeLine); first | decide | (show _ ≤ 16777216; omega) | (show _ ≤ 16777216; simp only [List.length_map, List.length_append, List.length_cons, List.length_nil]; omega)
  | (with_reducible show _ < sizeLine); first | decide | (show _ < 16777216; omega) | (show _ < 16777216; simp only [List.length_map, List.length_append, List.length_cons, List.length_nil]; omega)
  | (with_reducible show CMul _ _); first | exact Or.inr ⟨by decide, by decide⟩ | exact Or.inl ⟨by decide, by decide⟩ | exact Or.inl ⟨by omega, by omega⟩ | exact Or.inr ⟨by omega, by omega⟩
  | (with_reducible show CPow _ _); exact ⟨by decide, by decide, by decide⟩
  | (with_reducible show CDiv _ _); first | exact ⟨by decide, by decide⟩ | exact ⟨by omega, by omega⟩
  | (with_reducible show Le _ _); first | with_reducible exact Le.refl _ | with_reducible assumption
  | (with_reducible show L2.atI _ _ = _); first | with_reducible assumption | exact rfl | exact atI_nat rfl
  | (with_reducible show _ < _); first | with_reducible assumption | decide | omega
  | (with_reducible show _ ≤ _); first | with_reducible assumption | decide | omega
  | (with_reducible show _ ∧ _); omega
  | (with_reducible show ∀ i, i ∈ _ → i ∈ _); decide
  | (with_reducible show (_ : Nat) = _); first | exact rfl | omega)
local macro_rules | `(tactic| walk_at "rm") => `(tactic| first
  | exact Rm.here
  | (apply Rm.there; walk_at "rm"))
local macro_rules | `(tactic| walk_at "perm") => `(tactic| first
  | with_reducible exact List.Perm.refl _
  | (apply perm_step; (· walk_at "rm"); walk_at "perm")
  | exact List.Perm.refl _)
local macro_rules | `(tactic| walk_at "pk") => `(tactic| first
  | with_reducible exact Pk.here
  | ((with_reducible apply Pk.there); walk_at "pk"))
/-- a part of a reading: what it gives. One word for all kinds -/
local macro_rules | `(tactic| walk_at "sx") => `(tactic| first
  -- an expression
  | with_reducible exact ev_int
  | with_reducible exact ev_bl
  | with_reducible exact ev_str
  | with_reducible exact ev_non
  | (with_reducible apply ev_var) <;> walk_at "sx"
  | (with_reducible apply ev_op) <;> walk_at "sx"
  | (with_reducible apply ev_fld) <;> walk_at "sx"
  | (with_reducible apply ev_cb) <;> walk_at "sx"
  | (with_reducible apply ev_tupD) <;> walk_at "sx"
  | (with_reducible apply ev_lstD) <;> walk_at "sx"
  | (with_reducible apply ev_tupV) <;> walk_at "sx"
  | (with_reducible apply ev_lstV) <;> walk_at "sx"
  | (with_reducible apply ev_slL) <;> walk_at "sx"
  | (with_reducible apply ev_slT1) <;> walk_at "sx"
  | (with_reducible apply ev_slT) <;> walk_at "sx"
  | (with_reducible apply ev_un) <;> walk_at "sx"
  | (with_reducible apply ev_chain) <;> walk_at "sx"
  | (with_reducible apply ev_andV) <;> walk_at "sx"
  | (with_reducible apply ev_orV) <;> walk_at "sx"
  | (with_reducible apply ev_notV) <;> walk_at "sx"
  | (with_reducible apply ev_lcY) <;> walk_at "sx"
  | (with_reducible apply ev_lc) <;> walk_at "sx"
  | ((with_reducible show ∀ a, a ∈ _ → ∃ ρ'' js, _); intro a ha; dsimp only [wipeE, List.set]; (first | with_reducible apply lcY_k | with_reducible apply lcF_k) <;> walk_at "sx")
  | (with_reducible apply ev_call) <;> walk_at "sx"
  | (with_reducible apply ev_meth) <;> walk_at "sx"
  | (with_reducible apply ev_bm) <;> walk_at "sx"
  | (with_reducible show Ev _ _ _ _ _); walk_at "own"
  -- a test
  | with_reducible exact et_yes
  | (with_reducible apply et_test) <;> walk_at "sx"
  | (with_reducible apply et_B) <;> walk_at "sx"
  | (with_reducible apply et_not) <;> walk_at "sx"
  | (with_reducible apply et_and) <;> walk_at "sx"
  | (with_reducible apply et_or) <;> walk_at "sx"
  -- arguments
  | with_reducible exact ea_nil
  | (with_reducible apply ea_cons) <;> walk_at "sx"
  | with_reducible exact ed_nil
  | (with_reducible apply ed_cons) <;> walk_at "sx"
  | with_reducible exact eo_none
  | (with_reducible apply eo_some) <;> walk_at "sx"
  -- what an operation gives
  | with_reducible exact rv_addI
  | with_reducible exact rv_int0
  | with_reducible exact rv_bl0
  | with_reducible exact rv_eqI
  | with_reducible exact rv_neI
  | with_reducible exact rv_eqS
  | with_reducible exact rv_neS
  | with_reducible exact rv_isN
  | with_reducible exact rv_notN
  | (with_reducible apply rv_intC) <;> walk_at "sx"
  | (with_reducible apply rv_addS) <;> walk_at "sx"
  | (with_reducible apply rv_ixL isl_dat) <;> walk_at "sx"
  | (with_reducible apply rv_ixT ist_dat) <;> walk_at "sx"
  | (with_reducible apply rv_ixL) <;> walk_at "sx"
  | (with_reducible apply rv_ixLV) <;> walk_at "sx"
  | (apply rv_ixT ist_dat) <;> walk_at "sx"
  | (with_reducible apply rv_ixTV istv_vtup) <;> walk_at "sx"
  | (with_reducible apply rv_ixScr) <;> walk_at "sx"
  | (apply rv_ixL isl_dat) <;> walk_at "sx"
  | (with_reducible apply rv_ixL) <;> walk_at "sx"
  | (apply rv_cat) <;> walk_at "sx"
  | (with_reducible apply rv_eqD) <;> walk_at "sx"
  | (with_reducible apply rv_neD) <;> walk_at "sx"
  | with_reducible exact ru_neg
  | with_reducible exact rc_int
  | with_reducible exact rc_abs
  | with_reducible exact rc_max2
  | with_reducible exact rc_min2
  | with_reducible exact rc_lenScr
  | with_reducible exact rc_lenM isl_dat
  | ((with_reducible apply rc_lenM); (with_reducible apply isl_cell) <;> walk_at "sx")
  | with_reducible exact rc_lenMT
  | (with_reducible apply rc_lenL) <;> walk_at "sx"
  | (apply rc_lenT ist_dat)
  | (with_reducible apply rc_tupL) <;> walk_at "sx"
  | (apply rc_tupT)
  | (with_reducible apply rc_lstL) <;> walk_at "sx"
  | (apply rc_lstT ist_dat)
  | with_reducible exact rc_anyM
  | with_reducible exact rc_allM
  | ((with_reducible apply rm_append) <;> walk_at "sx")
  -- lists, tuples, data
  | with_reducible exact isl_dat
  | with_reducible exact isd_dat
  | with_reducible exact isd_scr
  | (with_reducible apply isl_cell) <;> walk_at "sx"
  | (with_reducible apply islv_cell) <;> walk_at "sx"
  | with_reducible exact islv_vlst
  | (with_reducible apply isd_cell) <;> walk_at "sx"
  | (with_reducible apply isd_vtup) <;> walk_at "sx"
  | (with_reducible apply isd_vlst) <;> walk_at "sx"
  | with_reducible exact isds_nil
  | (with_reducible apply isds_cons) <;> walk_at "sx"
  | with_reducible exact fzl_dat
  | with_reducible exact fzl_v
  | with_reducible exact fzt_dat
  | with_reducible exact fzt_v
  | (with_reducible apply ity_l) <;> walk_at "sx"
  | with_reducible exact ity_s
  | (with_reducible apply IsLst.v) <;> walk_at "sx"
  -- places
  | with_reducible exact At.here
  | (with_reducible apply At.there) <;> walk_at "sx"
  | with_reducible exact SetAt.here
  | (with_reducible apply SetAt.there) <;> walk_at "sx"
  | with_reducible exact List.mem_cons_self
  | (with_reducible apply List.mem_cons_of_mem) <;> walk_at "sx"
  | ((with_reducible show (_ : Addr × CD) ∈ _); with_reducible assumption)
  | with_reducible exact Put.here
  | (with_reducible apply Put.there) <;> walk_at "sx"
  | ((with_reducible show Put _ _ _ _ _); with_reducible assumption)
  | ((with_reducible show Sw _ _ _ _); with_reducible assumption)
  | with_reducible exact sw_nil
  | ((with_reducible apply sw_pick); (· walk_at "pk"); walk_at "sx")
  | ((with_reducible apply sw_skip); walk_at "sx")
  | with_reducible exact FGet.here
  | ((with_reducible apply FGet.there); (· decide +kernel); walk_at "sx")
  | with_reducible exact FPut.here
  | with_reducible exact FPut.new
  | ((with_reducible apply FPut.there); (· decide +kernel); walk_at "sx")
  | (with_reducible show ClsF _ _ _); with_reducible assumption
  | (with_reducible show RtQ _ _ _); assumption
  | (with_reducible show (_ : Str) ∈ _); decide +kernel
  | (with_reducible show ¬ (_ : Str) ∈ _); decide +kernel
  -- what is walked, targets
  | (with_reducible apply ei_rng1) <;> walk_at "sx"
  | (with_reducible apply ei_rng2) <;> walk_at "sx"
  | (with_reducible apply ei_enumD) <;> walk_at "sx"
  | (with_reducible apply ei_enum) <;> walk_at "sx"
  | (with_reducible apply ei_zip) <;> walk_at "sx"
  | (with_reducible apply ei_seqLM) <;> walk_at "sx"
  | (with_reducible apply ei_seqTM) <;> walk_at "sx"
  | (with_reducible apply ei_seqL) <;> walk_at "sx"
  | (with_reducible apply ei_seqT) <;> walk_at "sx"
  | (with_reducible apply tg_name) <;> walk_at "sx"
  | (with_reducible apply tg_tup istv_vtup) <;> walk_at "sx"
  | (with_reducible apply td_tup) <;> walk_at "sx"
  | with_reducible exact td_nil
  | (with_reducible apply td_cons) <;> walk_at "sx"
  | with_reducible exact tgs_nil
  | (with_reducible apply tgs_cons) <;> walk_at "sx"
  -- beside
  | walk_at "spec"
  | walk_at "side"
  | walk_at "leave")
/-- a question of another kind is left -/
local macro_rules | `(tactic| walk_at "leave") => `(tactic| first
  | with_reducible show Cont _ _ _ _
  | with_reducible show Shp _ _
  | with_reducible show _ ≤ _
  | with_reducible show _ < _
  | with_reducible show CMul _ _
  | with_reducible show CDiv _ _
  | with_reducible show CPow _ _
  | with_reducible show _ = _
  | with_reducible show Le _ _
  | ((with_reducible show _ = true → _); with_reducible assumption)
  | ((with_reducible show _ = true → _); intro _; walk_at "sx")
  | ((with_reducible show _ = false → _); intro _; walk_at "sx"))
/-- a plain statement -/
local macro_rules | `(tactic| walk_at "st") => `(tactic| first
  | (with_reducible apply c_seq); walk_at "st"
  | (with_reducible apply c_asg) <;> (first | walk_at "sx" | skip)
  | (with_reducible apply c_asgG) <;> (first | walk_at "sx" | skip)
  | (with_reducible apply c_par) <;> (first | walk_at "sx" | skip)
  | (with_reducible apply c_par3) <;> (first | walk_at "sx" | skip)
  | (with_reducible apply c_aug) <;> (first | walk_at "sx" | skip)
  | (with_reducible apply c_augS) <;> (first | walk_at "sx" | skip)
  | (with_reducible apply c_fld) <;> (first | walk_at "sx" | skip)
  | (with_reducible apply c_drop) <;> (first | walk_at "sx" | skip)
  | with_reducible apply c_next
  | with_reducible apply c_break
  | with_reducible apply c_cont)
/-- a value is handed back; a word is met again -/
local macro_rules | `(tactic| walk_at "ret") => `(tactic| (with_reducible apply c_ret) <;> (first | walk_at "sx" | skip))
local macro_rules | `(tactic| walk_at "inv") => `(tactic| (with_reducible apply c_inv) <;> (first | walk_at "side" | skip))
local macro_rules | `(tactic| walk_at "seq") => `(tactic| with_reducible apply c_seq)
local macro_rules | `(tactic| walk_at "cut") => `(tactic| with_reducible apply c_cut)
local macro_rules | `(tactic| walk_at "if") => `(tactic| ((with_reducible apply c_if); (case' h => first | walk_at "sx" | skip)))
local macro_rules | `(tactic| walk_at "fgt") => `(tactic| first
  | exact Fgt.nil
  | (with_reducible apply Fgt.keep; walk_at "fgt")
  | (with_reducible apply Fgt.drop; walk_at "fgt"))

theorem law_number_body {K : PySem.W.Frag} {mg : Str → Option Value} (T : Tx K mg) : ∀ Q ds M P Φ, ds.length = 2 → S_law_number K T ds M P → RtQ Q Φ P → Cont (rd_law_number_0 K T (fnD Q)) Φ (entry ["_law_script", "_law_index", "_law_cell", "_law_blend"] ds) M := by
  rintro Q ds M P Φ - ⟨s, i, rfl, hP⟩ hQ
  show Cont _ _ [some (vscr K s), some (dat (.int i)), none, none] _
  have he : (PyData.list (List.map PyData.int s)).eqv (PyData.list []) = decide (s = []) := EqOk.dec (eqok_list eqok_int) s []
  apply c_cut
  refine c_if (by walk_at "sx") ?_ ?_
  · rw [he]
    intro h
    have hs := of_decide_eq_true h
    walk_at "ret"
    have : lawNum s i = (i * 48271 + 12345) % 2147483647 := by unfold lawNum; rw [if_pos hs]
    rw [this] at hP
    exact hP
  · rw [he]
    intro h
    have hs := of_decide_eq_false h
    have hl : (0 : Int) < s.length := by
      cases s with
      | nil => exact absurd rfl hs
      | cons _ _ => simp
    have h0 : 0 ≤ i % s.length := Int.emod_nonneg _ (by omega)
    have h1 : i % s.length < s.length := Int.emod_lt_of_pos _ hl
    have hat : L2.atI s (i % s.length) = some (s.getD (i % s.length).toNat 0) := by
      have hj : (i % s.length).toNat < s.length := by omega
      have e : ((i % s.length).toNat : Int) = i % s.length := by omega
      have e2 := atI_nat (xs := s) (j := (i % s.length).toNat) (v := s.getD (i % s.length).toNat 0) (by simp [List.getD, hj])
      rw [e] at e2
      exact e2
    apply c_next
    walk_at "st"
    refine c_cutW (fun ρ' M' => ρ' = [some (vscr K s), some (dat (.int i)), some (dat (.int (scrCell s i))), none] ∧ M' = M) ?_ ?_
    · refine c_if (by walk_at "sx") ?_ ?_
      · intro hb
        have hb := of_decide_eq_true hb
        walk_at "st"
        walk_at "inv"
        refine ⟨?_, rfl⟩
        have : scrCell s i = s.getD (i % s.length).toNat 0 % 10 ^ (18 : Int).toNat := by
          unfold scrCell
          exact if_pos hb
        rw [this]
      · intro hb
        have hb := of_decide_eq_false hb
        apply c_next
        walk_at "inv"
        refine ⟨?_, rfl⟩
        have : scrCell s i = s.getD (i % s.length).toNat 0 := by
          unfold scrCell
          exact if_neg hb
        rw [this]
    · rintro ρ' M' ⟨rfl, rfl⟩
      walk_at "st"
      walk_at "ret"
      have : lawNum s i = (((scrCell s i + 977 * i) * 48271 + 31 * s.length) % 2147483647 * 69621 % 2147483629 * 16807 + i) % 2147483587 := by unfold lawNum; rw [if_neg hs]
      rw [this] at hP
      exact hP
theorem number_ev {K : PySem.W.Frag} {mg : Str → Option Value} {T : Tx K mg} {s : List Int} {i : Int} {M : Cells} : S_law_number K T [vscr K s, dat (.int i)] M (Det (dat (.int (lawNum s i))) M) := ⟨s, i, rfl, rfl, rfl⟩
theorem take_ev {K : PySem.W.Frag} {mg : Str → Option Value} {T : Tx K mg} {s : List Int} {k m : Int} {p : Addr} {M M' : Cells} (h : Put p (cDraw K s k) (cDraw K s (k + 1)) M M') (hm : 0 < m) :
    S_law_take K T [val (.ref p), dat (.int m)] M (Det (dat (.int (tk s (k + 1) m))) M') := ⟨s, k, m, p, M', rfl, hm, h, rfl, rfl⟩
local macro_rules | `(tactic| walk_at "spec") => `(tactic| first
  | with_reducible exact number_ev
  | (with_reducible apply take_ev) <;> walk_at "sx")
theorem law_take_body {K : PySem.W.Frag} {mg : Str → Option Value} (T : Tx K mg) : ∀ Q ds M P Φ, ds.length = 2 → S_law_take K T ds M P → RtQ Q Φ P → Cont (rd_law_take_0 K T (fnD Q)) Φ (entry ["_law_draw", "_law_many"] ds) M := by
  rintro Q ds M P Φ - ⟨s, k, m, p, M', rfl, hm, hput, hP⟩ hQ
  show Cont _ _ [some (val (.ref p)), some (dat (.int m))] _
  apply c_seq
  refine c_augS (j := 1) (a := k) (p := p) (by walk_at "sx") (by walk_at "sx") rfl rfl (by walk_at "sx") hput ?_
  have hm' : (p, cDraw K s (k + 1)) ∈ M' := by
    clear hP hQ
    induction hput with
    | here => exact List.mem_cons_self
    | there _ ih => exact List.mem_cons_of_mem _ ih
  have hl : IsLstV (val (.ref p)) M' [vscr K s, dat (.int (k + 1))] := islv_cell hm'
  walk_at "ret"
  exact hP

end Lw


set_option Elab.async false
set_option linter.all false
set_option maxRecDepth 100000
set_option maxHeartbeats 4000000
namespace Lw
open PySem L2 Sx
/-! ### steps -/
local macro_rules | `(tactic| walk_at "shp") => `(tactic| first
  | exact shp_int
  | exact shp_none
  | exact shp_bool
  | exact shp_oi _
  | (apply shp_str; first | decide +kernel | assumption)
  | (apply shp_list; walk_at "shpA")
  | (apply shp_tuple; walk_at "shpA")
  | assumption)
local macro_rules | `(tactic| walk_at "shpA") => `(tactic| first
  | exact shpA_nil
  | (apply shpA_cons; (· walk_at "shp"); walk_at "shpA")
  | (apply shpA_map; intro _ _; walk_at "shp"))
/-- what is left beside: closed, or left -/
local macro_rules | `(tactic| walk_at "side") => `(tactic| first
  | (with_reducible show Shp _ _); walk_at "shp"
  | (with_reducible show _ ≤ sizeLine); first | decide | (show _ ≤ 16777216; omega) | (show _ ≤ 16777216; simp only [List.length_map, List.length_append, List.length_cons, List.length_nil]; omega)
  | (with_reducible show _ < sizeLine); first | decide | (show _ < 16777216; omega) | (show _ < 16777216; simp only [List.length_map, List.length_append, List.length_cons, List.length_nil]; omega)
  | (with_reducible show CMul _ _); first | exact Or.inr ⟨by decide, by decide⟩ | exact Or.inl ⟨by decide, by decide⟩ | exact Or.inl ⟨by omega, by omega⟩ | exact Or.inr ⟨by omega, by omega⟩
  | (with_reducible show CPow _ _); exact ⟨by decide, by decide, by decide⟩
  | (with_reducible show CDiv _ _); first | exact ⟨by decide, by decide⟩ | exact ⟨by omega, by omega⟩
  | (with_reducible show Le _ _); first | with_reducible exact Le.refl _ | with_reducible assumption
  | (with_reducible show L2.atI _ _ = _); first | with_reducible assumption | exact rfl | exact atI_nat rfl
  | (with_reducible show _ < _); first | with_reducible assumption | decide | omega
  | (with_reducible show _ ≤ _); first | with_reducible assumption | decide | omega
  | (with_reducible show _ ∧ _); omega
  | (with_reducible show ∀ i, i ∈ _ → i ∈ _); decide
  | (with_reducible show (_ : Nat) = _); first | exact rfl | omega)
local macro_rules | `(tactic| walk_at "rm") => `(tactic| first
  | exact Rm.here
  | (apply Rm.there; walk_at "rm"))
local macro_rules | `(tactic| walk_at "perm") => `(tactic| first
  | with_reducible exact List.Perm.refl _
  | (apply perm_step; (· walk_at "rm"); walk_at "perm")
  | exact List.Perm.refl _)
local macro_rules | `(tactic| walk_at "pk") => `(tactic| first
  | with_reducible exact Pk.here
  | ((with_reducible apply Pk.there); walk_at "pk"))
/-- a part of a reading: what it gives. One word for all kinds -/
local macro_rules | `(tactic| walk_at "sx") => `(tactic| first
  -- an expression
  | with_reducible exact ev_int
  | with_reducible exact ev_bl
  | with_reducible exact ev_str
  | with_reducible exact ev_non
  | (with_reducible apply ev_var) <;> walk_at "sx"
  | (with_reducible apply ev_op) <;> walk_at "sx"
  | (with_reducible apply ev_fld) <;> walk_at "sx"
  | (with_reducible apply ev_cb) <;> walk_at "sx"
  | (with_reducible apply ev_tupD) <;> walk_at "sx"
  | (with_reducible apply ev_lstD) <;> walk_at "sx"
  | (with_reducible apply ev_tupV) <;> walk_at "sx"
  | (with_reducible apply ev_lstV) <;> walk_at "sx"
  | (with_reducible apply ev_slL) <;> walk_at "sx"
  | (with_reducible apply ev_slT1) <;> walk_at "sx"
  | (with_reducible apply ev_slT) <;> walk_at "sx"
  | (with_reducible apply ev_un) <;> walk_at "sx"
  | (with_reducible apply ev_chain) <;> walk_at "sx"
  | (with_reducible apply ev_andV) <;> walk_at "sx"
  | (with_reducible apply ev_orV) <;> walk_at "sx"
  | (with_reducible apply ev_notV) <;> walk_at "sx"
  | (with_reducible apply ev_lcY) <;> walk_at "sx"
  | (with_reducible apply ev_lc) <;> walk_at "sx"
  | ((with_reducible show ∀ a, a ∈ _ → ∃ ρ'' js, _); intro a ha; dsimp only [wipeE, List.set]; (first | with_reducible apply lcY_k | with_reducible apply lcF_k) <;> walk_at "sx")
  | (with_reducible apply ev_call) <;> walk_at "sx"
  | (with_reducible apply ev_meth) <;> walk_at "sx"
  | (with_reducible apply ev_bm) <;> walk_at "sx"
  | (with_reducible show Ev _ _ _ _ _); walk_at "own"
  -- a test
  | with_reducible exact et_yes
  | (with_reducible apply et_test) <;> walk_at "sx"
  | (with_reducible apply et_B) <;> walk_at "sx"
  | (with_reducible apply et_not) <;> walk_at "sx"
  | (with_reducible apply et_and) <;> walk_at "sx"
  | (with_reducible apply et_or) <;> walk_at "sx"
  -- arguments
  | with_reducible exact ea_nil
  | (with_reducible apply ea_cons) <;> walk_at "sx"
  | with_reducible exact ed_nil
  | (with_reducible apply ed_cons) <;> walk_at "sx"
  | with_reducible exact eo_none
  | (with_reducible apply eo_some) <;> walk_at "sx"
  -- what an operation gives
  | with_reducible exact rv_addI
  | with_reducible exact rv_int0
  | with_reducible exact rv_bl0
  | with_reducible exact rv_eqI
  | with_reducible exact rv_neI
  | with_reducible exact rv_eqS
  | with_reducible exact rv_neS
  | with_reducible exact rv_isN
  | with_reducible exact rv_notN
  | (with_reducible apply rv_intC) <;> walk_at "sx"
  | (with_reducible apply rv_addS) <;> walk_at "sx"
  | (with_reducible apply rv_ixL isl_dat) <;> walk_at "sx"
  | (with_reducible apply rv_ixT ist_dat) <;> walk_at "sx"
  | (with_reducible apply rv_ixL) <;> walk_at "sx"
  | (with_reducible apply rv_ixLV) <;> walk_at "sx"
  | (apply rv_ixT ist_dat) <;> walk_at "sx"
  | (with_reducible apply rv_ixTV istv_vtup) <;> walk_at "sx"
  | (with_reducible apply rv_ixScr) <;> walk_at "sx"
  | (apply rv_ixL isl_dat) <;> walk_at "sx"
  | (with_reducible apply rv_ixL) <;> walk_at "sx"
  | (apply rv_cat) <;> walk_at "sx"
  | (with_reducible apply rv_eqD) <;> walk_at "sx"
  | (with_reducible apply rv_neD) <;> walk_at "sx"
  | with_reducible exact ru_neg
  | with_reducible exact rc_int
  | with_reducible exact rc_abs
  | with_reducible exact rc_max2
  | with_reducible exact rc_min2
  | with_reducible exact rc_lenScr
  | with_reducible exact rc_lenM isl_dat
  | ((with_reducible apply rc_lenM); (with_reducible apply isl_cell) <;> walk_at "sx")
  | with_reducible exact rc_lenMT
  | (with_reducible apply rc_lenL) <;> walk_at "sx"
  | (apply rc_lenT ist_dat)
  | (with_reducible apply rc_tupL) <;> walk_at "sx"
  | (apply rc_tupT)
  | (with_reducible apply rc_lstL) <;> walk_at "sx"
  | (apply rc_lstT ist_dat)
  | with_reducible exact rc_anyM
  | with_reducible exact rc_allM
  | ((with_reducible apply rm_append) <;> walk_at "sx")
  -- lists, tuples, data
  | with_reducible exact isl_dat
  | with_reducible exact isd_dat
  | with_reducible exact isd_scr
  | (with_reducible apply isl_cell) <;> walk_at "sx"
  | (with_reducible apply islv_cell) <;> walk_at "sx"
  | with_reducible exact islv_vlst
  | (with_reducible apply isd_cell) <;> walk_at "sx"
  | (with_reducible apply isd_vtup) <;> walk_at "sx"
  | (with_reducible apply isd_vlst) <;> walk_at "sx"
  | with_reducible exact isds_nil
  | (with_reducible apply isds_cons) <;> walk_at "sx"
  | with_reducible exact fzl_dat
  | with_reducible exact fzl_v
  | with_reducible exact fzt_dat
  | with_reducible exact fzt_v
  | (with_reducible apply ity_l) <;> walk_at "sx"
  | with_reducible exact ity_s
  | (with_reducible apply IsLst.v) <;> walk_at "sx"
  -- places
  | with_reducible exact At.here
  | (with_reducible apply At.there) <;> walk_at "sx"
  | with_reducible exact SetAt.here
  | (with_reducible apply SetAt.there) <;> walk_at "sx"
  | with_reducible exact List.mem_cons_self
  | (with_reducible apply List.mem_cons_of_mem) <;> walk_at "sx"
  | ((with_reducible show (_ : Addr × CD) ∈ _); with_reducible assumption)
  | with_reducible exact Put.here
  | (with_reducible apply Put.there) <;> walk_at "sx"
  | ((with_reducible show Put _ _ _ _ _); with_reducible assumption)
  | ((with_reducible show Sw _ _ _ _); with_reducible assumption)
  | with_reducible exact sw_nil
  | ((with_reducible apply sw_pick); (· walk_at "pk"); walk_at "sx")
  | ((with_reducible apply sw_skip); walk_at "sx")
  | with_reducible exact FGet.here
  | ((with_reducible apply FGet.there); (· decide +kernel); walk_at "sx")
  | with_reducible exact FPut.here
  | with_reducible exact FPut.new
  | ((with_reducible apply FPut.there); (· decide +kernel); walk_at "sx")
  | (with_reducible show ClsF _ _ _); with_reducible assumption
  | (with_reducible show RtQ _ _ _); assumption
  | (with_reducible show (_ : Str) ∈ _); decide +kernel
  | (with_reducible show ¬ (_ : Str) ∈ _); decide +kernel
  -- what is walked, targets
  | (with_reducible apply ei_rng1) <;> walk_at "sx"
  | (with_reducible apply ei_rng2) <;> walk_at "sx"
  | (with_reducible apply ei_enumD) <;> walk_at "sx"
  | (with_reducible apply ei_enum) <;> walk_at "sx"
  | (with_reducible apply ei_zip) <;> walk_at "sx"
  | (with_reducible apply ei_seqLM) <;> walk_at "sx"
  | (with_reducible apply ei_seqTM) <;> walk_at "sx"
  | (with_reducible apply ei_seqL) <;> walk_at "sx"
  | (with_reducible apply ei_seqT) <;> walk_at "sx"
  | (with_reducible apply tg_name) <;> walk_at "sx"
  | (with_reducible apply tg_tup istv_vtup) <;> walk_at "sx"
  | (with_reducible apply td_tup) <;> walk_at "sx"
  | with_reducible exact td_nil
  | (with_reducible apply td_cons) <;> walk_at "sx"
  | with_reducible exact tgs_nil
  | (with_reducible apply tgs_cons) <;> walk_at "sx"
  -- beside
  | walk_at "spec"
  | walk_at "side"
  | walk_at "leave")
/-- a question of another kind is left -/
local macro_rules | `(tactic| walk_at "leave") => `(tactic| first
  | with_reducible show Cont _ _ _ _
  | with_reducible show Shp _ _
  | with_reducible show _ ≤ _
  | with_reducible show _ < _
  | with_reducible show CMul _ _
  | with_reducible show CDiv _ _
  | with_reducible show CPow _ _
  | with_reducible show _ = _
  | with_reducible show Le _ _
  | ((with_reducible show _ = true → _); with_reducible assumption)
  | ((with_reducible show _ = true → _); intro _; walk_at "sx")
  | ((with_reducible show _ = false → _); intro _; walk_at "sx"))
/-- a plain statement -/
local macro_rules | `(tactic| walk_at "st") => `(tactic| first
  | (with_reducible apply c_seq); walk_at "st"
  | (with_reducible apply c_asg) <;> (first | walk_at "sx" | skip)
  | (with_reducible apply c_asgG) <;> (first | walk_at "sx" | skip)
  | (with_reducible apply c_par) <;> (first | walk_at "sx" | skip)
  | (with_reducible apply c_par3) <;> (first | walk_at "sx" | skip)
  | (with_reducible apply c_aug) <;> (first | walk_at "sx" | skip)
  | (with_reducible apply c_augS) <;> (first | walk_at "sx" | skip)
  | (with_reducible apply c_fld) <;> (first | walk_at "sx" | skip)
  | (with_reducible apply c_drop) <;> (first | walk_at "sx" | skip)
  | with_reducible apply c_next
  | with_reducible apply c_break
  | with_reducible apply c_cont)
/-- a value is handed back; a word is met again -/
local macro_rules | `(tactic| walk_at "ret") => `(tactic| (with_reducible apply c_ret) <;> (first | walk_at "sx" | skip))
local macro_rules | `(tactic| walk_at "inv") => `(tactic| (with_reducible apply c_inv) <;> (first | walk_at "side" | skip))
local macro_rules | `(tactic| walk_at "seq") => `(tactic| with_reducible apply c_seq)
local macro_rules | `(tactic| walk_at "cut") => `(tactic| with_reducible apply c_cut)
local macro_rules | `(tactic| walk_at "if") => `(tactic| ((with_reducible apply c_if); (case' h => first | walk_at "sx" | skip)))
local macro_rules | `(tactic| walk_at "fgt") => `(tactic| first
  | exact Fgt.nil
  | (with_reducible apply Fgt.keep; walk_at "fgt")
  | (with_reducible apply Fgt.drop; walk_at "fgt"))

/-! ### more steps: stars, dicts, tuples -/
local macro_rules | `(tactic| walk_at "sx") => `(tactic| first
  | (with_reducible apply ed_starT) <;> walk_at "sx"
  | (with_reducible apply ev_dgetS) <;> walk_at "sx"
  | with_reducible exact isdi_v
  | (with_reducible apply isdi_c) <;> walk_at "sx"
  | (with_reducible apply rv_catTd) <;> walk_at "sx"
  | with_reducible exact ist_dat
  | ((with_reducible show ¬ (_ : Int) < _); with_reducible assumption)
  | ((with_reducible show valG _ _ = _); walk_at "get")
  | ((with_reducible show putG _ _ _ = _); walk_at "get"))

theorem rows_at1 {rs : Rws} {u : Nat} (h : u + 1 < rs.length) : L2.atI (rs.map encRow) ((u : Int) + 1) = some (encRow (rowAt rs (u + 1))) := rows_at h
theorem lasts_ev {K : PySem.W.Frag} {mg : Str → Option Value} {T : Tx K mg} {rs : Rws} {t : Nat} {m : Mt} {M : Cells} : S_lasts K T [dat (rowsD rs), dat (.int (t : Int)), dat (encM m)] M (Det (dat (.int (lasts rs t m : Int))) M) := ⟨rs, t, m, rfl, rfl, rfl⟩
theorem lasts_body {K : PySem.W.Frag} {mg : Str → Option Value} (T : Tx K mg) : ∀ Q ds M P Φ, ds.length = 3 → S_lasts K T ds M P → RtQ Q Φ P → Cont (rd_lasts_0 K T (fnD Q)) Φ (entry ["rows", "at", "mast"] ds) M := by
  rintro Q ds M P Φ - ⟨rs, t, m, rfl, hP⟩ hQ
  show Cont _ _ [some (dat (rowsD rs)), some (dat (.int (t : Int))), some (dat (encM m))] _
  walk_at "cut"
  refine c_while (fun k ρ' M' => ∃ u : Nat, ρ' = [some (dat (rowsD rs)), some (dat (.int (u : Int))), some (dat (encM m))] ∧ M' = M ∧ lasts rs u m = lasts rs t m ∧ k = rs.length - u) _ ⟨t, rfl, rfl, rfl, rfl⟩ ?_
  rintro k ρ' M' ⟨u, rfl, rfl, he, rfl⟩
  have hs := lasts_step (rs := rs) (t := u) (m := m)
  refine ⟨decide (u + 1 < rs.length) && decide (m ∈ rowAt rs (u + 1)), M', ?_, fun hb => ?_, fun hb => ?_⟩
  · refine et_and (EvT.eq (a := decide ((u : Int) + 1 < (rs.length : Int))) (by walk_at "sx") (by simp only [decide_eq_decide]; omega)) fun h => ?_
    have h := of_decide_eq_true h
    refine et_test (ev_op (ev_var (by walk_at "sx")) (ev_op (y := dat (.int ((u : Int) + 1))) (ev_var .here) (by walk_at "sx") (rv_ixL isl_dat (rows_at1 h))) rv_inM)
  · simp only [Bool.and_eq_true, decide_eq_true_eq] at hb
    rw [if_pos hb] at hs
    walk_at "st"
    exact c_inv ⟨rs.length - (u + 1), by omega, u + 1, rfl, rfl, hs.symm.trans he, rfl⟩ (Le.refl _)
  · have hn : ¬ (u + 1 < rs.length ∧ m ∈ rowAt rs (u + 1)) := by
      intro z
      rw [decide_eq_true z.1, decide_eq_true z.2] at hb
      cases hb
    rw [if_neg hn] at hs
    walk_at "ret"
    rw [← hs, he]
    exact hP
theorem ev_row {K : PySem.W.Frag} {ρ : Sx.Env} {M : Cells} {rs : Rws} {u i j : Nat} (hu : u < rs.length) (h0 : At (dat (rowsD rs)) ρ i) (h1 : At (dat (.int (u : Int))) ρ j) : Ev (tOp (rIx K) (tVar i) (tVar j)) ρ M (dat (encRow (rowAt rs u))) M := ev_op (ev_var h0) (ev_var h1) (rv_ixL isl_dat (rows_at hu))
theorem row_ne {r : Row} (h : r ≠ []) : L2.atI (r.map encM) 0 = some (encM (r.headD .a)) := by
  cases r with
  | nil => exact absurd rfl h
  | cons x r => exact atI_nat (j := 0) rfl
theorem best_step {rs : Rws} {t : Nat} {b : Mt} {r : Row} {i : Nat} {m : Mt} (h : r[i]? = some m) : bestOf rs t b (r.take (i + 1)) = if lasts rs t (bestOf rs t b (r.take i)) < lasts rs t m then m else bestOf rs t b (r.take i) := by
  rw [List.take_succ, h]
  unfold bestOf
  rw [List.foldl_append]
  rfl
def J37 (rs : Rws) (M : Cells) : Nat → Sx.Env → Cells → Prop := fun k ρ' M' => ∃ (u n : Nat) (acc : List Pc) (p : Addr), ρ' = [some (dat (rowsD rs)), some (val (.ref p)), some (dat (.int (u : Int))), none, none, none] ∧ M' = (p, cLd (acc.map encPc)) :: M ∧ acc ++ grF rs n u = pieces rs ∧ rs.length ≤ u + n ∧ acc.length ≤ u ∧ k = rs.length - u
theorem pieces_of_body {K : PySem.W.Frag} {mg : Str → Option Value} (T : Tx K mg) : ∀ Q ds M P Φ, ds.length = 1 → S_pieces_of K T ds M P → RtQ Q Φ P → Cont (rd_pieces_of_0 K T (fnD Q)) Φ (entry ["rows", "found", "at", "best", "mast", "last"] ds) M := by
  rintro Q ds M P Φ - ⟨rs, rfl, h16, hP⟩ hQ
  show Cont _ _ [some (dat (rowsD rs)), none, none, none, none, none] _
  walk_at "seq"
  refine c_parR (P := fun xs N => ∃ p, xs = [val (.ref p), dat (.int 0)] ∧ N = (p, cLd []) :: M) ?_ ?_
  · refine ear_cons (er_lstCd (ds := []) ed_nil (by decide)) ?_
    rintro x M1 ⟨p, rfl, rfl⟩
    exact EvAR.of (ea_cons ev_int ea_nil) ⟨p, rfl, rfl⟩
  rintro xs M1 ⟨p, rfl, rfl⟩
  refine ⟨_, _, _, _, rfl, .there .here, .there (.there .here), ?_⟩
  show Cont (rd_pieces_of_1 K T (fnD Q)) Φ _ _
  walk_at "cut"
  refine c_while (J37 rs M) _ ⟨0, rs.length, [], p, rfl, rfl, rfl, by omega, by simp, rfl⟩ ?_
  rintro k ρ' M' ⟨u, n, acc, p, rfl, rfl, hacc, hn, hal, rfl⟩
  refine ⟨decide (u < rs.length), _, EvT.eq (a := decide ((u : Int) < (rs.length : Int))) (by walk_at "sx") (by simp only [decide_eq_decide]; omega), fun hb => ?_, fun hb => ?_⟩
  · have hu := of_decide_eq_true hb
    obtain ⟨n, rfl⟩ : ∃ n', n = n' + 1 := ⟨n - 1, by omega⟩
    rw [grF] at hacc
    walk_at "cut"
    refine c_if (b := decide (rowAt rs u = [])) (et_test (Ev.eq (ev_op (ev_row hu .here (.there (.there .here))) (ev_tupD ed_nil (by decide)) (rv_eqD isd_dat isd_dat shp_row (shp_tuple shpA_nil))) ?_)) (fun hb => ?_) fun hb => ?_
    · rw [show PyData.eqv (encRow (rowAt rs u)) (.tuple []) = decide (rowAt rs u = []) from EqOk.dec (eqok_tuple eqok_m) (rowAt rs u) []]
    · rw [if_pos (of_decide_eq_true hb)] at hacc
      walk_at "st"
      walk_at "st"
      exact c_inv ⟨rs.length - (u + 1), by omega, u + 1, n, acc, p, rfl, rfl, hacc, by omega, by omega, rfl⟩ (Le.refl _)
    · have hne := of_decide_eq_false hb
      rw [if_neg hne] at hacc
      walk_at "st"
      walk_at "seq"
      refine c_asg (ev_op (ev_row hu .here (.there (.there .here))) ev_int (rv_ixT ist_dat (row_ne hne))) (.there (.there (.there .here))) ?_
      show Cont (rd_pieces_of_7 K T _) Φ _ _
      walk_at "cut"
      refine c_for (its := (rowAt rs u).map fun m => dat (encM m)) (I := fun i ρ' M' => ∃ x, ρ' = [some (dat (rowsD rs)), some (val (.ref p)), some (dat (.int (u : Int))), some (dat (encM (bestOf rs u ((rowAt rs u).headD .a) ((rowAt rs u).take i)))), x, none] ∧ M' = (p, cLd (acc.map encPc)) :: M) (ei_seqTM (ev_row hu .here (.there (.there .here)))) ⟨_, rfl, rfl⟩ ?_ ?_
      · rintro Ψ hΨ i d ρ' M' hi ⟨x, rfl, rfl⟩
        rw [List.getElem?_map] at hi
        cases hm : (rowAt rs u)[i]? with
        | none => rw [hm] at hi; cases hi
        | some m =>
          rw [hm] at hi
          cases hi
          apply for_k <;> (first | walk_at "sx" | skip)
          refine c_if (b := decide (lasts rs u (bestOf rs u ((rowAt rs u).headD .a) ((rowAt rs u).take i)) < lasts rs u m)) (EvT.eq (a := decide ((lasts rs u (bestOf rs u ((rowAt rs u).headD .a) ((rowAt rs u).take i)) : Int) < (lasts rs u m : Int))) (et_test (ev_op (ev_call (ds := [dat (rowsD rs), dat (.int (u : Int)), dat (encM m)]) (by walk_at "sx") rfl lasts_ev) (ev_call (ds := [dat (rowsD rs), dat (.int (u : Int)), dat (encM (bestOf rs u ((rowAt rs u).headD .a) ((rowAt rs u).take i)))]) (by walk_at "sx") rfl lasts_ev) rv_bl0)) (by simp only [decide_eq_decide]; omega)) (fun hb => ?_) fun hb => ?_
          · walk_at "st"
            refine c_inv ⟨some (dat (encM m)), ?_, rfl⟩ (Le.refl _)
            rw [best_step hm, if_pos (of_decide_eq_true hb)]
          · walk_at "st"
            refine c_inv ⟨some (dat (encM m)), ?_, rfl⟩ (Le.refl _)
            rw [best_step hm, if_neg (of_decide_eq_false hb)]
      · rintro ρ' M' ⟨x, rfl, rfl⟩
        rw [List.length_map, List.take_length]
        generalize hb : bestOf rs u ((rowAt rs u).headD .a) (rowAt rs u) = b at hacc
        show Cont (rd_pieces_of_11 K T _) Φ _ _
        walk_at "seq"
        refine c_asg (ev_call (ds := [dat (rowsD rs), dat (.int (u : Int)), dat (encM b)]) (M1 := (p, cLd (acc.map encPc)) :: M) (by walk_at "sx") rfl lasts_ev) (.there (.there (.there (.there (.there .here))))) ?_
        show Cont (rd_pieces_of_12 K T _) Φ _ _
        have hge := lasts_ge rs u b
        have hlt := lasts_lt (m := b) hu
        walk_at "seq"
        refine c_drop (M1 := (p, cLd ((acc ++ [(⟨b, u, lasts rs u b⟩ : Pc)]).map encPc)) :: M) (ev_bm (M1 := (p, cLd (acc.map encPc)) :: M) (M2 := (p, cLd (acc.map encPc)) :: M) (ev_var (.there .here)) (ity_l (IsLst.v (isl_cell (.head _)))) (ea_cons (x := dat (encPc ⟨b, u, lasts rs u b⟩)) (ev_tupD (ed_cons (ev_var (.there (.there (.there .here)))) (ed_cons (ev_var (.there (.there .here))) (ed_cons (ev_var (.there (.there (.there (.there (.there .here)))))) ed_nil))) (by show 3 ≤ 16777216; decide)) ea_nil) (rm_append (ds := acc.map encPc) ?_ ?_)) ?_
        · rw [List.map_append]; exact .here
        · rw [List.length_map]; show _ < 16777216; omega
        walk_at "st"
        refine c_fgt (ρ' := [some (dat (rowsD rs)), some (val (.ref p)), some (dat (.int ((lasts rs u b + 1 : Nat) : Int))), none, none, none]) (.keep (.keep (.keep (.drop (.drop (.drop .nil)))))) (c_inv ⟨rs.length - (lasts rs u b + 1), by omega, lasts rs u b + 1, n, acc ++ [⟨b, u, lasts rs u b⟩], p, rfl, rfl, by rw [List.append_assoc]; exact hacc, by omega, by simp; omega, rfl⟩ (Le.refl _))
  · have hu := of_decide_eq_false hb
    rw [grF_end (by omega), List.append_nil] at hacc
    subst hacc
    refine c_frz (ρ' := [some (dat (rowsD rs)), some (dat (pcsD (pieces rs))), some (dat (.int (u : Int))), none, none, none]) (.there .here) (.there .here) ?_
    walk_at "ret"
    exact hP

end Lw


set_option Elab.async false
set_option linter.all false
set_option maxRecDepth 100000
set_option maxHeartbeats 4000000
namespace Lw
open PySem L2 Sx
/-! ### steps -/
local macro_rules | `(tactic| walk_at "shp") => `(tactic| first
  | exact shp_int
  | exact shp_none
  | exact shp_bool
  | exact shp_oi _
  | (apply shp_str; first | decide +kernel | assumption)
  | (apply shp_list; walk_at "shpA")
  | (apply shp_tuple; walk_at "shpA")
  | assumption)
local macro_rules | `(tactic| walk_at "shpA") => `(tactic| first
  | exact shpA_nil
  | (apply shpA_cons; (· walk_at "shp"); walk_at "shpA")
  | (apply shpA_map; intro _ _; walk_at "shp"))
/-- what is left beside: closed, or left -/
local macro_rules | `(tactic| walk_at "side") => `(tactic| first
  | (with_reducible show Shp _ _); walk_at "shp"
  | (with_reducible show _ ≤ sizeLine); first | decide | (show _ ≤ 16777216; omega) | (show _ ≤ 16777216; simp only [List.length_map, List.length_append, List.length_cons, List.length_nil]; omega)
  | (with_reducible show _ < sizeLine); first | decide | (show _ < 16777216; omega) | (show _ < 16777216; simp only [List.length_map, List.length_append, List.length_cons, List.length_nil]; omega)
  | (with_reducible show CMul _ _); first | exact Or.inr ⟨by decide, by decide⟩ | exact Or.inl ⟨by decide, by decide⟩ | exact Or.inl ⟨by omega, by omega⟩ | exact Or.inr ⟨by omega, by omega⟩
  | (with_reducible show CPow _ _); exact ⟨by decide, by decide, by decide⟩
  | (with_reducible show CDiv _ _); first | exact ⟨by decide, by decide⟩ | exact ⟨by omega, by omega⟩
  | (with_reducible show Le _ _); first | with_reducible exact Le.refl _ | with_reducible assumption
  | (with_reducible show L2.atI _ _ = _); first | with_reducible assumption | exact rfl | exact atI_nat rfl
  | (with_reducible show _ < _); first | with_reducible assumption | decide | omega
  | (with_reducible show _ ≤ _); first | with_reducible assumption | decide | omega
  | (with_reducible show _ ∧ _); omega
  | (with_reducible show ∀ i, i ∈ _ → i ∈ _); decide
  | (with_reducible show (_ : Nat) = _); first | exact rfl | omega)
local macro_rules | `(tactic| walk_at "rm") => `(tactic| first
  | exact Rm.here
  | (apply Rm.there; walk_at "rm"))
local macro_rules | `(tactic| walk_at "perm") => `(tactic| first
  | with_reducible exact List.Perm.refl _
  | (apply perm_step; (· walk_at "rm"); walk_at "perm")
  | exact List.Perm.refl _)
local macro_rules | `(tactic| walk_at "pk") => `(tactic| first
  | with_reducible exact Pk.here
  | ((with_reducible apply Pk.there); walk_at "pk"))
/-- a part of a reading: what it gives. One word for all kinds -/
local macro_rules | `(tactic| walk_at "sx") => `(tactic| first
  -- an expression
  | with_reducible exact ev_int
  | with_reducible exact ev_bl
  | with_reducible exact ev_str
  | with_reducible exact ev_non
  | (with_reducible apply ev_var) <;> walk_at "sx"
  | (with_reducible apply ev_op) <;> walk_at "sx"
  | (with_reducible apply ev_fld) <;> walk_at "sx"
  | (with_reducible apply ev_cb) <;> walk_at "sx"
  | (with_reducible apply ev_tupD) <;> walk_at "sx"
  | (with_reducible apply ev_lstD) <;> walk_at "sx"
  | (with_reducible apply ev_tupV) <;> walk_at "sx"
  | (with_reducible apply ev_lstV) <;> walk_at "sx"
  | (with_reducible apply ev_slL) <;> walk_at "sx"
  | (with_reducible apply ev_slT1) <;> walk_at "sx"
  | (with_reducible apply ev_slT) <;> walk_at "sx"
  | (with_reducible apply ev_un) <;> walk_at "sx"
  | (with_reducible apply ev_chain) <;> walk_at "sx"
  | (with_reducible apply ev_andV) <;> walk_at "sx"
  | (with_reducible apply ev_orV) <;> walk_at "sx"
  | (with_reducible apply ev_notV) <;> walk_at "sx"
  | (with_reducible apply ev_lcY) <;> walk_at "sx"
  | (with_reducible apply ev_lc) <;> walk_at "sx"
  | ((with_reducible show ∀ a, a ∈ _ → ∃ ρ'' js, _); intro a ha; dsimp only [wipeE, List.set]; (first | with_reducible apply lcY_k | with_reducible apply lcF_k) <;> walk_at "sx")
  | (with_reducible apply ev_call) <;> walk_at "sx"
  | (with_reducible apply ev_meth) <;> walk_at "sx"
  | (with_reducible apply ev_bm) <;> walk_at "sx"
  | (with_reducible show Ev _ _ _ _ _); walk_at "own"
  -- a test
  | with_reducible exact et_yes
  | (with_reducible apply et_test) <;> walk_at "sx"
  | (with_reducible apply et_B) <;> walk_at "sx"
  | (with_reducible apply et_not) <;> walk_at "sx"
  | (with_reducible apply et_and) <;> walk_at "sx"
  | (with_reducible apply et_or) <;> walk_at "sx"
  -- arguments
  | with_reducible exact ea_nil
  | (with_reducible apply ea_cons) <;> walk_at "sx"
  | with_reducible exact ed_nil
  | (with_reducible apply ed_cons) <;> walk_at "sx"
  | with_reducible exact eo_none
  | (with_reducible apply eo_some) <;> walk_at "sx"
  -- what an operation gives
  | with_reducible exact rv_addI
  | with_reducible exact rv_int0
  | with_reducible exact rv_bl0
  | with_reducible exact rv_eqI
  | with_reducible exact rv_neI
  | with_reducible exact rv_eqS
  | with_reducible exact rv_neS
  | with_reducible exact rv_isN
  | with_reducible exact rv_notN
  | (with_reducible apply rv_intC) <;> walk_at "sx"
  | (with_reducible apply rv_addS) <;> walk_at "sx"
  | (with_reducible apply rv_ixL isl_dat) <;> walk_at "sx"
  | (with_reducible apply rv_ixT ist_dat) <;> walk_at "sx"
  | (with_reducible apply rv_ixL) <;> walk_at "sx"
  | (with_reducible apply rv_ixLV) <;> walk_at "sx"
  | (apply rv_ixT ist_dat) <;> walk_at "sx"
  | (with_reducible apply rv_ixTV istv_vtup) <;> walk_at "sx"
  | (with_reducible apply rv_ixScr) <;> walk_at "sx"
  | (apply rv_ixL isl_dat) <;> walk_at "sx"
  | (with_reducible apply rv_ixL) <;> walk_at "sx"
  | (apply rv_cat) <;> walk_at "sx"
  | (with_reducible apply rv_eqD) <;> walk_at "sx"
  | (with_reducible apply rv_neD) <;> walk_at "sx"
  | with_reducible exact ru_neg
  | with_reducible exact rc_int
  | with_reducible exact rc_abs
  | with_reducible exact rc_max2
  | with_reducible exact rc_min2
  | with_reducible exact rc_lenScr
  | with_reducible exact rc_lenM isl_dat
  | ((with_reducible apply rc_lenM); (with_reducible apply isl_cell) <;> walk_at "sx")
  | with_reducible exact rc_lenMT
  | (with_reducible apply rc_lenL) <;> walk_at "sx"
  | (apply rc_lenT ist_dat)
  | (with_reducible apply rc_tupL) <;> walk_at "sx"
  | (apply rc_tupT)
  | (with_reducible apply rc_lstL) <;> walk_at "sx"
  | (apply rc_lstT ist_dat)
  | with_reducible exact rc_anyM
  | with_reducible exact rc_allM
  | ((with_reducible apply rm_append) <;> walk_at "sx")
  -- lists, tuples, data
  | with_reducible exact isl_dat
  | with_reducible exact isd_dat
  | with_reducible exact isd_scr
  | (with_reducible apply isl_cell) <;> walk_at "sx"
  | (with_reducible apply islv_cell) <;> walk_at "sx"
  | with_reducible exact islv_vlst
  | (with_reducible apply isd_cell) <;> walk_at "sx"
  | (with_reducible apply isd_vtup) <;> walk_at "sx"
  | (with_reducible apply isd_vlst) <;> walk_at "sx"
  | with_reducible exact isds_nil
  | (with_reducible apply isds_cons) <;> walk_at "sx"
  | with_reducible exact fzl_dat
  | with_reducible exact fzl_v
  | with_reducible exact fzt_dat
  | with_reducible exact fzt_v
  | (with_reducible apply ity_l) <;> walk_at "sx"
  | with_reducible exact ity_s
  | (with_reducible apply IsLst.v) <;> walk_at "sx"
  -- places
  | with_reducible exact At.here
  | (with_reducible apply At.there) <;> walk_at "sx"
  | with_reducible exact SetAt.here
  | (with_reducible apply SetAt.there) <;> walk_at "sx"
  | with_reducible exact List.mem_cons_self
  | (with_reducible apply List.mem_cons_of_mem) <;> walk_at "sx"
  | ((with_reducible show (_ : Addr × CD) ∈ _); with_reducible assumption)
  | with_reducible exact Put.here
  | (with_reducible apply Put.there) <;> walk_at "sx"
  | ((with_reducible show Put _ _ _ _ _); with_reducible assumption)
  | ((with_reducible show Sw _ _ _ _); with_reducible assumption)
  | with_reducible exact sw_nil
  | ((with_reducible apply sw_pick); (· walk_at "pk"); walk_at "sx")
  | ((with_reducible apply sw_skip); walk_at "sx")
  | with_reducible exact FGet.here
  | ((with_reducible apply FGet.there); (· decide +kernel); walk_at "sx")
  | with_reducible exact FPut.here
  | with_reducible exact FPut.new
  | ((with_reducible apply FPut.there); (· decide +kernel); walk_at "sx")
  | (with_reducible show ClsF _ _ _); with_reducible assumption
  | (with_reducible show RtQ _ _ _); assumption
  | (with_reducible show (_ : Str) ∈ _); decide +kernel
  | (with_reducible show ¬ (_ : Str) ∈ _); decide +kernel
  -- what is walked, targets
  | (with_reducible apply ei_rng1) <;> walk_at "sx"
  | (with_reducible apply ei_rng2) <;> walk_at "sx"
  | (with_reducible apply ei_enumD) <;> walk_at "sx"
  | (with_reducible apply ei_enum) <;> walk_at "sx"
  | (with_reducible apply ei_zip) <;> walk_at "sx"
  | (with_reducible apply ei_seqLM) <;> walk_at "sx"
  | (with_reducible apply ei_seqTM) <;> walk_at "sx"
  | (with_reducible apply ei_seqL) <;> walk_at "sx"
  | (with_reducible apply ei_seqT) <;> walk_at "sx"
  | (with_reducible apply tg_name) <;> walk_at "sx"
  | (with_reducible apply tg_tup istv_vtup) <;> walk_at "sx"
  | (with_reducible apply td_tup) <;> walk_at "sx"
  | with_reducible exact td_nil
  | (with_reducible apply td_cons) <;> walk_at "sx"
  | with_reducible exact tgs_nil
  | (with_reducible apply tgs_cons) <;> walk_at "sx"
  -- beside
  | walk_at "spec"
  | walk_at "side"
  | walk_at "leave")
/-- a question of another kind is left -/
local macro_rules | `(tactic| walk_at "leave") => `(tactic| first
  | with_reducible show Cont _ _ _ _
  | with_reducible show Shp _ _
  | with_reducible show _ ≤ _
  | with_reducible show _ < _
  | with_reducible show CMul _ _
  | with_reducible show CDiv _ _
  | with_reducible show CPow _ _
  | with_reducible show _ = _
  | with_reducible show Le _ _
  | ((with_reducible show _ = true → _); with_reducible assumption)
  | ((with_reducible show _ = true → _); intro _; walk_at "sx")
  | ((with_reducible show _ = false → _); intro _; walk_at "sx"))
/-- a plain statement -/
local macro_rules | `(tactic| walk_at "st") => `(tactic| first
  | (with_reducible apply c_seq); walk_at "st"
  | (with_reducible apply c_asg) <;> (first | walk_at "sx" | skip)
  | (with_reducible apply c_asgG) <;> (first | walk_at "sx" | skip)
  | (with_reducible apply c_par) <;> (first | walk_at "sx" | skip)
  | (with_reducible apply c_par3) <;> (first | walk_at "sx" | skip)
  | (with_reducible apply c_aug) <;> (first | walk_at "sx" | skip)
  | (with_reducible apply c_augS) <;> (first | walk_at "sx" | skip)
  | (with_reducible apply c_fld) <;> (first | walk_at "sx" | skip)
  | (with_reducible apply c_drop) <;> (first | walk_at "sx" | skip)
  | with_reducible apply c_next
  | with_reducible apply c_break
  | with_reducible apply c_cont)
/-- a value is handed back; a word is met again -/
local macro_rules | `(tactic| walk_at "ret") => `(tactic| (with_reducible apply c_ret) <;> (first | walk_at "sx" | skip))
local macro_rules | `(tactic| walk_at "inv") => `(tactic| (with_reducible apply c_inv) <;> (first | walk_at "side" | skip))
local macro_rules | `(tactic| walk_at "seq") => `(tactic| with_reducible apply c_seq)
local macro_rules | `(tactic| walk_at "cut") => `(tactic| with_reducible apply c_cut)
local macro_rules | `(tactic| walk_at "if") => `(tactic| ((with_reducible apply c_if); (case' h => first | walk_at "sx" | skip)))
local macro_rules | `(tactic| walk_at "fgt") => `(tactic| first
  | exact Fgt.nil
  | (with_reducible apply Fgt.keep; walk_at "fgt")
  | (with_reducible apply Fgt.drop; walk_at "fgt"))

/-! ### more steps: stars, dicts, tuples -/
local macro_rules | `(tactic| walk_at "sx") => `(tactic| first
  | (with_reducible apply ed_starT) <;> walk_at "sx"
  | (with_reducible apply ev_dgetS) <;> walk_at "sx"
  | with_reducible exact isdi_v
  | (with_reducible apply isdi_c) <;> walk_at "sx"
  | (with_reducible apply rv_catTd) <;> walk_at "sx"
  | with_reducible exact ist_dat
  | ((with_reducible show ¬ (_ : Int) < _); with_reducible assumption)
  | ((with_reducible show valG _ _ = _); walk_at "get")
  | ((with_reducible show putG _ _ _ = _); walk_at "get"))

section
variable {K : PySem.W.Frag} {mg : Str → Option Value} {T : Tx K mg} {ρ : Sx.Env} {M : Cells} {rs : Rws} {m : Mt} {neg : Bool} {f n i j k : Nat} {ta : TA}
/-- a mast in each of some rows? -/
theorem ev_inrows (hr : EvI (iRng2 ta) ρ M (irange (f : Int) n) M) (hf : f + n ≤ rs.length) (hn : n ≤ 16000000) (hρ : ∀ d : VD, ∃ ρ', SetAt d (wipeE ρ [k]) k ρ' ∧ At (dat (encM m)) ρ' i ∧ At (dat (rowsD rs)) ρ' j ∧ At d ρ' k) :
    Ev (tLc (iRng2 ta) (gName k) tYes (tOp (rIn K neg) (tVar i) (tOp (rIx K) (tVar j) (tVar k))) [k]) ρ M (dat (.list ((List.range n).map fun a => .bool (if neg then !decide (m ∈ rowAt rs (f + a)) else decide (m ∈ rowAt rs (f + a)))))) M := by
  refine ev_lcY hr (by rw [List.length_range]; exact hn) fun a ha => ?_
  have ha := List.mem_range.mp ha
  obtain ⟨ρ', g1, g2, g3, g4⟩ := hρ (dat (.int ((f : Int) + (a : Nat))))
  exact ⟨ρ', [k], tg_name g1, fun _ h => h, ev_op (ev_var g2) (ev_row (u := f + a) (by omega) g3 g4) rv_inM⟩
theorem ei_rngN {tb : TE} {te : TE} {l : Nat} (ha : Ev tb ρ M (dat (.int (f : Int))) M) (hb : Ev te ρ M (dat (.int ((l : Int) + 1))) M) (h1 : f ≤ 1000) (h2 : l ≤ 1000) : EvI (iRng2 (tCons tb (tCons te tNil))) ρ M (irange (f : Int) (l + 1 - f)) M := by
  have := ei_rng2 (m := (f : Int)) (n := (l : Int) + 1) (ea_cons ha (ea_cons hb ea_nil)) (by omega)
  rw [show ((l : Int) + 1 - (f : Int)).toNat = l + 1 - f by omega] at this
  exact this
theorem inAll_range {f l : Nat} : inAll rs m f l = (List.range (l + 1 - f)).all fun a => decide (m ∈ rowAt rs (f + a)) := by
  unfold inAll rng
  rw [List.all_map]
  rfl
theorem zip_rows (rs : Rws) : rs.zipIdx = (List.range rs.length).map fun i => (rowAt rs i, i) := by
  apply List.ext_getElem?
  intro i
  rw [List.getElem?_zipIdx, List.getElem?_map]
  by_cases h : i < rs.length
  · rw [rowAt_some h, List.getElem?_range h]
    simp
  · rw [List.getElem?_eq_none (by omega), List.getElem?_eq_none (by simp; omega)]
    rfl
theorem full_zip (rs : Rws) : (rs.zipIdx.filter fun p => !decide (p.1 = [])).map (fun p => PyData.int (p.2 : Int)) = (fullF rs 0).map fun u : Nat => PyData.int (u : Int) := by
  unfold fullF
  rw [zip_rows, List.filter_map, List.filter_map, List.map_map, List.map_map, Nat.sub_zero]
  have e : ((fun p : Row × Nat => !decide (p.1 = [])) ∘ fun i => (rowAt rs i, i)) = ((fun u => decide (rowAt rs u ≠ [])) ∘ fun x => 0 + x) := by
    funext i
    simp
  rw [e]
  apply List.map_congr_left
  intro i _
  simp
theorem covers_ev {ps : List Pc} (h1 : rs.length ≤ 16) (h2 : ps.length ≤ 100) : S_covers K T [dat (rowsD rs), dat (pcsD ps)] M (Det (dat (.bool (covers rs ps))) M) := ⟨rs, ps, rfl, h1, h2, rfl, rfl⟩
theorem pieces_ev (h1 : rs.length ≤ 16) : S_pieces_of K T [dat (rowsD rs)] M (Det (dat (pcsD (pieces rs))) M) := ⟨rs, rfl, h1, rfl, rfl⟩
end
def Jcov (rs : Rws) (ps : List Pc) (M : Cells) : Nat → Sx.Env → Cells → Prop := fun i ρ' M' => ∃ (h : Int) (ts : List Nat) (p : Addr) (x4 x5 x6 : Option VD), ρ' = [some (dat (rowsD rs)), some (dat (pcsD ps)), some (dat (.int h)), some (val (.ref p)), x4, x5, x6, none, none] ∧ M' = (p, cLd (ts.map fun u : Nat => PyData.int (u : Int))) :: M ∧ covS rs (-1, []) (ps.take i) = some (h, ts) ∧ ts.length ≤ i * 16
theorem covers_body {K : PySem.W.Frag} {mg : Str → Option Value} (T : Tx K mg) : ∀ Q ds M P Φ, ds.length = 2 → S_covers K T ds M P → RtQ Q Φ P → Cont (rd_covers_0 K T (fnD Q)) Φ (entry ["rows", "pieces", "here", "ticks", "mast", "first", "last", "at", "row"] ds) M := by
  rintro Q ds M P Φ - ⟨rs, ps, rfl, h16, h100, hP⟩ hQ
  show Cont _ _ [some (dat (rowsD rs)), some (dat (pcsD ps)), none, none, none, none, none, none, none] _
  walk_at "seq"
  refine c_parR (P := fun xs N => ∃ p, xs = [dat (.int (-1)), val (.ref p)] ∧ N = (p, cLd []) :: M) ?_ ?_
  · refine ear_cons (Pa := fun x N => x = dat (.int (-1)) ∧ N = M) (Ev.er (ev_un ev_int ru_neg) ⟨rfl, rfl⟩) ?_
    rintro x M1 ⟨rfl, rfl⟩
    refine ear_cons (er_lstCd (ds := []) ed_nil (by decide)) ?_
    rintro x M2 ⟨p, rfl, rfl⟩
    exact ear_nil ⟨p, rfl, rfl⟩
  rintro xs M1 ⟨p, rfl, rfl⟩
  refine ⟨_, _, _, _, rfl, .there (.there .here), .there (.there (.there .here)), ?_⟩
  show Cont (rd_covers_1 K T (fnD Q)) Φ _ _
  walk_at "cut"
  refine c_for (its := ps.map fun p => dat (encPc p)) (I := Jcov rs ps M) (ei_seqLM (ev_var (.there .here))) ⟨-1, [], p, none, none, none, rfl, rfl, rfl, Nat.le_refl _⟩ ?_ ?_
  · rintro Ψ hΨ i d ρ' M' hi ⟨h, ts, p, x4, x5, x6, rfl, rfl, hc, hl⟩
    rw [List.getElem?_map] at hi
    cases hm : ps[i]? with
    | none => rw [hm] at hi; cases hi
    | some q =>
      rw [hm] at hi
      cases hi
      obtain ⟨m, f, l⟩ := q
      have hi100 : i < ps.length := (List.getElem?_eq_some_iff.mp hm).1
      have htk : ps.take (i + 1) = ps.take i ++ [⟨m, f, l⟩] := by rw [List.take_succ, hm]; rfl
      have hdr : ps = ps.take i ++ (⟨m, f, l⟩ :: ps.drop (i + 1)) := by
        have e1 := List.drop_eq_getElem_cons hi100
        have e2 : ps[i] = ⟨m, f, l⟩ := by have := List.getElem?_eq_getElem hi100; rw [hm] at this; exact (Option.some.inj this).symm
        rw [e2] at e1
        rw [← e1, List.take_append_drop]
      refine ⟨[some (dat (rowsD rs)), some (dat (pcsD ps)), some (dat (.int h)), some (val (.ref p)), some (dat (encM m)), some (dat (.int (f : Int))), some (dat (.int (l : Int))), none, none], _, td_tup (ds := [encM m, .int (f : Int), .int (l : Int)]) (td_cons (tg_name (.there (.there (.there (.there .here))))) (td_cons (tg_name (.there (.there (.there (.there (.there .here)))))) (td_cons (tg_name (.there (.there (.there (.there (.there (.there .here))))))) td_nil))) rfl, ?_⟩
      show Cont (rd_covers_2 K T _) Ψ _ _
      walk_at "cut"
      refine c_if (b := !(chainP rs h ⟨m, f, l⟩) || !(inAll rs m f l)) (et_or (et_not (et_test (Ev.eq (x := dat (.bool (decide (h < (f : Int)) && (decide ((f : Int) ≤ (l : Int)) && decide ((l : Int) < (rs.length : Int)))))) (ev_chain3 (ev_var (.there (.there .here))) (ev_var (.there (.there (.there (.there (.there .here)))))) rv_bl0 (fun _ => ev_var (.there (.there (.there (.there (.there (.there .here))))))) (fun _ => rv_bl0) (fun _ => ev_cb (ea_cons (ev_var .here) ea_nil) (rc_lenM isl_dat)) fun _ => rv_bl0) ?_))) fun hb => ?_) (fun hb => ?_) fun hb => ?_
      · congr 2
        unfold chainP
        congr 2
        · simp
        · simp
      · have hch : chainP rs h ⟨m, f, l⟩ = true := by simpa using hb
        simp only [chainP, Bool.and_eq_true, decide_eq_true_eq] at hch
        obtain ⟨c1, c2, c3⟩ := hch
        refine et_not (et_B (Ev.eq (x := dat (.bool ((List.range (l + 1 - f)).all fun a => decide (m ∈ rowAt rs (f + a))))) (ev_cb (ea_cons (ev_inrows (neg := false) (f := f) (n := l + 1 - f) (rs := rs) (m := m) ?_ (by omega) (by omega) fun d => ?_) ea_nil) rc_allM) (by rw [inAll_range])))
        · exact ei_rngN (ev_var (.there (.there (.there (.there (.there .here)))))) (ev_op (ev_var (.there (.there (.there (.there (.there (.there .here))))))) ev_int rv_addI) (by omega) (by omega)
        · exact ⟨[some (dat (rowsD rs)), some (dat (pcsD ps)), some (dat (.int h)), some (val (.ref p)), some (dat (encM m)), some (dat (.int (f : Int))), some (dat (.int (l : Int))), some d, none], .there (.there (.there (.there (.there (.there (.there .here)))))), .there (.there (.there (.there .here))), .here, .there (.there (.there (.there (.there (.there (.there .here))))))⟩
      · refine c_ret (D := fnD Q) ev_bl hQ.up ?_ hΨ
        have hno : ¬ (chainP rs h ⟨m, f, l⟩ = true ∧ inAll rs m f l = true) := by
          rintro ⟨a, b⟩
          rw [a, b] at hb
          cases hb
        have e : covers rs ps = false := by
          unfold covers
          rw [hdr, cov_app, hc]
          show (match (if chainP rs h ⟨m, f, l⟩ = true ∧ inAll rs m f l = true then covS rs _ (ps.drop (i + 1)) else none) with | none => false | some st => decide (st.2 = fullF rs 0)) = false
          rw [if_neg hno]
        rw [e] at hP
        exact up_drop (List.sublist_cons_self _ _) hP
      · have hyes : chainP rs h ⟨m, f, l⟩ = true ∧ inAll rs m f l = true := by
          rw [Bool.or_eq_false_iff] at hb
          simpa using hb
        have hch := hyes.1
        simp only [chainP, Bool.and_eq_true, decide_eq_true_eq] at hch
        obtain ⟨c1, c2, c3⟩ := hch
        walk_at "st"
        show Cont (rd_covers_5 K T _) Ψ _ _
        walk_at "seq"
        have er : ((List.range ((l : Int) + 1 - (f : Int)).toNat).map fun k => PyData.int ((f : Int) + (k : Nat))) = (rng f l).map fun u : Nat => PyData.int (u : Int) := by
          rw [show ((l : Int) + 1 - (f : Int)).toNat = l + 1 - f by omega]
          unfold rng
          rw [List.map_map]
          rfl
        refine c_drop (M1 := (p, cLd ((ts ++ rng f l).map fun u : Nat => PyData.int (u : Int))) :: M) (ev_bm (M1 := (p, cLd (ts.map fun u : Nat => PyData.int (u : Int))) :: M) (M2 := (p, cLd (ts.map fun u : Nat => PyData.int (u : Int))) :: M) (ev_var (.there (.there (.there .here)))) (ity_l (IsLst.v (isl_cell (.head _)))) (ea_cons (x := dat (.list ((rng f l).map fun u : Nat => PyData.int (u : Int)))) (Ev.eq (ev_listRg (ev_var (.there (.there (.there (.there (.there .here)))))) (ev_op (ev_var (.there (.there (.there (.there (.there (.there .here))))))) ev_int rv_addI) (RgOk.of_le (by omega) (by omega) (by omega) (by omega))) (by rw [er])) ea_nil) (rm_extend (ds := ts.map fun u : Nat => PyData.int (u : Int)) ?_ ?_)) ?_
        · rw [List.map_append]; exact .here
        · rw [List.length_map, List.length_map]
          have : (rng f l).length = l + 1 - f := by unfold rng; rw [List.length_map, List.length_range]
          show _ ≤ 16777216
          omega
        walk_at "st"
        refine c_inv ⟨(l : Int), ts ++ rng f l, p, _, _, _, rfl, rfl, ?_, ?_⟩ (Le.refl _)
        · rw [htk, cov_app, hc]
          exact if_pos hyes
        · have : (rng f l).length = l + 1 - f := by unfold rng; rw [List.length_map, List.length_range]
          rw [List.length_append]
          omega
  · rintro ρ' M' ⟨h, ts, p, x4, x5, x6, rfl, rfl, hc, hl⟩
    rw [List.length_map, List.take_length] at hc
    show Cont (rd_covers_7 K T _) Φ _ _
    have e : PyData.eqv (.list (ts.map fun u : Nat => PyData.int (u : Int))) (.list ((rs.zipIdx.filter fun p => !decide (p.1 = [])).map fun p => PyData.int (p.2 : Int))) = covers rs ps := by
      rw [full_zip]
      have q : EqOk fun us : List Nat => PyData.list (us.map fun u : Nat => PyData.int (u : Int)) := eqok_list fun a b => by
        rw [eqok_int]
        exact ⟨Int.ofNat.inj, fun e => by rw [e]⟩
      have := q.dec ts (fullF rs 0)
      unfold covers
      rw [hc]
      exact this
    have he : Ev (tLc (iEnum K (tCons (tVar 0) tNil)) (gTup K 2 (gCons (gName 7) (gCons (gName 8) gNil))) (tTest (tOp (rNeU K) (tVar 8) (tTup tNil))) (tVar 7) [7, 8]) [some (dat (rowsD rs)), some (dat (pcsD ps)), some (dat (.int h)), some (val (.ref p)), x4, x5, x6, none, none] ((p, cLd (ts.map fun u : Nat => PyData.int (u : Int))) :: M) (dat (.list ((rs.zipIdx.filter fun p => !decide (p.1 = [])).map fun p => PyData.int (p.2 : Int)))) ((p, cLd (ts.map fun u : Nat => PyData.int (u : Int))) :: M) := by
      refine ev_lc (e := fun p : Row × Nat => vtup [dat (.int (p.2 : Int)), dat (encRow p.1)]) (ei_enumD (ea_cons (ev_var .here) ea_nil) fzl_dat) (by rw [List.length_zipIdx]; omega) fun a ha => ?_
      refine ⟨[some (dat (rowsD rs)), some (dat (pcsD ps)), some (dat (.int h)), some (val (.ref p)), x4, x5, x6, some (dat (.int (a.2 : Int))), some (dat (encRow a.1))], _, tg_tup istv_vtup (tgs_cons (tg_name (.there (.there (.there (.there (.there (.there (.there .here)))))))) (tgs_cons (tg_name (.there (.there (.there (.there (.there (.there (.there (.there .here))))))))) tgs_nil)) rfl, by decide, et_test (Ev.eq (ev_op (ev_var (.there (.there (.there (.there (.there (.there (.there (.there .here))))))))) (ev_tupD ed_nil (by decide)) (rv_neD isd_dat isd_dat shp_row (shp_tuple shpA_nil))) ?_), fun _ => ev_var (.there (.there (.there (.there (.there (.there (.there .here)))))))⟩
      rw [show PyData.eqv (encRow a.1) (.tuple []) = decide (a.1 = []) from EqOk.dec (eqok_tuple eqok_m) a.1 []]
    refine c_ret (D := fnD Q) (ev_op (ev_var (.there (.there (.there .here)))) he (rv_eqD (isd_cell (.head _)) isd_dat (shp_list (shpA_map fun _ _ => shp_int)) (shp_list (shpA_map fun _ _ => shp_int)))) hQ.up ?_ (Le.refl _)
    rw [e]
    exact up_drop (List.sublist_cons_self _ _) hP
theorem stops_ev {K : PySem.W.Frag} {mg : Str → Option Value} {T : Tx K mg} {rs : Rws} {M : Cells} (h1 : rs.length ≤ 16) : S_stops_of K T [dat (rowsD rs)] M (Det (dat (intsD (stops (pieces rs)))) M) := ⟨rs, rfl, h1, rfl, rfl⟩
theorem stops_of_body {K : PySem.W.Frag} {mg : Str → Option Value} (T : Tx K mg) : ∀ Q ds M P Φ, ds.length = 1 → S_stops_of K T ds M P → RtQ Q Φ P → Cont (rd_stops_of_0 K T (fnD Q)) Φ (entry ["rows", "mast", "first", "last"] ds) M := by
  rintro Q ds M P Φ - ⟨rs, rfl, h16, hP⟩ hQ
  show Cont _ _ [some (dat (rowsD rs)), none, none, none] _
  have hl := pieces_len rs
  refine c_ret (D := fnD Q) (x := dat (intsD (stops (pieces rs)))) (M1 := M) ?_ hQ hP (Le.refl _)
  have e : intsD (stops (pieces rs)) = .list ((pieces rs).map fun p => PyData.int (p.f : Int)) := by
    unfold stops
    rw [intsD, List.map_map]
    rfl
  rw [e]
  refine ev_lcY (e := fun p => dat (encPc p)) (ei_seqLM (ev_call (ds := [dat (rowsD rs)]) (ea_cons (ev_var .here) ea_nil) rfl (pieces_ev h16))) (by omega) fun a _ => ?_
  exact ⟨[some (dat (rowsD rs)), some (dat (encM a.m)), some (dat (.int (a.f : Int))), some (dat (.int (a.l : Int)))], _, td_tup (ds := [encM a.m, .int (a.f : Int), .int (a.l : Int)]) (td_cons (tg_name (.there .here)) (td_cons (tg_name (.there (.there .here))) (td_cons (tg_name (.there (.there (.there .here)))) td_nil))) rfl, by decide, ev_var (.there (.there .here))⟩

end Lw


set_option Elab.async false
set_option linter.all false
set_option maxRecDepth 100000
set_option maxHeartbeats 4000000
namespace Lw
open PySem L2 Sx
/-! ### steps -/
local macro_rules | `(tactic| walk_at "shp") => `(tactic| first
  | exact shp_int
  | exact shp_none
  | exact shp_bool
  | exact shp_oi _
  | (apply shp_str; first | decide +kernel | assumption)
  | (apply shp_list; walk_at "shpA")
  | (apply shp_tuple; walk_at "shpA")
  | assumption)
local macro_rules | `(tactic| walk_at "shpA") => `(tactic| first
  | exact shpA_nil
  | (apply shpA_cons; (· walk_at "shp"); walk_at "shpA")
  | (apply shpA_map; intro _ _; walk_at "shp"))
/-- what is left beside: closed, or left -/
local macro_rules | `(tactic| walk_at "side") => `(tactic| first
  | (with_reducible show Shp _ _); walk_at "shp"
  | (with_reducible show _ ≤ sizeLine); first | decide | (show _ ≤ 16777216; omega) | (show _ ≤ 16777216; simp only [List.length_map, List.length_append, List.length_cons, List.length_nil]; omega)
  | (with_reducible show _ < sizeLine); first | decide | (show _ < 16777216; omega) | (show _ < 16777216; simp only [List.length_map, List.length_append, List.length_cons, List.length_nil]; omega)
  | (with_reducible show CMul _ _); first | exact Or.inr ⟨by decide, by decide⟩ | exact Or.inl ⟨by decide, by decide⟩ | exact Or.inl ⟨by omega, by omega⟩ | exact Or.inr ⟨by omega, by omega⟩
  | (with_reducible show CPow _ _); exact ⟨by decide, by decide, by decide⟩
  | (with_reducible show CDiv _ _); first | exact ⟨by decide, by decide⟩ | exact ⟨by omega, by omega⟩
  | (with_reducible show Le _ _); first | with_reducible exact Le.refl _ | with_reducible assumption
  | (with_reducible show L2.atI _ _ = _); first | with_reducible assumption | exact rfl | exact atI_nat rfl
  | (with_reducible show _ < _); first | with_reducible assumption | decide | omega
  | (with_reducible show _ ≤ _); first | with_reducible assumption | decide | omega
  | (with_reducible show _ ∧ _); omega
  | (with_reducible show ∀ i, i ∈ _ → i ∈ _); decide
  | (with_reducible show (_ : Nat) = _); first | exact rfl | omega)
local macro_rules | `(tactic| walk_at "rm") => `(tactic| first
  | exact Rm.here
  | (apply Rm.there; walk_at "rm"))
local macro_rules | `(tactic| walk_at "perm") => `(tactic| first
  | with_reducible exact List.Perm.refl _
  | (apply perm_step; (· walk_at "rm"); walk_at "perm")
  | exact List.Perm.refl _)
local macro_rules | `(tactic| walk_at "pk") => `(tactic| first
  | with_reducible exact Pk.here
  | ((with_reducible apply Pk.there); walk_at "pk"))
/-- a part of a reading: what it gives. One word for all kinds -/
local macro_rules | `(tactic| walk_at "sx") => `(tactic| first
  -- an expression
  | with_reducible exact ev_int
  | with_reducible exact ev_bl
  | with_reducible exact ev_str
  | with_reducible exact ev_non
  | (with_reducible apply ev_var) <;> walk_at "sx"
  | (with_reducible apply ev_op) <;> walk_at "sx"
  | (with_reducible apply ev_fld) <;> walk_at "sx"
  | (with_reducible apply ev_cb) <;> walk_at "sx"
  | (with_reducible apply ev_tupD) <;> walk_at "sx"
  | (with_reducible apply ev_lstD) <;> walk_at "sx"
  | (with_reducible apply ev_tupV) <;> walk_at "sx"
  | (with_reducible apply ev_lstV) <;> walk_at "sx"
  | (with_reducible apply ev_slL) <;> walk_at "sx"
  | (with_reducible apply ev_slT1) <;> walk_at "sx"
  | (with_reducible apply ev_slT) <;> walk_at "sx"
  | (with_reducible apply ev_un) <;> walk_at "sx"
  | (with_reducible apply ev_chain) <;> walk_at "sx"
  | (with_reducible apply ev_andV) <;> walk_at "sx"
  | (with_reducible apply ev_orV) <;> walk_at "sx"
  | (with_reducible apply ev_notV) <;> walk_at "sx"
  | (with_reducible apply ev_lcY) <;> walk_at "sx"
  | (with_reducible apply ev_lc) <;> walk_at "sx"
  | ((with_reducible show ∀ a, a ∈ _ → ∃ ρ'' js, _); intro a ha; dsimp only [wipeE, List.set]; (first | with_reducible apply lcY_k | with_reducible apply lcF_k) <;> walk_at "sx")
  | (with_reducible apply ev_call) <;> walk_at "sx"
  | (with_reducible apply ev_meth) <;> walk_at "sx"
  | (with_reducible apply ev_bm) <;> walk_at "sx"
  | (with_reducible show Ev _ _ _ _ _); walk_at "own"
  -- a test
  | with_reducible exact et_yes
  | (with_reducible apply et_test) <;> walk_at "sx"
  | (with_reducible apply et_B) <;> walk_at "sx"
  | (with_reducible apply et_not) <;> walk_at "sx"
  | (with_reducible apply et_and) <;> walk_at "sx"
  | (with_reducible apply et_or) <;> walk_at "sx"
  -- arguments
  | with_reducible exact ea_nil
  | (with_reducible apply ea_cons) <;> walk_at "sx"
  | with_reducible exact ed_nil
  | (with_reducible apply ed_cons) <;> walk_at "sx"
  | with_reducible exact eo_none
  | (with_reducible apply eo_some) <;> walk_at "sx"
  -- what an operation gives
  | with_reducible exact rv_addI
  | with_reducible exact rv_int0
  | with_reducible exact rv_bl0
  | with_reducible exact rv_eqI
  | with_reducible exact rv_neI
  | with_reducible exact rv_eqS
  | with_reducible exact rv_neS
  | with_reducible exact rv_isN
  | with_reducible exact rv_notN
  | (with_reducible apply rv_intC) <;> walk_at "sx"
  | (with_reducible apply rv_addS) <;> walk_at "sx"
  | (with_reducible apply rv_ixL isl_dat) <;> walk_at "sx"
  | (with_reducible apply rv_ixT ist_dat) <;> walk_at "sx"
  | (with_reducible apply rv_ixL) <;> walk_at "sx"
  | (with_reducible apply rv_ixLV) <;> walk_at "sx"
  | (apply rv_ixT ist_dat) <;> walk_at "sx"
  | (with_reducible apply rv_ixTV istv_vtup) <;> walk_at "sx"
  | (with_reducible apply rv_ixScr) <;> walk_at "sx"
  | (apply rv_ixL isl_dat) <;> walk_at "sx"
  | (with_reducible apply rv_ixL) <;> walk_at "sx"
  | (apply rv_cat) <;> walk_at "sx"
  | (with_reducible apply rv_eqD) <;> walk_at "sx"
  | (with_reducible apply rv_neD) <;> walk_at "sx"
  | with_reducible exact ru_neg
  | with_reducible exact rc_int
  | with_reducible exact rc_abs
  | with_reducible exact rc_max2
  | with_reducible exact rc_min2
  | with_reducible exact rc_lenScr
  | with_reducible exact rc_lenM isl_dat
  | ((with_reducible apply rc_lenM); (with_reducible apply isl_cell) <;> walk_at "sx")
  | with_reducible exact rc_lenMT
  | (with_reducible apply rc_lenL) <;> walk_at "sx"
  | (apply rc_lenT ist_dat)
  | (with_reducible apply rc_tupL) <;> walk_at "sx"
  | (apply rc_tupT)
  | (with_reducible apply rc_lstL) <;> walk_at "sx"
  | (apply rc_lstT ist_dat)
  | with_reducible exact rc_anyM
  | with_reducible exact rc_allM
  | ((with_reducible apply rm_append) <;> walk_at "sx")
  -- lists, tuples, data
  | with_reducible exact isl_dat
  | with_reducible exact isd_dat
  | with_reducible exact isd_scr
  | (with_reducible apply isl_cell) <;> walk_at "sx"
  | (with_reducible apply islv_cell) <;> walk_at "sx"
  | with_reducible exact islv_vlst
  | (with_reducible apply isd_cell) <;> walk_at "sx"
  | (with_reducible apply isd_vtup) <;> walk_at "sx"
  | (with_reducible apply isd_vlst) <;> walk_at "sx"
  | with_reducible exact isds_nil
  | (with_reducible apply isds_cons) <;> walk_at "sx"
  | with_reducible exact fzl_dat
  | with_reducible exact fzl_v
  | with_reducible exact fzt_dat
  | with_reducible exact fzt_v
  | (with_reducible apply ity_l) <;> walk_at "sx"
  | with_reducible exact ity_s
  | (with_reducible apply IsLst.v) <;> walk_at "sx"
  -- places
  | with_reducible exact At.here
  | (with_reducible apply At.there) <;> walk_at "sx"
  | with_reducible exact SetAt.here
  | (with_reducible apply SetAt.there) <;> walk_at "sx"
  | with_reducible exact List.mem_cons_self
  | (with_reducible apply List.mem_cons_of_mem) <;> walk_at "sx"
  | ((with_reducible show (_ : Addr × CD) ∈ _); with_reducible assumption)
  | with_reducible exact Put.here
  | (with_reducible apply Put.there) <;> walk_at "sx"
  | ((with_reducible show Put _ _ _ _ _); with_reducible assumption)
  | ((with_reducible show Sw _ _ _ _); with_reducible assumption)
  | with_reducible exact sw_nil
  | ((with_reducible apply sw_pick); (· walk_at "pk"); walk_at "sx")
  | ((with_reducible apply sw_skip); walk_at "sx")
  | with_reducible exact FGet.here
  | ((with_reducible apply FGet.there); (· decide +kernel); walk_at "sx")
  | with_reducible exact FPut.here
  | with_reducible exact FPut.new
  | ((with_reducible apply FPut.there); (· decide +kernel); walk_at "sx")
  | (with_reducible show ClsF _ _ _); with_reducible assumption
  | (with_reducible show RtQ _ _ _); assumption
  | (with_reducible show (_ : Str) ∈ _); decide +kernel
  | (with_reducible show ¬ (_ : Str) ∈ _); decide +kernel
  -- what is walked, targets
  | (with_reducible apply ei_rng1) <;> walk_at "sx"
  | (with_reducible apply ei_rng2) <;> walk_at "sx"
  | (with_reducible apply ei_enumD) <;> walk_at "sx"
  | (with_reducible apply ei_enum) <;> walk_at "sx"
  | (with_reducible apply ei_zip) <;> walk_at "sx"
  | (with_reducible apply ei_seqLM) <;> walk_at "sx"
  | (with_reducible apply ei_seqTM) <;> walk_at "sx"
  | (with_reducible apply ei_seqL) <;> walk_at "sx"
  | (with_reducible apply ei_seqT) <;> walk_at "sx"
  | (with_reducible apply tg_name) <;> walk_at "sx"
  | (with_reducible apply tg_tup istv_vtup) <;> walk_at "sx"
  | (with_reducible apply td_tup) <;> walk_at "sx"
  | with_reducible exact td_nil
  | (with_reducible apply td_cons) <;> walk_at "sx"
  | with_reducible exact tgs_nil
  | (with_reducible apply tgs_cons) <;> walk_at "sx"
  -- beside
  | walk_at "spec"
  | walk_at "side"
  | walk_at "leave")
/-- a question of another kind is left -/
local macro_rules | `(tactic| walk_at "leave") => `(tactic| first
  | with_reducible show Cont _ _ _ _
  | with_reducible show Shp _ _
  | with_reducible show _ ≤ _
  | with_reducible show _ < _
  | with_reducible show CMul _ _
  | with_reducible show CDiv _ _
  | with_reducible show CPow _ _
  | with_reducible show _ = _
  | with_reducible show Le _ _
  | ((with_reducible show _ = true → _); with_reducible assumption)
  | ((with_reducible show _ = true → _); intro _; walk_at "sx")
  | ((with_reducible show _ = false → _); intro _; walk_at "sx"))
/-- a plain statement -/
local macro_rules | `(tactic| walk_at "st") => `(tactic| first
  | (with_reducible apply c_seq); walk_at "st"
  | (with_reducible apply c_asg) <;> (first | walk_at "sx" | skip)
  | (with_reducible apply c_asgG) <;> (first | walk_at "sx" | skip)
  | (with_reducible apply c_par) <;> (first | walk_at "sx" | skip)
  | (with_reducible apply c_par3) <;> (first | walk_at "sx" | skip)
  | (with_reducible apply c_aug) <;> (first | walk_at "sx" | skip)
  | (with_reducible apply c_augS) <;> (first | walk_at "sx" | skip)
  | (with_reducible apply c_fld) <;> (first | walk_at "sx" | skip)
  | (with_reducible apply c_drop) <;> (first | walk_at "sx" | skip)
  | with_reducible apply c_next
  | with_reducible apply c_break
  | with_reducible apply c_cont)
/-- a value is handed back; a word is met again -/
local macro_rules | `(tactic| walk_at "ret") => `(tactic| (with_reducible apply c_ret) <;> (first | walk_at "sx" | skip))
local macro_rules | `(tactic| walk_at "inv") => `(tactic| (with_reducible apply c_inv) <;> (first | walk_at "side" | skip))
local macro_rules | `(tactic| walk_at "seq") => `(tactic| with_reducible apply c_seq)
local macro_rules | `(tactic| walk_at "cut") => `(tactic| with_reducible apply c_cut)
local macro_rules | `(tactic| walk_at "if") => `(tactic| ((with_reducible apply c_if); (case' h => first | walk_at "sx" | skip)))
local macro_rules | `(tactic| walk_at "fgt") => `(tactic| first
  | exact Fgt.nil
  | (with_reducible apply Fgt.keep; walk_at "fgt")
  | (with_reducible apply Fgt.drop; walk_at "fgt"))

/-! ### more steps: stars, dicts, tuples -/
local macro_rules | `(tactic| walk_at "sx") => `(tactic| first
  | (with_reducible apply ed_starT) <;> walk_at "sx"
  | (with_reducible apply ev_dgetS) <;> walk_at "sx"
  | with_reducible exact isdi_v
  | (with_reducible apply isdi_c) <;> walk_at "sx"
  | (with_reducible apply rv_catTd) <;> walk_at "sx"
  | with_reducible exact ist_dat
  | ((with_reducible show ¬ (_ : Int) < _); with_reducible assumption)
  | ((with_reducible show valG _ _ = _); walk_at "get")
  | ((with_reducible show putG _ _ _ = _); walk_at "get"))

theorem shows_ev {K : PySem.W.Frag} {mg : Str → Option Value} {T : Tx K mg} {rs : Rws} {ss : List Int} {M : Cells} (h1 : rs.length ≤ 16 ∧ ∀ r ∈ rs, r.length ≤ 8) (h2 : ss.length < 64) : S_shows_many K T [dat (rowsD rs), dat (intsD ss)] M (Det (dat (.bool (showsF rs ss))) M) := ⟨rs, ss, rfl, h1, h2, rfl, rfl⟩
theorem ei_zipD {K : PySem.W.Frag} {ρ : Sx.Env} {M M' : Cells} {α β : Type} {f : α → PyData} {g : β → PyData} {xs : List α} {ys : List β} {ta : TA} (h : EvA ta ρ M [dat (.list (xs.map f)), dat (.list (ys.map g))] M') : EvI (iZip K ta) ρ M ((xs.zip ys).map fun p => vtup [dat (f p.1), dat (g p.2)]) M' := by
  have := ei_zip (K := K) h fzl_dat fzl_dat
  rw [List.map_map, List.map_map, List.zip_map, List.map_map] at this
  exact this
theorem gap_any {rs : Rws} {u : Nat} {b : Int} : ((rowAt rs u).any fun m => decide (b ≤ (lasts rs u m : Int))) = !gapOk rs (u : Int) b := by
  unfold gapOk
  rw [Int.toNat_natCast]
  induction rowAt rs u with
  | nil => rfl
  | cons m r ih =>
    rw [List.any_cons, List.all_cons, ih, Bool.not_and]
    congr 1
    by_cases h : b ≤ (lasts rs u m : Int)
    · rw [decide_eq_true h, decide_eq_false (by omega)]; rfl
    · rw [decide_eq_false h, decide_eq_true (by omega)]; rfl
theorem shows_many_body {K : PySem.W.Frag} {mg : Str → Option Value} (T : Tx K mg) : ∀ Q ds M P Φ, ds.length = 2 → S_shows_many K T ds M P → RtQ Q Φ P → Cont (rd_shows_many_0 K T (fnD Q)) Φ (entry ["rows", "stops", "one", "other", "mast", "at"] ds) M := by
  rintro Q ds M P Φ - ⟨rs, ss, rfl, ⟨h16, h8⟩, h64, hP⟩ hQ
  show Cont _ _ [some (dat (rowsD rs)), some (dat (intsD ss)), none, none, none, none] _
  walk_at "cut"
  refine c_if (b := !decide (ss.Pairwise (· < ·)) || !(ss.all (stopOk rs))) (M1 := M) (et_or (et_test (Ev.eq (ev_op (ev_var (.there .here)) (ev_sortSet (ev_var (.there .here)) isl_dat h64) (rv_neD isd_dat isd_dat shp_ints shp_ints)) ?_)) fun _ => et_not (et_B (ev_cb (ea_cons (ev_lcY (e := fun i : Int => dat (.int i)) (ei_seqLM (ev_var (.there .here))) (by omega) fun i _ => ?_) ea_nil) rc_allM))) (fun hb => ?_) fun hb => ?_
  · have : PyData.eqv (intsD ss) (intsD (rise ss)) = decide (ss.Pairwise (· < ·)) := by
      rw [EqOk.dec eqok_ints, decide_eq_decide]
      exact ⟨fun e => rise_self.mp e.symm, fun h => (rise_self.mpr h).symm⟩
    rw [this]
  · refine ⟨[some (dat (rowsD rs)), some (dat (intsD ss)), none, none, none, some (dat (.int i))], [5], tg_name (.there (.there (.there (.there (.there .here))))), fun _ h => h, ?_⟩
    unfold stopOk
    refine ev_andV (ev_chain ev_int (ev_var (.there (.there (.there (.there (.there .here)))))) rv_bl0 (fun _ => ev_cb (ea_cons (ev_var .here) ea_nil) (rc_lenM isl_dat)) fun _ => rv_bl0) fun h => ?_
    simp only [Bool.and_eq_true, decide_eq_true_eq] at h
    obtain ⟨u, rfl⟩ : ∃ u : Nat, i = (u : Int) := ⟨i.toNat, by omega⟩
    refine Ev.eq (ev_op (ev_row (u := u) (by omega) .here (.there (.there (.there (.there (.there .here)))))) (ev_tupD ed_nil (by decide)) (rv_neD isd_dat isd_dat shp_row (shp_tuple shpA_nil))) ?_
    rw [show PyData.eqv (encRow (rowAt rs u)) (.tuple []) = decide (rowAt rs u = []) from EqOk.dec (eqok_tuple eqok_m) _ [], Int.toNat_natCast]
    congr 2
    simp
  · refine c_ret (D := fnD Q) ev_bl hQ ?_ (Le.refl _)
    have e : showsF rs ss = false := by
      unfold showsF
      cases h1 : decide (ss.Pairwise (· < ·)) with
      | false => rfl
      | true =>
        cases h2 : ss.all (stopOk rs) with
        | false => rfl
        | true => rw [h1, h2] at hb; cases hb
    rw [e] at hP
    exact hP
  · have h1 : ss.Pairwise (· < ·) := by
      cases h : decide (ss.Pairwise (· < ·)) with
      | false => rw [h] at hb; cases hb
      | true => exact of_decide_eq_true h
    have h2 : ss.all (stopOk rs) = true := by
      cases h : ss.all (stopOk rs) with
      | false => rw [h, decide_eq_true h1] at hb; cases hb
      | true => rfl
    walk_at "st"
    show Cont (rd_shows_many_3 K T (fnD Q)) Φ _ _
    walk_at "cut"
    refine c_for (its := (ss.zip ss.tail).map fun p => vtup [dat (.int p.1), dat (.int p.2)]) (M1 := M) (I := fun i ρ' M' => ∃ x2 x3, ρ' = [some (dat (rowsD rs)), some (dat (intsD ss)), x2, x3, none, none] ∧ M' = M ∧ (((ss.zip ss.tail).take i).all fun p => gapOk rs p.1 p.2) = true) ?_ ⟨none, none, rfl, rfl, rfl⟩ ?_ ?_
    · refine ei_zipD (ea_cons (ev_var (.there .here)) (ea_cons (Ev.eq (ev_slL (lo := some ((1 : Nat) : Int)) (hi := none) (ev_var (.there .here)) (eo_some ev_int) eo_none isl_dat) ?_) ea_nil))
      rw [cut_n0, List.drop_one, List.map_tail]
    · rintro Ψ hΨ i d ρ' M' hi ⟨x2, x3, rfl, rfl, hg⟩
      rw [List.getElem?_map] at hi
      cases hm : (ss.zip ss.tail)[i]? with
      | none => rw [hm] at hi; cases hi
      | some q =>
        rw [hm] at hi
        cases hi
        obtain ⟨a, b⟩ := q
        have ha : a ∈ ss := (List.of_mem_zip (List.mem_of_getElem? hm)).1
        have hso := List.all_eq_true.mp h2 a ha
        simp only [stopOk, Bool.and_eq_true, decide_eq_true_eq] at hso
        obtain ⟨u, rfl⟩ : ∃ u : Nat, a = (u : Int) := ⟨a.toNat, by omega⟩
        have hu : u < rs.length := by omega
        refine ⟨[some (dat (rowsD rs)), some (dat (intsD ss)), some (dat (.int (u : Int))), some (dat (.int b)), none, none], _, tg_tup istv_vtup (tgs_cons (tg_name (.there (.there .here))) (tgs_cons (tg_name (.there (.there (.there .here)))) tgs_nil)) rfl, ?_⟩
        refine c_if (b := !gapOk rs (u : Int) b) (M1 := M') (et_B (Ev.eq (ev_cb (ea_cons (ev_lcY (e := fun m => dat (encM m)) (r := fun m => .bool (decide (b ≤ (lasts rs u m : Int)))) (xs := rowAt rs u) (ei_seqTM (ev_row hu .here (.there (.there .here)))) ?_ fun m _ => ?_) ea_nil) rc_anyM) (by rw [gap_any]))) (fun hb => ?_) fun hb => ?_
        · have := h8 _ (List.mem_of_getElem? (rowAt_some hu)); omega
        · exact ⟨[some (dat (rowsD rs)), some (dat (intsD ss)), some (dat (.int (u : Int))), some (dat (.int b)), some (dat (encM m)), none], [4], tg_name (.there (.there (.there (.there .here)))), fun _ h => h, ev_op (ev_call (ds := [dat (rowsD rs), dat (.int (u : Int)), dat (encM m)]) (ea_cons (ev_var .here) (ea_cons (ev_var (.there (.there .here))) (ea_cons (ev_var (.there (.there (.there (.there .here))))) ea_nil))) rfl lasts_ev) (ev_var (.there (.there (.there .here)))) rv_bl0⟩
        · refine c_ret (D := fnD Q) ev_bl hQ ?_ hΨ
          have e : showsF rs ss = false := by
            cases hs : showsF rs ss with
            | false => rfl
            | true =>
              simp only [showsF, Bool.and_eq_true] at hs
              have := List.all_eq_true.mp hs.2.2 _ (List.mem_of_getElem? hm)
              rw [this] at hb
              cases hb
          rw [e] at hP
          exact hP
        · walk_at "st"
          refine c_inv ⟨_, _, rfl, rfl, ?_⟩ (Le.refl _)
          rw [List.take_succ, hm, List.all_append, hg]
          show (true && (gapOk rs (u : Int) b && true)) = true
          simpa using hb
    · rintro ρ' M' ⟨x2, x3, rfl, rfl, hg⟩
      rw [List.length_map, List.take_length] at hg
      refine c_ret (D := fnD Q) ev_bl hQ ?_ (Le.refl _)
      have e : showsF rs ss = true := by
        unfold showsF
        rw [decide_eq_true h1, h2, hg]
        rfl
      rw [e] at hP
      exact hP
theorem fewest_ev {K : PySem.W.Frag} {mg : Str → Option Value} {T : Tx K mg} {rs : Rws} {M : Cells} (h1 : rs.length ≤ 16) (h2 : ∀ r ∈ rs, r.Nodup ∧ r.length ≤ 8) : S_law_fewest K T [dat (rowsD rs)] M (Det (dat (.int (fewest rs : Int))) M) := ⟨rs, rfl, h1, h2, rfl, rfl⟩
abbrev rowK (v : Mt → Nat) (r : Row) : List (L2.Key × PyData) := r.map fun m => (.inr (mS m), .int (v m : Int))
theorem valG_row {v : Mt → Nat} {m : Mt} : ∀ {r : Row}, valG (dKs (rowK v r)) (.inr (mS m)) = if m ∈ r then some (dat (.int (v m : Int))) else none
  | [] => rfl
  | x :: r => by
    show valG ((Sum.inr (mS x), dat (.int (v x : Int))) :: dKs (rowK v r)) _ = _
    rw [valG_cons, valG_row]
    by_cases h : x = m
    · subst h; rw [if_pos rfl, if_pos List.mem_cons_self]
    · rw [if_neg (fun e : (Sum.inr (mS x) : L2.Key) = Sum.inr (mS m) => h (mS_inj (Sum.inr.inj e)))]
      by_cases h2 : m ∈ r
      · rw [if_pos h2, if_pos (List.mem_cons_of_mem _ h2)]
      · rw [if_neg h2, if_neg]
        intro z
        rcases List.mem_cons.mp z with e | e
        · exact h e.symm
        · exact h2 e
theorem putG_row {v : Mt → Nat} {m : Mt} {r : Row} (h : m ∉ r) : putG (dKs (rowK v r)) (.inr (mS m)) (dat (.int (v m : Int))) = dKs (rowK v (r ++ [m])) := by
  unfold putG
  rw [valG_any, valG_row, if_neg h, if_neg (by simp), dKs, dKs, rowK, rowK, List.map_append, List.map_append]
  rfl
theorem minV_min {v : Mt → Nat} {r : Row} (h : r ≠ []) : ((minV v r : Nat) : Int) ∈ (r.map fun m => (v m : Int)) ∧ ∀ j ∈ (r.map fun m => (v m : Int)), ((minV v r : Nat) : Int) ≤ j := by
  constructor
  · obtain ⟨m, hm, e⟩ := minV_mem (v := v) h
    exact List.mem_map.mpr ⟨m, hm, by rw [e]⟩
  · intro j hj
    obtain ⟨m, hm, rfl⟩ := List.mem_map.mp hj
    have := minV_le (v := v) hm
    omega
def Jfew (rs : Rws) (M : Cells) : Nat → Sx.Env → Cells → Prop := fun i ρ' M' => ∃ (p : Addr) (x3 x4 x5 : Option VD), ρ' = [some (dat (rowsD rs)), some (val (.ref p)), some (dat (.int (((rs.take i).foldl stepD dp0).n : Int))), x3, x4, x5] ∧ M' = (p, cD (dKs (rowK ((rs.take i).foldl stepD dp0).v ((rs.take i).foldl stepD dp0).r))) :: M
theorem law_fewest_body {K : PySem.W.Frag} {mg : Str → Option Value} (T : Tx K mg) : ∀ Q ds M P Φ, ds.length = 1 → S_law_fewest K T ds M P → RtQ Q Φ P → Cont (rd_law_fewest_0 K T (fnD Q)) Φ (entry ["_law_rows", "_law_best", "_law_many", "_law_row", "_law_late", "_law_mast"] ds) M := by
  rintro Q ds M P Φ - ⟨rs, rfl, h16, h8, hP⟩ hQ
  show Cont _ _ [some (dat (rowsD rs)), none, none, none, none, none] _
  walk_at "seq"
  refine c_parR (P := fun xs N => ∃ p, xs = [val (.ref p), dat (.int 0)] ∧ N = (p, cD []) :: M) ?_ ?_
  · refine ear_cons er_dnewC ?_
    rintro x M1 ⟨p, rfl, rfl⟩
    exact EvAR.of (ea_cons ev_int ea_nil) ⟨p, rfl, rfl⟩
  rintro xs M1 ⟨p, rfl, rfl⟩
  refine ⟨_, _, _, _, rfl, .there .here, .there (.there .here), ?_⟩
  show Cont (rd_law_fewest_1 K T (fnD Q)) Φ _ _
  walk_at "cut"
  refine c_for (its := rs.map fun r => dat (encRow r)) (I := Jfew rs M) (ei_seqLM (ev_var .here)) ⟨p, none, none, none, rfl, rfl⟩ ?_ ?_
  · rintro Ψ hΨ i d ρ' M' hi ⟨p, x3, x4, x5, rfl, rfl⟩
    rw [List.getElem?_map] at hi
    cases hm : rs[i]? with
    | none => rw [hm] at hi; cases hi
    | some r =>
      rw [hm] at hi
      cases hi
      obtain ⟨hnd, hl8⟩ := h8 r (List.mem_of_getElem? hm)
      generalize hs : (rs.take i).foldl stepD dp0 = s
      have hs2 : (rs.take (i + 1)).foldl stepD dp0 = stepD s r := by
        rw [List.take_succ, hm, List.foldl_append, hs]
        rfl
      refine ⟨[some (dat (rowsD rs)), some (val (.ref p)), some (dat (.int (s.n : Int))), some (dat (encRow r)), x4, x5], _, tg_name (.there (.there (.there .here))), ?_⟩
      show Cont (rd_law_fewest_2 K T _) Ψ _ _
      walk_at "seq"
      refine c_asgR er_dnewC ?_
      rintro y M1 ⟨p2, rfl, rfl⟩
      refine asgR_k (.there (.there (.there (.there .here)))) ?_
      show Cont (rd_law_fewest_3 K T _) Ψ _ _
      walk_at "cut"
      refine c_for (its := r.map fun m => dat (encM m)) (I := fun j ρ' M' => ∃ x5, ρ' = [some (dat (rowsD rs)), some (val (.ref p)), some (dat (.int (s.n : Int))), some (dat (encRow r)), some (val (.ref p2)), x5] ∧ M' = (p2, cD (dKs (rowK (lateV s) (r.take j)))) :: (p, cD (dKs (rowK s.v s.r))) :: M) (ei_seqTM (ev_var (.there (.there (.there .here))))) ⟨_, rfl, rfl⟩ ?_ ?_
      · rintro Ψ2 hΨ2 j d ρ' M' hj ⟨x5, rfl, rfl⟩
        rw [List.getElem?_map] at hj
        cases hm2 : r[j]? with
        | none => rw [hm2] at hj; cases hj
        | some m =>
          rw [hm2] at hj
          cases hj
          have hno : m ∉ r.take j := by
            intro z
            obtain ⟨hj1, hj2⟩ := List.getElem?_eq_some_iff.mp hm2
            rw [← List.take_append_drop j r, List.nodup_append] at hnd
            have hd : m ∈ r.drop j := by
              rw [List.drop_eq_getElem_cons hj1, hj2]
              exact List.mem_cons_self
            exact hnd.2.2 m z m hd rfl
          have hput := putG_row (v := lateV s) hno
          have htk : r.take (j + 1) = r.take j ++ [m] := by rw [List.take_succ, hm2]; rfl
          refine ⟨[some (dat (rowsD rs)), some (val (.ref p)), some (dat (.int (s.n : Int))), some (dat (encRow r)), some (val (.ref p2)), some (dat (encM m))], _, tg_name (.there (.there (.there (.there (.there .here))))), ?_⟩
          show Cont (rd_law_fewest_4 K T _) Ψ2 _ _
          have hget : Ev (tDGet2 (tVar 1) (tVar 5) (tOp (rAddU K) (tVar 2) (tC (.int 1)))) [some (dat (rowsD rs)), some (val (.ref p)), some (dat (.int (s.n : Int))), some (dat (encRow r)), some (val (.ref p2)), some (dat (encM m))] ((p2, cD (dKs (rowK (lateV s) (r.take j)))) :: (p, cD (dKs (rowK s.v s.r))) :: M) (dat (.int ((if m ∈ s.r then s.v m else s.n + 1 : Nat) : Int))) ((p2, cD (dKs (rowK (lateV s) (r.take j)))) :: (p, cD (dKs (rowK s.v s.r))) :: M) := by
            have q := ev_dget2 (k := .inr (mS m)) (kvs := dKs (rowK s.v s.r)) (ρ := [some (dat (rowsD rs)), some (val (.ref p)), some (dat (.int (s.n : Int))), some (dat (encRow r)), some (val (.ref p2)), some (dat (encM m))]) (M := (p2, cD (dKs (rowK (lateV s) (r.take j)))) :: (p, cD (dKs (rowK s.v s.r))) :: M) (ev_var (.there .here)) (isdi_c (.tail _ (.head _))) (ev_var (x := dat (encM m)) (.there (.there (.there (.there (.there .here)))))) (ev_op (r := rAddU K) (ev_var (.there (.there .here))) (ev_int (i := 1)) rv_addI) (isdi_c (.tail _ (.head _)))
            rw [valG_row] at q
            by_cases h : m ∈ s.r
            · rw [if_pos h] at q ⊢; exact q
            · rw [if_neg h] at q ⊢; exact q
          refine c_dput (k := .inr (mS m)) (x := dat (.int (lateV s m : Int))) (M1 := (p2, cD (dKs (rowK (lateV s) (r.take j)))) :: (p, cD (dKs (rowK s.v s.r))) :: M) (Ev.eq (ev_cb (ea_cons hget (ea_cons (ev_op (ev_var (.there (.there .here))) ev_int rv_addI) ea_nil)) rc_min2) ?_) (ev_var (.there (.there (.there (.there .here))))) (ev_var (x := dat (encM m)) (.there (.there (.there (.there (.there .here)))))) .here ?_ ?_
          · congr 2
            unfold lateV
            omega
          · rw [List.length_map, List.length_map, List.length_take]
            show _ < 16777216
            omega
          · rw [hput, ← htk]
            exact c_inv ⟨_, rfl, rfl⟩ (Le.refl _)
      · rintro ρ' M' ⟨x5, rfl, rfl⟩
        rw [List.length_map, List.take_length]
        show Cont (rd_law_fewest_5 K T _) Ψ _ _
        walk_at "seq"
        refine c_asg (ev_var (.there (.there (.there (.there .here))))) (.there .here) ?_
        show Cont (rd_law_fewest_6 K T _) Ψ _ _
        refine c_asg (x := dat (.int ((stepD s r).n : Int))) (M1 := (p2, cD (dKs (rowK (lateV s) r))) :: (p, cD (dKs (rowK s.v s.r))) :: M) (ev_if (b := !r.isEmpty) (M1 := (p2, cD (dKs (rowK (lateV s) r))) :: (p, cD (dKs (rowK s.v s.r))) :: M) (et_test (Ev.eq (ev_op (ev_var (.there (.there (.there (.there .here))))) ev_dnewK (rv_neEm (isdu_c (.head _)))) ?_)) (fun hb => ?_) fun hb => ?_) (.there (.there .here)) ?_
        · cases r <;> rfl
        · have hne : r ≠ [] := by
            intro e
            subst e
            cases hb
          obtain ⟨a, b⟩ := minV_min (v := lateV s) hne
          have e : (stepD s r).n = minV (lateV s) r := if_neg hne
          rw [e]
          have e2 : (rowK (lateV s) r).map (·.2) = (r.map fun m => (lateV s m : Int)).map PyData.int := by rw [List.map_map, List.map_map]; rfl
          refine ev_cb (ea_cons (ev_listVals (l := rowK (lateV s) r) (ev_var (.there (.there (.there (.there .here))))) (isdu_c (.head _))) ea_nil) ?_
          rw [e2]
          exact rc_minI isl_dat a b
        · have hne : r = [] := by
            cases r with
            | nil => rfl
            | cons _ _ => cases hb
          have e : (stepD s r).n = s.n := if_pos hne
          rw [e]
          exact ev_var (.there (.there .here))
        · refine c_dropC (M' := (p2, cD (dKs (rowK (lateV s) r))) :: M) (.cons_cons _ (List.sublist_cons_self _ _)) (c_inv ⟨p2, some (dat (encRow r)), some (val (.ref p2)), x5, ?_, ?_⟩ (Le.refl _))
          · rw [hs2]
          · rw [hs2]; rfl
  · rintro ρ' M' ⟨p, x3, x4, x5, rfl, rfl⟩
    rw [List.length_map, List.take_length]
    refine c_ret (D := fnD Q) (ev_var (.there (.there .here))) hQ.up (up_drop (List.sublist_cons_self _ _) ?_) (Le.refl _)
    exact hP

end Lw


set_option Elab.async false
set_option linter.all false
set_option maxRecDepth 100000
set_option maxHeartbeats 4000000
namespace Lw
open PySem L2 Sx
/-! ### steps -/
local macro_rules | `(tactic| walk_at "shp") => `(tactic| first
  | exact shp_int
  | exact shp_none
  | exact shp_bool
  | exact shp_oi _
  | (apply shp_str; first | decide +kernel | assumption)
  | (apply shp_list; walk_at "shpA")
  | (apply shp_tuple; walk_at "shpA")
  | assumption)
local macro_rules | `(tactic| walk_at "shpA") => `(tactic| first
  | exact shpA_nil
  | (apply shpA_cons; (· walk_at "shp"); walk_at "shpA")
  | (apply shpA_map; intro _ _; walk_at "shp"))
/-- what is left beside: closed, or left -/
local macro_rules | `(tactic| walk_at "side") => `(tactic| first
  | (with_reducible show Shp _ _); walk_at "shp"
  | (with_reducible show _ ≤ sizeLine); first | decide | (show _ ≤ 16777216; omega) | (show _ ≤ 16777216; simp only [List.length_map, List.length_append, List.length_cons, List.length_nil]; omega)
  | (with_reducible show _ < sizeLine); first | decide | (show _ < 16777216; omega) | (show _ < 16777216; simp only [List.length_map, List.length_append, List.length_cons, List.length_nil]; omega)
  | (with_reducible show CMul _ _); first | exact Or.inr ⟨by decide, by decide⟩ | exact Or.inl ⟨by decide, by decide⟩ | exact Or.inl ⟨by omega, by omega⟩ | exact Or.inr ⟨by omega, by omega⟩
  | (with_reducible show CPow _ _); exact ⟨by decide, by decide, by decide⟩
  | (with_reducible show CDiv _ _); first | exact ⟨by decide, by decide⟩ | exact ⟨by omega, by omega⟩
  | (with_reducible show Le _ _); first | with_reducible exact Le.refl _ | with_reducible assumption
  | (with_reducible show L2.atI _ _ = _); first | with_reducible assumption | exact rfl | exact atI_nat rfl
  | (with_reducible show _ < _); first | with_reducible assumption | decide | omega
  | (with_reducible show _ ≤ _); first | with_reducible assumption | decide | omega
  | (with_reducible show _ ∧ _); omega
  | (with_reducible show ∀ i, i ∈ _ → i ∈ _); decide
  | (with_reducible show (_ : Nat) = _); first | exact rfl | omega)
local macro_rules | `(tactic| walk_at "rm") => `(tactic| first
  | exact Rm.here
  | (apply Rm.there; walk_at "rm"))
local macro_rules | `(tactic| walk_at "perm") => `(tactic| first
  | with_reducible exact List.Perm.refl _
  | (apply perm_step; (· walk_at "rm"); walk_at "perm")
  | exact List.Perm.refl _)
local macro_rules | `(tactic| walk_at "pk") => `(tactic| first
  | with_reducible exact Pk.here
  | ((with_reducible apply Pk.there); walk_at "pk"))
/-- a part of a reading: what it gives. One word for all kinds -/
local macro_rules | `(tactic| walk_at "sx") => `(tactic| first
  -- an expression
  | with_reducible exact ev_int
  | with_reducible exact ev_bl
  | with_reducible exact ev_str
  | with_reducible exact ev_non
  | (with_reducible apply ev_var) <;> walk_at "sx"
  | (with_reducible apply ev_op) <;> walk_at "sx"
  | (with_reducible apply ev_fld) <;> walk_at "sx"
  | (with_reducible apply ev_cb) <;> walk_at "sx"
  | (with_reducible apply ev_tupD) <;> walk_at "sx"
  | (with_reducible apply ev_lstD) <;> walk_at "sx"
  | (with_reducible apply ev_tupV) <;> walk_at "sx"
  | (with_reducible apply ev_lstV) <;> walk_at "sx"
  | (with_reducible apply ev_slL) <;> walk_at "sx"
  | (with_reducible apply ev_slT1) <;> walk_at "sx"
  | (with_reducible apply ev_slT) <;> walk_at "sx"
  | (with_reducible apply ev_un) <;> walk_at "sx"
  | (with_reducible apply ev_chain) <;> walk_at "sx"
  | (with_reducible apply ev_andV) <;> walk_at "sx"
  | (with_reducible apply ev_orV) <;> walk_at "sx"
  | (with_reducible apply ev_notV) <;> walk_at "sx"
  | (with_reducible apply ev_lcY) <;> walk_at "sx"
  | (with_reducible apply ev_lc) <;> walk_at "sx"
  | ((with_reducible show ∀ a, a ∈ _ → ∃ ρ'' js, _); intro a ha; dsimp only [wipeE, List.set]; (first | with_reducible apply lcY_k | with_reducible apply lcF_k) <;> walk_at "sx")
  | (with_reducible apply ev_call) <;> walk_at "sx"
  | (with_reducible apply ev_meth) <;> walk_at "sx"
  | (with_reducible apply ev_bm) <;> walk_at "sx"
  | (with_reducible show Ev _ _ _ _ _); walk_at "own"
  -- a test
  | with_reducible exact et_yes
  | (with_reducible apply et_test) <;> walk_at "sx"
  | (with_reducible apply et_B) <;> walk_at "sx"
  | (with_reducible apply et_not) <;> walk_at "sx"
  | (with_reducible apply et_and) <;> walk_at "sx"
  | (with_reducible apply et_or) <;> walk_at "sx"
  -- arguments
  | with_reducible exact ea_nil
  | (with_reducible apply ea_cons) <;> walk_at "sx"
  | with_reducible exact ed_nil
  | (with_reducible apply ed_cons) <;> walk_at "sx"
  | with_reducible exact eo_none
  | (with_reducible apply eo_some) <;> walk_at "sx"
  -- what an operation gives
  | with_reducible exact rv_addI
  | with_reducible exact rv_int0
  | with_reducible exact rv_bl0
  | with_reducible exact rv_eqI
  | with_reducible exact rv_neI
  | with_reducible exact rv_eqS
  | with_reducible exact rv_neS
  | with_reducible exact rv_isN
  | with_reducible exact rv_notN
  | (with_reducible apply rv_intC) <;> walk_at "sx"
  | (with_reducible apply rv_addS) <;> walk_at "sx"
  | (with_reducible apply rv_ixL isl_dat) <;> walk_at "sx"
  | (with_reducible apply rv_ixT ist_dat) <;> walk_at "sx"
  | (with_reducible apply rv_ixL) <;> walk_at "sx"
  | (with_reducible apply rv_ixLV) <;> walk_at "sx"
  | (apply rv_ixT ist_dat) <;> walk_at "sx"
  | (with_reducible apply rv_ixTV istv_vtup) <;> walk_at "sx"
  | (with_reducible apply rv_ixScr) <;> walk_at "sx"
  | (apply rv_ixL isl_dat) <;> walk_at "sx"
  | (with_reducible apply rv_ixL) <;> walk_at "sx"
  | (apply rv_cat) <;> walk_at "sx"
  | (with_reducible apply rv_eqD) <;> walk_at "sx"
  | (with_reducible apply rv_neD) <;> walk_at "sx"
  | with_reducible exact ru_neg
  | with_reducible exact rc_int
  | with_reducible exact rc_abs
  | with_reducible exact rc_max2
  | with_reducible exact rc_min2
  | with_reducible exact rc_lenScr
  | with_reducible exact rc_lenM isl_dat
  | ((with_reducible apply rc_lenM); (with_reducible apply isl_cell) <;> walk_at "sx")
  | with_reducible exact rc_lenMT
  | (with_reducible apply rc_lenL) <;> walk_at "sx"
  | (apply rc_lenT ist_dat)
  | (with_reducible apply rc_tupL) <;> walk_at "sx"
  | (apply rc_tupT)
  | (with_reducible apply rc_lstL) <;> walk_at "sx"
  | (apply rc_lstT ist_dat)
  | with_reducible exact rc_anyM
  | with_reducible exact rc_allM
  | ((with_reducible apply rm_append) <;> walk_at "sx")
  -- lists, tuples, data
  | with_reducible exact isl_dat
  | with_reducible exact isd_dat
  | with_reducible exact isd_scr
  | (with_reducible apply isl_cell) <;> walk_at "sx"
  | (with_reducible apply islv_cell) <;> walk_at "sx"
  | with_reducible exact islv_vlst
  | (with_reducible apply isd_cell) <;> walk_at "sx"
  | (with_reducible apply isd_vtup) <;> walk_at "sx"
  | (with_reducible apply isd_vlst) <;> walk_at "sx"
  | with_reducible exact isds_nil
  | (with_reducible apply isds_cons) <;> walk_at "sx"
  | with_reducible exact fzl_dat
  | with_reducible exact fzl_v
  | with_reducible exact fzt_dat
  | with_reducible exact fzt_v
  | (with_reducible apply ity_l) <;> walk_at "sx"
  | with_reducible exact ity_s
  | (with_reducible apply IsLst.v) <;> walk_at "sx"
  -- places
  | with_reducible exact At.here
  | (with_reducible apply At.there) <;> walk_at "sx"
  | with_reducible exact SetAt.here
  | (with_reducible apply SetAt.there) <;> walk_at "sx"
  | with_reducible exact List.mem_cons_self
  | (with_reducible apply List.mem_cons_of_mem) <;> walk_at "sx"
  | ((with_reducible show (_ : Addr × CD) ∈ _); with_reducible assumption)
  | with_reducible exact Put.here
  | (with_reducible apply Put.there) <;> walk_at "sx"
  | ((with_reducible show Put _ _ _ _ _); with_reducible assumption)
  | ((with_reducible show Sw _ _ _ _); with_reducible assumption)
  | with_reducible exact sw_nil
  | ((with_reducible apply sw_pick); (· walk_at "pk"); walk_at "sx")
  | ((with_reducible apply sw_skip); walk_at "sx")
  | with_reducible exact FGet.here
  | ((with_reducible apply FGet.there); (· decide +kernel); walk_at "sx")
  | with_reducible exact FPut.here
  | with_reducible exact FPut.new
  | ((with_reducible apply FPut.there); (· decide +kernel); walk_at "sx")
  | (with_reducible show ClsF _ _ _); with_reducible assumption
  | (with_reducible show RtQ _ _ _); assumption
  | (with_reducible show (_ : Str) ∈ _); decide +kernel
  | (with_reducible show ¬ (_ : Str) ∈ _); decide +kernel
  -- what is walked, targets
  | (with_reducible apply ei_rng1) <;> walk_at "sx"
  | (with_reducible apply ei_rng2) <;> walk_at "sx"
  | (with_reducible apply ei_enumD) <;> walk_at "sx"
  | (with_reducible apply ei_enum) <;> walk_at "sx"
  | (with_reducible apply ei_zip) <;> walk_at "sx"
  | (with_reducible apply ei_seqLM) <;> walk_at "sx"
  | (with_reducible apply ei_seqTM) <;> walk_at "sx"
  | (with_reducible apply ei_seqL) <;> walk_at "sx"
  | (with_reducible apply ei_seqT) <;> walk_at "sx"
  | (with_reducible apply tg_name) <;> walk_at "sx"
  | (with_reducible apply tg_tup istv_vtup) <;> walk_at "sx"
  | (with_reducible apply td_tup) <;> walk_at "sx"
  | with_reducible exact td_nil
  | (with_reducible apply td_cons) <;> walk_at "sx"
  | with_reducible exact tgs_nil
  | (with_reducible apply tgs_cons) <;> walk_at "sx"
  -- beside
  | walk_at "spec"
  | walk_at "side"
  | walk_at "leave")
/-- a question of another kind is left -/
local macro_rules | `(tactic| walk_at "leave") => `(tactic| first
  | with_reducible show Cont _ _ _ _
  | with_reducible show Shp _ _
  | with_reducible show _ ≤ _
  | with_reducible show _ < _
  | with_reducible show CMul _ _
  | with_reducible show CDiv _ _
  | with_reducible show CPow _ _
  | with_reducible show _ = _
  | with_reducible show Le _ _
  | ((with_reducible show _ = true → _); with_reducible assumption)
  | ((with_reducible show _ = true → _); intro _; walk_at "sx")
  | ((with_reducible show _ = false → _); intro _; walk_at "sx"))
/-- a plain statement -/
local macro_rules | `(tactic| walk_at "st") => `(tactic| first
  | (with_reducible apply c_seq); walk_at "st"
  | (with_reducible apply c_asg) <;> (first | walk_at "sx" | skip)
  | (with_reducible apply c_asgG) <;> (first | walk_at "sx" | skip)
  | (with_reducible apply c_par) <;> (first | walk_at "sx" | skip)
  | (with_reducible apply c_par3) <;> (first | walk_at "sx" | skip)
  | (with_reducible apply c_aug) <;> (first | walk_at "sx" | skip)
  | (with_reducible apply c_augS) <;> (first | walk_at "sx" | skip)
  | (with_reducible apply c_fld) <;> (first | walk_at "sx" | skip)
  | (with_reducible apply c_drop) <;> (first | walk_at "sx" | skip)
  | with_reducible apply c_next
  | with_reducible apply c_break
  | with_reducible apply c_cont)
/-- a value is handed back; a word is met again -/
local macro_rules | `(tactic| walk_at "ret") => `(tactic| (with_reducible apply c_ret) <;> (first | walk_at "sx" | skip))
local macro_rules | `(tactic| walk_at "inv") => `(tactic| (with_reducible apply c_inv) <;> (first | walk_at "side" | skip))
local macro_rules | `(tactic| walk_at "seq") => `(tactic| with_reducible apply c_seq)
local macro_rules | `(tactic| walk_at "cut") => `(tactic| with_reducible apply c_cut)
local macro_rules | `(tactic| walk_at "if") => `(tactic| ((with_reducible apply c_if); (case' h => first | walk_at "sx" | skip)))
local macro_rules | `(tactic| walk_at "fgt") => `(tactic| first
  | exact Fgt.nil
  | (with_reducible apply Fgt.keep; walk_at "fgt")
  | (with_reducible apply Fgt.drop; walk_at "fgt"))

/-! ### more steps: stars, dicts, tuples -/
local macro_rules | `(tactic| walk_at "sx") => `(tactic| first
  | (with_reducible apply ed_starT) <;> walk_at "sx"
  | (with_reducible apply ev_dgetS) <;> walk_at "sx"
  | with_reducible exact isdi_v
  | (with_reducible apply isdi_c) <;> walk_at "sx"
  | (with_reducible apply rv_catTd) <;> walk_at "sx"
  | with_reducible exact ist_dat
  | ((with_reducible show ¬ (_ : Int) < _); with_reducible assumption)
  | ((with_reducible show valG _ _ = _); walk_at "get")
  | ((with_reducible show putG _ _ _ = _); walk_at "get"))

theorem sIx_m1 (n d : Nat) : HT.sIx n d (some (-1)) = n - 1 := by
  show (if (-1 : Int) < 0 then ((-1 : Int) + (n : Int)).toNat else min (-1 : Int).toNat n) = n - 1
  rw [if_pos (by decide)]
  omega
section
variable {K : PySem.W.Frag} {mg : Str → Option Value} {T : Tx K mg} {s : List Int} {pd : Addr} {rs : Rws} {M : Cells} {Ψ Φ : Fr} {D : Ends} {Q : VK} {x2 x4 x5 x8 x9 x10 x11 x12 x13 x14 x15 : Option VD}
abbrev E37 (K : PySem.W.Frag) (s : List Int) (pd : Addr) (rs : Rws) (x2 x4 x5 x8 x9 x10 x11 x12 x13 x14 x15 : Option VD) : Sx.Env := [some (vscr K s), some (val (.ref pd)), x2, some (dat (rowsD rs)), x4, x5, some (dat (pcsD (pieces rs))), some (dat (intsD (stops (pieces rs)))), x8, x9, x10, x11, x12, x13, x14, x15]
structure Ok37 (rs : Rws) : Prop where
  n : rs.length ≤ 16
  r : ∀ r ∈ rs, r.Nodup ∧ r.length ≤ 8
theorem Ok37.sz (h : Ok37 rs) : rs.length ≤ 16 ∧ ∀ r ∈ rs, r.length ≤ 8 := ⟨h.n, fun r hr => (h.r r hr).2⟩
theorem Ok37.p (h : Ok37 rs) : (pieces rs).length ≤ 16 := Nat.le_trans (pieces_len rs) h.n
theorem stops_len : (stops (pieces rs)).length = (pieces rs).length := List.length_map _
theorem ev_lenRows {ρ : Sx.Env} {te : TE} (h : Ev te ρ M (dat (rowsD rs)) M) : Ev (tCB (rLenU K) (tCons te tNil)) ρ M (dat (.int (rs.length : Int))) M := ev_cb (ea_cons h ea_nil) (rc_lenM isl_dat)
theorem rng_rows {ρ : Sx.Env} {te : TE} {n : Nat} (h : Ev te ρ M (dat (.int (n : Int))) M) (hn : n ≤ 1000) : EvI (iRng1 (tCons te tNil)) ρ M ((List.range n).map fun i : Nat => dat (.int (i : Int))) M := by
  have := ei_rng1 (ea_cons h ea_nil) (by omega)
  rw [Int.toNat_natCast] at this
  have e : irange 0 n = (List.range n).map fun i : Nat => dat (.int (i : Int)) := by
    unfold irange
    apply List.map_congr_left
    intro i _
    rw [Int.zero_add]
  rw [e] at this
  exact this
theorem range_at {n i : Nat} {d : VD} (h : ((List.range n).map fun i : Nat => dat (.int (i : Int)))[i]? = some d) : i < n ∧ d = dat (.int (i : Int)) := by
  rw [List.getElem?_map] at h
  by_cases hi : i < n
  · rw [List.getElem?_range hi] at h
    exact ⟨hi, (Option.some.inj h).symm⟩
  · rw [List.getElem?_eq_none (by simp; omega)] at h
    cases h
theorem perm_sort {ns : List Int} {i : Int} : i ∈ PySem.W.sortI ns ↔ i ∈ ns := (PySem.W.sortI_perm ns).mem_iff
/-- the last loop: one stop more -/
theorem seg34 (J : Sx.Env → Cells → Prop) (ok : Ok37 rs) (hk : ∀ x11, Cont D.nx Ψ (E37 K s pd rs x2 x4 x5 x8 x9 x10 x11 x12 x13 x14 x15) M) :
    Cont (rd_law_34 K T D) Ψ (E37 K s pd rs x2 x4 x5 x8 x9 x10 x11 x12 x13 x14 x15) M := by
  have h1 := ok.n
  refine c_for (I := fun _ ρ' M' => ∃ x11, ρ' = E37 K s pd rs x2 x4 x5 x8 x9 x10 x11 x12 x13 x14 x15 ∧ M' = M) (rng_rows (ev_lenRows (ev_var (.there (.there (.there (.here)))))) (by omega)) ⟨_, rfl, rfl⟩ ?_ ?_
  · rintro Ψ2 hΨ i d ρ' M' hi ⟨x11, rfl, rfl⟩
    obtain ⟨hlt, rfl⟩ := range_at hi
    refine ⟨E37 K s pd rs x2 x4 x5 x8 x9 x10 (some (dat (.int (i : Int)))) x12 x13 x14 x15, _, tg_name (.there (.there (.there (.there (.there (.there (.there (.there (.there (.there (.there (.here)))))))))))), ?_⟩
    refine c_if (b := false) (M1 := M') (EvT.eq (et_and (M1 := M') (a := !decide ((i : Int) ∈ stops (pieces rs))) (b := !decide (rowAt rs i = []) && showsF rs (PySem.W.sortI (stops (pieces rs) ++ [(i : Int)]))) (et_test (ev_op (ev_var (.there (.there (.there (.there (.there (.there (.there (.there (.there (.there (.there (.here))))))))))))) (ev_var (.there (.there (.there (.there (.there (.there (.there (.here))))))))) (rv_inI (neg := true) isl_dat))) fun ha => et_and (et_test (Ev.eq (ev_op (ev_row hlt (.there (.there (.there (.here)))) (.there (.there (.there (.there (.there (.there (.there (.there (.there (.there (.there (.here))))))))))))) (ev_tupD ed_nil (by decide)) (rv_neD isd_dat isd_dat shp_row (shp_tuple shpA_nil))) ?_)) fun hb => ?_) ?_) (fun hb => Bool.noConfusion hb) fun _ => ?_
    · rw [show PyData.eqv (encRow (rowAt rs i)) (.tuple []) = decide (rowAt rs i = []) from EqOk.dec (eqok_tuple eqok_m) _ []]
    · refine et_B (ev_call (ds := [dat (rowsD rs), dat (intsD (PySem.W.sortI (stops (pieces rs) ++ [(i : Int)])))]) (M1 := M') (ea_cons (ev_var (.there (.there (.there (.here))))) (ea_cons (ev_cb (ea_cons (x := dat (intsD (stops (pieces rs) ++ [(i : Int)]))) (Ev.eq (ev_op (ev_var (.there (.there (.there (.there (.there (.there (.there (.here))))))))) (ev_lstD (ed_cons (ev_var (.there (.there (.there (.there (.there (.there (.there (.there (.there (.there (.there (.here))))))))))))) ed_nil) (by show 1 ≤ 16777216; decide)) (rv_cat isl_dat isl_dat ?_)) ?_) ea_nil) (rc_sortI isl_dat)) ea_nil)) rfl (shows_ev ok.sz ?_))
      · rw [List.length_map, stops_len]
        have := ok.p
        show _ ≤ 16777216
        simp
        omega
      · rw [intsD, List.map_append]; rfl
      · rw [(PySem.W.sortI_perm _).length_eq, List.length_append, stops_len]
        have := ok.p
        simp
        omega
    · by_cases h2 : (i : Int) ∈ stops (pieces rs)
      · rw [decide_eq_true h2]; rfl
      · by_cases h3 : rowAt rs i = []
        · rw [decide_eq_true h3, Bool.not_true, Bool.false_and, Bool.and_false]
        · rw [shows_more (pieces_gr rs) hlt h3 h2 (PySem.W.sortI_perm _) (PySem.W.sortI_rises _), Bool.and_false, Bool.and_false]
    · walk_at "st"
      exact c_inv ⟨_, rfl, rfl⟩ (Le.refl _)
  · rintro ρ' M' ⟨x11, rfl, rfl⟩
    exact hk x11
theorem stop_big {i : Int} (h : (rs.length : Int) ≤ i) : stopOk rs i = false := by
  unfold stopOk
  rw [decide_eq_false (p := i < (rs.length : Int)) (by omega), Bool.and_false, Bool.false_and]
theorem stop_neg {i : Int} (h : i < 0) : stopOk rs i = false := by
  unfold stopOk
  rw [decide_eq_false (by omega), Bool.false_and, Bool.false_and]
theorem stop_empty {i : Nat} (h : rowAt rs i = []) : stopOk rs (i : Int) = false := by
  unfold stopOk
  rw [Int.toNat_natCast, decide_eq_false (p := rowAt rs i ≠ []) (fun z => z h), Bool.and_false]
theorem seg31 (ok : Ok37 rs) (hk : Cont (rd_law_34 K T D) Ψ (E37 K s pd rs x2 x4 x5 x8 x9 x10 x11 x12 x13 x14 x15) M) :
    Cont (rd_law_31 K T D) Ψ (E37 K s pd rs x2 x4 x5 x8 x9 x10 x11 x12 x13 x14 x15) M := by
  have h1 := ok.n
  have hp := ok.p
  walk_at "cut"
  refine c_if (b := false) (M1 := M) (et_orF (EvT.eq (et_B (ev_call (ds := [dat (rowsD rs), dat (intsD (stops (pieces rs) ++ [(rs.length : Int)]))]) (M1 := M) (ea_cons (ev_var (.there (.there (.there (.here))))) (ea_cons (Ev.eq (ev_op (ev_var (.there (.there (.there (.there (.there (.there (.there (.here))))))))) (ev_lstD (ed_cons (ev_lenRows (ev_var (.there (.there (.there (.here)))))) ed_nil) (by show 1 ≤ 16777216; decide)) (rv_cat isl_dat isl_dat ?_)) ?_) ea_nil)) rfl (shows_ev ok.sz ?_))) ?_) (et_orF (EvT.eq (et_B (ev_call (ds := [dat (rowsD rs), dat (intsD ([-1] ++ stops (pieces rs)))]) (M1 := M) (ea_cons (ev_var (.there (.there (.there (.here))))) (ea_cons (Ev.eq (ev_op (ev_lstD (ed_cons (ev_un ev_int ru_neg) ed_nil) (by show 1 ≤ 16777216; decide)) (ev_var (.there (.there (.there (.there (.there (.there (.there (.here))))))))) (rv_cat isl_dat isl_dat ?_)) ?_) ea_nil)) rfl (shows_ev ok.sz ?_))) ?_) (EvT.eq (et_and (a := decide ((1 : Int) < ((stops (pieces rs)).length : Int))) (et_test (ev_op (ev_cb (ea_cons (ev_var (.there (.there (.there (.there (.there (.there (.there (.here))))))))) ea_nil) (rc_lenM isl_dat)) ev_int rv_bl0)) fun h => et_B (ev_call (ds := [dat (rowsD rs), dat (intsD (stops (pieces rs)).reverse)]) (M1 := M) (ea_cons (ev_var (.there (.there (.there (.here))))) (ea_cons (Ev.eq (ev_revL (ev_var (.there (.there (.there (.there (.there (.there (.there (.here))))))))) isl_dat) ?_) ea_nil)) rfl (shows_ev ok.sz ?_))) ?_))) (fun hb => Bool.noConfusion hb) fun _ => ?_
  · rw [List.length_map, stops_len]; show _ ≤ 16777216; simp; omega
  · rw [intsD, List.map_append]; rfl
  · rw [List.length_append, stops_len]; simp; omega
  · exact shows_bad (i := (rs.length : Int)) (by simp) (stop_big (Int.le_refl _))
  · rw [List.length_map, stops_len]; show _ ≤ 16777216; simp; omega
  · rw [intsD, List.map_append]; rfl
  · rw [List.length_append, stops_len]; simp; omega
  · exact shows_bad (i := -1) (by simp) (stop_neg (by decide))
  · rw [intsD, List.map_reverse]
  · rw [List.length_reverse, stops_len]; omega
  · have hs := shows_gr (pieces_gr rs)
    simp only [showsF, Bool.and_eq_true, decide_eq_true_eq] at hs
    generalize stops (pieces rs) = l at hs ⊢
    match l, hs with
    | [], _ => rfl
    | [a], _ => rfl
    | a :: b :: l, hs => rw [shows_rev hs.1, Bool.and_false]
  · walk_at "st"
    exact hk
theorem seg27 (ok : Ok37 rs) (hk : ∀ x14, Cont (rd_law_31 K T D) Ψ (E37 K s pd rs x2 x4 x5 x8 x9 x10 x11 x12 x13 x14 x15) M) :
    Cont (rd_law_27 K T D) Ψ (E37 K s pd rs x2 x4 x5 x8 x9 x10 x11 x12 x13 x14 x15) M := by
  have h1 := ok.n
  have hp := ok.p
  walk_at "seq"
  have hw : ∃ ws : List Nat, ws = (List.range rs.length).filter fun i => decide (rowAt rs i = []) := ⟨_, rfl⟩
  obtain ⟨ws, hws⟩ := hw
  have hbad : ∀ w ∈ ws, stopOk rs (w : Int) = false := fun w hw => by
    rw [hws] at hw
    exact stop_empty (of_decide_eq_true (List.mem_filter.mp hw).2)
  refine c_asg (x := dat (.list (ws.map fun i : Nat => PyData.int (i : Int)))) (M1 := M) ?_ (.there (.there (.there (.there (.there (.there (.there (.there (.there (.there (.there (.there (.there (.there (.here))))))))))))))) ?_
  · rw [hws]
    refine ev_lc (e := fun i : Nat => dat (.int (i : Int))) (rng_rows (ev_lenRows (ev_var (.there (.there (.there (.here)))))) (by omega)) (by rw [List.length_range]; omega) fun i hi => ?_
    have hi := List.mem_range.mp hi
    refine ⟨[some (vscr K s), some (val (.ref pd)), x2, some (dat (rowsD rs)), x4, x5, some (dat (pcsD (pieces rs))), some (dat (intsD (stops (pieces rs)))), x8, x9, x10, some (dat (.int (i : Int))), x12, x13, x14, x15], [11], tg_name (.there (.there (.there (.there (.there (.there (.there (.there (.there (.there (.there (.here)))))))))))), fun _ h => h, et_test (Ev.eq (ev_op (ev_row hi (.there (.there (.there (.here)))) (.there (.there (.there (.there (.there (.there (.there (.there (.there (.there (.there (.here))))))))))))) (ev_tupD ed_nil (by decide)) (rv_eqD isd_dat isd_dat shp_row (shp_tuple shpA_nil))) ?_), fun _ => (ev_var (.there (.there (.there (.there (.there (.there (.there (.there (.there (.there (.there (.here)))))))))))))⟩
    rw [show PyData.eqv (encRow (rowAt rs i)) (.tuple []) = decide (rowAt rs i = []) from EqOk.dec (eqok_tuple eqok_m) _ []]
  show Cont (rd_law_28 K T D) Ψ (E37 K s pd rs x2 x4 x5 x8 x9 x10 x11 x12 x13 _ x15) _
  walk_at "cut"
  have hl : (ws.take 1).length ≤ 1 := by rw [List.length_take]; omega
  refine c_if (b := false) (M1 := M) (EvT.eq (et_and (et_test (ev_op (ev_var (.there (.there (.there (.there (.there (.there (.there (.there (.there (.there (.there (.there (.there (.there (.here)))))))))))))))) (ev_lstD ed_nil (by decide)) (rv_neD isd_dat isd_dat (shp_list (shpA_map fun _ _ => shp_int)) (shp_list shpA_nil)))) fun h => et_B (ev_call (ds := [dat (rowsD rs), dat (intsD (PySem.W.sortI (stops (pieces rs) ++ (ws.take 1).map fun i : Nat => (i : Int))))]) (M1 := M) (ea_cons (ev_var (.there (.there (.there (.here))))) (ea_cons (ev_cb (ea_cons (x := dat (intsD (stops (pieces rs) ++ (ws.take 1).map fun i : Nat => (i : Int)))) (Ev.eq (ev_op (ev_var (.there (.there (.there (.there (.there (.there (.there (.here))))))))) (ev_slL (lo := none) (hi := some ((1 : Nat) : Int)) (ev_var (.there (.there (.there (.there (.there (.there (.there (.there (.there (.there (.there (.there (.there (.there (.here)))))))))))))))) eo_none (eo_some ev_int) isl_dat) (rv_cat isl_dat isl_dat ?_)) ?_) ea_nil) (rc_sortI isl_dat)) ea_nil)) rfl (shows_ev ok.sz ?_))) ?_) (fun hb => Bool.noConfusion hb) fun _ => ?_
  · rw [cut_0n, List.length_map, stops_len, List.length_take]; show _ ≤ 16777216; omega
  · rw [cut_0n, intsD, List.map_append, List.map_map, List.map_take]; rfl
  · rw [(PySem.W.sortI_perm _).length_eq, List.length_append, stops_len, List.length_map]; omega
  · rw [eqv_nil]
    cases ws with
    | nil => rfl
    | cons w ws => rw [shows_bad (i := (w : Int)) (perm_sort.mpr (by simp)) (hbad w List.mem_cons_self), Bool.and_false]
  · walk_at "st"
    exact hk _
theorem seg23 (ok : Ok37 rs) (hk : ∀ x13, Cont (rd_law_27 K T D) Ψ (E37 K s pd rs x2 x4 x5 x8 x9 x10 x11 x12 x13 x14 x15) M) :
    Cont (rd_law_23 K T D) Ψ (E37 K s pd rs x2 x4 x5 x8 x9 x10 x11 x12 x13 x14 x15) M := by
  have h1 := ok.n
  have hp := ok.p
  have hg := pieces_gr rs
  walk_at "cut"
  have hl : ((pieces rs).take 1).length ≤ 1 := by rw [List.length_take]; omega
  refine c_for (its := [(pieces rs).tail, (pieces rs).dropLast, (pieces rs).reverse, pieces rs ++ (pieces rs).take 1].map fun ps => dat (pcsD ps)) (M1 := M) (I := fun _ ρ' M' => ∃ x13, ρ' = E37 K s pd rs x2 x4 x5 x8 x9 x10 x11 x12 x13 x14 x15 ∧ M' = M) (ei_seqTM (f := fun ps => pcsD ps) (ev_tupD (ed_cons (Ev.eq (ev_slL (lo := some ((1 : Nat) : Int)) (hi := none) (ev_var (.there (.there (.there (.there (.there (.there (.here)))))))) (eo_some ev_int) eo_none isl_dat) ?_) (ed_cons (Ev.eq (ev_slL (lo := none) (hi := some (-1)) (ev_var (.there (.there (.there (.there (.there (.there (.here)))))))) eo_none (eo_some (ev_un ev_int ru_neg)) isl_dat) ?_) (ed_cons (Ev.eq (ev_revL (ev_var (.there (.there (.there (.there (.there (.there (.here)))))))) isl_dat) ?_) (ed_cons (Ev.eq (ev_op (ev_var (.there (.there (.there (.there (.there (.there (.here)))))))) (ev_slL (lo := none) (hi := some ((1 : Nat) : Int)) (ev_var (.there (.there (.there (.there (.there (.there (.here)))))))) eo_none (eo_some ev_int) isl_dat) (rv_cat isl_dat isl_dat ?_)) ?_) ed_nil)))) (by show 4 ≤ 16777216; decide))) ⟨_, rfl, rfl⟩ ?_ ?_
  · show dat (.list _) = dat (.list (((pieces rs).tail).map encPc))
    rw [cut_n0, List.drop_one, List.map_tail]
  · have : cutD ((pieces rs).map encPc) none (some (-1)) = ((pieces rs).map encPc).dropLast := by
      unfold cutD
      rw [HT.sIx_none, List.dropLast_eq_take, List.drop_zero, Nat.sub_zero, sIx_m1]
    show dat (.list _) = dat (.list (((pieces rs).dropLast).map encPc))
    rw [this, List.map_dropLast]
  · show dat (.list _) = dat (.list (((pieces rs).reverse).map encPc))
    rw [List.map_reverse]
  · rw [cut_0n, List.length_map, ← List.map_take, List.length_map]; show _ ≤ 16777216; omega
  · show dat (.list _) = dat (.list ((pieces rs ++ (pieces rs).take 1).map encPc))
    rw [cut_0n, List.map_append, List.map_take]
  · rintro Ψ2 hΨ i d ρ' M' hi ⟨x13, rfl, rfl⟩
    obtain ⟨q, hq, rfl⟩ := List.mem_map.mp (List.mem_of_getElem? hi)
    have hcov : q.length ≤ 100 ∧ (q ≠ pieces rs → covers rs q = false) := by
      simp only [List.mem_cons, List.not_mem_nil, or_false] at hq
      rcases hq with rfl | rfl | rfl | rfl
      · exact ⟨by rw [List.length_tail]; omega, spoilt_tail hg⟩
      · refine ⟨by rw [List.length_dropLast]; omega, fun hne => ?_⟩
        rcases List.eq_nil_or_concat (pieces rs) with e | ⟨l, a, e⟩
        · rw [e] at hne; exact absurd rfl hne
        · have hc := covers_gr hg
          rw [e, List.concat_eq_append] at hc ⊢
          rw [List.dropLast_concat]
          exact spoilt_init hc
      · exact ⟨by rw [List.length_reverse]; omega, spoilt_rev (covers_gr hg)⟩
      · refine ⟨by rw [List.length_append]; omega, fun hne => ?_⟩
        have hc := covers_gr hg
        cases e : pieces rs with
        | nil => rw [e] at hne; exact absurd rfl hne
        | cons p ps => rw [e] at hc; exact spoilt_more hc
    refine ⟨E37 K s pd rs x2 x4 x5 x8 x9 x10 x11 x12 (some (dat (pcsD q))) x14 x15, _, tg_name (.there (.there (.there (.there (.there (.there (.there (.there (.there (.there (.there (.there (.there (.here)))))))))))))), ?_⟩
    refine c_if (b := false) (M1 := M') (EvT.eq (et_and (et_test (ev_op (ev_var (.there (.there (.there (.there (.there (.there (.there (.there (.there (.there (.there (.there (.there (.here))))))))))))))) (ev_var (.there (.there (.there (.there (.there (.there (.here)))))))) (rv_neD isd_dat isd_dat shp_pcs shp_pcs))) fun h => et_B (ev_call (ds := [dat (rowsD rs), dat (pcsD q)]) (ea_cons (ev_var (.there (.there (.there (.here))))) (ea_cons (ev_var (.there (.there (.there (.there (.there (.there (.there (.there (.there (.there (.there (.there (.there (.here))))))))))))))) ea_nil)) rfl (covers_ev h1 hcov.1))) ?_) (fun hb => Bool.noConfusion hb) fun _ => ?_
    · rw [EqOk.dec eqok_pcs]
      by_cases e : q = pieces rs
      · rw [decide_eq_true e]; rfl
      · rw [hcov.2 e, Bool.and_false]
    · walk_at "st"
      exact c_inv ⟨_, rfl, rfl⟩ (Le.refl _)
  · rintro ρ' M' ⟨x13, rfl, rfl⟩
    exact hk x13
end

end Lw


set_option Elab.async false
set_option linter.all false
set_option maxRecDepth 100000
set_option maxHeartbeats 4000000
namespace Lw
open PySem L2 Sx
/-! ### steps -/
local macro_rules | `(tactic| walk_at "shp") => `(tactic| first
  | exact shp_int
  | exact shp_none
  | exact shp_bool
  | exact shp_oi _
  | (apply shp_str; first | decide +kernel | assumption)
  | (apply shp_list; walk_at "shpA")
  | (apply shp_tuple; walk_at "shpA")
  | assumption)
local macro_rules | `(tactic| walk_at "shpA") => `(tactic| first
  | exact shpA_nil
  | (apply shpA_cons; (· walk_at "shp"); walk_at "shpA")
  | (apply shpA_map; intro _ _; walk_at "shp"))
/-- what is left beside: closed, or left -/
local macro_rules | `(tactic| walk_at "side") => `(tactic| first
  | (with_reducible show Shp _ _); walk_at "shp"
  | (with_reducible show _ ≤ sizeLine); first | decide | (show _ ≤ 16777216; omega) | (show _ ≤ 16777216; simp only [List.length_map, List.length_append, List.length_cons, List.length_nil]; omega)
  | (with_reducible show _ < sizeLine); first | decide | (show _ < 16777216; omega) | (show _ < 16777216; simp only [List.length_map, List.length_append, List.length_cons, List.length_nil]; omega)
  | (with_reducible show CMul _ _); first | exact Or.inr ⟨by decide, by decide⟩ | exact Or.inl ⟨by decide, by decide⟩ | exact Or.inl ⟨by omega, by omega⟩ | exact Or.inr ⟨by omega, by omega⟩
  | (with_reducible show CPow _ _); exact ⟨by decide, by decide, by decide⟩
  | (with_reducible show CDiv _ _); first | exact ⟨by decide, by decide⟩ | exact ⟨by omega, by omega⟩
  | (with_reducible show Le _ _); first | with_reducible exact Le.refl _ | with_reducible assumption
  | (with_reducible show L2.atI _ _ = _); first | with_reducible assumption | exact rfl | exact atI_nat rfl
  | (with_reducible show _ < _); first | with_reducible assumption | decide | omega
  | (with_reducible show _ ≤ _); first | with_reducible assumption | decide | omega
  | (with_reducible show _ ∧ _); omega
  | (with_reducible show ∀ i, i ∈ _ → i ∈ _); decide
  | (with_reducible show (_ : Nat) = _); first | exact rfl | omega)
local macro_rules | `(tactic| walk_at "rm") => `(tactic| first
  | exact Rm.here
  | (apply Rm.there; walk_at "rm"))
local macro_rules | `(tactic| walk_at "perm") => `(tactic| first
  | with_reducible exact List.Perm.refl _
  | (apply perm_step; (· walk_at "rm"); walk_at "perm")
  | exact List.Perm.refl _)
local macro_rules | `(tactic| walk_at "pk") => `(tactic| first
  | with_reducible exact Pk.here
  | ((with_reducible apply Pk.there); walk_at "pk"))
/-- a part of a reading: what it gives. One word for all kinds -/
local macro_rules | `(tactic| walk_at "sx") => `(tactic| first
  -- an expression
  | with_reducible exact ev_int
  | with_reducible exact ev_bl
  | with_reducible exact ev_str
  | with_reducible exact ev_non
  | (with_reducible apply ev_var) <;> walk_at "sx"
  | (with_reducible apply ev_op) <;> walk_at "sx"
  | (with_reducible apply ev_fld) <;> walk_at "sx"
  | (with_reducible apply ev_cb) <;> walk_at "sx"
  | (with_reducible apply ev_tupD) <;> walk_at "sx"
  | (with_reducible apply ev_lstD) <;> walk_at "sx"
  | (with_reducible apply ev_tupV) <;> walk_at "sx"
  | (with_reducible apply ev_lstV) <;> walk_at "sx"
  | (with_reducible apply ev_slL) <;> walk_at "sx"
  | (with_reducible apply ev_slT1) <;> walk_at "sx"
  | (with_reducible apply ev_slT) <;> walk_at "sx"
  | (with_reducible apply ev_un) <;> walk_at "sx"
  | (with_reducible apply ev_chain) <;> walk_at "sx"
  | (with_reducible apply ev_andV) <;> walk_at "sx"
  | (with_reducible apply ev_orV) <;> walk_at "sx"
  | (with_reducible apply ev_notV) <;> walk_at "sx"
  | (with_reducible apply ev_lcY) <;> walk_at "sx"
  | (with_reducible apply ev_lc) <;> walk_at "sx"
  | ((with_reducible show ∀ a, a ∈ _ → ∃ ρ'' js, _); intro a ha; dsimp only [wipeE, List.set]; (first | with_reducible apply lcY_k | with_reducible apply lcF_k) <;> walk_at "sx")
  | (with_reducible apply ev_call) <;> walk_at "sx"
  | (with_reducible apply ev_meth) <;> walk_at "sx"
  | (with_reducible apply ev_bm) <;> walk_at "sx"
  | (with_reducible show Ev _ _ _ _ _); walk_at "own"
  -- a test
  | with_reducible exact et_yes
  | (with_reducible apply et_test) <;> walk_at "sx"
  | (with_reducible apply et_B) <;> walk_at "sx"
  | (with_reducible apply et_not) <;> walk_at "sx"
  | (with_reducible apply et_and) <;> walk_at "sx"
  | (with_reducible apply et_or) <;> walk_at "sx"
  -- arguments
  | with_reducible exact ea_nil
  | (with_reducible apply ea_cons) <;> walk_at "sx"
  | with_reducible exact ed_nil
  | (with_reducible apply ed_cons) <;> walk_at "sx"
  | with_reducible exact eo_none
  | (with_reducible apply eo_some) <;> walk_at "sx"
  -- what an operation gives
  | with_reducible exact rv_addI
  | with_reducible exact rv_int0
  | with_reducible exact rv_bl0
  | with_reducible exact rv_eqI
  | with_reducible exact rv_neI
  | with_reducible exact rv_eqS
  | with_reducible exact rv_neS
  | with_reducible exact rv_isN
  | with_reducible exact rv_notN
  | (with_reducible apply rv_intC) <;> walk_at "sx"
  | (with_reducible apply rv_addS) <;> walk_at "sx"
  | (with_reducible apply rv_ixL isl_dat) <;> walk_at "sx"
  | (with_reducible apply rv_ixT ist_dat) <;> walk_at "sx"
  | (with_reducible apply rv_ixL) <;> walk_at "sx"
  | (with_reducible apply rv_ixLV) <;> walk_at "sx"
  | (apply rv_ixT ist_dat) <;> walk_at "sx"
  | (with_reducible apply rv_ixTV istv_vtup) <;> walk_at "sx"
  | (with_reducible apply rv_ixScr) <;> walk_at "sx"
  | (apply rv_ixL isl_dat) <;> walk_at "sx"
  | (with_reducible apply rv_ixL) <;> walk_at "sx"
  | (apply rv_cat) <;> walk_at "sx"
  | (with_reducible apply rv_eqD) <;> walk_at "sx"
  | (with_reducible apply rv_neD) <;> walk_at "sx"
  | with_reducible exact ru_neg
  | with_reducible exact rc_int
  | with_reducible exact rc_abs
  | with_reducible exact rc_max2
  | with_reducible exact rc_min2
  | with_reducible exact rc_lenScr
  | with_reducible exact rc_lenM isl_dat
  | ((with_reducible apply rc_lenM); (with_reducible apply isl_cell) <;> walk_at "sx")
  | with_reducible exact rc_lenMT
  | (with_reducible apply rc_lenL) <;> walk_at "sx"
  | (apply rc_lenT ist_dat)
  | (with_reducible apply rc_tupL) <;> walk_at "sx"
  | (apply rc_tupT)
  | (with_reducible apply rc_lstL) <;> walk_at "sx"
  | (apply rc_lstT ist_dat)
  | with_reducible exact rc_anyM
  | with_reducible exact rc_allM
  | ((with_reducible apply rm_append) <;> walk_at "sx")
  -- lists, tuples, data
  | with_reducible exact isl_dat
  | with_reducible exact isd_dat
  | with_reducible exact isd_scr
  | (with_reducible apply isl_cell) <;> walk_at "sx"
  | (with_reducible apply islv_cell) <;> walk_at "sx"
  | with_reducible exact islv_vlst
  | (with_reducible apply isd_cell) <;> walk_at "sx"
  | (with_reducible apply isd_vtup) <;> walk_at "sx"
  | (with_reducible apply isd_vlst) <;> walk_at "sx"
  | with_reducible exact isds_nil
  | (with_reducible apply isds_cons) <;> walk_at "sx"
  | with_reducible exact fzl_dat
  | with_reducible exact fzl_v
  | with_reducible exact fzt_dat
  | with_reducible exact fzt_v
  | (with_reducible apply ity_l) <;> walk_at "sx"
  | with_reducible exact ity_s
  | (with_reducible apply IsLst.v) <;> walk_at "sx"
  -- places
  | with_reducible exact At.here
  | (with_reducible apply At.there) <;> walk_at "sx"
  | with_reducible exact SetAt.here
  | (with_reducible apply SetAt.there) <;> walk_at "sx"
  | with_reducible exact List.mem_cons_self
  | (with_reducible apply List.mem_cons_of_mem) <;> walk_at "sx"
  | ((with_reducible show (_ : Addr × CD) ∈ _); with_reducible assumption)
  | with_reducible exact Put.here
  | (with_reducible apply Put.there) <;> walk_at "sx"
  | ((with_reducible show Put _ _ _ _ _); with_reducible assumption)
  | ((with_reducible show Sw _ _ _ _); with_reducible assumption)
  | with_reducible exact sw_nil
  | ((with_reducible apply sw_pick); (· walk_at "pk"); walk_at "sx")
  | ((with_reducible apply sw_skip); walk_at "sx")
  | with_reducible exact FGet.here
  | ((with_reducible apply FGet.there); (· decide +kernel); walk_at "sx")
  | with_reducible exact FPut.here
  | with_reducible exact FPut.new
  | ((with_reducible apply FPut.there); (· decide +kernel); walk_at "sx")
  | (with_reducible show ClsF _ _ _); with_reducible assumption
  | (with_reducible show RtQ _ _ _); assumption
  | (with_reducible show (_ : Str) ∈ _); decide +kernel
  | (with_reducible show ¬ (_ : Str) ∈ _); decide +kernel
  -- what is walked, targets
  | (with_reducible apply ei_rng1) <;> walk_at "sx"
  | (with_reducible apply ei_rng2) <;> walk_at "sx"
  | (with_reducible apply ei_enumD) <;> walk_at "sx"
  | (with_reducible apply ei_enum) <;> walk_at "sx"
  | (with_reducible apply ei_zip) <;> walk_at "sx"
  | (with_reducible apply ei_seqLM) <;> walk_at "sx"
  | (with_reducible apply ei_seqTM) <;> walk_at "sx"
  | (with_reducible apply ei_seqL) <;> walk_at "sx"
  | (with_reducible apply ei_seqT) <;> walk_at "sx"
  | (with_reducible apply tg_name) <;> walk_at "sx"
  | (with_reducible apply tg_tup istv_vtup) <;> walk_at "sx"
  | (with_reducible apply td_tup) <;> walk_at "sx"
  | with_reducible exact td_nil
  | (with_reducible apply td_cons) <;> walk_at "sx"
  | with_reducible exact tgs_nil
  | (with_reducible apply tgs_cons) <;> walk_at "sx"
  -- beside
  | walk_at "spec"
  | walk_at "side"
  | walk_at "leave")
/-- a question of another kind is left -/
local macro_rules | `(tactic| walk_at "leave") => `(tactic| first
  | with_reducible show Cont _ _ _ _
  | with_reducible show Shp _ _
  | with_reducible show _ ≤ _
  | with_reducible show _ < _
  | with_reducible show CMul _ _
  | with_reducible show CDiv _ _
  | with_reducible show CPow _ _
  | with_reducible show _ = _
  | with_reducible show Le _ _
  | ((with_reducible show _ = true → _); with_reducible assumption)
  | ((with_reducible show _ = true → _); intro _; walk_at "sx")
  | ((with_reducible show _ = false → _); intro _; walk_at "sx"))
/-- a plain statement -/
local macro_rules | `(tactic| walk_at "st") => `(tactic| first
  | (with_reducible apply c_seq); walk_at "st"
  | (with_reducible apply c_asg) <;> (first | walk_at "sx" | skip)
  | (with_reducible apply c_asgG) <;> (first | walk_at "sx" | skip)
  | (with_reducible apply c_par) <;> (first | walk_at "sx" | skip)
  | (with_reducible apply c_par3) <;> (first | walk_at "sx" | skip)
  | (with_reducible apply c_aug) <;> (first | walk_at "sx" | skip)
  | (with_reducible apply c_augS) <;> (first | walk_at "sx" | skip)
  | (with_reducible apply c_fld) <;> (first | walk_at "sx" | skip)
  | (with_reducible apply c_drop) <;> (first | walk_at "sx" | skip)
  | with_reducible apply c_next
  | with_reducible apply c_break
  | with_reducible apply c_cont)
/-- a value is handed back; a word is met again -/
local macro_rules | `(tactic| walk_at "ret") => `(tactic| (with_reducible apply c_ret) <;> (first | walk_at "sx" | skip))
local macro_rules | `(tactic| walk_at "inv") => `(tactic| (with_reducible apply c_inv) <;> (first | walk_at "side" | skip))
local macro_rules | `(tactic| walk_at "seq") => `(tactic| with_reducible apply c_seq)
local macro_rules | `(tactic| walk_at "cut") => `(tactic| with_reducible apply c_cut)
local macro_rules | `(tactic| walk_at "if") => `(tactic| ((with_reducible apply c_if); (case' h => first | walk_at "sx" | skip)))
local macro_rules | `(tactic| walk_at "fgt") => `(tactic| first
  | exact Fgt.nil
  | (with_reducible apply Fgt.keep; walk_at "fgt")
  | (with_reducible apply Fgt.drop; walk_at "fgt"))

/-! ### more steps: stars, dicts, tuples -/
local macro_rules | `(tactic| walk_at "sx") => `(tactic| first
  | (with_reducible apply ed_starT) <;> walk_at "sx"
  | (with_reducible apply ev_dgetS) <;> walk_at "sx"
  | with_reducible exact isdi_v
  | (with_reducible apply isdi_c) <;> walk_at "sx"
  | (with_reducible apply rv_catTd) <;> walk_at "sx"
  | with_reducible exact ist_dat
  | ((with_reducible show ¬ (_ : Int) < _); with_reducible assumption)
  | ((with_reducible show valG _ _ = _); walk_at "get")
  | ((with_reducible show putG _ _ _ = _); walk_at "get"))

section
variable {K : PySem.W.Frag} {mg : Str → Option Value} {T : Tx K mg} {s : List Int} {pd : Addr} {rs : Rws} {M : Cells} {Ψ Φ : Fr} {D : Ends} {Q : VK} {x2 x4 x5 x8 x9 x10 x11 x12 x13 x14 x15 : Option VD}
def mts : List Mt := [.a, .b, .c, .d, .z]
theorem seg17 (ok : Ok37 rs) (hk : ∀ x8 x11 x12, Cont (rd_law_23 K T D) Ψ (E37 K s pd rs x2 x4 x5 x8 x9 x10 x11 x12 x13 x14 x15) M) :
    Cont (rd_law_17 K T D) Ψ (E37 K s pd rs x2 x4 x5 x8 x9 x10 x11 x12 x13 x14 x15) M := by
  have h1 := ok.n
  have hp := ok.p
  have hg := pieces_gr rs
  have hcov := covers_gr hg
  walk_at "cut"
  refine c_for (I := fun _ ρ' M' => ∃ x8 x11 x12, ρ' = E37 K s pd rs x2 x4 x5 x8 x9 x10 x11 x12 x13 x14 x15 ∧ M' = M) (rng_rows (n := (pieces rs).length) (ev_cb (ea_cons (ev_var (.there (.there (.there (.there (.there (.there (.here)))))))) ea_nil) (rc_lenM isl_dat)) (by omega)) ⟨_, _, _, rfl, rfl⟩ ?_ ?_
  · rintro Ψ2 hΨ i d ρ' M' hi ⟨x8, x11, x12, rfl, rfl⟩
    obtain ⟨hlt, rfl⟩ := range_at hi
    refine ⟨E37 K s pd rs x2 x4 x5 x8 x9 x10 (some (dat (.int (i : Int)))) x12 x13 x14 x15, _, tg_name (.there (.there (.there (.there (.there (.there (.there (.there (.there (.there (.there (.here)))))))))))), ?_⟩
    obtain ⟨pre, p, post, hps, hpre⟩ : ∃ pre p post, pieces rs = pre ++ p :: post ∧ pre.length = i := ⟨(pieces rs).take i, (pieces rs)[i], (pieces rs).drop (i + 1), by rw [← List.drop_eq_getElem_cons hlt, List.take_append_drop], by rw [List.length_take]; omega⟩
    have hpm : p ∈ pieces rs := by rw [hps]; simp
    obtain ⟨_, hge, hlt2, hmem, hle⟩ := gr_lb hg p hpm
    have hll : p.l < rs.length := by rw [hle]; exact lasts_lt hlt2
    have hat : L2.atI ((pieces rs).map encPc) (i : Int) = some (.tuple [encM p.m, .int (p.f : Int), .int (p.l : Int)]) := atI_nat (by rw [List.getElem?_map, hps, List.getElem?_append_right (by omega), hpre, Nat.sub_self]; rfl)
    refine c_for (its := mts.map fun m => dat (encM m)) (M1 := M') (I := fun _ ρ' M2 => ∃ x8 x12, ρ' = E37 K s pd rs x2 x4 x5 x8 x9 x10 (some (dat (.int (i : Int)))) x12 x13 x14 x15 ∧ M2 = M') (ei_seqTM (f := encM) (ev_tupD (ed_cons ev_str (ed_cons ev_str (ed_cons ev_str (ed_cons ev_str (ed_cons ev_str ed_nil))))) (by show 5 ≤ 16777216; decide))) ⟨_, _, rfl, rfl⟩ ?_ ?_
    · rintro Ψ3 hΨ3 j d ρ' M2 hj ⟨x8, x12, rfl, rfl⟩
      obtain ⟨m, _, rfl⟩ := List.mem_map.mp (List.mem_of_getElem? hj)
      refine ⟨E37 K s pd rs x2 x4 x5 (some (dat (encM m))) x9 x10 (some (dat (.int (i : Int)))) x12 x13 x14 x15, _, tg_name (.there (.there (.there (.there (.there (.there (.there (.there (.here))))))))), ?_⟩
      show Cont (rd_law_19 K T _) Ψ3 _ _
      walk_at "seq"
      refine c_asg (x := dat (pcsD (pre ++ ⟨m, p.f, p.l⟩ :: post))) (M1 := M2) (Ev.eq (ev_op (ev_op (ev_slL (lo := none) (hi := some (i : Int)) (ev_var (.there (.there (.there (.there (.there (.there (.here)))))))) eo_none (eo_some (ev_var (.there (.there (.there (.there (.there (.there (.there (.there (.there (.there (.there (.here)))))))))))))) isl_dat) (ev_lstD (ed_cons (ev_op (ev_tupD (ed_cons (ev_var (.there (.there (.there (.there (.there (.there (.there (.there (.here)))))))))) ed_nil) (by show 1 ≤ 16777216; decide)) (ev_slT1 (d := encM p.m) (ds := [.int (p.f : Int), .int (p.l : Int)]) (ev_op (ev_var (.there (.there (.there (.there (.there (.there (.here)))))))) (ev_var (.there (.there (.there (.there (.there (.there (.there (.there (.there (.there (.there (.here))))))))))))) (rv_ixL isl_dat hat)) (eo_some ev_int) eo_none) (rv_catTd (by show 3 ≤ 16777216; decide))) ed_nil) (by show 1 ≤ 16777216; decide)) (rv_cat isl_dat isl_dat ?_)) (ev_slL (lo := some ((i + 1 : Nat) : Int)) (hi := none) (ev_var (.there (.there (.there (.there (.there (.there (.here)))))))) (eo_some (ev_op (ev_var (.there (.there (.there (.there (.there (.there (.there (.there (.there (.there (.there (.here))))))))))))) ev_int rv_addI)) eo_none isl_dat) (rv_cat isl_dat isl_dat ?_)) ?_) (.there (.there (.there (.there (.there (.there (.there (.there (.there (.there (.there (.there (.here))))))))))))) ?_
      · rw [cut_0n, List.length_take, List.length_map]; show _ ≤ 16777216; simp; omega
      · rw [cut_0n, cut_n0, List.length_append, List.length_take, List.length_drop, List.length_map]; show _ ≤ 16777216; simp; omega
      · rw [cut_0n, cut_n0, pcsD, hps, ← List.map_take, ← List.map_drop, List.take_left' hpre, ← hpre, List.map_append, List.map_cons]
        have : (pre ++ p :: post).drop (pre.length + 1) = post := by
          rw [← List.drop_drop, List.drop_left]; rfl
        rw [this, List.append_assoc]
        rfl
      · have hc2 : covers rs (pre ++ ⟨m, p.f, p.l⟩ :: post) = inAll rs m p.f p.l := covers_changed (by rw [← hps]; exact hcov)
        have hlen : (pre ++ ⟨m, p.f, p.l⟩ :: post).length ≤ 100 := by
          have := congrArg List.length hps
          rw [List.length_append, List.length_cons] at this ⊢
          omega
        refine c_if (b := false) (M1 := M2) (et_test (Ev.eq (ev_op (x := dat (.bool (covers rs (pre ++ ⟨m, p.f, p.l⟩ :: post)))) (y := dat (.bool ((List.range (p.l + 1 - p.f)).all fun a => decide (m ∈ rowAt rs (p.f + a))))) (M1 := M2) (M2 := M2) (ev_call (ds := [dat (rowsD rs), dat (pcsD (pre ++ ⟨m, p.f, p.l⟩ :: post))]) (ea_cons (ev_var (.there (.there (.there (.here))))) (ea_cons (ev_var (.there (.there (.there (.there (.there (.there (.there (.there (.there (.there (.there (.there (.here)))))))))))))) ea_nil)) rfl (covers_ev h1 hlen)) (ev_cb (ea_cons (ev_inrows (neg := false) (f := p.f) (n := p.l + 1 - p.f) (rs := rs) (m := m) (ei_rngN (ev_op (ev_op (ev_var (.there (.there (.there (.there (.there (.there (.here)))))))) (ev_var (.there (.there (.there (.there (.there (.there (.there (.there (.there (.there (.there (.here))))))))))))) (rv_ixL isl_dat hat)) ev_int (rv_ixT ist_dat (atI_nat (j := 1) rfl))) (ev_op (ev_op (ev_op (ev_var (.there (.there (.there (.there (.there (.there (.here)))))))) (ev_var (.there (.there (.there (.there (.there (.there (.there (.there (.there (.there (.there (.here))))))))))))) (rv_ixL isl_dat hat)) ev_int (rv_ixT ist_dat (atI_nat (j := 2) rfl))) ev_int rv_addI) (by omega) (by omega)) (by omega) (by omega) fun d => ?_) ea_nil) rc_allM) (rv_neD isd_dat isd_dat shp_bool shp_bool)) ?_)) (fun hb => Bool.noConfusion hb) fun _ => ?_
        · exact ⟨[some (vscr K s), some (val (.ref pd)), x2, some (dat (rowsD rs)), x4, some d, some (dat (pcsD (pieces rs))), some (dat (intsD (stops (pieces rs)))), some (dat (encM m)), x9, x10, some (dat (.int (i : Int))), some (dat (pcsD (pre ++ ⟨m, p.f, p.l⟩ :: post))), x13, x14, x15], (.there (.there (.there (.there (.there (.here)))))), (.there (.there (.there (.there (.there (.there (.there (.there (.here))))))))), (.there (.there (.there (.here)))), (.there (.there (.there (.there (.there (.here))))))⟩
        · rw [eqv_bool, hc2, inAll_range, decide_eq_true rfl]
          rfl
        · walk_at "st"
          exact c_inv ⟨_, _, rfl, rfl⟩ (Le.refl _)
    · rintro ρ' M2 ⟨x8, x12, rfl, rfl⟩
      exact c_inv ⟨_, _, _, rfl, rfl⟩ (Le.refl _)
  · rintro ρ' M' ⟨x8, x11, x12, rfl, rfl⟩
    exact hk x8 x11 x12
theorem seg13 (ok : Ok37 rs) (hk : ∀ x8 x9 x10, Cont (rd_law_17 K T D) Ψ (E37 K s pd rs x2 x4 x5 x8 x9 x10 x11 x12 x13 x14 x15) M) :
    Cont (rd_law_13 K T D) Ψ (E37 K s pd rs x2 x4 x5 x8 x9 x10 x11 x12 x13 x14 x15) M := by
  have h1 := ok.n
  have hp := ok.p
  have hg := pieces_gr rs
  walk_at "cut"
  refine c_for (its := (pieces rs).map fun p => dat (encPc p)) (M1 := M) (I := fun _ ρ' M' => ∃ x8 x9 x10, ρ' = E37 K s pd rs x2 x4 x5 x8 x9 x10 x11 x12 x13 x14 x15 ∧ M' = M) (ei_seqLM (ev_var (.there (.there (.there (.there (.there (.there (.here))))))))) ⟨_, _, _, rfl, rfl⟩ ?_ ?_
  · rintro Ψ2 hΨ i d ρ' M' hi ⟨x8, x9, x10, rfl, rfl⟩
    obtain ⟨p, hpm, rfl⟩ := List.mem_map.mp (List.mem_of_getElem? hi)
    obtain ⟨_, hge, hlt2, hmem, hle⟩ := gr_lb hg p hpm
    have hll : p.l < rs.length := by rw [hle]; exact lasts_lt hlt2
    have hin := inAll_self hmem hle
    rw [inAll_range, List.all_eq_true] at hin
    refine ⟨E37 K s pd rs x2 x4 x5 (some (dat (encM p.m))) (some (dat (.int (p.f : Int)))) (some (dat (.int (p.l : Int)))) x11 x12 x13 x14 x15, _, td_tup (ds := [encM p.m, .int (p.f : Int), .int (p.l : Int)]) (td_cons (tg_name (.there (.there (.there (.there (.there (.there (.there (.there (.here)))))))))) (td_cons (tg_name (.there (.there (.there (.there (.there (.there (.there (.there (.there (.here))))))))))) (td_cons (tg_name (.there (.there (.there (.there (.there (.there (.there (.there (.there (.there (.here)))))))))))) td_nil))) rfl, ?_⟩
    refine c_if (b := false) (M1 := M') (et_B (Ev.eq (ev_cb (ea_cons (ev_inrows (neg := true) (f := p.f) (n := p.l + 1 - p.f) (rs := rs) (m := p.m) (ei_rngN (ev_var (.there (.there (.there (.there (.there (.there (.there (.there (.there (.here))))))))))) (ev_op (ev_var (.there (.there (.there (.there (.there (.there (.there (.there (.there (.there (.here)))))))))))) ev_int rv_addI) (by omega) (by omega)) (by omega) (by omega) fun d => ?_) ea_nil) rc_anyM) ?_)) (fun hb => Bool.noConfusion hb) fun _ => ?_
    · exact ⟨[some (vscr K s), some (val (.ref pd)), x2, some (dat (rowsD rs)), x4, x5, some (dat (pcsD (pieces rs))), some (dat (intsD (stops (pieces rs)))), some (dat (encM p.m)), some (dat (.int (p.f : Int))), some (dat (.int (p.l : Int))), some d, x12, x13, x14, x15], (.there (.there (.there (.there (.there (.there (.there (.there (.there (.there (.there (.here)))))))))))), (.there (.there (.there (.there (.there (.there (.there (.there (.here))))))))), (.there (.there (.there (.here)))), (.there (.there (.there (.there (.there (.there (.there (.there (.there (.there (.there (.here))))))))))))⟩
    · congr 2
      rw [List.any_eq_false]
      intro a ha
      have := hin a ha
      simpa using this
    · walk_at "st"
      exact c_inv ⟨_, _, _, rfl, rfl⟩ (Le.refl _)
  · rintro ρ' M' ⟨x8, x9, x10, rfl, rfl⟩
    exact hk x8 x9 x10
theorem seg7 (ok : Ok37 rs) (hk : ∀ x8 x9 x10 x11 x12 x13 x14, Cont D.nx Ψ (E37 K s pd rs x2 x4 x5 x8 x9 x10 x11 x12 x13 x14 x15) M) :
    Cont (rd_law_7 K T D) Ψ (E37 K s pd rs x2 x4 x5 x8 x9 x10 x11 x12 x13 x14 x15) M := by
  have h1 := ok.n
  have hp := ok.p
  have hg := pieces_gr rs
  walk_at "cut"
  refine c_if (b := false) (M1 := M) (et_orF (EvT.eq (et_not (et_B (ev_call (ds := [dat (rowsD rs), dat (pcsD (pieces rs))]) (M1 := M) (ea_cons (ev_var (.there (.there (.there (.here))))) (ea_cons (ev_var (.there (.there (.there (.there (.there (.there (.here)))))))) ea_nil)) rfl (covers_ev h1 (by omega))))) (by rw [covers_gr hg]; rfl)) (et_orF (EvT.eq (et_test (ev_op (ev_cb (ea_cons (ev_var (.there (.there (.there (.there (.there (.there (.here)))))))) ea_nil) (rc_lenM isl_dat)) (ev_call (ds := [dat (rowsD rs)]) (M1 := M) (ea_cons (ev_var (.there (.there (.there (.here))))) ea_nil) rfl (fewest_ev h1 ok.r)) rv_neI)) (by rw [fewest_is hg, decide_eq_true rfl]; rfl)) (EvT.eq (et_test (ev_op (y := dat (intsD (stops (pieces rs)))) (ev_var (.there (.there (.there (.there (.there (.there (.there (.here))))))))) (Ev.eq (ev_lcY (e := fun p => dat (encPc p)) (r := fun p : Pc => .int (p.f : Int)) (ei_seqLM (ev_var (.there (.there (.there (.there (.there (.there (.here))))))))) (by omega) fun p _ => ?_) ?_) (rv_neD isd_dat isd_dat shp_ints shp_ints))) ?_))) (fun hb => Bool.noConfusion hb) fun _ => ?_
  · exact ⟨[some (vscr K s), some (val (.ref pd)), x2, some (dat (rowsD rs)), x4, x5, some (dat (pcsD (pieces rs))), some (dat (intsD (stops (pieces rs)))), x8, x9, x10, x11, x12, x13, x14, some (dat (encPc p))], [15], tg_name (.there (.there (.there (.there (.there (.there (.there (.there (.there (.there (.there (.there (.there (.there (.there (.here)))))))))))))))), fun _ h => h, ev_op (x := dat (.tuple [encM p.m, .int (p.f : Int), .int (p.l : Int)])) (ev_var (.there (.there (.there (.there (.there (.there (.there (.there (.there (.there (.there (.there (.there (.there (.there (.here))))))))))))))))) ev_int (rv_ixT ist_dat (atI_nat (j := 1) rfl))⟩
  · unfold stops
    rw [intsD, List.map_map]
    rfl
  · rw [EqOk.dec eqok_ints, decide_eq_true rfl]
    rfl
  · walk_at "st"
    show Cont (rd_law_10 K T D) Ψ _ _
    walk_at "cut"
    refine c_if (b := false) (M1 := M) (EvT.eq (et_not (et_B (ev_call (ds := [dat (rowsD rs), dat (intsD (stops (pieces rs)))]) (M1 := M) (ea_cons (ev_var (.there (.there (.there (.here))))) (ea_cons (ev_var (.there (.there (.there (.there (.there (.there (.there (.here))))))))) ea_nil)) rfl (shows_ev ok.sz (by rw [stops_len]; omega))))) (by rw [shows_gr hg]; rfl)) (fun hb => Bool.noConfusion hb) fun _ => ?_
    walk_at "st"
    refine seg13 ok fun x8 x9 x10 => seg17 ok fun x8 x11 x12 => seg23 ok fun x13 => seg27 ok fun x14 => seg31 ok (seg34 (fun _ _ => True) ok fun x11 => hk _ _ _ _ _ _ _)
end

end Lw


set_option Elab.async false
set_option linter.all false
set_option maxRecDepth 100000
set_option maxHeartbeats 4000000
namespace Lw
open PySem L2 Sx
/-! ### steps -/
local macro_rules | `(tactic| walk_at "shp") => `(tactic| first
  | exact shp_int
  | exact shp_none
  | exact shp_bool
  | exact shp_oi _
  | (apply shp_str; first | decide +kernel | assumption)
  | (apply shp_list; walk_at "shpA")
  | (apply shp_tuple; walk_at "shpA")
  | assumption)
local macro_rules | `(tactic| walk_at "shpA") => `(tactic| first
  | exact shpA_nil
  | (apply shpA_cons; (· walk_at "shp"); walk_at "shpA")
  | (apply shpA_map; intro _ _; walk_at "shp"))
/-- what is left beside: closed, or left -/
local macro_rules | `(tactic| walk_at "side") => `(tactic| first
  | (with_reducible show Shp _ _); walk_at "shp"
  | (with_reducible show _ ≤ sizeLine); first | decide | (show _ ≤ 16777216; omega) | (show _ ≤ 16777216; simp only [List.length_map, List.length_append, List.length_cons, List.length_nil]; omega)
  | (with_reducible show _ < sizeLine); first | decide | (show _ < 16777216; omega) | (show _ < 16777216; simp only [List.length_map, List.length_append, List.length_cons, List.length_nil]; omega)
  | (with_reducible show CMul _ _); first | exact Or.inr ⟨by decide, by decide⟩ | exact Or.inl ⟨by decide, by decide⟩ | exact Or.inl ⟨by omega, by omega⟩ | exact Or.inr ⟨by omega, by omega⟩
  | (with_reducible show CPow _ _); exact ⟨by decide, by decide, by decide⟩
  | (with_reducible show CDiv _ _); first | exact ⟨by decide, by decide⟩ | exact ⟨by omega, by omega⟩
  | (with_reducible show Le _ _); first | with_reducible exact Le.refl _ | with_reducible assumption
  | (with_reducible show L2.atI _ _ = _); first | with_reducible assumption | exact rfl | exact atI_nat rfl
  | (with_reducible show _ < _); first | with_reducible assumption | decide | omega
  | (with_reducible show _ ≤ _); first | with_reducible assumption | decide | omega
  | (with_reducible show _ ∧ _); omega
  | (with_reducible show ∀ i, i ∈ _ → i ∈ _); decide
  | (with_reducible show (_ : Nat) = _); first | exact rfl | omega)
local macro_rules | `(tactic| walk_at "rm") => `(tactic| first
  | exact Rm.here
  | (apply Rm.there; walk_at "rm"))
local macro_rules | `(tactic| walk_at "perm") => `(tactic| first
  | with_reducible exact List.Perm.refl _
  | (apply perm_step; (· walk_at "rm"); walk_at "perm")
  | exact List.Perm.refl _)
local macro_rules | `(tactic| walk_at "pk") => `(tactic| first
  | with_reducible exact Pk.here
  | ((with_reducible apply Pk.there); walk_at "pk"))
/-- a part of a reading: what it gives. One word for all kinds -/
local macro_rules | `(tactic| walk_at "sx") => `(tactic| first
  -- an expression
  | with_reducible exact ev_int
  | with_reducible exact ev_bl
  | with_reducible exact ev_str
  | with_reducible exact ev_non
  | (with_reducible apply ev_var) <;> walk_at "sx"
  | (with_reducible apply ev_op) <;> walk_at "sx"
  | (with_reducible apply ev_fld) <;> walk_at "sx"
  | (with_reducible apply ev_cb) <;> walk_at "sx"
  | (with_reducible apply ev_tupD) <;> walk_at "sx"
  | (with_reducible apply ev_lstD) <;> walk_at "sx"
  | (with_reducible apply ev_tupV) <;> walk_at "sx"
  | (with_reducible apply ev_lstV) <;> walk_at "sx"
  | (with_reducible apply ev_slL) <;> walk_at "sx"
  | (with_reducible apply ev_slT1) <;> walk_at "sx"
  | (with_reducible apply ev_slT) <;> walk_at "sx"
  | (with_reducible apply ev_un) <;> walk_at "sx"
  | (with_reducible apply ev_chain) <;> walk_at "sx"
  | (with_reducible apply ev_andV) <;> walk_at "sx"
  | (with_reducible apply ev_orV) <;> walk_at "sx"
  | (with_reducible apply ev_notV) <;> walk_at "sx"
  | (with_reducible apply ev_lcY) <;> walk_at "sx"
  | (with_reducible apply ev_lc) <;> walk_at "sx"
  | ((with_reducible show ∀ a, a ∈ _ → ∃ ρ'' js, _); intro a ha; dsimp only [wipeE, List.set]; (first | with_reducible apply lcY_k | with_reducible apply lcF_k) <;> walk_at "sx")
  | (with_reducible apply ev_call) <;> walk_at "sx"
  | (with_reducible apply ev_meth) <;> walk_at "sx"
  | (with_reducible apply ev_bm) <;> walk_at "sx"
  | (with_reducible show Ev _ _ _ _ _); walk_at "own"
  -- a test
  | with_reducible exact et_yes
  | (with_reducible apply et_test) <;> walk_at "sx"
  | (with_reducible apply et_B) <;> walk_at "sx"
  | (with_reducible apply et_not) <;> walk_at "sx"
  | (with_reducible apply et_and) <;> walk_at "sx"
  | (with_reducible apply et_or) <;> walk_at "sx"
  -- arguments
  | with_reducible exact ea_nil
  | (with_reducible apply ea_cons) <;> walk_at "sx"
  | with_reducible exact ed_nil
  | (with_reducible apply ed_cons) <;> walk_at "sx"
  | with_reducible exact eo_none
  | (with_reducible apply eo_some) <;> walk_at "sx"
  -- what an operation gives
  | with_reducible exact rv_addI
  | with_reducible exact rv_int0
  | with_reducible exact rv_bl0
  | with_reducible exact rv_eqI
  | with_reducible exact rv_neI
  | with_reducible exact rv_eqS
  | with_reducible exact rv_neS
  | with_reducible exact rv_isN
  | with_reducible exact rv_notN
  | (with_reducible apply rv_intC) <;> walk_at "sx"
  | (with_reducible apply rv_addS) <;> walk_at "sx"
  | (with_reducible apply rv_ixL isl_dat) <;> walk_at "sx"
  | (with_reducible apply rv_ixT ist_dat) <;> walk_at "sx"
  | (with_reducible apply rv_ixL) <;> walk_at "sx"
  | (with_reducible apply rv_ixLV) <;> walk_at "sx"
  | (apply rv_ixT ist_dat) <;> walk_at "sx"
  | (with_reducible apply rv_ixTV istv_vtup) <;> walk_at "sx"
  | (with_reducible apply rv_ixScr) <;> walk_at "sx"
  | (apply rv_ixL isl_dat) <;> walk_at "sx"
  | (with_reducible apply rv_ixL) <;> walk_at "sx"
  | (apply rv_cat) <;> walk_at "sx"
  | (with_reducible apply rv_eqD) <;> walk_at "sx"
  | (with_reducible apply rv_neD) <;> walk_at "sx"
  | with_reducible exact ru_neg
  | with_reducible exact rc_int
  | with_reducible exact rc_abs
  | with_reducible exact rc_max2
  | with_reducible exact rc_min2
  | with_reducible exact rc_lenScr
  | with_reducible exact rc_lenM isl_dat
  | ((with_reducible apply rc_lenM); (with_reducible apply isl_cell) <;> walk_at "sx")
  | with_reducible exact rc_lenMT
  | (with_reducible apply rc_lenL) <;> walk_at "sx"
  | (apply rc_lenT ist_dat)
  | (with_reducible apply rc_tupL) <;> walk_at "sx"
  | (apply rc_tupT)
  | (with_reducible apply rc_lstL) <;> walk_at "sx"
  | (apply rc_lstT ist_dat)
  | with_reducible exact rc_anyM
  | with_reducible exact rc_allM
  | ((with_reducible apply rm_append) <;> walk_at "sx")
  -- lists, tuples, data
  | with_reducible exact isl_dat
  | with_reducible exact isd_dat
  | with_reducible exact isd_scr
  | (with_reducible apply isl_cell) <;> walk_at "sx"
  | (with_reducible apply islv_cell) <;> walk_at "sx"
  | with_reducible exact islv_vlst
  | (with_reducible apply isd_cell) <;> walk_at "sx"
  | (with_reducible apply isd_vtup) <;> walk_at "sx"
  | (with_reducible apply isd_vlst) <;> walk_at "sx"
  | with_reducible exact isds_nil
  | (with_reducible apply isds_cons) <;> walk_at "sx"
  | with_reducible exact fzl_dat
  | with_reducible exact fzl_v
  | with_reducible exact fzt_dat
  | with_reducible exact fzt_v
  | (with_reducible apply ity_l) <;> walk_at "sx"
  | with_reducible exact ity_s
  | (with_reducible apply IsLst.v) <;> walk_at "sx"
  -- places
  | with_reducible exact At.here
  | (with_reducible apply At.there) <;> walk_at "sx"
  | with_reducible exact SetAt.here
  | (with_reducible apply SetAt.there) <;> walk_at "sx"
  | with_reducible exact List.mem_cons_self
  | (with_reducible apply List.mem_cons_of_mem) <;> walk_at "sx"
  | ((with_reducible show (_ : Addr × CD) ∈ _); with_reducible assumption)
  | with_reducible exact Put.here
  | (with_reducible apply Put.there) <;> walk_at "sx"
  | ((with_reducible show Put _ _ _ _ _); with_reducible assumption)
  | ((with_reducible show Sw _ _ _ _); with_reducible assumption)
  | with_reducible exact sw_nil
  | ((with_reducible apply sw_pick); (· walk_at "pk"); walk_at "sx")
  | ((with_reducible apply sw_skip); walk_at "sx")
  | with_reducible exact FGet.here
  | ((with_reducible apply FGet.there); (· decide +kernel); walk_at "sx")
  | with_reducible exact FPut.here
  | with_reducible exact FPut.new
  | ((with_reducible apply FPut.there); (· decide +kernel); walk_at "sx")
  | (with_reducible show ClsF _ _ _); with_reducible assumption
  | (with_reducible show RtQ _ _ _); assumption
  | (with_reducible show (_ : Str) ∈ _); decide +kernel
  | (with_reducible show ¬ (_ : Str) ∈ _); decide +kernel
  -- what is walked, targets
  | (with_reducible apply ei_rng1) <;> walk_at "sx"
  | (with_reducible apply ei_rng2) <;> walk_at "sx"
  | (with_reducible apply ei_enumD) <;> walk_at "sx"
  | (with_reducible apply ei_enum) <;> walk_at "sx"
  | (with_reducible apply ei_zip) <;> walk_at "sx"
  | (with_reducible apply ei_seqLM) <;> walk_at "sx"
  | (with_reducible apply ei_seqTM) <;> walk_at "sx"
  | (with_reducible apply ei_seqL) <;> walk_at "sx"
  | (with_reducible apply ei_seqT) <;> walk_at "sx"
  | (with_reducible apply tg_name) <;> walk_at "sx"
  | (with_reducible apply tg_tup istv_vtup) <;> walk_at "sx"
  | (with_reducible apply td_tup) <;> walk_at "sx"
  | with_reducible exact td_nil
  | (with_reducible apply td_cons) <;> walk_at "sx"
  | with_reducible exact tgs_nil
  | (with_reducible apply tgs_cons) <;> walk_at "sx"
  -- beside
  | walk_at "spec"
  | walk_at "side"
  | walk_at "leave")
/-- a question of another kind is left -/
local macro_rules | `(tactic| walk_at "leave") => `(tactic| first
  | with_reducible show Cont _ _ _ _
  | with_reducible show Shp _ _
  | with_reducible show _ ≤ _
  | with_reducible show _ < _
  | with_reducible show CMul _ _
  | with_reducible show CDiv _ _
  | with_reducible show CPow _ _
  | with_reducible show _ = _
  | with_reducible show Le _ _
  | ((with_reducible show _ = true → _); with_reducible assumption)
  | ((with_reducible show _ = true → _); intro _; walk_at "sx")
  | ((with_reducible show _ = false → _); intro _; walk_at "sx"))
/-- a plain statement -/
local macro_rules | `(tactic| walk_at "st") => `(tactic| first
  | (with_reducible apply c_seq); walk_at "st"
  | (with_reducible apply c_asg) <;> (first | walk_at "sx" | skip)
  | (with_reducible apply c_asgG) <;> (first | walk_at "sx" | skip)
  | (with_reducible apply c_par) <;> (first | walk_at "sx" | skip)
  | (with_reducible apply c_par3) <;> (first | walk_at "sx" | skip)
  | (with_reducible apply c_aug) <;> (first | walk_at "sx" | skip)
  | (with_reducible apply c_augS) <;> (first | walk_at "sx" | skip)
  | (with_reducible apply c_fld) <;> (first | walk_at "sx" | skip)
  | (with_reducible apply c_drop) <;> (first | walk_at "sx" | skip)
  | with_reducible apply c_next
  | with_reducible apply c_break
  | with_reducible apply c_cont)
/-- a value is handed back; a word is met again -/
local macro_rules | `(tactic| walk_at "ret") => `(tactic| (with_reducible apply c_ret) <;> (first | walk_at "sx" | skip))
local macro_rules | `(tactic| walk_at "inv") => `(tactic| (with_reducible apply c_inv) <;> (first | walk_at "side" | skip))
local macro_rules | `(tactic| walk_at "seq") => `(tactic| with_reducible apply c_seq)
local macro_rules | `(tactic| walk_at "cut") => `(tactic| with_reducible apply c_cut)
local macro_rules | `(tactic| walk_at "if") => `(tactic| ((with_reducible apply c_if); (case' h => first | walk_at "sx" | skip)))
local macro_rules | `(tactic| walk_at "fgt") => `(tactic| first
  | exact Fgt.nil
  | (with_reducible apply Fgt.keep; walk_at "fgt")
  | (with_reducible apply Fgt.drop; walk_at "fgt"))

/-! ### more steps: stars, dicts, tuples -/
local macro_rules | `(tactic| walk_at "sx") => `(tactic| first
  | (with_reducible apply ed_starT) <;> walk_at "sx"
  | (with_reducible apply ev_dgetS) <;> walk_at "sx"
  | with_reducible exact isdi_v
  | (with_reducible apply isdi_c) <;> walk_at "sx"
  | (with_reducible apply rv_catTd) <;> walk_at "sx"
  | with_reducible exact ist_dat
  | ((with_reducible show ¬ (_ : Int) < _); with_reducible assumption)
  | ((with_reducible show valG _ _ = _); walk_at "get")
  | ((with_reducible show putG _ _ _ = _); walk_at "get"))

theorem EvR.datL {te : TE} {ρ : Sx.Env} {M : Cells} {α : Type} {f : α → PyData} {R : List α → Cells → Prop} (h : EvR te ρ M fun y N => ∃ xs : List α, y = vlst (xs.map fun a => dat (f a)) ∧ R xs N) : EvR te ρ M fun y N => ∃ xs : List α, y = dat (.list (xs.map f)) ∧ R xs N := fun Φ σ H Q s q => h Φ σ H Q s fun x M' v H' ⟨xs, e, r⟩ s' => q (dat (.list (xs.map f))) M' v H' ⟨xs, rfl, r⟩ (s'.weak (.of rfl fun F p => ⟨p.1, by
  have h2 := p.2
  rw [e, show (fun a => dat (f a)) = dat ∘ f from rfl, ← List.map_map] at h2
  exact vlst_dat.mp h2⟩))
def mt4 : List Mt := [.a, .b, .c, .d]
section
variable {K : PySem.W.Frag} {mg : Str → Option Value} {T : Tx K mg} {s : List Int} {pd pr : Addr} {rs : Rws} {M : Cells} {Ψ Φ : Fr} {D : Ends} {Q : VK} {x2 x5 : Option VD} {last : Row} {j : Int}
abbrev G37 (K : PySem.W.Frag) (s : List Int) (pd pr : Addr) (x2 : Option VD) (last : Row) (x5 x8 : Option VD) : Sx.Env := [some (vscr K s), some (val (.ref pd)), x2, some (val (.ref pr)), some (dat (.list (last.map encM))), x5, none, none, x8, none, none, none, none, none, none, none]
abbrev MG (K : PySem.W.Frag) (s : List Int) (pd pr : Addr) (rs : Rws) (j : Int) : Cells := [(pr, cLd (rs.map encRow)), (pd, cDraw K s j)]
theorem last_er : EvR (tLc (iSeq K (tTup (tCons (tC (.str "a")) (tCons (tC (.str "b")) (tCons (tC (.str "c")) (tCons (tC (.str "d")) tNil)))))) (gName 8) (tTest (tOp (rEqU K) (tOp (rI0 fun i j => .bl (decide (j < i))) (tCall (spF 2 (S_law_take K T)) [] E0 (tCons (tVar 1) (tCons (tC (.int 4)) tNil))) (tC (.int 0))) (tOp (rIn K false) (tVar 8) (tVar 4)))) (tVar 8) [8]) (G37 K s pd pr x2 last x5 none) (MG K s pd pr rs j)
    fun y N => ∃ r : Row, y = dat (.list (r.map encM)) ∧ (r.Nodup ∧ r.length ≤ 8) ∧ ∃ j', N = MG K s pd pr rs j' := by
  refine EvR.datL ((er_lc (its := mt4.map fun m => dat (encM m)) (M1 := MG K s pd pr rs j) (ei_seqTM (f := encM) (ev_tupD (ed_cons ev_str (ed_cons ev_str (ed_cons ev_str (ed_cons ev_str ed_nil)))) (by show 4 ≤ 16777216; decide))) (fun i acc M' => ∃ (r : Row) (j' : Int), acc = r.map (fun m => dat (encM m)) ∧ r.Sublist (mt4.take i) ∧ M' = MG K s pd pr rs j') ⟨[], j, rfl, List.nil_sublist _, rfl⟩ (by decide) ?_ ?_).imp ?_)
  · rintro i acc M' ⟨r, j', rfl, hr, rfl⟩
    have := hr.length_le
    rw [List.length_take] at this
    rw [List.length_map]
    omega
  · rintro i d acc M' hi ⟨r, j', rfl, hr, rfl⟩
    rw [List.getElem?_map] at hi
    cases hm : mt4[i]? with
    | none => rw [hm] at hi; cases hi
    | some m =>
      rw [hm] at hi
      cases hi
      have htk : mt4.take (i + 1) = mt4.take i ++ [m] := by rw [List.take_succ, hm]; rfl
      refine ⟨G37 K s pd pr x2 last x5 (some (dat (encM m))), [8], _, MG K s pd pr rs (j' + 1), tg_name (.there (.there (.there (.there (.there (.there (.there (.there (.here))))))))), fun _ h => h, et_test (ev_op (ev_op (ev_call (ds := [val (.ref pd), dat (.int 4)]) (M1 := MG K s pd pr rs j') (ea_cons (ev_var (.there (.here))) (ea_cons ev_int ea_nil)) rfl (take_ev (.there .here) (by decide))) ev_int rv_bl0) (ev_op (ev_var (.there (.there (.there (.there (.there (.there (.there (.there (.here)))))))))) (ev_var (.there (.there (.there (.there (.here)))))) rv_inML) (rv_eqD isd_dat isd_dat shp_bool shp_bool)), fun _ => ?_, fun _ => ?_⟩
      · refine Ev.er (x := dat (encM m)) (M' := MG K s pd pr rs (j' + 1)) (ev_var (.there (.there (.there (.there (.there (.there (.there (.there (.here)))))))))) ⟨r ++ [m], j' + 1, ?_, ?_, rfl⟩
        · rw [List.map_append]; rfl
        · rw [htk]
          exact List.Sublist.append hr (List.Sublist.refl _)
      · exact ⟨r, j' + 1, rfl, hr.trans (by rw [htk]; exact List.sublist_append_left _ _), rfl⟩
  · rintro x M' ⟨acc, rfl, r, j', rfl, hr, rfl⟩
    have hr4 : r.Sublist mt4 := hr.trans (List.take_sublist _ _)
    exact ⟨r, rfl, ⟨hr4.nodup (by decide), Nat.le_trans hr4.length_le (by decide)⟩, j', rfl⟩
def Jt (K : PySem.W.Frag) (s : List Int) (pd : Addr) : Sx.Env → Cells → Prop := fun ρ' M' => ρ' = [some (vscr K s), some (val (.ref pd)), none, none, none, none, none, none, none, none, none, none, none, none, none, none] ∧ ∃ j, M' = [(pd, cDraw K s j)]
theorem turn37 {x2 : Option VD} (hD : D.nx = InvK Ψ (Jt K s pd)) : Cont (rd_law_2 K T D) Ψ [some (vscr K s), some (val (.ref pd)), x2, none, none, none, none, none, none, none, none, none, none, none, none, none] [(pd, cDraw K s j)] := by
  walk_at "seq"
  refine c_asgGR (P := fun y N => ∃ pr, y = vtup [val (.ref pr), dat (.list [])] ∧ N = MG K s pd pr [] j) (er_tupV (ear_cons (er_lstCd (ds := []) ed_nil (by decide)) ?_)) ?_
  · rintro x M1 ⟨pr, rfl, rfl⟩
    exact EvAR.of (ea_cons (ev_lstD ed_nil (by decide)) ea_nil) ⟨by show 2 ≤ 16777216; decide, pr, rfl, rfl⟩
  rintro y M1 ⟨pr, rfl, rfl⟩
  refine asgGR_k (tg_tup istv_vtup (tgs_cons (tg_name (.there (.there (.there (.here))))) (tgs_cons (tg_name (.there (.there (.there (.there (.here)))))) tgs_nil)) rfl) ?_
  show Cont (rd_law_3 K T D) Ψ (G37 K s pd pr x2 [] none none) _
  walk_at "cut"
  have h0 := tk_nn (s := s) (k := j + 1) (m := 14) (by decide)
  have h2 := tk_lt (s := s) (k := j + 1) (m := 14) (by decide)
  refine c_for (its := (List.range (tk s (j + 1) 14).toNat).map fun i : Nat => dat (.int (i : Int))) (M1 := MG K s pd pr [] (j + 1)) (I := fun i ρ' M' => ∃ rs last x5 j', ρ' = G37 K s pd pr x2 last x5 none ∧ M' = MG K s pd pr rs j' ∧ rs.length = i ∧ ∀ r ∈ rs, r.Nodup ∧ r.length ≤ 8) ?_ ⟨[], [], none, j + 1, rfl, rfl, rfl, fun _ h => nomatch h⟩ ?_ ?_
  · have := ei_rng1 (n := tk s (j + 1) 14) (ea_cons (ev_call (ρ := G37 K s pd pr x2 [] none none) (E := E0) (S := S_law_take K T) (ds := [val (.ref pd), dat (.int 14)]) (M1 := MG K s pd pr [] j) (ea_cons (ev_var (.there (.here))) (ea_cons ev_int ea_nil)) rfl (take_ev (.there .here) (by decide))) ea_nil) (by omega)
    have e : irange 0 (tk s (j + 1) 14).toNat = (List.range (tk s (j + 1) 14).toNat).map fun i : Nat => dat (.int (i : Int)) := by
      unfold irange
      apply List.map_congr_left
      intro i _
      rw [Int.zero_add]
    rw [e] at this
    exact this
  · rintro Ψ2 hΨ i d ρ' M' hi ⟨rs, last, x5, j', rfl, rfl, hl, h8⟩
    obtain ⟨hlt, rfl⟩ := range_at hi
    refine ⟨G37 K s pd pr x2 last (some (dat (.int (i : Int)))) none, _, tg_name (.there (.there (.there (.there (.there (.here)))))), ?_⟩
    show Cont (rd_law_4 K T _) Ψ2 _ _
    walk_at "seq"
    refine c_asgR last_er ?_
    rintro y M1 ⟨r, rfl, hr, j2, rfl⟩
    refine asgR_k (.there (.there (.there (.there (.here))))) ?_
    show Cont (rd_law_5 K T _) Ψ2 (G37 K s pd pr x2 r (some (dat (.int (i : Int)))) none) _
    refine c_drop (M1 := MG K s pd pr (rs ++ [r]) j2) (ev_bm (M1 := MG K s pd pr rs j2) (M2 := MG K s pd pr rs j2) (ev_var (.there (.there (.there (.here))))) (ity_l (IsLst.v (isl_cell (.head _)))) (ea_cons (x := dat (encRow r)) (ev_cb (ea_cons (ev_var (.there (.there (.there (.there (.here)))))) ea_nil) (rc_tupL isl_dat)) ea_nil) (rm_append (ds := rs.map encRow) ?_ ?_)) (c_inv ⟨rs ++ [r], r, _, j2, rfl, rfl, by rw [List.length_append, hl]; rfl, fun q hq => ?_⟩ (Le.refl _))
    · show Put pr _ _ _ [(pr, cLd ((rs ++ [r]).map encRow)), (pd, cDraw K s j2)]
      rw [List.map_append]; exact .here
    · rw [List.length_map]; show _ < 16777216; omega
    · rcases List.mem_append.mp hq with hq | hq
      · exact h8 q hq
      · rw [List.mem_singleton.mp hq]; exact hr
  · rintro ρ' M' ⟨rs, last, x5, j', rfl, rfl, hl, h8⟩
    rw [List.length_map, List.length_range] at hl
    have ok : Ok37 rs := ⟨by omega, h8⟩
    refine c_frz (ρ' := [some (vscr K s), some (val (.ref pd)), x2, some (dat (rowsD rs)), some (dat (.list (last.map encM))), x5, none, none, none, none, none, none, none, none, none, none]) (.there (.there (.there (.here)))) (.there (.there (.there (.here)))) ?_
    show Cont (rd_law_6 K T D) Ψ _ _
    walk_at "seq"
    refine c_par (ea_cons (ev_call (ds := [dat (rowsD rs)]) (M1 := [(pd, cDraw K s j')]) (ea_cons (ev_var (.there (.there (.there (.here))))) ea_nil) rfl (pieces_ev ok.n)) (ea_cons (ev_call (ds := [dat (rowsD rs)]) (M1 := [(pd, cDraw K s j')]) (ea_cons (ev_var (.there (.there (.there (.here))))) ea_nil) rfl (stops_ev ok.n)) ea_nil)) (.there (.there (.there (.there (.there (.there (.here))))))) (.there (.there (.there (.there (.there (.there (.there (.here)))))))) ?_
    show Cont (rd_law_7 K T D) Ψ (E37 K s pd rs x2 _ x5 none none none none none none none none) _
    refine seg7 ok fun x8 x9 x10 x11 x12 x13 x14 => ?_
    rw [hD]
    with_reducible apply c_invF
    · exact ⟨rfl, _, rfl⟩
    · walk_at "fgt"
    · exact Le.refl _
end
theorem law_body {K : PySem.W.Frag} {mg : Str → Option Value} (T : Tx K mg) : ∀ Q ds M P Φ, ds.length = 1 → S_law K T ds M P → RtQ Q Φ P → Cont (rd_law_0 K T (fnD Q)) Φ (entry ["_law_script", "_law_draw", "_law_turn", "_law_rows", "_law_last", "_law_tick", "_law_pieces", "_law_stops", "_law_mast", "_law_first", "_law_end", "_law_at", "_law_changed", "_law_spoilt", "_law_wrong", "_law_piece"] ds) M := by
  rintro Q ds M P Φ - ⟨s, rfl, rfl, hs63, hP⟩ hQ
  show Cont _ _ [some (vscr K s), none, none, none, none, none, none, none, none, none, none, none, none, none, none, none] _
  walk_at "seq"
  refine c_asgR (er_lstC (ds := [vscr K s, dat (.int 0)]) (ea_cons (ev_var .here) (ea_cons ev_int ea_nil)) (by show 2 ≤ 16777216; decide)) ?_
  rintro y M1 ⟨pd, rfl, rfl⟩
  refine asgR_k (.there (.here)) ?_
  show Cont (rd_law_1 K T (fnD Q)) Φ _ _
  walk_at "cut"
  refine c_for (its := irange 0 4) (M1 := [(pd, cDraw K s 0)]) (I := fun _ => Jt K s pd) (ei_rng1 (ea_cons ev_int ea_nil) (by decide)) ⟨rfl, 0, rfl⟩ ?_ ?_
  · rintro Ψ hΨ i d ρ' M' hi ⟨rfl, j, rfl⟩
    exact ⟨[some (vscr K s), some (val (.ref pd)), some d, none, none, none, none, none, none, none, none, none, none, none, none, none], _, tg_name (.there (.there (.here))), turn37 rfl⟩
  · rintro ρ' M' ⟨rfl, j, rfl⟩
    exact c_ret (D := fnD Q) ev_bl hQ (hP _) (Le.refl _)

end Lw


set_option Elab.async false
set_option linter.all false
set_option maxRecDepth 100000
set_option maxHeartbeats 4000000
namespace Lw
open PySem L2 Sx
/-! ### steps -/
local macro_rules | `(tactic| walk_at "shp") => `(tactic| first
  | exact shp_int
  | exact shp_none
  | exact shp_bool
  | exact shp_oi _
  | (apply shp_str; first | decide +kernel | assumption)
  | (apply shp_list; walk_at "shpA")
  | (apply shp_tuple; walk_at "shpA")
  | assumption)
local macro_rules | `(tactic| walk_at "shpA") => `(tactic| first
  | exact shpA_nil
  | (apply shpA_cons; (· walk_at "shp"); walk_at "shpA")
  | (apply shpA_map; intro _ _; walk_at "shp"))
/-- what is left beside: closed, or left -/
local macro_rules | `(tactic| walk_at "side") => `(tactic| first
  | (with_reducible show Shp _ _); walk_at "shp"
  | (with_reducible show _ ≤ sizeLine); first | decide | (show _ ≤ 16777216; omega) | (show _ ≤ 16777216; simp only [List.length_map, List.length_append, List.length_cons, List.length_nil]; omega)
  | (with_reducible show _ < sizeLine); first | decide | (show _ < 16777216; omega) | (show _ < 16777216; simp only [List.length_map, List.length_append, List.length_cons, List.length_nil]; omega)
  | (with_reducible show CMul _ _); first | exact Or.inr ⟨by decide, by decide⟩ | exact Or.inl ⟨by decide, by decide⟩ | exact Or.inl ⟨by omega, by omega⟩ | exact Or.inr ⟨by omega, by omega⟩
  | (with_reducible show CPow _ _); exact ⟨by decide, by decide, by decide⟩
  | (with_reducible show CDiv _ _); first | exact ⟨by decide, by decide⟩ | exact ⟨by omega, by omega⟩
  | (with_reducible show Le _ _); first | with_reducible exact Le.refl _ | with_reducible assumption
  | (with_reducible show L2.atI _ _ = _); first | with_reducible assumption | exact rfl | exact atI_nat rfl
  | (with_reducible show _ < _); first | with_reducible assumption | decide | omega
  | (with_reducible show _ ≤ _); first | with_reducible assumption | decide | omega
  | (with_reducible show _ ∧ _); omega
  | (with_reducible show ∀ i, i ∈ _ → i ∈ _); decide
  | (with_reducible show (_ : Nat) = _); first | exact rfl | omega)
local macro_rules | `(tactic| walk_at "rm") => `(tactic| first
  | exact Rm.here
  | (apply Rm.there; walk_at "rm"))
local macro_rules | `(tactic| walk_at "perm") => `(tactic| first
  | with_reducible exact List.Perm.refl _
  | (apply perm_step; (· walk_at "rm"); walk_at "perm")
  | exact List.Perm.refl _)
local macro_rules | `(tactic| walk_at "pk") => `(tactic| first
  | with_reducible exact Pk.here
  | ((with_reducible apply Pk.there); walk_at "pk"))
/-- a part of a reading: what it gives. One word for all kinds -/
local macro_rules | `(tactic| walk_at "sx") => `(tactic| first
  -- an expression
  | with_reducible exact ev_int
  | with_reducible exact ev_bl
  | with_reducible exact ev_str
  | with_reducible exact ev_non
  | (with_reducible apply ev_var) <;> walk_at "sx"
  | (with_reducible apply ev_op) <;> walk_at "sx"
  | (with_reducible apply ev_fld) <;> walk_at "sx"
  | (with_reducible apply ev_cb) <;> walk_at "sx"
  | (with_reducible apply ev_tupD) <;> walk_at "sx"
  | (with_reducible apply ev_lstD) <;> walk_at "sx"
  | (with_reducible apply ev_tupV) <;> walk_at "sx"
  | (with_reducible apply ev_lstV) <;> walk_at "sx"
  | (with_reducible apply ev_slL) <;> walk_at "sx"
  | (with_reducible apply ev_slT1) <;> walk_at "sx"
  | (with_reducible apply ev_slT) <;> walk_at "sx"
  | (with_reducible apply ev_un) <;> walk_at "sx"
  | (with_reducible apply ev_chain) <;> walk_at "sx"
  | (with_reducible apply ev_andV) <;> walk_at "sx"
  | (with_reducible apply ev_orV) <;> walk_at "sx"
  | (with_reducible apply ev_notV) <;> walk_at "sx"
  | (with_reducible apply ev_lcY) <;> walk_at "sx"
  | (with_reducible apply ev_lc) <;> walk_at "sx"
  | ((with_reducible show ∀ a, a ∈ _ → ∃ ρ'' js, _); intro a ha; dsimp only [wipeE, List.set]; (first | with_reducible apply lcY_k | with_reducible apply lcF_k) <;> walk_at "sx")
  | (with_reducible apply ev_call) <;> walk_at "sx"
  | (with_reducible apply ev_meth) <;> walk_at "sx"
  | (with_reducible apply ev_bm) <;> walk_at "sx"
  | (with_reducible show Ev _ _ _ _ _); walk_at "own"
  -- a test
  | with_reducible exact et_yes
  | (with_reducible apply et_test) <;> walk_at "sx"
  | (with_reducible apply et_B) <;> walk_at "sx"
  | (with_reducible apply et_not) <;> walk_at "sx"
  | (with_reducible apply et_and) <;> walk_at "sx"
  | (with_reducible apply et_or) <;> walk_at "sx"
  -- arguments
  | with_reducible exact ea_nil
  | (with_reducible apply ea_cons) <;> walk_at "sx"
  | with_reducible exact ed_nil
  | (with_reducible apply ed_cons) <;> walk_at "sx"
  | with_reducible exact eo_none
  | (with_reducible apply eo_some) <;> walk_at "sx"
  -- what an operation gives
  | with_reducible exact rv_addI
  | with_reducible exact rv_int0
  | with_reducible exact rv_bl0
  | with_reducible exact rv_eqI
  | with_reducible exact rv_neI
  | with_reducible exact rv_eqS
  | with_reducible exact rv_neS
  | with_reducible exact rv_isN
  | with_reducible exact rv_notN
  | (with_reducible apply rv_intC) <;> walk_at "sx"
  | (with_reducible apply rv_addS) <;> walk_at "sx"
  | (with_reducible apply rv_ixL isl_dat) <;> walk_at "sx"
  | (with_reducible apply rv_ixT ist_dat) <;> walk_at "sx"
  | (with_reducible apply rv_ixL) <;> walk_at "sx"
  | (with_reducible apply rv_ixLV) <;> walk_at "sx"
  | (apply rv_ixT ist_dat) <;> walk_at "sx"
  | (with_reducible apply rv_ixTV istv_vtup) <;> walk_at "sx"
  | (with_reducible apply rv_ixScr) <;> walk_at "sx"
  | (apply rv_ixL isl_dat) <;> walk_at "sx"
  | (with_reducible apply rv_ixL) <;> walk_at "sx"
  | (apply rv_cat) <;> walk_at "sx"
  | (with_reducible apply rv_eqD) <;> walk_at "sx"
  | (with_reducible apply rv_neD) <;> walk_at "sx"
  | with_reducible exact ru_neg
  | with_reducible exact rc_int
  | with_reducible exact rc_abs
  | with_reducible exact rc_max2
  | with_reducible exact rc_min2
  | with_reducible exact rc_lenScr
  | with_reducible exact rc_lenM isl_dat
  | ((with_reducible apply rc_lenM); (with_reducible apply isl_cell) <;> walk_at "sx")
  | with_reducible exact rc_lenMT
  | (with_reducible apply rc_lenL) <;> walk_at "sx"
  | (apply rc_lenT ist_dat)
  | (with_reducible apply rc_tupL) <;> walk_at "sx"
  | (apply rc_tupT)
  | (with_reducible apply rc_lstL) <;> walk_at "sx"
  | (apply rc_lstT ist_dat)
  | with_reducible exact rc_anyM
  | with_reducible exact rc_allM
  | ((with_reducible apply rm_append) <;> walk_at "sx")
  -- lists, tuples, data
  | with_reducible exact isl_dat
  | with_reducible exact isd_dat
  | with_reducible exact isd_scr
  | (with_reducible apply isl_cell) <;> walk_at "sx"
  | (with_reducible apply islv_cell) <;> walk_at "sx"
  | with_reducible exact islv_vlst
  | (with_reducible apply isd_cell) <;> walk_at "sx"
  | (with_reducible apply isd_vtup) <;> walk_at "sx"
  | (with_reducible apply isd_vlst) <;> walk_at "sx"
  | with_reducible exact isds_nil
  | (with_reducible apply isds_cons) <;> walk_at "sx"
  | with_reducible exact fzl_dat
  | with_reducible exact fzl_v
  | with_reducible exact fzt_dat
  | with_reducible exact fzt_v
  | (with_reducible apply ity_l) <;> walk_at "sx"
  | with_reducible exact ity_s
  | (with_reducible apply IsLst.v) <;> walk_at "sx"
  -- places
  | with_reducible exact At.here
  | (with_reducible apply At.there) <;> walk_at "sx"
  | with_reducible exact SetAt.here
  | (with_reducible apply SetAt.there) <;> walk_at "sx"
  | with_reducible exact List.mem_cons_self
  | (with_reducible apply List.mem_cons_of_mem) <;> walk_at "sx"
  | ((with_reducible show (_ : Addr × CD) ∈ _); with_reducible assumption)
  | with_reducible exact Put.here
  | (with_reducible apply Put.there) <;> walk_at "sx"
  | ((with_reducible show Put _ _ _ _ _); with_reducible assumption)
  | ((with_reducible show Sw _ _ _ _); with_reducible assumption)
  | with_reducible exact sw_nil
  | ((with_reducible apply sw_pick); (· walk_at "pk"); walk_at "sx")
  | ((with_reducible apply sw_skip); walk_at "sx")
  | with_reducible exact FGet.here
  | ((with_reducible apply FGet.there); (· decide +kernel); walk_at "sx")
  | with_reducible exact FPut.here
  | with_reducible exact FPut.new
  | ((with_reducible apply FPut.there); (· decide +kernel); walk_at "sx")
  | (with_reducible show ClsF _ _ _); with_reducible assumption
  | (with_reducible show RtQ _ _ _); assumption
  | (with_reducible show (_ : Str) ∈ _); decide +kernel
  | (with_reducible show ¬ (_ : Str) ∈ _); decide +kernel
  -- what is walked, targets
  | (with_reducible apply ei_rng1) <;> walk_at "sx"
  | (with_reducible apply ei_rng2) <;> walk_at "sx"
  | (with_reducible apply ei_enumD) <;> walk_at "sx"
  | (with_reducible apply ei_enum) <;> walk_at "sx"
  | (with_reducible apply ei_zip) <;> walk_at "sx"
  | (with_reducible apply ei_seqLM) <;> walk_at "sx"
  | (with_reducible apply ei_seqTM) <;> walk_at "sx"
  | (with_reducible apply ei_seqL) <;> walk_at "sx"
  | (with_reducible apply ei_seqT) <;> walk_at "sx"
  | (with_reducible apply tg_name) <;> walk_at "sx"
  | (with_reducible apply tg_tup istv_vtup) <;> walk_at "sx"
  | (with_reducible apply td_tup) <;> walk_at "sx"
  | with_reducible exact td_nil
  | (with_reducible apply td_cons) <;> walk_at "sx"
  | with_reducible exact tgs_nil
  | (with_reducible apply tgs_cons) <;> walk_at "sx"
  -- beside
  | walk_at "spec"
  | walk_at "side"
  | walk_at "leave")
/-- a question of another kind is left -/
local macro_rules | `(tactic| walk_at "leave") => `(tactic| first
  | with_reducible show Cont _ _ _ _
  | with_reducible show Shp _ _
  | with_reducible show _ ≤ _
  | with_reducible show _ < _
  | with_reducible show CMul _ _
  | with_reducible show CDiv _ _
  | with_reducible show CPow _ _
  | with_reducible show _ = _
  | with_reducible show Le _ _
  | ((with_reducible show _ = true → _); with_reducible assumption)
  | ((with_reducible show _ = true → _); intro _; walk_at "sx")
  | ((with_reducible show _ = false → _); intro _; walk_at "sx"))
/-- a plain statement -/
local macro_rules | `(tactic| walk_at "st") => `(tactic| first
  | (with_reducible apply c_seq); walk_at "st"
  | (with_reducible apply c_asg) <;> (first | walk_at "sx" | skip)
  | (with_reducible apply c_asgG) <;> (first | walk_at "sx" | skip)
  | (with_reducible apply c_par) <;> (first | walk_at "sx" | skip)
  | (with_reducible apply c_par3) <;> (first | walk_at "sx" | skip)
  | (with_reducible apply c_aug) <;> (first | walk_at "sx" | skip)
  | (with_reducible apply c_augS) <;> (first | walk_at "sx" | skip)
  | (with_reducible apply c_fld) <;> (first | walk_at "sx" | skip)
  | (with_reducible apply c_drop) <;> (first | walk_at "sx" | skip)
  | with_reducible apply c_next
  | with_reducible apply c_break
  | with_reducible apply c_cont)
/-- a value is handed back; a word is met again -/
local macro_rules | `(tactic| walk_at "ret") => `(tactic| (with_reducible apply c_ret) <;> (first | walk_at "sx" | skip))
local macro_rules | `(tactic| walk_at "inv") => `(tactic| (with_reducible apply c_inv) <;> (first | walk_at "side" | skip))
local macro_rules | `(tactic| walk_at "seq") => `(tactic| with_reducible apply c_seq)
local macro_rules | `(tactic| walk_at "cut") => `(tactic| with_reducible apply c_cut)
local macro_rules | `(tactic| walk_at "if") => `(tactic| ((with_reducible apply c_if); (case' h => first | walk_at "sx" | skip)))
local macro_rules | `(tactic| walk_at "fgt") => `(tactic| first
  | exact Fgt.nil
  | (with_reducible apply Fgt.keep; walk_at "fgt")
  | (with_reducible apply Fgt.drop; walk_at "fgt"))

/-! ### more steps: stars, dicts, tuples -/
local macro_rules | `(tactic| walk_at "sx") => `(tactic| first
  | (with_reducible apply ed_starT) <;> walk_at "sx"
  | (with_reducible apply ev_dgetS) <;> walk_at "sx"
  | with_reducible exact isdi_v
  | (with_reducible apply isdi_c) <;> walk_at "sx"
  | (with_reducible apply rv_catTd) <;> walk_at "sx"
  | with_reducible exact ist_dat
  | ((with_reducible show ¬ (_ : Int) < _); with_reducible assumption)
  | ((with_reducible show valG _ _ = _); walk_at "get")
  | ((with_reducible show putG _ _ _ = _); walk_at "get"))

theorem ok_law_number {w : World} {K : PySem.W.Frag} {mg : Str → Option Value} {base : Heap} (T : Tx K mg)
    (R : ∀ Q ds M P Φ, ds.length = 2 → S_law_number K T ds M P → RtQ Q Φ P → Cont (rd_law_number_0 K T (fnD Q)) Φ (entry ["_law_script", "_law_index", "_law_cell", "_law_blend"] ds) M) :
    FnOk T.Pg w K mg base CX0 1 T.f_law_number T.fd_law_number ["_law_script", "_law_index"] (spF 2 (S_law_number K T)) := by
  refine T.F_law_number.ok sc_law_number (fun vs H Q E h => spF_len h) fun cdv A outer s H vs Q E hr h => ⟨(rd_law_number_0 K T), ?_, fn_start h (R Q)⟩
  exact (Evl.pss_cut (ps_if (pt_cmpR (op_eqU hr.units) (pv 0) (pe_lst pa_nil) (nomark _))
      (pss_one (ps_ret (pe_callTy call_int1' (by rfl) T.no_int (by decide +kernel) (pa_cons (pe_op op_mod (pe_op op_addU (pe_op op_mul (pv 1) pe_int) pe_int) pe_int) pa_nil))))
      pss_nil)
      (pss_cons (ps_set (i := 2) sc_law_number.nd rfl (by first | exact Or.inl rfl | exact Or.inr rfl) (pe_ix ix_seq (pv 0) (pe_op op_mod (pv 1) (pe_callB call_lenU (by rfl) T.no_len PySem.boot_len (pa_cons (pv 0) pa_nil))) (fun _ _ => rfl)))
      (Evl.pss_cut (ps_if (pt_cmpR op_ge (pe_callB call_abs' (by rfl) T.no_abs (by decide +kernel) (pa_cons (pv 2) pa_nil)) (pe_op op_pow pe_int pe_int) (nomark _))
      (pss_one (ps_set (i := 2) sc_law_number.nd rfl (by first | exact Or.inl rfl | exact Or.inr rfl) (pe_op op_mod (pv 2) (pe_op op_pow pe_int pe_int))))
      pss_nil)
      (pss_cons (ps_set (i := 3) sc_law_number.nd rfl (by first | exact Or.inl rfl | exact Or.inr rfl) (pe_op op_mod (pe_op op_addU (pe_op op_mul (pe_op op_addU (pv 2) (pe_op op_mul pe_int (pv 1))) pe_int) (pe_op op_mul pe_int (pe_callB call_lenU (by rfl) T.no_len PySem.boot_len (pa_cons (pv 0) pa_nil)))) pe_int))
      (pss_one (ps_ret (pe_callTy call_int1' (by rfl) T.no_int (by decide +kernel) (pa_cons (pe_op op_mod (pe_op op_addU (pe_op op_mul (pe_op op_mod (pe_op op_mul (pv 3) pe_int) pe_int) pe_int) (pv 1)) pe_int) pa_nil))))))))
theorem ok_law_take {w : World} {K : PySem.W.Frag} {mg : Str → Option Value} {base : Heap} (T : Tx K mg)
    (G_law_number : FnOk T.Pg w K mg base CX0 1 T.f_law_number T.fd_law_number ["_law_script", "_law_index"] (spF 2 (S_law_number K T)))
    (R : ∀ Q ds M P Φ, ds.length = 2 → S_law_take K T ds M P → RtQ Q Φ P → Cont (rd_law_take_0 K T (fnD Q)) Φ (entry ["_law_draw", "_law_many"] ds) M) :
    FnOk T.Pg w K mg base CX0 2 T.f_law_take T.fd_law_take ["_law_draw", "_law_many"] (spF 2 (S_law_take K T)) := by
  refine T.F_law_take.ok sc_law_take (fun vs H Q E h => spF_len h) fun cdv A outer s H vs Q E hr h => ⟨(rd_law_take_0 K T), ?_, fn_start h (R Q)⟩
  exact (pss_cons (ps_augS (pv 0) pe_int get_list pe_int ip_add set_list)
      (pss_one (ps_ret (pe_op op_mod (pe_callTy call_int1' (by rfl) T.no_int (by decide +kernel) (pa_cons (pe_call (G_law_number) (hr.mono (by decide)) rfl T.mg_law_number T.k_law_number T.b_law_number .nil pass0 (pa_cons (pe_ix ix_seq (pv 0) pe_int (fun _ _ => rfl)) (pa_cons (pe_callTy call_int1' (by rfl) T.no_int (by decide +kernel) (pa_cons (pe_ix ix_seq (pv 0) pe_int (fun _ _ => rfl)) pa_nil)) pa_nil))) pa_nil)) (pv 1)))))
theorem ok_lasts {w : World} {K : PySem.W.Frag} {mg : Str → Option Value} {base : Heap} (T : Tx K mg)
    (R : ∀ Q ds M P Φ, ds.length = 3 → S_lasts K T ds M P → RtQ Q Φ P → Cont (rd_lasts_0 K T (fnD Q)) Φ (entry ["rows", "at", "mast"] ds) M) :
    FnOk T.Pg w K mg base CX0 1 T.f_lasts T.fd_lasts ["rows", "at", "mast"] (spF 3 (S_lasts K T)) := by
  refine T.F_lasts.ok sc_lasts (fun vs H Q E h => spF_len h) fun cdv A outer s H vs Q E hr h => ⟨(rd_lasts_0 K T), ?_, fn_start h (R Q)⟩
  exact (Evl.pss_cut (ps_while PassesOwn.never (PW.pt (pw_and (pt_cmpR op_lt (pe_op op_addU (pv 1) pe_int) (pe_callB call_lenU (by rfl) T.no_len PySem.boot_len (pa_cons (pv 0) pa_nil)) (nomark _)) (pw_and1 (pt_cmpR op_in_seq (pv 2) (pe_ix ix_seq (pv 0) (pe_op op_addU (pv 1) pe_int) (fun _ _ => rfl)) (by first | rfl | with_unfolding_all rfl)))))
      (pss_one (ps_aug (i := 1) sc_lasts.nd rfl (by first | exact Or.inl rfl | exact Or.inr rfl) pe_int ip_add)))
      (pss_one (ps_ret (pv 1))))
theorem ok_pieces_of {w : World} {K : PySem.W.Frag} {mg : Str → Option Value} {base : Heap} (T : Tx K mg)
    (G_lasts : FnOk T.Pg w K mg base CX0 1 T.f_lasts T.fd_lasts ["rows", "at", "mast"] (spF 3 (S_lasts K T)))
    (R : ∀ Q ds M P Φ, ds.length = 1 → S_pieces_of K T ds M P → RtQ Q Φ P → Cont (rd_pieces_of_0 K T (fnD Q)) Φ (entry ["rows", "found", "at", "best", "mast", "last"] ds) M) :
    FnOk T.Pg w K mg base CX0 2 T.f_pieces_of T.fd_pieces_of ["rows"] (spF 1 (S_pieces_of K T)) := by
  refine T.F_pieces_of.ok sc_pieces_of (fun vs H Q E h => spF_len h) fun cdv A outer s H vs Q E hr h => ⟨(rd_pieces_of_0 K T), ?_, fn_start h (R Q)⟩
  exact (pss_cons (ps_par (i := 1) (j := 2) (by rfl) sc_pieces_of.nd rfl rfl (by decide) rfl rfl (pa_cons (pe_lst pa_nil) (pa_cons pe_int pa_nil)) (by rfl))
      (Evl.pss_cut (ps_while PassesOwn.never (pt_cmpR op_lt (pv 2) (pe_callB call_lenU (by rfl) T.no_len PySem.boot_len (pa_cons (pv 0) pa_nil)) (nomark _))
      (Evl.pss_cut (ps_if (pt_cmpR (op_eqU hr.units) (pe_ix ix_seq (pv 0) (pv 2) (fun _ _ => rfl)) (pe_tup pa_nil) (nomark _))
      (pss_cons (ps_aug (i := 2) sc_pieces_of.nd rfl (by first | exact Or.inl rfl | exact Or.inr rfl) pe_int ip_add)
      (pss_one ps_continue))
      pss_nil)
      (pss_cons (ps_set (i := 3) sc_pieces_of.nd rfl (by first | exact Or.inl rfl | exact Or.inr rfl) (pe_ix ix_seq (pe_ix ix_seq (pv 0) (pv 2) (fun _ _ => rfl)) pe_int (fun _ _ => rfl)))
      (Evl.pss_cut (ps_for PassesOwn.never rfl (pi_seq (pe_ix ix_seq (pv 0) (pv 2) (fun _ _ => rfl))) (pg_name (i := 4) sc_pieces_of.nd rfl (by first | exact Or.inl rfl | exact Or.inr rfl))
      (pss_one (ps_if (pt_cmpR op_gt (pe_call (G_lasts) (hr.mono (by decide)) rfl T.mg_lasts T.k_lasts T.b_lasts .nil pass0 (pa_cons (pv 0) (pa_cons (pv 2) (pa_cons (pv 4) pa_nil)))) (pe_call (G_lasts) (hr.mono (by decide)) rfl T.mg_lasts T.k_lasts T.b_lasts .nil pass0 (pa_cons (pv 0) (pa_cons (pv 2) (pa_cons (pv 3) pa_nil)))) (nomark _))
      (pss_one (ps_set (i := 3) sc_pieces_of.nd rfl (by first | exact Or.inl rfl | exact Or.inr rfl) (pv 4)))
      pss_nil)))
      (pss_cons (ps_set (i := 5) sc_pieces_of.nd rfl (by first | exact Or.inl rfl | exact Or.inr rfl) (pe_call (G_lasts) (hr.mono (by decide)) rfl T.mg_lasts T.k_lasts T.b_lasts .nil pass0 (pa_cons (pv 0) (pa_cons (pv 2) (pa_cons (pv 3) pa_nil)))))
      (pss_cons (ps_expr (pe_bm PySem.F.plainAttrs_list PySem.F.slot_list_append PySem.F.type_list_append mt_append (pv 1) (pa_cons (pe_tup (pa_cons (pv 3) (pa_cons (pv 2) (pa_cons (pv 5) pa_nil)))) pa_nil)))
      (pss_one (ps_set (i := 2) sc_pieces_of.nd rfl (by first | exact Or.inl rfl | exact Or.inr rfl) (pe_op op_addU (pv 5) pe_int)))))))))
      (pss_one (ps_ret (pv 1)))))
theorem ok_covers {w : World} {K : PySem.W.Frag} {mg : Str → Option Value} {base : Heap} (T : Tx K mg)
    (R : ∀ Q ds M P Φ, ds.length = 2 → S_covers K T ds M P → RtQ Q Φ P → Cont (rd_covers_0 K T (fnD Q)) Φ (entry ["rows", "pieces", "here", "ticks", "mast", "first", "last", "at", "row"] ds) M) :
    FnOk T.Pg w K mg base CX0 1 T.f_covers T.fd_covers ["rows", "pieces"] (spF 2 (S_covers K T)) := by
  refine T.F_covers.ok sc_covers (fun vs H Q E h => spF_len h) fun cdv A outer s H vs Q E hr h => ⟨(rd_covers_0 K T), ?_, fn_start h (R Q)⟩
  exact (pss_cons (ps_par (i := 2) (j := 3) (by rfl) sc_covers.nd rfl rfl (by decide) rfl rfl (pa_cons (pe_un un_neg pe_int) (pa_cons (pe_lst pa_nil) pa_nil)) (by rfl))
      (Evl.pss_cut (ps_for PassesOwn.never rfl (pi_seq (pv 1)) (pg_tup rfl (pgs_cons (pg_name (i := 4) sc_covers.nd rfl (by first | exact Or.inl rfl | exact Or.inr rfl)) (pgs_cons (pg_name (i := 5) sc_covers.nd rfl (by first | exact Or.inl rfl | exact Or.inr rfl)) (pgs_cons (pg_name (i := 6) sc_covers.nd rfl (by first | exact Or.inl rfl | exact Or.inr rfl)) pgs_nil))))
      (Evl.pss_cut (ps_if (PW.pt (pw_or (pt_not (pt_chain3 op_lt op_le op_lt (pv 2) (pv 5) (pv 6) (pe_callB call_lenU (by rfl) T.no_len PySem.boot_len (pa_cons (pv 0) pa_nil)))) (pw_or1 (pt_not (pt_val (pe_callB (cr_all rfl) (by rfl) T.no_all (by decide +kernel) (pa_cons (pe_lc (own := [("at", 7)]) (g := (gName 7)) (tt := tYes) rfl sc_covers.nd (pi_range2 rfl T.no_range (pa_cons (pv 5) (pa_cons (pe_op op_addU (pv 6) pe_int) pa_nil))) (blkOk_by (own := [("at", 7)]) (N := ["rows", "pieces", "here", "ticks", "mast", "first", "last", "at", "row"]) (sc := defScope s_covers) (by decide +kernel)) (fun _ _ _ _ _ => (pg_name (i := 7) sc_covers.nd rfl (by first | exact Or.inl rfl | exact Or.inr rfl))) (fun _ _ _ _ _ => pts_nil) (fun _ _ _ _ _ => (pe_cmpR op_in_seq (pv 4) (pe_ix ix_seq (pv 0) (pv 7) (fun _ _ => rfl)) (by first | rfl | with_unfolding_all rfl)))) pa_nil)))))))
      (pss_one (ps_ret pe_bl))
      pss_nil)
      (pss_cons (ps_expr (pe_bm PySem.F.plainAttrs_list PySem.F.slot_list_extend PySem.F.type_list_extend mt_extend (pv 3) (pa_cons (pe_listRg rfl rfl T.no_list (prg_2 rfl T.no_range (pv 5) (pe_op op_addU (pv 6) pe_int))) pa_nil)))
      (pss_one (ps_set (i := 2) sc_covers.nd rfl (by first | exact Or.inl rfl | exact Or.inr rfl) (pv 6))))))
      (pss_one (ps_ret (pe_cmpR (op_eqU hr.units) (pv 3) (pe_lc (own := [("at", 7), ("row", 8)]) (g := (gTup K 2 (gCons (gName 7) (gCons (gName 8) gNil)))) (tt := (tTest (tOp (rNeU K) (tVar 8) (tTup tNil)))) rfl sc_covers.nd (pi_enum (by rfl) T.no_enumerate (pa_cons (pv 0) pa_nil)) (blkOk_by (own := [("at", 7), ("row", 8)]) (N := ["rows", "pieces", "here", "ticks", "mast", "first", "last", "at", "row"]) (sc := defScope s_covers) (by decide +kernel)) (fun _ _ _ _ _ => (pg_tup rfl (pgs_cons (pg_name (i := 7) sc_covers.nd rfl (by first | exact Or.inl rfl | exact Or.inr rfl)) (pgs_cons (pg_name (i := 8) sc_covers.nd rfl (by first | exact Or.inl rfl | exact Or.inr rfl)) pgs_nil)))) (fun _ _ _ _ _ => (pts_one (pt_cmpR (op_neU hr.units) (pv 8) (pe_tup pa_nil) (nomark _)))) (fun _ _ _ _ _ => (pv 7))) (nomark _))))))
theorem ok_stops_of {w : World} {K : PySem.W.Frag} {mg : Str → Option Value} {base : Heap} (T : Tx K mg)
    (G_pieces_of : FnOk T.Pg w K mg base CX0 2 T.f_pieces_of T.fd_pieces_of ["rows"] (spF 1 (S_pieces_of K T)))
    (R : ∀ Q ds M P Φ, ds.length = 1 → S_stops_of K T ds M P → RtQ Q Φ P → Cont (rd_stops_of_0 K T (fnD Q)) Φ (entry ["rows", "mast", "first", "last"] ds) M) :
    FnOk T.Pg w K mg base CX0 3 T.f_stops_of T.fd_stops_of ["rows"] (spF 1 (S_stops_of K T)) := by
  refine T.F_stops_of.ok sc_stops_of (fun vs H Q E h => spF_len h) fun cdv A outer s H vs Q E hr h => ⟨(rd_stops_of_0 K T), ?_, fn_start h (R Q)⟩
  exact (pss_one (ps_ret (pe_lc (own := [("mast", 1), ("first", 2), ("last", 3)]) (g := (gTup K 3 (gCons (gName 1) (gCons (gName 2) (gCons (gName 3) gNil))))) (tt := tYes) rfl sc_stops_of.nd (pi_seq (pe_call (G_pieces_of) (hr.mono (by decide)) rfl T.mg_pieces_of T.k_pieces_of T.b_pieces_of .nil pass0 (pa_cons (pv 0) pa_nil))) (blkOk_by (own := [("mast", 1), ("first", 2), ("last", 3)]) (N := ["rows", "mast", "first", "last"]) (sc := defScope s_stops_of) (by decide +kernel)) (fun _ _ _ _ _ => (pg_tup rfl (pgs_cons (pg_name (i := 1) sc_stops_of.nd rfl (by first | exact Or.inl rfl | exact Or.inr rfl)) (pgs_cons (pg_name (i := 2) sc_stops_of.nd rfl (by first | exact Or.inl rfl | exact Or.inr rfl)) (pgs_cons (pg_name (i := 3) sc_stops_of.nd rfl (by first | exact Or.inl rfl | exact Or.inr rfl)) pgs_nil))))) (fun _ _ _ _ _ => pts_nil) (fun _ _ _ _ _ => (pv 2)))))
theorem ok_shows_many {w : World} {K : PySem.W.Frag} {mg : Str → Option Value} {base : Heap} (T : Tx K mg)
    (G_lasts : FnOk T.Pg w K mg base CX0 1 T.f_lasts T.fd_lasts ["rows", "at", "mast"] (spF 3 (S_lasts K T)))
    (R : ∀ Q ds M P Φ, ds.length = 2 → S_shows_many K T ds M P → RtQ Q Φ P → Cont (rd_shows_many_0 K T (fnD Q)) Φ (entry ["rows", "stops", "one", "other", "mast", "at"] ds) M) :
    FnOk T.Pg w K mg base CX0 2 T.f_shows_many T.fd_shows_many ["rows", "stops"] (spF 2 (S_shows_many K T)) := by
  refine T.F_shows_many.ok sc_shows_many (fun vs H Q E h => spF_len h) fun cdv A outer s H vs Q E hr h => ⟨(rd_shows_many_0 K T), ?_, fn_start h (R Q)⟩
  exact (Evl.pss_cut (ps_if (PW.pt (pw_or (pt_cmpR (op_neU hr.units) (pv 1) (pe_sortSet rfl rfl T.no_sorted rfl T.no_set (pv 1)) (nomark _)) (pw_or1 (pt_not (pt_val (pe_callB (cr_all rfl) (by rfl) T.no_all (by decide +kernel) (pa_cons (pe_lc (own := [("at", 5)]) (g := (gName 5)) (tt := tYes) rfl sc_shows_many.nd (pi_seq (pv 1)) (blkOk_by (own := [("at", 5)]) (N := ["rows", "stops", "one", "other", "mast", "at"]) (sc := defScope s_shows_many) (by decide +kernel)) (fun _ _ _ _ _ => (pg_name (i := 5) sc_shows_many.nd rfl (by first | exact Or.inl rfl | exact Or.inr rfl))) (fun _ _ _ _ _ => pts_nil) (fun _ _ _ _ _ => (pe_and (pe_chain op_le op_lt pe_int (pv 5) (pe_callB call_lenU (by rfl) T.no_len PySem.boot_len (pa_cons (pv 0) pa_nil))) (pe_one (pe_cmpR (op_neU hr.units) (pe_ix ix_seq (pv 0) (pv 5) (fun _ _ => rfl)) (pe_tup pa_nil) (nomark _)))))) pa_nil)))))))
      (pss_one (ps_ret pe_bl))
      pss_nil)
      (Evl.pss_cut (ps_for PassesOwn.never rfl (pi_zip (by rfl) T.no_zip (pa_cons (pv 1) (pa_cons (pe_slice sl_U (pv 1) (po_some pe_int) po_none) pa_nil))) (pg_tup rfl (pgs_cons (pg_name (i := 2) sc_shows_many.nd rfl (by first | exact Or.inl rfl | exact Or.inr rfl)) (pgs_cons (pg_name (i := 3) sc_shows_many.nd rfl (by first | exact Or.inl rfl | exact Or.inr rfl)) pgs_nil)))
      (pss_one (ps_if (pt_val (pe_callB (cr_any rfl) (by rfl) T.no_any (by decide +kernel) (pa_cons (pe_lc (own := [("mast", 4)]) (g := (gName 4)) (tt := tYes) rfl sc_shows_many.nd (pi_seq (pe_ix ix_seq (pv 0) (pv 2) (fun _ _ => rfl))) (blkOk_by (own := [("mast", 4)]) (N := ["rows", "stops", "one", "other", "mast", "at"]) (sc := defScope s_shows_many) (by decide +kernel)) (fun _ _ _ _ _ => (pg_name (i := 4) sc_shows_many.nd rfl (by first | exact Or.inl rfl | exact Or.inr rfl))) (fun _ _ _ _ _ => pts_nil) (fun _ _ _ _ _ => (pe_cmpR op_ge (pe_call (G_lasts) (hr.mono (by decide)) rfl T.mg_lasts T.k_lasts T.b_lasts .nil pass0 (pa_cons (pv 0) (pa_cons (pv 2) (pa_cons (pv 4) pa_nil)))) (pv 3) (nomark _)))) pa_nil)))
      (pss_one (ps_ret pe_bl))
      pss_nil)))
      (pss_one (ps_ret pe_bl))))
theorem ok_law_fewest {w : World} {K : PySem.W.Frag} {mg : Str → Option Value} {base : Heap} (T : Tx K mg)
    (R : ∀ Q ds M P Φ, ds.length = 1 → S_law_fewest K T ds M P → RtQ Q Φ P → Cont (rd_law_fewest_0 K T (fnD Q)) Φ (entry ["_law_rows", "_law_best", "_law_many", "_law_row", "_law_late", "_law_mast"] ds) M) :
    FnOk T.Pg w K mg base CX0 1 T.f_law_fewest T.fd_law_fewest ["_law_rows"] (spF 1 (S_law_fewest K T)) := by
  refine T.F_law_fewest.ok sc_law_fewest (fun vs H Q E h => spF_len h) fun cdv A outer s H vs Q E hr h => ⟨(rd_law_fewest_0 K T), ?_, fn_start h (R Q)⟩
  exact (pss_cons (ps_par (i := 1) (j := 2) (by rfl) sc_law_fewest.nd rfl rfl (by decide) rfl rfl (pa_cons pe_dnewK (pa_cons pe_int pa_nil)) (by rfl))
      (Evl.pss_cut (ps_for PassesOwn.never rfl (pi_seq (pv 0)) (pg_name (i := 3) sc_law_fewest.nd rfl (by first | exact Or.inl rfl | exact Or.inr rfl))
      (pss_cons (ps_set (i := 4) sc_law_fewest.nd rfl (by first | exact Or.inl rfl | exact Or.inr rfl) pe_dnewK)
      (Evl.pss_cut (ps_for PassesOwn.never rfl (pi_seq (pv 3)) (pg_name (i := 5) sc_law_fewest.nd rfl (by first | exact Or.inl rfl | exact Or.inr rfl))
      (pss_one (ps_dput (hu_of hr) (pv 4) (pv 5) (pe_callB (call_min2' rfl) (by rfl) T.no_min (by decide +kernel) (pa_cons (pe_dget2 (hu_of hr) (pv 1) (pv 5) (pe_op op_addU (pv 2) pe_int) ⟨rfl, rfl, rfl, rfl⟩) (pa_cons (pe_op op_addU (pv 2) pe_int) pa_nil))) rfl)))
      (pss_cons (ps_set (i := 1) sc_law_fewest.nd rfl (by first | exact Or.inl rfl | exact Or.inr rfl) (pv 4))
      (pss_one (ps_set (i := 2) sc_law_fewest.nd rfl (by first | exact Or.inl rfl | exact Or.inr rfl) (pe_ifExp (pt_cmpR (op_neX hr.units) (pv 4) pe_dnewK (nomark _)) (pe_callB (cr_min rfl) (by rfl) T.no_min (by decide +kernel) (pa_cons (pe_listVals rfl rfl T.no_list (pv 4)) pa_nil)) (pv 2))))))))
      (pss_one (ps_ret (pv 2)))))
theorem ok_law {w : World} {K : PySem.W.Frag} {mg : Str → Option Value} {base : Heap} (T : Tx K mg)
    (G_covers : FnOk T.Pg w K mg base CX0 1 T.f_covers T.fd_covers ["rows", "pieces"] (spF 2 (S_covers K T)))
    (G_law_fewest : FnOk T.Pg w K mg base CX0 1 T.f_law_fewest T.fd_law_fewest ["_law_rows"] (spF 1 (S_law_fewest K T)))
    (G_law_take : FnOk T.Pg w K mg base CX0 2 T.f_law_take T.fd_law_take ["_law_draw", "_law_many"] (spF 2 (S_law_take K T)))
    (G_pieces_of : FnOk T.Pg w K mg base CX0 2 T.f_pieces_of T.fd_pieces_of ["rows"] (spF 1 (S_pieces_of K T)))
    (G_shows_many : FnOk T.Pg w K mg base CX0 2 T.f_shows_many T.fd_shows_many ["rows", "stops"] (spF 2 (S_shows_many K T)))
    (G_stops_of : FnOk T.Pg w K mg base CX0 3 T.f_stops_of T.fd_stops_of ["rows"] (spF 1 (S_stops_of K T)))
    (R : ∀ Q ds M P Φ, ds.length = 1 → S_law K T ds M P → RtQ Q Φ P → Cont (rd_law_0 K T (fnD Q)) Φ (entry ["_law_script", "_law_draw", "_law_turn", "_law_rows", "_law_last", "_law_tick", "_law_pieces", "_law_stops", "_law_mast", "_law_first", "_law_end", "_law_at", "_law_changed", "_law_spoilt", "_law_wrong", "_law_piece"] ds) M) :
    FnOk T.Pg w K mg base CX0 4 T.f_law T.fd_law ["_law_script"] (spF 1 (S_law K T)) := by
  refine T.F_law.ok sc_law (fun vs H Q E h => spF_len h) fun cdv A outer s H vs Q E hr h => ⟨(rd_law_0 K T), ?_, fn_start h (R Q)⟩
  exact (pss_cons (ps_set (i := 1) sc_law.nd rfl (by first | exact Or.inl rfl | exact Or.inr rfl) (pe_lst (pa_cons (pv 0) (pa_cons pe_int pa_nil))))
      (Evl.pss_cut (ps_for PassesOwn.never rfl (pi_range1 rfl T.no_range (pa_cons pe_int pa_nil)) (pg_name (i := 2) sc_law.nd rfl (by first | exact Or.inl rfl | exact Or.inr rfl))
      (pss_cons (ps_asg (pe_tup (pa_cons (pe_lst pa_nil) (pa_cons (pe_lst pa_nil) pa_nil))) (pg_tup rfl (pgs_cons (pg_name (i := 3) sc_law.nd rfl (by first | exact Or.inl rfl | exact Or.inr rfl)) (pgs_cons (pg_name (i := 4) sc_law.nd rfl (by first | exact Or.inl rfl | exact Or.inr rfl)) pgs_nil))))
      (Evl.pss_cut (ps_for PassesOwn.never rfl (pi_range1 rfl T.no_range (pa_cons (pe_call (G_law_take) (hr.mono (by decide)) rfl T.mg_law_take T.k_law_take T.b_law_take .nil pass0 (pa_cons (pv 1) (pa_cons pe_int pa_nil))) pa_nil)) (pg_name (i := 5) sc_law.nd rfl (by first | exact Or.inl rfl | exact Or.inr rfl))
      (pss_cons (ps_set (i := 4) sc_law.nd rfl (by first | exact Or.inl rfl | exact Or.inr rfl) (pe_lc (own := [("_law_mast", 8)]) (g := (gName 8)) (tt := (tTest (tOp (rEqU K) (tOp (rI0 fun i j => .bl (decide (j < i))) (tCall (spF 2 (S_law_take K T)) [] E0 (tCons (tVar 1) (tCons (tC (.int 4)) tNil))) (tC (.int 0))) (tOp (rIn K false) (tVar 8) (tVar 4))))) rfl sc_law.nd (pi_seq (pe_tup (pa_cons pe_str (pa_cons pe_str (pa_cons pe_str (pa_cons pe_str pa_nil)))))) (blkOk_by (own := [("_law_mast", 8)]) (N := ["_law_script", "_law_draw", "_law_turn", "_law_rows", "_law_last", "_law_tick", "_law_pieces", "_law_stops", "_law_mast", "_law_first", "_law_end", "_law_at", "_law_changed", "_law_spoilt", "_law_wrong", "_law_piece"]) (sc := defScope s_law) (by decide +kernel)) (fun _ _ _ _ _ => (pg_name (i := 8) sc_law.nd rfl (by first | exact Or.inl rfl | exact Or.inr rfl))) (fun _ _ _ _ _ => (pts_one (pt_cmpR (op_eqU hr.units) (pe_cmpR op_gt (pe_call (G_law_take) (hr.mono (by decide)) rfl T.mg_law_take T.k_law_take T.b_law_take .nil pass0 (pa_cons (pv 1) (pa_cons pe_int pa_nil))) pe_int (nomark _)) (pe_cmpR op_in_seq (pv 8) (pv 4) (by first | rfl | with_unfolding_all rfl)) (nomark _)))) (fun _ _ _ _ _ => (pv 8))))
      (pss_one (ps_expr (pe_bm PySem.F.plainAttrs_list PySem.F.slot_list_append PySem.F.type_list_append mt_append (pv 3) (pa_cons (pe_callTy call_tuple_of' (by rfl) T.no_tuple (by decide +kernel) (pa_cons (pv 4) pa_nil)) pa_nil))))))
      (pss_cons (ps_par (i := 6) (j := 7) (by rfl) sc_law.nd rfl rfl (by decide) rfl rfl (pa_cons (pe_call (G_pieces_of) (hr.mono (by decide)) rfl T.mg_pieces_of T.k_pieces_of T.b_pieces_of .nil pass0 (pa_cons (pv 3) pa_nil)) (pa_cons (pe_call (G_stops_of) (hr.mono (by decide)) rfl T.mg_stops_of T.k_stops_of T.b_stops_of .nil pass0 (pa_cons (pv 3) pa_nil)) pa_nil)) (by rfl))
      (Evl.pss_cut (ps_if (PW.pt (pw_or (pt_not (pt_val (pe_call (G_covers) (hr.mono (by decide)) rfl T.mg_covers T.k_covers T.b_covers .nil pass0 (pa_cons (pv 3) (pa_cons (pv 6) pa_nil))))) (pw_or (pt_cmpR (op_neU hr.units) (pe_callB call_lenU (by rfl) T.no_len PySem.boot_len (pa_cons (pv 6) pa_nil)) (pe_call (G_law_fewest) (hr.mono (by decide)) rfl T.mg_law_fewest T.k_law_fewest T.b_law_fewest .nil pass0 (pa_cons (pv 3) pa_nil)) (nomark _)) (pw_or1 (pt_cmpR (op_neU hr.units) (pv 7) (pe_lc (own := [("_law_piece", 15)]) (g := (gName 15)) (tt := tYes) rfl sc_law.nd (pi_seq (pv 6)) (blkOk_by (own := [("_law_piece", 15)]) (N := ["_law_script", "_law_draw", "_law_turn", "_law_rows", "_law_last", "_law_tick", "_law_pieces", "_law_stops", "_law_mast", "_law_first", "_law_end", "_law_at", "_law_changed", "_law_spoilt", "_law_wrong", "_law_piece"]) (sc := defScope s_law) (by decide +kernel)) (fun _ _ _ _ _ => (pg_name (i := 15) sc_law.nd rfl (by first | exact Or.inl rfl | exact Or.inr rfl))) (fun _ _ _ _ _ => pts_nil) (fun _ _ _ _ _ => (pe_ix ix_seq (pv 15) pe_int (fun _ _ => rfl)))) (nomark _))))))
      (pss_one (ps_ret pe_bl))
      pss_nil)
      (Evl.pss_cut (ps_if (pt_not (pt_val (pe_call (G_shows_many) (hr.mono (by decide)) rfl T.mg_shows_many T.k_shows_many T.b_shows_many .nil pass0 (pa_cons (pv 3) (pa_cons (pv 7) pa_nil)))))
      (pss_one (ps_ret pe_bl))
      pss_nil)
      (Evl.pss_cut (ps_for PassesOwn.never rfl (pi_seq (pv 6)) (pg_tup rfl (pgs_cons (pg_name (i := 8) sc_law.nd rfl (by first | exact Or.inl rfl | exact Or.inr rfl)) (pgs_cons (pg_name (i := 9) sc_law.nd rfl (by first | exact Or.inl rfl | exact Or.inr rfl)) (pgs_cons (pg_name (i := 10) sc_law.nd rfl (by first | exact Or.inl rfl | exact Or.inr rfl)) pgs_nil))))
      (pss_one (ps_if (pt_val (pe_callB (cr_any rfl) (by rfl) T.no_any (by decide +kernel) (pa_cons (pe_lc (own := [("_law_at", 11)]) (g := (gName 11)) (tt := tYes) rfl sc_law.nd (pi_range2 rfl T.no_range (pa_cons (pv 9) (pa_cons (pe_op op_addU (pv 10) pe_int) pa_nil))) (blkOk_by (own := [("_law_at", 11)]) (N := ["_law_script", "_law_draw", "_law_turn", "_law_rows", "_law_last", "_law_tick", "_law_pieces", "_law_stops", "_law_mast", "_law_first", "_law_end", "_law_at", "_law_changed", "_law_spoilt", "_law_wrong", "_law_piece"]) (sc := defScope s_law) (by decide +kernel)) (fun _ _ _ _ _ => (pg_name (i := 11) sc_law.nd rfl (by first | exact Or.inl rfl | exact Or.inr rfl))) (fun _ _ _ _ _ => pts_nil) (fun _ _ _ _ _ => (pe_cmpR op_notIn_seq (pv 8) (pe_ix ix_seq (pv 3) (pv 11) (fun _ _ => rfl)) (by first | rfl | with_unfolding_all rfl)))) pa_nil)))
      (pss_one (ps_ret pe_bl))
      pss_nil)))
      (Evl.pss_cut (ps_for PassesOwn.never rfl (pi_range1 rfl T.no_range (pa_cons (pe_callB call_lenU (by rfl) T.no_len PySem.boot_len (pa_cons (pv 6) pa_nil)) pa_nil)) (pg_name (i := 11) sc_law.nd rfl (by first | exact Or.inl rfl | exact Or.inr rfl))
      (pss_one (ps_for PassesOwn.never rfl (pi_seq (pe_tup (pa_cons pe_str (pa_cons pe_str (pa_cons pe_str (pa_cons pe_str (pa_cons pe_str pa_nil))))))) (pg_name (i := 8) sc_law.nd rfl (by first | exact Or.inl rfl | exact Or.inr rfl))
      (pss_cons (ps_set (i := 12) sc_law.nd rfl (by first | exact Or.inl rfl | exact Or.inr rfl) (pe_op op_addU (pe_op op_addU (pe_slice sl_U (pv 6) po_none (po_some (pv 11))) (pe_lst (pa_cons (pe_op op_addU (pe_tup (pa_cons (pv 8) pa_nil)) (pe_slice sl_U (pe_ix ix_seq (pv 6) (pv 11) (fun _ _ => rfl)) (po_some pe_int) po_none)) pa_nil))) (pe_slice sl_U (pv 6) (po_some (pe_op op_addU (pv 11) pe_int)) po_none)))
      (pss_one (ps_if (pt_cmpR (op_neU hr.units) (pe_call (G_covers) (hr.mono (by decide)) rfl T.mg_covers T.k_covers T.b_covers .nil pass0 (pa_cons (pv 3) (pa_cons (pv 12) pa_nil))) (pe_callB (cr_all rfl) (by rfl) T.no_all (by decide +kernel) (pa_cons (pe_lc (own := [("_law_tick", 5)]) (g := (gName 5)) (tt := tYes) rfl sc_law.nd (pi_range2 rfl T.no_range (pa_cons (pe_ix ix_seq (pe_ix ix_seq (pv 6) (pv 11) (fun _ _ => rfl)) pe_int (fun _ _ => rfl)) (pa_cons (pe_op op_addU (pe_ix ix_seq (pe_ix ix_seq (pv 6) (pv 11) (fun _ _ => rfl)) pe_int (fun _ _ => rfl)) pe_int) pa_nil))) (blkOk_by (own := [("_law_tick", 5)]) (N := ["_law_script", "_law_draw", "_law_turn", "_law_rows", "_law_last", "_law_tick", "_law_pieces", "_law_stops", "_law_mast", "_law_first", "_law_end", "_law_at", "_law_changed", "_law_spoilt", "_law_wrong", "_law_piece"]) (sc := defScope s_law) (by decide +kernel)) (fun _ _ _ _ _ => (pg_name (i := 5) sc_law.nd rfl (by first | exact Or.inl rfl | exact Or.inr rfl))) (fun _ _ _ _ _ => pts_nil) (fun _ _ _ _ _ => (pe_cmpR op_in_seq (pv 8) (pe_ix ix_seq (pv 3) (pv 5) (fun _ _ => rfl)) (by first | rfl | with_unfolding_all rfl)))) pa_nil)) (nomark _))
      (pss_one (ps_ret pe_bl))
      pss_nil))))))
      (Evl.pss_cut (ps_for PassesOwn.never rfl (pi_seq (pe_tup (pa_cons (pe_slice sl_U (pv 6) (po_some pe_int) po_none) (pa_cons (pe_slice sl_U (pv 6) po_none (po_some (pe_un un_neg pe_int))) (pa_cons (pe_revL (pv 6)) (pa_cons (pe_op op_addU (pv 6) (pe_slice sl_U (pv 6) po_none (po_some pe_int))) pa_nil)))))) (pg_name (i := 13) sc_law.nd rfl (by first | exact Or.inl rfl | exact Or.inr rfl))
      (pss_one (ps_if (PW.pt (pw_and (pt_cmpR (op_neU hr.units) (pv 13) (pv 6) (nomark _)) (pw_and1 (pt_val (pe_call (G_covers) (hr.mono (by decide)) rfl T.mg_covers T.k_covers T.b_covers .nil pass0 (pa_cons (pv 3) (pa_cons (pv 13) pa_nil)))))))
      (pss_one (ps_ret pe_bl))
      pss_nil)))
      (pss_cons (ps_setLc (i := 14) (own := [("_law_at", 11)]) (g := (gName 11)) (tt := (tTest (tOp (rEqU K) (tOp (rIx K) (tVar 3) (tVar 11)) (tTup tNil)))) rfl sc_law.nd rfl rfl (sw_true rfl rfl rfl (by decide +kernel)) (pi_range1 rfl T.no_range (pa_cons (pe_callB call_lenU (by rfl) T.no_len PySem.boot_len (pa_cons (pv 3) pa_nil)) pa_nil)) (blkOk_by (own := [("_law_at", 11)]) (N := ["_law_script", "_law_draw", "_law_turn", "_law_rows", "_law_last", "_law_tick", "_law_pieces", "_law_stops", "_law_mast", "_law_first", "_law_end", "_law_at", "_law_changed", "_law_spoilt", "_law_wrong", "_law_piece"]) (sc := defScope s_law) (by decide +kernel)) (fun _ _ _ _ _ => (pg_name (i := 11) sc_law.nd rfl (by first | exact Or.inl rfl | exact Or.inr rfl))) (fun _ _ _ _ _ => (pts_one (pt_cmpR (op_eqU hr.units) (pe_ix ix_seq (pv 3) (pv 11) (fun _ _ => rfl)) (pe_tup pa_nil) (nomark _)))) (fun _ _ _ _ _ => (pv 11)))
      (Evl.pss_cut (ps_if (PW.pt (pw_and (pt_cmpR (op_neU hr.units) (pv 14) (pe_lst pa_nil) (nomark _)) (pw_and1 (pt_val (pe_call (G_shows_many) (hr.mono (by decide)) rfl T.mg_shows_many T.k_shows_many T.b_shows_many .nil pass0 (pa_cons (pv 3) (pa_cons (pe_callB cr_sortedI (by rfl) T.no_sorted (by decide +kernel) (pa_cons (pe_op op_addU (pv 7) (pe_slice sl_U (pv 14) po_none (po_some pe_int))) pa_nil)) pa_nil)))))))
      (pss_one (ps_ret pe_bl))
      pss_nil)
      (Evl.pss_cut (ps_if (PW.pt (pw_or (pt_val (pe_call (G_shows_many) (hr.mono (by decide)) rfl T.mg_shows_many T.k_shows_many T.b_shows_many .nil pass0 (pa_cons (pv 3) (pa_cons (pe_op op_addU (pv 7) (pe_lst (pa_cons (pe_callB call_lenU (by rfl) T.no_len PySem.boot_len (pa_cons (pv 3) pa_nil)) pa_nil))) pa_nil)))) (pw_or (pt_val (pe_call (G_shows_many) (hr.mono (by decide)) rfl T.mg_shows_many T.k_shows_many T.b_shows_many .nil pass0 (pa_cons (pv 3) (pa_cons (pe_op op_addU (pe_lst (pa_cons (pe_un un_neg pe_int) pa_nil)) (pv 7)) pa_nil)))) (pw_or1 (PW.pt (pw_and (pt_cmpR op_gt (pe_callB call_lenU (by rfl) T.no_len PySem.boot_len (pa_cons (pv 7) pa_nil)) pe_int (nomark _)) (pw_and1 (pt_val (pe_call (G_shows_many) (hr.mono (by decide)) rfl T.mg_shows_many T.k_shows_many T.b_shows_many .nil pass0 (pa_cons (pv 3) (pa_cons (pe_revL (pv 7)) pa_nil)))))))))))
      (pss_one (ps_ret pe_bl))
      pss_nil)
      (pss_one (ps_for PassesOwn.never rfl (pi_range1 rfl T.no_range (pa_cons (pe_callB call_lenU (by rfl) T.no_len PySem.boot_len (pa_cons (pv 3) pa_nil)) pa_nil)) (pg_name (i := 11) sc_law.nd rfl (by first | exact Or.inl rfl | exact Or.inr rfl))
      (pss_one (ps_if (PW.pt (pw_and (pt_cmpR op_notIn_seq (pv 11) (pv 7) (by first | rfl | with_unfolding_all rfl)) (pw_and (pt_cmpR (op_neU hr.units) (pe_ix ix_seq (pv 3) (pv 11) (fun _ _ => rfl)) (pe_tup pa_nil) (nomark _)) (pw_and1 (pt_val (pe_call (G_shows_many) (hr.mono (by decide)) rfl T.mg_shows_many T.k_shows_many T.b_shows_many .nil pass0 (pa_cons (pv 3) (pa_cons (pe_callB cr_sortedI (by rfl) T.no_sorted (by decide +kernel) (pa_cons (pe_op op_addU (pv 7) (pe_lst (pa_cons (pv 11) pa_nil))) pa_nil)) pa_nil))))))))
      (pss_one (ps_ret pe_bl))
      pss_nil))))))))))))))))
      (pss_one (ps_ret pe_bl))))
def spLaw (K : PySem.W.Frag) : Sp := spF 1 (SLaw K)
theorem spLaw_intro {K : PySem.W.Frag} {H : Hp} {a : Addr} {ns : List Int} (hl : ns.length ≤ 63) (hS : SqL K H a (ns.map V.int)) : spLaw K [.ref a] H (fun v _ => v = .bl true) fun _ _ _ => False :=
  ⟨Fr.top, [], [], [vscr K ns], [], fun x _ => x = dat (.bool true), ⟨H, fun _ _ h => h, ⟨trivial, .cons ⟨a, rfl, hS⟩ .nil⟩, ⟨rfl, fun i x h => nomatch h⟩, List.nodup_nil, fun c hc => nomatch hc⟩, rfl, ⟨ns, rfl, rfl, hl, fun _ => rfl⟩, fun x M' v H' hx ⟨F, s⟩ => by
    subst hx
    cases s.fr.2
    rfl⟩
theorem law_ok {w : World} {K : PySem.W.Frag} {mg : Str → Option Value} {base : Heap} (T : Tx K mg) : FnOk T.Pg w K mg base CX0 4 T.f_law T.fd_law ["_law_script"] (spLaw K) := by
  have H_lasts := ok_lasts (w := w) (base := base) T (R := lasts_body T)
  have H_pieces_of := ok_pieces_of (w := w) (base := base) T (G_lasts := H_lasts) (R := pieces_of_body T)
  have H_covers := ok_covers (w := w) (base := base) T (R := covers_body T)
  have H_stops_of := ok_stops_of (w := w) (base := base) T (G_pieces_of := H_pieces_of) (R := stops_of_body T)
  have H_shows_many := ok_shows_many (w := w) (base := base) T (G_lasts := H_lasts) (R := shows_many_body T)
  have H_law_number := ok_law_number (w := w) (base := base) T (R := law_number_body T)
  have H_law_take := ok_law_take (w := w) (base := base) T (G_law_number := H_law_number) (R := law_take_body T)
  have H_law_fewest := ok_law_fewest (w := w) (base := base) T (R := law_fewest_body T)
  have H_law := ok_law (w := w) (base := base) T (G_covers := H_covers) (G_law_fewest := H_law_fewest) (G_law_take := H_law_take) (G_pieces_of := H_pieces_of) (G_shows_many := H_shows_many) (G_stops_of := H_stops_of) (R := law_body T)
  exact H_law
theorem all_mk {l : PySem.W.OpenLaw} {w : World} {K : PySem.W.Frag} {h : Heap} {mg : Str → Option Value} {fa f_lasts f_pieces_of f_covers f_stops_of f_shows_many f_law_number f_law_take f_law_fewest f_law : Addr} (X : K.In h) (G : h.Ns mainGlobals mg) (hfa : mg "law" = some (.ref fa))
    {od_lasts an_lasts od_pieces_of an_pieces_of od_covers an_covers od_stops_of an_stops_of od_shows_many an_shows_many od_law_number an_law_number od_law_take an_law_take od_law_fewest an_law_fewest od_law an_law : Option Addr} {sl_lasts sl_pieces_of sl_covers sl_stops_of sl_shows_many sl_law_number sl_law_take sl_law_fewest sl_law : Array (Option Value)} {oc_lasts kV_lasts dc_lasts pm_lasts cd_lasts ct_lasts oc_pieces_of kV_pieces_of dc_pieces_of pm_pieces_of cd_pieces_of ct_pieces_of oc_covers kV_covers dc_covers pm_covers cd_covers ct_covers oc_stops_of kV_stops_of dc_stops_of pm_stops_of cd_stops_of ct_stops_of oc_shows_many kV_shows_many dc_shows_many pm_shows_many cd_shows_many ct_shows_many oc_law_number kV_law_number dc_law_number pm_law_number cd_law_number ct_law_number oc_law_take kV_law_take dc_law_take pm_law_take cd_law_take ct_law_take oc_law_fewest kV_law_fewest dc_law_fewest pm_law_fewest cd_law_fewest ct_law_fewest oc_law kV_law dc_law pm_law cd_law ct_law : Value}
    (a_lasts : PySem.W.nsIn K mainGlobals "lasts" = some (some (.ref f_lasts)))
    (i_lasts : PySem.W.isFn K (.ref f_lasts) = true)
    (l_lasts : K.lookup f_lasts = some ⟨oc_lasts, od_lasts, .func (PySem.W.fnOf "lasts" "lasts" (defArgs s_lasts) (defBody s_lasts) (defScope s_lasts) .none kV_lasts dc_lasts pm_lasts an_lasts cd_lasts ct_lasts), sl_lasts⟩)
    (c_lasts : PySem.W.codeIn K cd_lasts "lasts" = true)
    (k_lasts : PySem.W.keepIn K (.ref f_lasts) = true)
    (a_pieces_of : PySem.W.nsIn K mainGlobals "pieces_of" = some (some (.ref f_pieces_of)))
    (i_pieces_of : PySem.W.isFn K (.ref f_pieces_of) = true)
    (l_pieces_of : K.lookup f_pieces_of = some ⟨oc_pieces_of, od_pieces_of, .func (PySem.W.fnOf "pieces_of" "pieces_of" (defArgs s_pieces_of) (defBody s_pieces_of) (defScope s_pieces_of) .none kV_pieces_of dc_pieces_of pm_pieces_of an_pieces_of cd_pieces_of ct_pieces_of), sl_pieces_of⟩)
    (c_pieces_of : PySem.W.codeIn K cd_pieces_of "pieces_of" = true)
    (k_pieces_of : PySem.W.keepIn K (.ref f_pieces_of) = true)
    (a_covers : PySem.W.nsIn K mainGlobals "covers" = some (some (.ref f_covers)))
    (i_covers : PySem.W.isFn K (.ref f_covers) = true)
    (l_covers : K.lookup f_covers = some ⟨oc_covers, od_covers, .func (PySem.W.fnOf "covers" "covers" (defArgs s_covers) (defBody s_covers) (defScope s_covers) .none kV_covers dc_covers pm_covers an_covers cd_covers ct_covers), sl_covers⟩)
    (c_covers : PySem.W.codeIn K cd_covers "covers" = true)
    (k_covers : PySem.W.keepIn K (.ref f_covers) = true)
    (a_stops_of : PySem.W.nsIn K mainGlobals "stops_of" = some (some (.ref f_stops_of)))
    (i_stops_of : PySem.W.isFn K (.ref f_stops_of) = true)
    (l_stops_of : K.lookup f_stops_of = some ⟨oc_stops_of, od_stops_of, .func (PySem.W.fnOf "stops_of" "stops_of" (defArgs s_stops_of) (defBody s_stops_of) (defScope s_stops_of) .none kV_stops_of dc_stops_of pm_stops_of an_stops_of cd_stops_of ct_stops_of), sl_stops_of⟩)
    (c_stops_of : PySem.W.codeIn K cd_stops_of "stops_of" = true)
    (k_stops_of : PySem.W.keepIn K (.ref f_stops_of) = true)
    (a_shows_many : PySem.W.nsIn K mainGlobals "shows_many" = some (some (.ref f_shows_many)))
    (i_shows_many : PySem.W.isFn K (.ref f_shows_many) = true)
    (l_shows_many : K.lookup f_shows_many = some ⟨oc_shows_many, od_shows_many, .func (PySem.W.fnOf "shows_many" "shows_many" (defArgs s_shows_many) (defBody s_shows_many) (defScope s_shows_many) .none kV_shows_many dc_shows_many pm_shows_many an_shows_many cd_shows_many ct_shows_many), sl_shows_many⟩)
    (c_shows_many : PySem.W.codeIn K cd_shows_many "shows_many" = true)
    (k_shows_many : PySem.W.keepIn K (.ref f_shows_many) = true)
    (a_law_number : PySem.W.nsIn K mainGlobals "_law_number" = some (some (.ref f_law_number)))
    (i_law_number : PySem.W.isFn K (.ref f_law_number) = true)
    (l_law_number : K.lookup f_law_number = some ⟨oc_law_number, od_law_number, .func (PySem.W.fnOf "_law_number" "_law_number" (defArgs s_law_number) (defBody s_law_number) (defScope s_law_number) .none kV_law_number dc_law_number pm_law_number an_law_number cd_law_number ct_law_number), sl_law_number⟩)
    (c_law_number : PySem.W.codeIn K cd_law_number "_law_number" = true)
    (k_law_number : PySem.W.keepIn K (.ref f_law_number) = true)
    (a_law_take : PySem.W.nsIn K mainGlobals "_law_take" = some (some (.ref f_law_take)))
    (i_law_take : PySem.W.isFn K (.ref f_law_take) = true)
    (l_law_take : K.lookup f_law_take = some ⟨oc_law_take, od_law_take, .func (PySem.W.fnOf "_law_take" "_law_take" (defArgs s_law_take) (defBody s_law_take) (defScope s_law_take) .none kV_law_take dc_law_take pm_law_take an_law_take cd_law_take ct_law_take), sl_law_take⟩)
    (c_law_take : PySem.W.codeIn K cd_law_take "_law_take" = true)
    (k_law_take : PySem.W.keepIn K (.ref f_law_take) = true)
    (a_law_fewest : PySem.W.nsIn K mainGlobals "_law_fewest" = some (some (.ref f_law_fewest)))
    (i_law_fewest : PySem.W.isFn K (.ref f_law_fewest) = true)
    (l_law_fewest : K.lookup f_law_fewest = some ⟨oc_law_fewest, od_law_fewest, .func (PySem.W.fnOf "_law_fewest" "_law_fewest" (defArgs s_law_fewest) (defBody s_law_fewest) (defScope s_law_fewest) .none kV_law_fewest dc_law_fewest pm_law_fewest an_law_fewest cd_law_fewest ct_law_fewest), sl_law_fewest⟩)
    (c_law_fewest : PySem.W.codeIn K cd_law_fewest "_law_fewest" = true)
    (k_law_fewest : PySem.W.keepIn K (.ref f_law_fewest) = true)
    (a_law : PySem.W.nsIn K mainGlobals "law" = some (some (.ref f_law)))
    (i_law : PySem.W.isFn K (.ref f_law) = true)
    (l_law : K.lookup f_law = some ⟨oc_law, od_law, .func (PySem.W.fnOf "law" "law" (defArgs s_law) (defBody s_law) (defScope s_law) .none kV_law dc_law pm_law an_law cd_law ct_law), sl_law⟩)
    (c_law : PySem.W.codeIn K cd_law "law" = true)
    (k_law : PySem.W.keepIn K (.ref f_law) = true)
    (z_abs : PySem.W.nsIn K mainGlobals "abs" = some none)
    (z_all : PySem.W.nsIn K mainGlobals "all" = some none)
    (z_any : PySem.W.nsIn K mainGlobals "any" = some none)
    (z_enumerate : PySem.W.nsIn K mainGlobals "enumerate" = some none)
    (z_int : PySem.W.nsIn K mainGlobals "int" = some none)
    (z_len : PySem.W.nsIn K mainGlobals "len" = some none)
    (z_list : PySem.W.nsIn K mainGlobals "list" = some none)
    (z_min : PySem.W.nsIn K mainGlobals "min" = some none)
    (z_range : PySem.W.nsIn K mainGlobals "range" = some none)
    (z_set : PySem.W.nsIn K mainGlobals "set" = some none)
    (z_sorted : PySem.W.nsIn K mainGlobals "sorted" = some none)
    (z_tuple : PySem.W.nsIn K mainGlobals "tuple" = some none)
    (z_zip : PySem.W.nsIn K mainGlobals "zip" = some none)
    : ∃ fd : FuncData, (∀ (s : Shared) (v : Value), BindsTo s fd ⟨[v], []⟩ [("_law_script", v)]) ∧ ∀ base : Heap, K.In base → base.Ns mainGlobals mg → FnOk l.prog w K mg base CX0 4 fa fd ["_law_script"] (spLaw K) := by
  have e := hfa.symm.trans (PySem.W.mg_of X G a_law)
  obtain rfl : f_law = fa := by cases e; rfl
  let T : Tx K mg := {
    Pg := l.prog
    f_lasts := f_lasts
    fd_lasts := PySem.W.fnOf "lasts" "lasts" (defArgs s_lasts) (defBody s_lasts) (defScope s_lasts) .none kV_lasts dc_lasts pm_lasts an_lasts cd_lasts ct_lasts
    f_pieces_of := f_pieces_of
    fd_pieces_of := PySem.W.fnOf "pieces_of" "pieces_of" (defArgs s_pieces_of) (defBody s_pieces_of) (defScope s_pieces_of) .none kV_pieces_of dc_pieces_of pm_pieces_of an_pieces_of cd_pieces_of ct_pieces_of
    f_covers := f_covers
    fd_covers := PySem.W.fnOf "covers" "covers" (defArgs s_covers) (defBody s_covers) (defScope s_covers) .none kV_covers dc_covers pm_covers an_covers cd_covers ct_covers
    f_stops_of := f_stops_of
    fd_stops_of := PySem.W.fnOf "stops_of" "stops_of" (defArgs s_stops_of) (defBody s_stops_of) (defScope s_stops_of) .none kV_stops_of dc_stops_of pm_stops_of an_stops_of cd_stops_of ct_stops_of
    f_shows_many := f_shows_many
    fd_shows_many := PySem.W.fnOf "shows_many" "shows_many" (defArgs s_shows_many) (defBody s_shows_many) (defScope s_shows_many) .none kV_shows_many dc_shows_many pm_shows_many an_shows_many cd_shows_many ct_shows_many
    f_law_number := f_law_number
    fd_law_number := PySem.W.fnOf "_law_number" "_law_number" (defArgs s_law_number) (defBody s_law_number) (defScope s_law_number) .none kV_law_number dc_law_number pm_law_number an_law_number cd_law_number ct_law_number
    f_law_take := f_law_take
    fd_law_take := PySem.W.fnOf "_law_take" "_law_take" (defArgs s_law_take) (defBody s_law_take) (defScope s_law_take) .none kV_law_take dc_law_take pm_law_take an_law_take cd_law_take ct_law_take
    f_law_fewest := f_law_fewest
    fd_law_fewest := PySem.W.fnOf "_law_fewest" "_law_fewest" (defArgs s_law_fewest) (defBody s_law_fewest) (defScope s_law_fewest) .none kV_law_fewest dc_law_fewest pm_law_fewest an_law_fewest cd_law_fewest ct_law_fewest
    f_law := f_law
    fd_law := PySem.W.fnOf "law" "law" (defArgs s_law) (defBody s_law) (defScope s_law) .none kV_law dc_law pm_law an_law cd_law ct_law
    F_lasts := fun_mk (st := s_lasts) l_lasts c_lasts k_lasts
    k_lasts := k_lasts
    b_lasts := (fun_mk (st := s_lasts) l_lasts c_lasts k_lasts).binds (ps := ["rows", "at", "mast"]) fun _ _ _ _ _ _ us hl => match us, hl with | [_, _, _], _ => rfl
    mg_lasts := PySem.W.mg_of X G a_lasts
    F_pieces_of := fun_mk (st := s_pieces_of) l_pieces_of c_pieces_of k_pieces_of
    k_pieces_of := k_pieces_of
    b_pieces_of := (fun_mk (st := s_pieces_of) l_pieces_of c_pieces_of k_pieces_of).binds (ps := ["rows"]) fun _ _ _ _ _ _ us hl => match us, hl with | [_], _ => rfl
    mg_pieces_of := PySem.W.mg_of X G a_pieces_of
    F_covers := fun_mk (st := s_covers) l_covers c_covers k_covers
    k_covers := k_covers
    b_covers := (fun_mk (st := s_covers) l_covers c_covers k_covers).binds (ps := ["rows", "pieces"]) fun _ _ _ _ _ _ us hl => match us, hl with | [_, _], _ => rfl
    mg_covers := PySem.W.mg_of X G a_covers
    F_stops_of := fun_mk (st := s_stops_of) l_stops_of c_stops_of k_stops_of
    k_stops_of := k_stops_of
    b_stops_of := (fun_mk (st := s_stops_of) l_stops_of c_stops_of k_stops_of).binds (ps := ["rows"]) fun _ _ _ _ _ _ us hl => match us, hl with | [_], _ => rfl
    mg_stops_of := PySem.W.mg_of X G a_stops_of
    F_shows_many := fun_mk (st := s_shows_many) l_shows_many c_shows_many k_shows_many
    k_shows_many := k_shows_many
    b_shows_many := (fun_mk (st := s_shows_many) l_shows_many c_shows_many k_shows_many).binds (ps := ["rows", "stops"]) fun _ _ _ _ _ _ us hl => match us, hl with | [_, _], _ => rfl
    mg_shows_many := PySem.W.mg_of X G a_shows_many
    F_law_number := fun_mk (st := s_law_number) l_law_number c_law_number k_law_number
    k_law_number := k_law_number
    b_law_number := (fun_mk (st := s_law_number) l_law_number c_law_number k_law_number).binds (ps := ["_law_script", "_law_index"]) fun _ _ _ _ _ _ us hl => match us, hl with | [_, _], _ => rfl
    mg_law_number := PySem.W.mg_of X G a_law_number
    F_law_take := fun_mk (st := s_law_take) l_law_take c_law_take k_law_take
    k_law_take := k_law_take
    b_law_take := (fun_mk (st := s_law_take) l_law_take c_law_take k_law_take).binds (ps := ["_law_draw", "_law_many"]) fun _ _ _ _ _ _ us hl => match us, hl with | [_, _], _ => rfl
    mg_law_take := PySem.W.mg_of X G a_law_take
    F_law_fewest := fun_mk (st := s_law_fewest) l_law_fewest c_law_fewest k_law_fewest
    k_law_fewest := k_law_fewest
    b_law_fewest := (fun_mk (st := s_law_fewest) l_law_fewest c_law_fewest k_law_fewest).binds (ps := ["_law_rows"]) fun _ _ _ _ _ _ us hl => match us, hl with | [_], _ => rfl
    mg_law_fewest := PySem.W.mg_of X G a_law_fewest
    F_law := fun_mk (st := s_law) l_law c_law k_law
    k_law := k_law
    b_law := (fun_mk (st := s_law) l_law c_law k_law).binds (ps := ["_law_script"]) fun _ _ _ _ _ _ us hl => match us, hl with | [_], _ => rfl
    mg_law := PySem.W.mg_of X G a_law
    no_abs := PySem.W.mg_none_of X G z_abs
    no_all := PySem.W.mg_none_of X G z_all
    no_any := PySem.W.mg_none_of X G z_any
    no_enumerate := PySem.W.mg_none_of X G z_enumerate
    no_int := PySem.W.mg_none_of X G z_int
    no_len := PySem.W.mg_none_of X G z_len
    no_list := PySem.W.mg_none_of X G z_list
    no_min := PySem.W.mg_none_of X G z_min
    no_range := PySem.W.mg_none_of X G z_range
    no_set := PySem.W.mg_none_of X G z_set
    no_sorted := PySem.W.mg_none_of X G z_sorted
    no_tuple := PySem.W.mg_none_of X G z_tuple
    no_zip := PySem.W.mg_none_of X G z_zip }
  exact ⟨T.fd_law, fun s v => .of_eq rfl, fun base _ _ => law_ok T⟩
theorem walk {l : PySem.W.OpenLaw} {q : Program} {loose : List Str} {XP : (Str → Option Value) → Heap → Prop} {YP : World → Heap → Prop} {d : DefRec} {K : Params → PySem.W.Frag} (hn : l.most = some 63) (hdf : d.params.defaults = [])
    (hY : ∀ (w : World) (h : Heap), YP w h → (K w.params).In h)
    (F : ∀ (w : World) (mg : Str → Option Value) (fa : Addr) (h : Heap), (K w.params).In h → h.Ns mainGlobals mg → mg d.name = some (.ref fa) →
      ∃ fd : FuncData, (∀ (s : Shared) (u : Value), BindsTo s fd ⟨[u], []⟩ [("_law_script", u)]) ∧ ∀ base : Heap, (K w.params).In base → base.Ns mainGlobals mg → FnOk l.prog w (K w.params) mg base CX0 4 fa fd ["_law_script"] (spLaw (K w.params))) :
    PySem.W.WalkO q loose XP YP l.row.toRowW d [] (fun f vs => PySem.call f vs) :=
  L2.walk_of (n := 63) (k := 4) (x := "_law_script") (CX := fun _ => CX0) (sp := fun w => spLaw (K w.params)) hn (by decide) hdf ⟨rfl, by decide, by decide⟩ hY F (fun _ H a ns hl _ hS => spLaw_intro hl hS) fun _ _ _ _ _ z => z
end Lw
open PySem PySem.W PyProof.Rows
set_option maxRecDepth 100000 in
set_option maxHeartbeats 0 in
theorem PySem.Challenge.cw_mastcalls_k37_whole_tours_holds : PySem.Challenge.rw_mastcalls_k37_whole_tours.Holds := by
  w_on; o_law; k_head; (case hw => w_witness2)
  k_fill
  refine Lw.walk (l := PySem.Challenge.rw_mastcalls_k37_whole_tours) rfl rfl (fun w h Y => PySem.W.kIn_of Y) ?F
  case F =>
    intro w mg fa h KX G hmg
    refine' Lw.all_mk KX G hmg ?a_lasts ?i_lasts ?l_lasts ?c_lasts ?k_lasts ?a_pieces_of ?i_pieces_of ?l_pieces_of ?c_pieces_of ?k_pieces_of ?a_covers ?i_covers ?l_covers ?c_covers ?k_covers ?a_stops_of ?i_stops_of ?l_stops_of ?c_stops_of ?k_stops_of ?a_shows_many ?i_shows_many ?l_shows_many ?c_shows_many ?k_shows_many ?a_law_number ?i_law_number ?l_law_number ?c_law_number ?k_law_number ?a_law_take ?i_law_take ?l_law_take ?c_law_take ?k_law_take ?a_law_fewest ?i_law_fewest ?l_law_fewest ?c_law_fewest ?k_law_fewest ?a_law ?i_law ?l_law ?c_law ?k_law ?z_abs ?z_all ?z_any ?z_enumerate ?z_int ?z_len ?z_list ?z_min ?z_range ?z_set ?z_sorted ?z_tuple ?z_zip
    (case a_lasts => k_is)
    (case i_lasts => k_is)
    (case l_lasts => k_is)
    (case c_lasts => k_is)
    (case k_lasts => k_is)
    (case a_pieces_of => k_is)
    (case i_pieces_of => k_is)
    (case l_pieces_of => k_is)
    (case c_pieces_of => k_is)
    (case k_pieces_of => k_is)
    (case a_covers => k_is)
    (case i_covers => k_is)
    (case l_covers => k_is)
    (case c_covers => k_is)
    (case k_covers => k_is)
    (case a_stops_of => k_is)
    (case i_stops_of => k_is)
    (case l_stops_of => k_is)
    (case c_stops_of => k_is)
    (case k_stops_of => k_is)
    (case a_shows_many => k_is)
    (case i_shows_many => k_is)
    (case l_shows_many => k_is)
    (case c_shows_many => k_is)
    (case k_shows_many => k_is)
    (case a_law_number => k_is)
    (case i_law_number => k_is)
    (case l_law_number => k_is)
    (case c_law_number => k_is)
    (case k_law_number => k_is)
    (case a_law_take => k_is)
    (case i_law_take => k_is)
    (case l_law_take => k_is)
    (case c_law_take => k_is)
    (case k_law_take => k_is)
    (case a_law_fewest => k_is)
    (case i_law_fewest => k_is)
    (case l_law_fewest => k_is)
    (case c_law_fewest => k_is)
    (case k_law_fewest => k_is)
    (case a_law => k_is)
    (case i_law => k_is)
    (case l_law => k_is)
    (case c_law => k_is)
    (case k_law => k_is)
    (case z_abs => k_is)
    (case z_all => k_is)
    (case z_any => k_is)
    (case z_enumerate => k_is)
    (case z_int => k_is)
    (case z_len => k_is)
    (case z_list => k_is)
    (case z_min => k_is)
    (case z_range => k_is)
    (case z_set => k_is)
    (case z_sorted => k_is)
    (case z_tuple => k_is)
    (case z_zip => k_is)
