import PyProof.Rows.All
import Wide.All
import OpenK.AllK
import Wide.FinOn
import HandS.ForMost
import HandS.Walk
import HandS.Flow
import HandS.Style
import HandS.TupAny
import HandS.Evl
import HandS.Deep
import HandS.Dict
import HandS.DictComp
import KE.KExcSuper
import HandS.ExcSuper
import HandS.ExcField
import HandS.ExcCtx
import HandS.WordsExc
import HandS.IsInst
import HandS.Star
import HandS.DictEq
import HandS.DeepEq
import KE.KEqDict
import KE.KDictPairs
import PySem.Challenge.RW_mastcalls_k13_whole_lists
set_option Elab.async false
set_option linter.all false
set_option maxRecDepth 100000
set_option maxHeartbeats 2000000
/-! Sx: a state by descriptions: frozen data, owned cells; what an expression evaluates to; statements. -/
namespace Sx
open PySem L2 Evl

/-! ### the frozen part may grow, dicts in it may be locked and unlocked -/
def plainHO (_ : HO) : Bool := true
structure Fx (F F' : Hp) : Prop where
  pl : ∀ a u, F a = some u → plainHO u = true → F' a = some u
theorem Fx.refl (F : Hp) : Fx F F := ⟨fun _ _ h _ => h⟩
theorem Fx.trans {F F1 F2 : Hp} (a : Fx F F1) (b : Fx F1 F2) : Fx F F2 := ⟨fun x u h p => b.pl x u (a.pl x u h p) p⟩
theorem Fx.of {F F' : Hp} (h : Ex F F') : Fx F F' := ⟨fun a u e _ => h a u e⟩

structure VD where
  P : Hp → V → Prop
  mono : ∀ {F F' : Hp} {v : V}, Fx F F' → P F v → P F' v
structure CD where
  P : Hp → Addr → HO → Prop
  mono : ∀ {F F' : Hp} {p : Addr} {o : HO}, Fx F F' → F' p = F p → P F p o → P F' p o
abbrev Env := List (Option VD)
abbrev Cells := List (Addr × CD)
/-- what stands besides: of the frozen part, and more cells -/
structure Fr where
  N : Cells
  P : Hp → Prop
  mono : ∀ {F F' : Hp}, Fx F F' → P F → P F'

/-! ### data -/
mutual
inductive Rp (F : Hp) : V → PyData → Prop
  | non : Rp F .non .none
  | bl (b : Bool) : Rp F (.bl b) (.bool b)
  | int (i : Int) : Rp F (.int i) (.int i)
  | str (x : Str) : Rp F (.str x) (.str x)
  | lst {a : Addr} {xs : List V} {ds : List PyData} : F a = some (.lst xs) → RpL F xs ds → Rp F (.ref a) (.list ds)
  | tup {a : Addr} {xs : List V} {ds : List PyData} : F a = some (.tup xs) → RpL F xs ds → Rp F (.ref a) (.tuple ds)
inductive RpL (F : Hp) : List V → List PyData → Prop
  | nil : RpL F [] []
  | cons {v : V} {vs : List V} {d : PyData} {ds : List PyData} : Rp F v d → RpL F vs ds → RpL F (v :: vs) (d :: ds)
end
mutual
theorem Rp.mono {F F' : Hp} (e : Fx F F') : ∀ (d : PyData) {v : V}, Rp F v d → Rp F' v d
  | .none, _, h => by cases h; exact .non
  | .bool b, _, h => by cases h; exact .bl b
  | .int i, _, h => by cases h; exact .int i
  | .str x, _, h => by cases h; exact .str x
  | .list ds, _, h => by
    cases h with
    | lst h1 h2 => exact .lst (e.pl _ _ h1 rfl) (RpL.mono e ds h2)
  | .tuple ds, _, h => by
    cases h with
    | tup h1 h2 => exact .tup (e.pl _ _ h1 rfl) (RpL.mono e ds h2)
  | .dict _, _, h => by cases h
theorem RpL.mono {F F' : Hp} (e : Fx F F') : ∀ (ds : List PyData) {vs : List V}, RpL F vs ds → RpL F' vs ds
  | [], _, h => by cases h; exact .nil
  | d :: ds, _, h => by
    cases h with
    | cons h1 h2 => exact .cons (Rp.mono e d h1) (RpL.mono e ds h2)
end
mutual
theorem Rp.dp {K : PySem.W.Frag} {F H : Hp} (e : Ex F H) : ∀ (d : PyData) {v : V}, Rp F v d → Dp K H v d
  | .none, _, h => by cases h; exact .non
  | .bool b, _, h => by cases h; exact .bl b
  | .int i, _, h => by cases h; exact .int i
  | .str x, _, h => by cases h; exact .str x
  | .list ds, _, h => by
    cases h with
    | lst h1 h2 => exact .lst (.inl (.inl (e _ _ h1))) (RpL.dp e ds h2)
  | .tuple ds, _, h => by
    cases h with
    | tup h1 h2 => exact .tup (.inl (.inl (e _ _ h1))) (RpL.dp e ds h2)
  | .dict _, _, h => by cases h
theorem RpL.dp {K : PySem.W.Frag} {F H : Hp} (e : Ex F H) : ∀ (ds : List PyData) {vs : List V}, RpL F vs ds → DpAll K H vs ds
  | [], _, h => by cases h; exact .nil
  | d :: ds, _, h => by
    cases h with
    | cons h1 h2 => exact .cons (Rp.dp e d h1) (RpL.dp e ds h2)
end
theorem RpL.length {F : Hp} : ∀ {vs : List V} {ds : List PyData}, RpL F vs ds → vs.length = ds.length
  | _, _, .nil => rfl
  | _, _, .cons _ h => by simp [RpL.length h]
theorem RpL.get {F : Hp} : ∀ {vs : List V} {ds : List PyData} {i : Nat} {d : PyData}, RpL F vs ds → ds[i]? = some d → ∃ v, vs[i]? = some v ∧ Rp F v d
  | _, _, _, _, .nil, e => by simp at e
  | _, _, 0, _, .cons h _, e => by simp at e; subst e; exact ⟨_, rfl, h⟩
  | _, _, i + 1, d, .cons _ t, e => by
    obtain ⟨v, h1, h2⟩ := RpL.get (i := i) (d := d) t (by simpa using e)
    exact ⟨v, by simpa using h1, h2⟩
theorem RpL.getV {F : Hp} : ∀ {vs : List V} {ds : List PyData} {i : Nat} {v : V}, RpL F vs ds → vs[i]? = some v → ∃ d, ds[i]? = some d ∧ Rp F v d
  | _, _, _, _, .nil, e => by simp at e
  | _, _, 0, _, .cons h _, e => by simp at e; subst e; exact ⟨_, rfl, h⟩
  | _, _, i + 1, d, .cons _ t, e => by
    obtain ⟨v, h1, h2⟩ := RpL.getV (i := i) (v := d) t (by simpa using e)
    exact ⟨v, by simpa using h1, h2⟩
theorem RpL.append {F : Hp} : ∀ {vs ws : List V} {ds es : List PyData}, RpL F vs ds → RpL F ws es → RpL F (vs ++ ws) (ds ++ es)
  | _, _, _, _, .nil, s => s
  | _, _, _, _, .cons r t, s => .cons r (RpL.append t s)
theorem RpL.take {F : Hp} : ∀ {vs : List V} {ds : List PyData} (n : Nat), RpL F vs ds → RpL F (vs.take n) (ds.take n)
  | _, _, 0, _ => .nil
  | _, _, _ + 1, .nil => .nil
  | _, _, n + 1, .cons r t => .cons r (RpL.take n t)
theorem RpL.drop {F : Hp} : ∀ {vs : List V} {ds : List PyData} (n : Nat), RpL F vs ds → RpL F (vs.drop n) (ds.drop n)
  | _, _, 0, r => r
  | _, _, _ + 1, .nil => .nil
  | _, _, n + 1, .cons _ t => RpL.drop n t
theorem RpL.set {F : Hp} {v : V} {d : PyData} (r : Rp F v d) : ∀ {vs : List V} {ds : List PyData} (i : Nat), RpL F vs ds → RpL F (vs.set i v) (ds.set i d)
  | _, _, _, .nil => .nil
  | _, _, 0, .cons _ t => .cons r t
  | _, _, i + 1, .cons q t => .cons q (RpL.set r i t)
theorem RpL.reverse {F : Hp} : ∀ {vs : List V} {ds : List PyData}, RpL F vs ds → RpL F vs.reverse ds.reverse
  | _, _, .nil => .nil
  | _, _, .cons r t => by
    rw [List.reverse_cons, List.reverse_cons]
    exact RpL.append (RpL.reverse t) (.cons r .nil)
theorem RpL.ints {F : Hp} : ∀ {vs : List V} {ns : List Int}, RpL F vs (ns.map PyData.int) → vs = ns.map V.int
  | _, [], h => by cases h; rfl
  | _, n :: ns, h => by
    cases h with
    | cons h1 h2 =>
      cases h1
      rw [RpL.ints h2]
      rfl
theorem RpL.bls {F : Hp} : ∀ {vs : List V} {ns : List Bool}, RpL F vs (ns.map PyData.bool) → vs = ns.map V.bl
  | _, [], h => by cases h; rfl
  | _, n :: ns, h => by
    cases h with
    | cons h1 h2 =>
      cases h1
      rw [RpL.bls h2]
      rfl
theorem RpL.strs {F : Hp} : ∀ {vs : List V} {ns : List Str}, RpL F vs (ns.map PyData.str) → vs = ns.map V.str
  | _, [], h => by cases h; rfl
  | _, n :: ns, h => by
    cases h with
    | cons h1 h2 =>
      cases h1
      rw [RpL.strs h2]
      rfl

abbrev DA (F : Hp) (ds : List VD) (vs : List V) : Prop := Paired (fun (x : VD) (v : V) => x.P F v) ds vs
theorem DA.mono {F F' : Hp} (e : Fx F F') {ds : List VD} {vs : List V} (h : DA F ds vs) : DA F' ds vs := Paired.mapP h fun x _ q => x.mono e q
theorem DA.get {F : Hp} : ∀ {ds : List VD} {vs : List V} {i : Nat} {d : VD}, DA F ds vs → ds[i]? = some d → ∃ v, vs[i]? = some v ∧ d.P F v
  | _, _, _, _, .nil, e => by simp at e
  | _, _, 0, _, .cons h _, e => by simp at e; subst e; exact ⟨_, rfl, h⟩
  | _, _, i + 1, d, .cons _ t, e => by
    obtain ⟨v, h1, h2⟩ := DA.get (i := i) (d := d) t (by simpa using e)
    exact ⟨v, by simpa using h1, h2⟩
theorem DA.append {F : Hp} : ∀ {vs ws : List V} {ds es : List VD}, DA F ds vs → DA F es ws → DA F (ds ++ es) (vs ++ ws)
  | _, _, _, _, .nil, s => s
  | _, _, _, _, .cons r t, s => .cons r (DA.append t s)
theorem DA.set {F : Hp} {v : V} {d : VD} (r : d.P F v) : ∀ {vs : List V} {ds : List VD} (i : Nat), DA F ds vs → DA F (ds.set i d) (vs.set i v)
  | _, _, _, .nil => .nil
  | _, _, 0, .cons _ t => .cons r t
  | _, _, i + 1, .cons q t => .cons q (DA.set r i t)

/-! ### descriptions of values -/
def dat (d : PyData) : VD := ⟨fun F v => Rp F v d, fun e h => h.mono e⟩
def val (v0 : V) : VD := ⟨fun _ v => v = v0, fun _ h => h⟩
def vtup (xs : List VD) : VD := ⟨fun F v => ∃ a vs, v = .ref a ∧ F a = some (.tup vs) ∧ DA F xs vs, fun e ⟨a, vs, h1, h2, h3⟩ => ⟨a, vs, h1, e.pl _ _ h2 rfl, h3.mono e⟩⟩
def vlst (xs : List VD) : VD := ⟨fun F v => ∃ a vs, v = .ref a ∧ F a = some (.lst vs) ∧ DA F xs vs, fun e ⟨a, vs, h1, h2, h3⟩ => ⟨a, vs, h1, e.pl _ _ h2 rfl, h3.mono e⟩⟩
/-- a list of ints that is only read: the script -/
def vscr (K : PySem.W.Frag) (ns : List Int) : VD := ⟨fun F v => ∃ a, v = .ref a ∧ SqL K F a (ns.map V.int), fun {F F' v} e ⟨a, h1, h2⟩ => ⟨a, h1, by
  rcases h2 with (h | ⟨o, h⟩) | h
  · exact .inl (.inl (e.pl _ _ h rfl))
  · exact .inl (.inr ⟨o, e.pl _ _ h rfl⟩)
  · exact .inr h⟩⟩
abbrev vi (i : Int) : VD := dat (.int i)
abbrev vb (b : Bool) : VD := dat (.bool b)
abbrev vt (x : Str) : VD := dat (.str x)
abbrev vn : VD := dat .none
theorem DA.of_dat {F : Hp} : ∀ {ds : List PyData} {vs : List V}, DA F (ds.map dat) vs ↔ RpL F vs ds
  | [], vs => by
    constructor
    · intro h; cases h; exact .nil
    · intro h; cases h; exact .nil
  | d :: ds, vs => by
    constructor
    · intro h
      cases h with
      | cons h1 h2 => exact .cons h1 (DA.of_dat.mp h2)
    · intro h
      cases h with
      | cons h1 h2 => exact .cons h1 (DA.of_dat.mpr h2)
theorem vtup_dat {F : Hp} {v : V} {ds : List PyData} : (vtup (ds.map dat)).P F v ↔ (dat (.tuple ds)).P F v := by
  constructor
  · rintro ⟨a, ws, rfl, h1, h2⟩
    exact .tup h1 (DA.of_dat.mp h2)
  · intro h
    cases h with
    | tup h1 h2 => exact ⟨_, _, rfl, h1, DA.of_dat.mpr h2⟩
theorem vlst_dat {F : Hp} {v : V} {ds : List PyData} : (vlst (ds.map dat)).P F v ↔ (dat (.list ds)).P F v := by
  constructor
  · rintro ⟨a, ws, rfl, h1, h2⟩
    exact .lst h1 (DA.of_dat.mp h2)
  · intro h
    cases h with
    | lst h1 h2 => exact ⟨_, _, rfl, h1, DA.of_dat.mpr h2⟩

/-! ### descriptions of cells -/
def cL (xs : List VD) : CD := ⟨fun F p o => F p = none ∧ ∃ vs, o = .lst vs ∧ DA F xs vs, fun e q ⟨h0, vs, h1, h2⟩ => ⟨q.trans h0, vs, h1, h2.mono e⟩⟩
/-- a list of data -/
def cLd (ds : List PyData) : CD := ⟨fun F p o => F p = none ∧ ∃ vs, o = .lst vs ∧ RpL F vs ds, fun e q ⟨h0, vs, h1, h2⟩ => ⟨q.trans h0, vs, h1, h2.mono e⟩⟩
def FA (F : Hp) (ns : List Str) (xs : List VD) (fs : List (Str × V)) : Prop := fs.map (·.1) = ns ∧ DA F xs (fs.map (·.2))
def cI (C : Addr) (ns : List Str) (xs : List VD) : CD := ⟨fun F p o => F p = none ∧ ∃ dx fs, o = .ins C dx fs ∧ FA F ns xs fs, fun e q ⟨h0, dx, fs, h1, h2, h3⟩ => ⟨q.trans h0, dx, fs, h1, h2, h3.mono e⟩⟩

/-! ### frames, states -/
def Fr.and (Φ : Fr) (x : VD) (v : V) : Fr := ⟨Φ.N, fun F => Φ.P F ∧ x.P F v, fun e ⟨h1, h2⟩ => ⟨Φ.mono e h1, x.mono e h2⟩⟩
def Fr.andA (Φ : Fr) (ds : List VD) (vs : List V) : Fr := ⟨Φ.N, fun F => Φ.P F ∧ DA F ds vs, fun e ⟨h1, h2⟩ => ⟨Φ.mono e h1, h2.mono e⟩⟩
def Fr.top : Fr := ⟨[], fun _ => True, fun _ h => h⟩
def Slots (F : Hp) (σ : L2.St) (ρ : Env) : Prop := σ.length = ρ.length ∧ ∀ (i : Nat) (x : VD), ρ[i]? = some (some x) → ∃ v : V, σ[i]? = some (some v) ∧ x.P F v
theorem Slots.mono {F F' : Hp} {σ : L2.St} {ρ : Env} (e : Fx F F') (h : Slots F σ ρ) : Slots F' σ ρ := ⟨h.1, fun i x q => let ⟨v, h1, h2⟩ := h.2 i x q; ⟨v, h1, x.mono e h2⟩⟩
def Fr.slots (Φ : Fr) (σ : L2.St) (ρ : Env) : Fr := ⟨Φ.N, fun F => Φ.P F ∧ Slots F σ ρ, fun e ⟨h1, h2⟩ => ⟨Φ.mono e h1, h2.mono e⟩⟩
/-- more cells besides -/
def Fr.more (Φ : Fr) (c : Addr × CD) : Fr := ⟨c :: Φ.N, Φ.P, Φ.mono⟩
structure Le (Φ Ψ : Fr) : Prop where
  n : Ψ.N.Sublist Φ.N
  p : ∀ F, Φ.P F → Ψ.P F
theorem Le.refl (Φ : Fr) : Le Φ Φ := ⟨List.Sublist.refl _, fun _ h => h⟩
theorem Le.trans {Φ Ψ Χ : Fr} (a : Le Φ Ψ) (b : Le Ψ Χ) : Le Φ Χ := ⟨b.n.trans a.n, fun F h => b.p F (a.p F h)⟩
theorem Le.of {Φ Ψ : Fr} (e : Φ.N = Ψ.N) (h : ∀ F, Φ.P F → Ψ.P F) : Le Φ Ψ := ⟨by rw [e]; exact List.Sublist.refl _, h⟩
theorem Le.and {Φ : Fr} {x : VD} {v : V} : Le (Φ.and x v) Φ := .of rfl fun _ h => h.1
theorem Le.andA {Φ : Fr} {x : List VD} {v : List V} : Le (Φ.andA x v) Φ := .of rfl fun _ h => h.1
theorem Le.slots {Φ : Fr} {x : Env} {v : L2.St} : Le (Φ.slots v x) Φ := .of rfl fun _ h => h.1
theorem Le.more {Φ : Fr} {c : Addr × CD} : Le (Φ.more c) Φ := ⟨List.sublist_cons_self _ _, fun _ h => h⟩

structure SatF (F : Hp) (Φ : Fr) (ρ : Env) (M : Cells) (σ : L2.St) (H : Hp) : Prop where
  ex : Ex F H
  fr : Φ.P F
  sl : Slots F σ ρ
  nd : ((M ++ Φ.N).map (·.1)).Nodup
  ce : ∀ c ∈ M ++ Φ.N, ∃ o, H c.1 = some o ∧ c.2.P F c.1 o
def Sat (Φ : Fr) (ρ : Env) (M : Cells) (σ : L2.St) (H : Hp) : Prop := ∃ F, SatF F Φ ρ M σ H
theorem Sat.weak {Φ Ψ : Fr} {ρ : Env} {M : Cells} {σ : L2.St} {H : Hp} (h : Sat Φ ρ M σ H) (l : Le Φ Ψ) : Sat Ψ ρ M σ H :=
  let ⟨F, s⟩ := h; ⟨F, s.ex, l.p F s.fr, s.sl, List.Pairwise.sublist ((List.Sublist.append (List.Sublist.refl M) l.n).map _) s.nd, fun c hc => s.ce c ((List.Sublist.append (List.Sublist.refl M) l.n).subset hc)⟩
theorem Sat.weak1 {Φ : Fr} {x : VD} {v : V} {ρ : Env} {M : Cells} {σ : L2.St} {H : Hp} (h : Sat (Φ.and x v) ρ M σ H) : Sat Φ ρ M σ H := h.weak Le.and
/-- a new plain object -/
theorem SatF.new {F : Hp} {Φ : Fr} {ρ : Env} {M : Cells} {σ : L2.St} {H : Hp} {p : Addr} {o : HO} (s : SatF F Φ ρ M σ H) (hp : H p = none) : SatF (upd F p o) Φ ρ M σ (upd H p o) ∧ Fx F (upd F p o) := by
  have hF : F p = none := fresh_back s.ex hp
  have fx : Fx F (upd F p o) := Fx.of (Ex.new hF)
  refine ⟨⟨fun a u e => ?_, Φ.mono fx s.fr, s.sl.mono fx, s.nd, fun c hc => ?_⟩, fx⟩
  · by_cases h : a = p
    · subst h; rw [upd_same] at e ⊢; exact e
    · rw [upd_ne h] at e ⊢; exact s.ex a u e
  · obtain ⟨u, h1, h2⟩ := s.ce c hc
    have hne : c.1 ≠ p := ne_of_none h1 hp
    exact ⟨u, by rw [upd_ne hne]; exact h1, c.2.mono fx (upd_ne hne) h2⟩
/-- the heap alone grows -/
theorem SatF.newH {F : Hp} {Φ : Fr} {ρ : Env} {M : Cells} {σ : L2.St} {H : Hp} {p : Addr} {o : HO} (s : SatF F Φ ρ M σ H) (hp : H p = none) : SatF F Φ ρ M σ (upd H p o) := by
  refine ⟨fun a u e => ?_, s.fr, s.sl, s.nd, fun c hc => ?_⟩
  · rw [upd_ne (ne_of_none (s.ex a u e) hp)]; exact s.ex a u e
  · obtain ⟨u, h1, h2⟩ := s.ce c hc
    exact ⟨u, by rw [upd_ne (ne_of_none h1 hp)]; exact h1, h2⟩
/-- a new object, owned -/
theorem SatF.newC {F : Hp} {Φ : Fr} {ρ : Env} {M : Cells} {σ : L2.St} {H : Hp} {p : Addr} {o : HO} {c : CD} (s : SatF F Φ ρ M σ H) (hp : H p = none) (hc : F p = none → c.P F p o) : SatF F Φ ρ ((p, c) :: M) σ (upd H p o) := by
  have s' := s.newH (o := o) hp
  refine ⟨s'.ex, s'.fr, s'.sl, ?_, fun d hd => ?_⟩
  · rw [List.cons_append, List.map_cons, List.nodup_cons]
    refine ⟨fun hm => ?_, s.nd⟩
    obtain ⟨d, hd, e⟩ := List.mem_map.mp hm
    obtain ⟨u, h1, _⟩ := s.ce d hd
    rw [e, hp] at h1
    cases h1
  · rcases List.mem_cons.mp hd with rfl | hd
    · exact ⟨o, upd_same, hc (fresh_back s.ex hp)⟩
    · exact s'.ce d hd

/-! ### cells: one is found; one is put in another's place -/
inductive Put (p : Addr) (c c' : CD) : Cells → Cells → Prop
  | here {l : Cells} : Put p c c' ((p, c) :: l) ((p, c') :: l)
  | there {x : Addr × CD} {l l' : Cells} : Put p c c' l l' → Put p c c' (x :: l) (x :: l')
theorem Put.mem {p : Addr} {c c' : CD} {M M' : Cells} (h : Put p c c' M M') : (p, c) ∈ M := by
  induction h with
  | here => exact List.mem_cons_self
  | there _ ih => exact List.mem_cons_of_mem _ ih
theorem Put.addrs {p : Addr} {c c' : CD} {M M' : Cells} (h : Put p c c' M M') : M'.map (·.1) = M.map (·.1) := by
  induction h with
  | here => rfl
  | there _ ih => simp [ih]
theorem Put.mem' {p : Addr} {c c' : CD} {M M' : Cells} (h : Put p c c' M M') : ∀ d ∈ M', d = (p, c') ∨ d ∈ M := by
  induction h with
  | here =>
    intro d hd
    rcases List.mem_cons.mp hd with e | hd
    · exact .inl e
    · exact .inr (List.mem_cons_of_mem _ hd)
  | there _ ih =>
    intro d hd
    rcases List.mem_cons.mp hd with e | hd
    · exact .inr (by rw [e]; exact List.mem_cons_self)
    · exact (ih d hd).imp_right (List.mem_cons_of_mem _)
theorem Put.uniq {p : Addr} {c c' : CD} {M M' : Cells} (h : Put p c c' M M') (nd : (M.map (·.1)).Nodup) : ∀ d ∈ M', d ≠ (p, c') → d.1 ≠ p := by
  induction h with
  | @here l =>
    intro d hd hne e
    rcases List.mem_cons.mp hd with q | hd
    · exact hne q
    · have := (List.nodup_cons.mp nd).1
      exact this (List.mem_map.mpr ⟨d, hd, e⟩)
  | @there x l l' hp ih =>
    intro d hd hne e
    rcases List.mem_cons.mp hd with q | hd
    · subst q
      have := (List.nodup_cons.mp nd).1
      exact this (List.mem_map.mpr ⟨(p, c), hp.mem, e.symm⟩)
    · exact ih (List.nodup_cons.mp nd).2 d hd hne e
theorem Put.app {p : Addr} {c c' : CD} {M M' : Cells} (h : Put p c c' M M') (N : Cells) : Put p c c' (M ++ N) (M' ++ N) := by
  induction h with
  | here => exact .here
  | there _ ih => exact .there ih
theorem Put.behind {p : Addr} {c c' : CD} {N N' : Cells} (h : Put p c c' N N') : ∀ M : Cells, Put p c c' (M ++ N) (M ++ N')
  | [] => h
  | _ :: M => .there (Put.behind h M)
/-- an owned cell is written -/
theorem SatF.put {F : Hp} {Φ Φ' : Fr} {ρ : Env} {M M' : Cells} {σ : L2.St} {H : Hp} {p : Addr} {o : HO} {c c' : CD} (s : SatF F Φ ρ M σ H) (h : Put p c c' (M ++ Φ.N) (M' ++ Φ'.N)) (hΦ : Φ'.P F) (hF : F p = none) (hc : c'.P F p o) : SatF F Φ' ρ M' σ (upd H p o) := by
  refine ⟨fun a u e => ?_, hΦ, s.sl, by rw [h.addrs]; exact s.nd, fun d hd => ?_⟩
  · have : a ≠ p := ne_of_none e hF
    rw [upd_ne this]; exact s.ex a u e
  · rcases Classical.em (d = (p, c')) with e | e
    · subst e; exact ⟨o, upd_same, hc⟩
    · have hne := h.uniq s.nd d hd e
      obtain ⟨u, h1, h2⟩ := s.ce d ((h.mem' d hd).resolve_left e)
      exact ⟨u, by rw [upd_ne hne]; exact h1, h2⟩
theorem SatF.put1 {F : Hp} {Φ : Fr} {ρ : Env} {M M' : Cells} {σ : L2.St} {H : Hp} {p : Addr} {o : HO} {c c' : CD} (s : SatF F Φ ρ M σ H) (h : Put p c c' M M') (hF : F p = none) (hc : c'.P F p o) : SatF F Φ ρ M' σ (upd H p o) := s.put (h.app _) s.fr hF hc
theorem SatF.at {F : Hp} {Φ : Fr} {ρ : Env} {M : Cells} {σ : L2.St} {H : Hp} {p : Addr} {c : CD} (s : SatF F Φ ρ M σ H) (h : (p, c) ∈ M) : ∃ o, H p = some o ∧ c.P F p o := s.ce _ (List.mem_append_left _ h)
theorem Put.same {p : Addr} {c : CD} : ∀ {M : Cells}, (p, c) ∈ M → Put p c c M M
  | [], h => by cases h
  | x :: l, h => by
    by_cases e : (p, c) = x
    · subst e; exact .here
    · exact .there (Put.same ((List.mem_cons.mp h).resolve_left e))

/-! ### slots -/
inductive SetAt (x : VD) : Env → Nat → Env → Prop
  | here {a : Option VD} {l : Env} : SetAt x (a :: l) 0 (some x :: l)
  | there {a : Option VD} {l l' : Env} {i : Nat} : SetAt x l i l' → SetAt x (a :: l) (i + 1) (a :: l')
theorem SetAt.eq {x : VD} {ρ ρ' : Env} {i : Nat} (h : SetAt x ρ i ρ') : ρ' = ρ.set i (some x) := by
  induction h with
  | here => rfl
  | there _ ih => simp [ih]
theorem Slots.set {F : Hp} {σ : L2.St} {ρ : Env} (h : Slots F σ ρ) {i : Nat} {x : VD} {v : V} (hv : x.P F v) : Slots F (σ.set i (some v)) (ρ.set i (some x)) := by
  refine ⟨by simp [h.1], fun j y e => ?_⟩
  by_cases q : i = j
  · subst q
    by_cases hl : i < ρ.length
    · rw [List.getElem?_set_self hl] at e
      cases e
      exact ⟨v, by rw [List.getElem?_set_self (by rw [h.1]; exact hl)], hv⟩
    · rw [List.getElem?_eq_none (by simp; omega)] at e
      cases e
  · rw [List.getElem?_set_ne q] at e
    obtain ⟨w, h1, h2⟩ := h.2 j y e
    exact ⟨w, by rw [List.getElem?_set_ne q]; exact h1, h2⟩
theorem Slots.wipe {F : Hp} {σ : L2.St} {ρ : Env} (h : Slots F σ ρ) (i : Nat) : Slots F (σ.set i none) (ρ.set i none) := by
  refine ⟨by simp [h.1], fun j y e => ?_⟩
  by_cases q : i = j
  · subst q
    by_cases hl : i < ρ.length
    · rw [List.getElem?_set_self hl] at e
      cases e
    · rw [List.getElem?_eq_none (by simp; omega)] at e
      cases e
  · rw [List.getElem?_set_ne q] at e
    obtain ⟨w, h1, h2⟩ := h.2 j y e
    exact ⟨w, by rw [List.getElem?_set_ne q]; exact h1, h2⟩
inductive At (x : VD) : Env → Nat → Prop
  | here {l : Env} : At x (some x :: l) 0
  | there {a : Option VD} {l : Env} {i : Nat} : At x l i → At x (a :: l) (i + 1)
theorem At.get {x : VD} {ρ : Env} {i : Nat} (h : At x ρ i) : ρ[i]? = some (some x) := by
  induction h with
  | here => rfl
  | there _ ih => simpa using ih

/-! ### what evaluates to what -/
def Ev (te : TE) (ρ : Env) (M : Cells) (x : VD) (M' : Cells) : Prop := ∀ (Φ : Fr) (σ : L2.St) (H : Hp) (Q : VK), Sat Φ ρ M σ H → (∀ v H', Sat (Φ.and x v) ρ M' σ H' → Q v H') → te σ H Q
def EvA (ta : TA) (ρ : Env) (M : Cells) (ds : List VD) (M' : Cells) : Prop := ∀ (Φ : Fr) (σ : L2.St) (H : Hp) (Q : List V → Hp → Prop), Sat Φ ρ M σ H → (∀ v H', Sat (Φ.andA ds v) ρ M' σ H' → Q v H') → ta σ H Q
/-- .. all of them data -/
def EvD (ta : TA) (ρ : Env) (M : Cells) (ds : List PyData) (M' : Cells) : Prop := EvA ta ρ M (ds.map dat) M'
def EvT (tt : TT) (ρ : Env) (M : Cells) (b : Bool) (M' : Cells) : Prop := ∀ (Φ : Fr) (σ : L2.St) (H : Hp) (Q : Bool → Hp → Prop), Sat Φ ρ M σ H → (∀ H', Sat Φ ρ M' σ H' → Q b H') → tt σ H Q
def EvO (to : TO) (ρ : Env) (M : Cells) (o : Option Int) (M' : Cells) : Prop := ∀ (Φ : Fr) (σ : L2.St) (H : Hp) (Q : Option Int → Hp → Prop), Sat Φ ρ M σ H → (∀ H', Sat Φ ρ M' σ H' → Q o H') → to σ H Q
def RV (r : R2) (x y : VD) (M : Cells) (z : VD) (M' : Cells) : Prop := ∀ (Φ : Fr) (ρ : Env) (σ : L2.St) (v w : V) (H : Hp) (Q : VK), Sat ((Φ.and x v).and y w) ρ M σ H → (∀ u H', Sat (Φ.and z u) ρ M' σ H' → Q u H') → r v w H Q
def RU (r : V → Hp → VK → Prop) (x : VD) (M : Cells) (z : VD) (M' : Cells) : Prop := ∀ (Φ : Fr) (ρ : Env) (σ : L2.St) (v : V) (H : Hp) (Q : VK), Sat (Φ.and x v) ρ M σ H → (∀ u H', Sat (Φ.and z u) ρ M' σ H' → Q u H') → r v H Q
def RC (r : List V → Hp → VK → Prop) (ds : List VD) (M : Cells) (z : VD) (M' : Cells) : Prop := ∀ (Φ : Fr) (ρ : Env) (σ : L2.St) (vs : List V) (H : Hp) (Q : VK), Sat (Φ.andA ds vs) ρ M σ H → (∀ u H', Sat (Φ.and z u) ρ M' σ H' → Q u H') → r vs H Q
def RM (r : V → List V → Hp → VK → Prop) (x : VD) (ds : List VD) (M : Cells) (z : VD) (M' : Cells) : Prop := ∀ (Φ : Fr) (ρ : Env) (σ : L2.St) (v : V) (vs : List V) (H : Hp) (Q : VK), Sat ((Φ.and x v).andA ds vs) ρ M σ H → (∀ u H', Sat (Φ.and z u) ρ M' σ H' → Q u H') → r v vs H Q

section
variable {ρ : Env} {M M1 M2 M3 M' : Cells} {ta tb te : TE} {x y z : VD}
theorem Ev.imp {w : VD} (h : Ev te ρ M x M') (k : ∀ F v, x.P F v → w.P F v) : Ev te ρ M w M' := fun Φ σ H Q s q => h Φ σ H Q s fun v H' s' => q v H' (s'.weak (.of rfl fun F p => ⟨p.1, k F v p.2⟩))
theorem Ev.eq {w : VD} (h : Ev te ρ M x M') (k : x = w) : Ev te ρ M w M' := k ▸ h
theorem ev_var {i : Nat} (h : At x ρ i) : Ev (tVar i) ρ M x M := fun Φ σ H Q ⟨F, s⟩ q => by
  obtain ⟨v, h1, h2⟩ := s.sl.2 i x h.get
  exact ⟨v, h1, q v H ⟨F, s.ex, ⟨s.fr, h2⟩, s.sl, s.nd, s.ce⟩⟩
theorem ev_c {v : V} {d : PyData} (h : ∀ F, Rp F v d) : Ev (tC v) ρ M (dat d) M := fun Φ σ H Q ⟨F, s⟩ q => q v H ⟨F, s.ex, ⟨s.fr, h F⟩, s.sl, s.nd, s.ce⟩
theorem ev_int {i : Int} : Ev (tC (.int i)) ρ M (dat (.int i)) M := ev_c fun _ => .int i
theorem ev_bl {i : Bool} : Ev (tC (.bl i)) ρ M (dat (.bool i)) M := ev_c fun _ => .bl i
theorem ev_str {i : Str} : Ev (tC (.str i)) ρ M (dat (.str i)) M := ev_c fun _ => .str i
theorem ev_non : Ev (tC .non) ρ M (dat .none) M := ev_c fun _ => .non
theorem ev_val {v : V} : Ev (tC v) ρ M (val v) M := fun Φ σ H Q ⟨F, s⟩ q => q v H ⟨F, s.ex, ⟨s.fr, rfl⟩, s.sl, s.nd, s.ce⟩
theorem ev_op {r : R2} (ha : Ev ta ρ M x M1) (hb : Ev tb ρ M1 y M2) (hr : RV r x y M2 z M3) : Ev (tOp r ta tb) ρ M z M3 := fun Φ σ H Q s q =>
  ha Φ σ H _ s fun v H1 s1 => hb _ σ H1 _ s1 fun w H2 s2 => hr Φ ρ σ v w H2 Q s2 q
theorem ev_un {r : V → Hp → VK → Prop} (ha : Ev ta ρ M x M1) (hr : RU r x M1 z M2) : Ev (tUn r ta) ρ M z M2 := fun Φ σ H Q s q =>
  ha Φ σ H _ s fun v H1 s1 => hr Φ ρ σ v H1 Q s1 q
theorem ea_nil : EvA tNil ρ M [] M := fun Φ σ H Q ⟨F, s⟩ q => q [] H ⟨F, s.ex, ⟨s.fr, .nil⟩, s.sl, s.nd, s.ce⟩
theorem ea_cons {tr : TA} {ds : List VD} (ha : Ev ta ρ M x M1) (hr : EvA tr ρ M1 ds M2) : EvA (tCons ta tr) ρ M (x :: ds) M2 := fun Φ σ H Q s q =>
  ha Φ σ H _ s fun v H1 s1 => hr _ σ H1 _ s1 fun vs H2 s2 => q (v :: vs) H2 (s2.weak (.of rfl fun F p => ⟨p.1.1, .cons p.1.2 p.2⟩))
theorem ed_nil : EvD tNil ρ M [] M := ea_nil
theorem ed_cons {tr : TA} {d : PyData} {ds : List PyData} (ha : Ev ta ρ M (dat d) M1) (hr : EvD tr ρ M1 ds M2) : EvD (tCons ta tr) ρ M (d :: ds) M2 := ea_cons ha hr
theorem ev_tupD {t : TA} {ds : List PyData} (h : EvD t ρ M ds M') (hl : ds.length ≤ sizeLine) : Ev (tTup t) ρ M (dat (.tuple ds)) M' := fun Φ σ H Q s q =>
  h Φ σ H _ s fun vs H1 ⟨F, s1⟩ => by
    have hr := DA.of_dat.mp s1.fr.2
    refine ⟨by rw [hr.length]; exact hl, fun p hp => ?_⟩
    obtain ⟨s2, fx⟩ := s1.new (o := .tup vs) hp
    exact q _ _ ⟨_, s2.ex, ⟨s2.fr.1, .tup upd_same (hr.mono fx)⟩, s2.sl, s2.nd, s2.ce⟩
theorem ev_lstD {t : TA} {ds : List PyData} (h : EvD t ρ M ds M') (hl : ds.length ≤ sizeLine) : Ev (tLst t) ρ M (dat (.list ds)) M' := fun Φ σ H Q s q =>
  h Φ σ H _ s fun vs H1 ⟨F, s1⟩ => by
    have hr := DA.of_dat.mp s1.fr.2
    refine ⟨by rw [hr.length]; exact hl, fun p hp => ?_⟩
    obtain ⟨s2, fx⟩ := s1.new (o := .lst vs) hp
    exact q _ _ ⟨_, s2.ex, ⟨s2.fr.1, .lst upd_same (hr.mono fx)⟩, s2.sl, s2.nd, s2.ce⟩
theorem ev_tupV {t : TA} {ds : List VD} (h : EvA t ρ M ds M') (hl : ds.length ≤ sizeLine) : Ev (tTup t) ρ M (vtup ds) M' := fun Φ σ H Q s q =>
  h Φ σ H _ s fun vs H1 ⟨F, s1⟩ => by
    have hr := s1.fr.2
    refine ⟨by rw [← Paired.length hr]; exact hl, fun p hp => ?_⟩
    obtain ⟨s2, fx⟩ := s1.new (o := .tup vs) hp
    exact q _ _ ⟨_, s2.ex, ⟨s2.fr.1, ⟨p, vs, rfl, upd_same, hr.mono fx⟩⟩, s2.sl, s2.nd, s2.ce⟩
theorem ev_lstV {t : TA} {ds : List VD} (h : EvA t ρ M ds M') (hl : ds.length ≤ sizeLine) : Ev (tLst t) ρ M (vlst ds) M' := fun Φ σ H Q s q =>
  h Φ σ H _ s fun vs H1 ⟨F, s1⟩ => by
    have hr := s1.fr.2
    refine ⟨by rw [← Paired.length hr]; exact hl, fun p hp => ?_⟩
    obtain ⟨s2, fx⟩ := s1.new (o := .lst vs) hp
    exact q _ _ ⟨_, s2.ex, ⟨s2.fr.1, ⟨p, vs, rfl, upd_same, hr.mono fx⟩⟩, s2.sl, s2.nd, s2.ce⟩
theorem ev_if {t : TT} {b : Bool} (h : EvT t ρ M b M1) (h1 : b = true → Ev ta ρ M1 x M2) (h2 : b = false → Ev tb ρ M1 x M2) : Ev (tIf t ta tb) ρ M x M2 := fun Φ σ H Q s q =>
  h Φ σ H _ s fun H1 s1 => by
    cases b with
    | true =>
      rw [if_pos rfl]
      exact h1 rfl Φ σ H1 Q s1 q
    | false =>
      rw [if_neg Bool.false_ne_true]
      exact h2 rfl Φ σ H1 Q s1 q
end
end Sx

set_option Elab.async false
set_option linter.all false
set_option maxRecDepth 100000
set_option maxHeartbeats 2000000
/-! Sx2: operators, by descriptions. -/
namespace Sx
open PySem L2 Evl

/-! ### what stands as a list, a tuple -/
def IsLst (x : VD) (M : Cells) (ds : List PyData) : Prop := ∀ {F Φ ρ σ H v}, SatF F Φ ρ M σ H → x.P F v → ∃ a ws, v = .ref a ∧ H a = some (.lst ws) ∧ RpL F ws ds
def IsTup (x : VD) (M : Cells) (ds : List PyData) : Prop := ∀ {F Φ ρ σ H v}, SatF F Φ ρ M σ H → x.P F v → ∃ a ws, v = .ref a ∧ H a = some (.tup ws) ∧ RpL F ws ds
def IsLstV (x : VD) (M : Cells) (ds : List VD) : Prop := ∀ {F Φ ρ σ H v}, SatF F Φ ρ M σ H → x.P F v → ∃ a ws, v = .ref a ∧ H a = some (.lst ws) ∧ DA F ds ws
def IsTupV (x : VD) (M : Cells) (ds : List VD) : Prop := ∀ {F Φ ρ σ H v}, SatF F Φ ρ M σ H → x.P F v → ∃ a ws, v = .ref a ∧ H a = some (.tup ws) ∧ DA F ds ws
theorem isl_dat {M : Cells} {ds : List PyData} : IsLst (dat (.list ds)) M ds := fun s h => by
  cases h with
  | lst h1 h2 => exact ⟨_, _, rfl, s.ex _ _ h1, h2⟩
theorem ist_dat {M : Cells} {ds : List PyData} : IsTup (dat (.tuple ds)) M ds := fun s h => by
  cases h with
  | tup h1 h2 => exact ⟨_, _, rfl, s.ex _ _ h1, h2⟩
theorem isl_cell {M : Cells} {ds : List PyData} {p : Addr} (m : (p, cLd ds) ∈ M) : IsLst (val (.ref p)) M ds := fun s h => by
  obtain ⟨o, h1, h2, ws, h3, h4⟩ := s.at m
  exact ⟨p, ws, h, by rw [h1, h3], h4⟩
theorem islv_cell {M : Cells} {ds : List VD} {p : Addr} (m : (p, cL ds) ∈ M) : IsLstV (val (.ref p)) M ds := fun s h => by
  obtain ⟨o, h1, h2, ws, h3, h4⟩ := s.at m
  exact ⟨p, ws, h, by rw [h1, h3], h4⟩
theorem islv_vlst {M : Cells} {ds : List VD} : IsLstV (vlst ds) M ds := fun s ⟨a, ws, h1, h2, h3⟩ => ⟨a, ws, h1, s.ex _ _ h2, h3⟩
theorem istv_vtup {M : Cells} {ds : List VD} : IsTupV (vtup ds) M ds := fun s ⟨a, ws, h1, h2, h3⟩ => ⟨a, ws, h1, s.ex _ _ h2, h3⟩
theorem IsLst.v {x : VD} {M : Cells} {ds : List PyData} (h : IsLst x M ds) : IsLstV x M (ds.map dat) := fun s q => by
  obtain ⟨a, ws, h1, h2, h3⟩ := h s q
  exact ⟨a, ws, h1, h2, DA.of_dat.mpr h3⟩
theorem IsTup.v {x : VD} {M : Cells} {ds : List PyData} (h : IsTup x M ds) : IsTupV x M (ds.map dat) := fun s q => by
  obtain ⟨a, ws, h1, h2, h3⟩ := h s q
  exact ⟨a, ws, h1, h2, DA.of_dat.mpr h3⟩
/-- either -/
def IsSeq (K : PySem.W.Frag) (x : VD) (M : Cells) (ds : List VD) : Prop := ∀ {F Φ ρ σ H v}, SatF F Φ ρ M σ H → x.P F v → ∃ a ws, v = .ref a ∧ (SqL K H a ws ∨ SqT K H a ws) ∧ DA F ds ws
theorem iss_l {K : PySem.W.Frag} {x : VD} {M : Cells} {ds : List VD} (h : IsLstV x M ds) : IsSeq K x M ds := fun s q => by
  obtain ⟨a, ws, h1, h2, h3⟩ := h s q
  exact ⟨a, ws, h1, .inl (sq_of h2), h3⟩
theorem iss_t {K : PySem.W.Frag} {x : VD} {M : Cells} {ds : List VD} (h : IsTupV x M ds) : IsSeq K x M ds := fun s q => by
  obtain ⟨a, ws, h1, h2, h3⟩ := h s q
  exact ⟨a, ws, h1, .inr (st_of h2), h3⟩

/-- the state behind a value that was just made; data said of it -/
theorem Sat.ret {F : Hp} {Φ : Fr} {ρ : Env} {M : Cells} {σ : L2.St} {H : Hp} {x : VD} {v : V} (s : SatF F Φ ρ M σ H) (h : x.P F v) : Sat (Φ.and x v) ρ M σ H := ⟨F, s.ex, ⟨s.fr, h⟩, s.sl, s.nd, s.ce⟩
theorem SatF.weak {F : Hp} {Φ Ψ : Fr} {ρ : Env} {M : Cells} {σ : L2.St} {H : Hp} (s : SatF F Φ ρ M σ H) (l : Le Φ Ψ) : SatF F Ψ ρ M σ H := ⟨s.ex, l.p F s.fr, s.sl, List.Pairwise.sublist ((List.Sublist.append (List.Sublist.refl M) l.n).map _) s.nd, fun c hc => s.ce c ((List.Sublist.append (List.Sublist.refl M) l.n).subset hc)⟩
theorem SatF.base {F : Hp} {Φ : Fr} {ρ : Env} {M : Cells} {σ : L2.St} {H : Hp} {x y : VD} {v w : V} (s : SatF F ((Φ.and x v).and y w) ρ M σ H) : SatF F Φ ρ M σ H := s.weak (.of rfl fun _ h => h.1.1)
theorem Sat.retNew {F : Hp} {Φ : Fr} {ρ : Env} {M : Cells} {σ : L2.St} {H : Hp} {x : VD} {v : V} {p : Addr} {o : HO} (s : SatF F Φ ρ M σ H) (hp : H p = none) (h : ∀ F', Fx F F' → F' p = some o → x.P F' v) : Sat (Φ.and x v) ρ M σ (upd H p o) := by
  obtain ⟨s2, fx⟩ := s.new (o := o) hp
  exact ⟨_, s2.ex, ⟨s2.fr, h _ fx upd_same⟩, s2.sl, s2.nd, s2.ce⟩

/-! ### + -/
def rAddS : R2 := fun x y H Q => ∃ i j, x = .str i ∧ y = .str j ∧ i.length + j.length ≤ sizeLine ∧ Q (.str (i ++ j)) H
def rAddU (K : PySem.W.Frag) : R2 := fun x y H Q => rI0 (fun i j => .int (i + j)) x y H Q ∨ (rAddS x y H Q ∨ (rCat x y H Q ∨ rCatA K x y H Q))
theorem op_addU {X : Cx} : OpR X (binaryOp .Add) (rAddU X.K) := op_add.or (op_add_str.or (op_cat.or op_catA))
section
variable {K : PySem.W.Frag} {ρ : Env} {M M' : Cells} {x y z : VD}
theorem rv_addI {i j : Int} : RV (rAddU K) (dat (.int i)) (dat (.int j)) M (dat (.int (i + j))) M := fun Φ ρ σ v w H Q ⟨F, s⟩ q => by
  cases s.fr.1.2; cases s.fr.2
  exact .inl ⟨i, j, rfl, rfl, q _ _ (Sat.ret s.base (.int _))⟩
theorem rv_addS {i j : Str} (hl : i.length + j.length ≤ sizeLine) : RV (rAddU K) (dat (.str i)) (dat (.str j)) M (dat (.str (i ++ j))) M := fun Φ ρ σ v w H Q ⟨F, s⟩ q => by
  cases s.fr.1.2; cases s.fr.2
  exact .inr (.inl ⟨i, j, rfl, rfl, hl, q _ _ (Sat.ret s.base (.str _))⟩)
theorem rv_cat {as bs : List PyData} (hx : IsLst x M as) (hy : IsLst y M bs) (hl : as.length + bs.length ≤ sizeLine) : RV (rAddU K) x y M (dat (.list (as ++ bs))) M := fun Φ ρ σ v w H Q ⟨F, s⟩ q => by
  obtain ⟨a, vs1, rfl, h1, h2⟩ := hx s s.fr.1.2
  obtain ⟨b, vs2, rfl, h3, h4⟩ := hy s s.fr.2
  refine .inr (.inr (.inl ⟨a, b, vs1, vs2, rfl, rfl, h1, h3, by rw [h2.length, h4.length]; exact hl, fun p hp => q _ _ (Sat.retNew s.base hp fun F' fx e => .lst e ((h2.append h4).mono fx))⟩))
theorem rv_catV {as bs : List VD} (hx : IsLstV x M as) (hy : IsLstV y M bs) (hl : as.length + bs.length ≤ sizeLine) : RV (rAddU K) x y M (vlst (as ++ bs)) M := fun Φ ρ σ v w H Q ⟨F, s⟩ q => by
  obtain ⟨a, vs1, rfl, h1, h2⟩ := hx s s.fr.1.2
  obtain ⟨b, vs2, rfl, h3, h4⟩ := hy s s.fr.2
  refine .inr (.inr (.inl ⟨a, b, vs1, vs2, rfl, rfl, h1, h3, by rw [← Paired.length h2, ← Paired.length h4]; exact hl, fun p hp => q _ _ (Sat.retNew s.base hp fun F' fx e => ⟨p, _, rfl, e, (h2.append h4).mono fx⟩)⟩))
theorem rv_catT {as bs : List PyData} (hx : IsTup x M as) (hy : IsTup y M bs) (hfx : ∀ F v, x.P F v → (dat (.tuple as)).P F v) (hfy : ∀ F v, y.P F v → (dat (.tuple bs)).P F v) (hl : as.length + bs.length ≤ sizeLine) : RV (rAddU K) x y M (dat (.tuple (as ++ bs))) M := fun Φ ρ σ v w H Q ⟨F, s⟩ q => by
  have e1 := hfx F _ s.fr.1.2
  have e2 := hfy F _ s.fr.2
  obtain ⟨a, vs1, rfl, h1, h2⟩ := hx s s.fr.1.2
  obtain ⟨b, vs2, rfl, h3, h4⟩ := hy s s.fr.2
  refine .inr (.inr (.inr ⟨a, b, vs1, vs2, rfl, rfl, st_of h1, st_of h3, by rw [h2.length, h4.length]; exact hl, fun he => ?_, fun _ he => ?_, fun _ _ p hp => q _ _ (Sat.retNew s.base hp fun F' fx e => .tup e ((h2.append h4).mono fx))⟩))
  · subst he
    have : as = [] := List.eq_nil_of_length_eq_zero h2.length.symm
    subst this
    exact q _ _ (Sat.ret s.base e2)
  · subst he
    have : bs = [] := List.eq_nil_of_length_eq_zero h4.length.symm
    subst this
    exact q _ _ (Sat.ret s.base (by rw [List.append_nil]; exact e1))
theorem rv_catTd {as bs : List PyData} (hl : as.length + bs.length ≤ sizeLine) : RV (rAddU K) (dat (.tuple as)) (dat (.tuple bs)) M (dat (.tuple (as ++ bs))) M := rv_catT ist_dat ist_dat (fun _ _ h => h) (fun _ _ h => h) hl

/-! ### the other operators on ints -/
theorem rv_I0 {g : Int → Int → V} {d : Int → Int → PyData} {i j : Int} (h : ∀ F, Rp F (g i j) (d i j)) : RV (rI0 g) (dat (.int i)) (dat (.int j)) M (dat (d i j)) M := fun Φ ρ σ v w H Q ⟨F, s⟩ q => by
  cases s.fr.1.2; cases s.fr.2
  exact ⟨i, j, rfl, rfl, q _ _ (Sat.ret s.base (h F))⟩
theorem rv_int0 {g : Int → Int → Int} {i j : Int} : RV (rI0 fun i j => .int (g i j)) (dat (.int i)) (dat (.int j)) M (dat (.int (g i j))) M := rv_I0 (d := fun i j => .int (g i j)) fun _ => .int _
theorem rv_bl0 {g : Int → Int → Bool} {i j : Int} : RV (rI0 fun i j => .bl (g i j)) (dat (.int i)) (dat (.int j)) M (dat (.bool (g i j))) M := rv_I0 (d := fun i j => .bool (g i j)) fun _ => .bl _
theorem rv_intC {C : Int → Int → Prop} {g : Int → Int → Int} {i j : Int} (hc : C i j) : RV (rI C fun i j => .int (g i j)) (dat (.int i)) (dat (.int j)) M (dat (.int (g i j))) M := fun Φ ρ σ v w H Q ⟨F, s⟩ q => by
  cases s.fr.1.2; cases s.fr.2
  exact ⟨i, j, rfl, rfl, hc, q _ _ (Sat.ret s.base (.int _))⟩
theorem ru_neg {i : Int} : RU (rU fun i => .int (-i)) (dat (.int i)) M (dat (.int (-i))) M := fun Φ ρ σ v H Q ⟨F, s⟩ q => by
  cases s.fr.2
  exact ⟨i, rfl, q _ _ (Sat.ret (s.weak Le.and) (.int _))⟩

/-! ### == -/
/-- data as it stands, its own list cells too -/
def IsDat (K : PySem.W.Frag) (x : VD) (M : Cells) (d : PyData) : Prop := ∀ {F Φ ρ σ H v}, SatF F Φ ρ M σ H → x.P F v → Dp K H v d
def IsDats (K : PySem.W.Frag) (xs : List VD) (M : Cells) (ds : List PyData) : Prop := ∀ {F Φ ρ σ H vs}, SatF F Φ ρ M σ H → DA F xs vs → DpAll K H vs ds
theorem isd_dat {d : PyData} : IsDat K (dat d) M d := fun s h => Rp.dp s.ex d h
theorem isd_cell {ds : List PyData} {p : Addr} (m : (p, cLd ds) ∈ M) : IsDat K (val (.ref p)) M (.list ds) := fun s h => by
  obtain ⟨a, ws, rfl, h1, h2⟩ := isl_cell m s h
  exact .lst (sq_of h1) (RpL.dp s.ex ds h2)
theorem isds_nil : IsDats K [] M [] := fun s h => by cases h; exact .nil
theorem isds_cons {d : PyData} {xs : List VD} {ds : List PyData} (h1 : IsDat K x M d) (h2 : IsDats K xs M ds) : IsDats K (x :: xs) M (d :: ds) := fun s h => by
  cases h with
  | cons q1 q2 => exact .cons (h1 s q1) (h2 s q2)
theorem isd_vtup {xs : List VD} {ds : List PyData} (h : IsDats K xs M ds) : IsDat K (vtup xs) M (.tuple ds) := fun s ⟨a, ws, e, h1, h2⟩ => by
  subst e
  exact .tup (st_of (s.ex _ _ h1)) (h s h2)
theorem isd_vlst {xs : List VD} {ds : List PyData} (h : IsDats K xs M ds) : IsDat K (vlst xs) M (.list ds) := fun s ⟨a, ws, e, h1, h2⟩ => by
  subst e
  exact .lst (sq_of (s.ex _ _ h1)) (h s h2)
/-- of such a depth, its texts of our kind -/
def Shp (n : Nat) (d : PyData) : Prop := d.canLay0 = true ∧ d.depth ≤ n
theorem Shp.ok {n : Nat} {d : PyData} (h : Shp n d) (hn : n ≤ 64) : SeqAt.shaped d = true := by
  unfold SeqAt.shaped
  rw [h.1, decide_eq_true (Nat.le_trans h.2 hn)]
  rfl
theorem shp_int {n : Nat} {i : Int} : Shp n (.int i) := ⟨rfl, Nat.zero_le _⟩
theorem shp_none {n : Nat} : Shp n .none := ⟨rfl, Nat.zero_le _⟩
theorem shp_bool {n : Nat} {i : Bool} : Shp n (.bool i) := ⟨rfl, Nat.zero_le _⟩
theorem shp_str {n : Nat} {x : Str} (h : PyData.strOk x = true) : Shp n (.str x) := ⟨by rw [PyData.canLay0]; exact h, Nat.zero_le _⟩
def ShpA (n : Nat) (ds : List PyData) : Prop := PyData.canLayAll0 ds = true ∧ PyData.depthAll ds ≤ n
theorem shpA_nil {n : Nat} : ShpA n [] := ⟨rfl, Nat.zero_le _⟩
theorem shpA_cons {n : Nat} {d : PyData} {ds : List PyData} (h : Shp n d) (t : ShpA n ds) : ShpA n (d :: ds) := ⟨by rw [PyData.canLayAll0, h.1, t.1]; rfl, by rw [PyData.depthAll]; exact Nat.max_le.mpr ⟨h.2, t.2⟩⟩
theorem shpA_of {n : Nat} : ∀ {ds : List PyData}, (∀ d ∈ ds, Shp n d) → ShpA n ds
  | [], _ => shpA_nil
  | d :: ds, h => shpA_cons (h d List.mem_cons_self) (shpA_of fun e he => h e (List.mem_cons_of_mem _ he))
theorem shp_list {n : Nat} {ds : List PyData} (h : ShpA n ds) : Shp (n + 1) (.list ds) := ⟨by rw [PyData.canLay0]; exact h.1, by rw [PyData.depth]; exact Nat.succ_le_succ h.2⟩
theorem shp_tuple {n : Nat} {ds : List PyData} (h : ShpA n ds) : Shp (n + 1) (.tuple ds) := ⟨by rw [PyData.canLay0]; exact h.1, by rw [PyData.depth]; exact Nat.succ_le_succ h.2⟩
theorem shpA_map {α : Type} {n : Nat} {f : α → PyData} {xs : List α} (h : ∀ x ∈ xs, Shp n (f x)) : ShpA n (xs.map f) := shpA_of fun d hd => by
  obtain ⟨x, hx, rfl⟩ := List.mem_map.mp hd
  exact h x hx
/-- equal as data just if equal -/
def EqOk {α : Type} (f : α → PyData) : Prop := ∀ x y, PyData.eqv (f x) (f y) = true ↔ x = y
theorem eqvAll_map {α : Type} {f : α → PyData} (h : EqOk f) : ∀ xs ys : List α, PyData.eqvAll (xs.map f) (ys.map f) = true ↔ xs = ys
  | [], [] => by simp [PyData.eqvAll]
  | x :: xs, [] => by simp [PyData.eqvAll]
  | [], y :: ys => by simp [PyData.eqvAll]
  | x :: xs, y :: ys => by
    rw [List.map_cons, List.map_cons, PyData.eqvAll, Bool.and_eq_true, h x y, eqvAll_map h xs ys, List.cons.injEq]
theorem eqok_list {α : Type} {f : α → PyData} (h : EqOk f) : EqOk fun xs : List α => .list (xs.map f) := fun xs ys => by
  show PyData.eqv (.list (xs.map f)) (.list (ys.map f)) = true ↔ _
  rw [PyData.eqv]; exact eqvAll_map h xs ys
theorem eqok_tuple {α : Type} {f : α → PyData} (h : EqOk f) : EqOk fun xs : List α => .tuple (xs.map f) := fun xs ys => by
  show PyData.eqv (.tuple (xs.map f)) (.tuple (ys.map f)) = true ↔ _
  rw [PyData.eqv]; exact eqvAll_map h xs ys
theorem eqok_int : EqOk PyData.int := fun x y => by simp [PyData.eqv]
theorem eqok_str : EqOk PyData.str := fun x y => by simp [PyData.eqv]
theorem eqok_bool : EqOk PyData.bool := fun x y => by simp [PyData.eqv]
theorem EqOk.dec {α : Type} [DecidableEq α] {f : α → PyData} (h : EqOk f) (x y : α) : PyData.eqv (f x) (f y) = decide (x = y) := by
  rw [Bool.eq_iff_iff, h x y, decide_eq_true_iff]
def rEqU (K : PySem.W.Frag) : R2 := fun x y H Q => rEqD K x y H Q ∨ rEq x y H Q
def rNeU (K : PySem.W.Frag) : R2 := fun x y H Q => rNeD K x y H Q ∨ rNe x y H Q
theorem op_eqU {X : Cx} (hu : X.A.units + 64 < cLine) : OpR X (compareOp .Eq) (rEqU X.K) := (op_eqD hu).or op_eq
theorem op_neU {X : Cx} (hu : X.A.units + 64 < cLine) : OpR X (compareOp .NotEq) (rNeU X.K) := (op_neD hu).or op_ne
theorem rv_eqD {d e : PyData} (hx : IsDat K x M d) (hy : IsDat K y M e) (sd : Shp 64 d) (se : Shp 64 e) : RV (rEqU K) x y M (dat (.bool (PyData.eqv d e))) M := fun Φ ρ σ v w H Q ⟨F, s⟩ q =>
  .inl ⟨d, e, hx s s.fr.1.2, hy s s.fr.2, sd.ok (Nat.le_refl _), se.ok (Nat.le_refl _), q _ _ (Sat.ret s.base (.bl _))⟩
theorem rv_neD {d e : PyData} (hx : IsDat K x M d) (hy : IsDat K y M e) (sd : Shp 64 d) (se : Shp 64 e) : RV (rNeU K) x y M (dat (.bool (!PyData.eqv d e))) M := fun Φ ρ σ v w H Q ⟨F, s⟩ q =>
  .inl ⟨d, e, hx s s.fr.1.2, hy s s.fr.2, sd.ok (Nat.le_refl _), se.ok (Nat.le_refl _), q _ _ (Sat.ret s.base (.bl _))⟩
theorem eqv_int {i j : Int} : PyData.eqv (.int i) (.int j) = decide (i = j) := by simp [PyData.eqv, Bool.beq_eq_decide_eq]
theorem eqv_str {i j : Str} : PyData.eqv (.str i) (.str j) = decide (i = j) := by simp [PyData.eqv, Bool.beq_eq_decide_eq]
theorem eqv_bool {i j : Bool} : PyData.eqv (.bool i) (.bool j) = decide (i = j) := by simp [PyData.eqv, Bool.beq_eq_decide_eq]
theorem rv_eqI {i j : Int} : RV (rEqU K) (dat (.int i)) (dat (.int j)) M (dat (.bool (decide (i = j)))) M := by
  have h := rv_eqD (K := K) (M := M) (isd_dat (d := .int i)) (isd_dat (d := .int j)) shp_int shp_int
  rw [eqv_int] at h; exact h
theorem rv_neI {i j : Int} : RV (rNeU K) (dat (.int i)) (dat (.int j)) M (dat (.bool (!decide (i = j)))) M := by
  have h := rv_neD (K := K) (M := M) (isd_dat (d := .int i)) (isd_dat (d := .int j)) shp_int shp_int
  rw [eqv_int] at h; exact h
theorem rv_eqS {i j : Str} : RV (rEqU K) (dat (.str i)) (dat (.str j)) M (dat (.bool (decide (i = j)))) M := fun Φ ρ σ v w H Q ⟨F, s⟩ q => by
  cases s.fr.1.2; cases s.fr.2
  refine .inr ⟨rfl, ?_⟩
  have e : decide (V.str i = V.str j) = decide (i = j) := by simp
  rw [e]
  exact q _ _ (Sat.ret s.base (.bl _))
theorem rv_neS {i j : Str} : RV (rNeU K) (dat (.str i)) (dat (.str j)) M (dat (.bool (!decide (i = j)))) M := fun Φ ρ σ v w H Q ⟨F, s⟩ q => by
  cases s.fr.1.2; cases s.fr.2
  refine .inr ⟨rfl, ?_⟩
  have e : decide (V.str i = V.str j) = decide (i = j) := by simp
  rw [e]
  exact q _ _ (Sat.ret s.base (.bl _))
/-! ### is None -/
def rIsN : R2 := fun x y H Q => y = .non ∧ Q (.bl (decide (x = .non))) H
def rNotN : R2 := fun x y H Q => y = .non ∧ Q (.bl (!decide (x = .non))) H
theorem op_isN' {X : Cx} : OpR X (compareOp .Is) rIsN := op_isN
theorem op_notN' {X : Cx} : OpR X (compareOp .IsNot) rNotN := op_notN
def isNoneD : PyData → Bool
  | .none => true
  | _ => false
theorem rp_none {F : Hp} {v : V} {d : PyData} (h : Rp F v d) : decide (v = .non) = isNoneD d := by
  cases h <;> rfl
theorem rv_isN {d : PyData} : RV rIsN (dat d) (dat .none) M (dat (.bool (isNoneD d))) M := fun Φ ρ σ v w H Q ⟨F, s⟩ q => by
  have h := rp_none s.fr.1.2
  cases s.fr.2
  exact ⟨rfl, by rw [h]; exact q _ _ (Sat.ret s.base (.bl _))⟩
theorem rv_notN {d : PyData} : RV rNotN (dat d) (dat .none) M (dat (.bool (!isNoneD d))) M := fun Φ ρ σ v w H Q ⟨F, s⟩ q => by
  have h := rp_none s.fr.1.2
  cases s.fr.2
  exact ⟨rfl, by rw [h]; exact q _ _ (Sat.ret s.base (.bl _))⟩

/-! ### subscripts, slices -/
theorem rpl_atI {F : Hp} {ws : List V} {ds : List PyData} {i : Int} {d : PyData} (h : RpL F ws ds) (e : atI ds i = some d) : ∃ v, atI ws i = some v ∧ Rp F v d := by
  unfold atI at e ⊢
  rw [h.length]
  cases q : ixN ds.length i with
  | none => rw [q] at e; cases e
  | some j =>
    rw [q] at e
    exact h.get e
theorem da_atI {F : Hp} {ws : List V} {ds : List VD} {i : Int} {d : VD} (h : DA F ds ws) (e : atI ds i = some d) : ∃ v, atI ws i = some v ∧ d.P F v := by
  unfold atI at e ⊢
  rw [← Paired.length h]
  cases q : ixN ds.length i with
  | none => rw [q] at e; cases e
  | some j =>
    rw [q] at e
    exact h.get e
theorem rv_ixL {ds : List PyData} {i : Int} {d : PyData} (hx : IsLst x M ds) (e : atI ds i = some d) : RV (rIx K) x (dat (.int i)) M (dat d) M := fun Φ ρ σ v w H Q ⟨F, s⟩ q => by
  obtain ⟨a, ws, rfl, h1, h2⟩ := hx s s.fr.1.2
  cases s.fr.2
  obtain ⟨v, h3, h4⟩ := rpl_atI h2 e
  exact .inl ⟨a, ws, i, v, rfl, rfl, sq_of h1, h3, q _ _ (Sat.ret s.base h4)⟩
theorem rv_ixT {ds : List PyData} {i : Int} {d : PyData} (hx : IsTup x M ds) (e : atI ds i = some d) : RV (rIx K) x (dat (.int i)) M (dat d) M := fun Φ ρ σ v w H Q ⟨F, s⟩ q => by
  obtain ⟨a, ws, rfl, h1, h2⟩ := hx s s.fr.1.2
  cases s.fr.2
  obtain ⟨v, h3, h4⟩ := rpl_atI h2 e
  exact .inr (.inl ⟨a, ws, i, v, rfl, rfl, st_of h1, h3, q _ _ (Sat.ret s.base h4)⟩)
theorem rv_ixLV {ds : List VD} {i : Int} {d : VD} (hx : IsLstV x M ds) (e : atI ds i = some d) : RV (rIx K) x (dat (.int i)) M d M := fun Φ ρ σ v w H Q ⟨F, s⟩ q => by
  obtain ⟨a, ws, rfl, h1, h2⟩ := hx s s.fr.1.2
  cases s.fr.2
  obtain ⟨v, h3, h4⟩ := da_atI h2 e
  exact .inl ⟨a, ws, i, v, rfl, rfl, sq_of h1, h3, q _ _ (Sat.ret s.base h4)⟩
theorem rv_ixTV {ds : List VD} {i : Int} {d : VD} (hx : IsTupV x M ds) (e : atI ds i = some d) : RV (rIx K) x (dat (.int i)) M d M := fun Φ ρ σ v w H Q ⟨F, s⟩ q => by
  obtain ⟨a, ws, rfl, h1, h2⟩ := hx s s.fr.1.2
  cases s.fr.2
  obtain ⟨v, h3, h4⟩ := da_atI h2 e
  exact .inr (.inl ⟨a, ws, i, v, rfl, rfl, st_of h1, h3, q _ _ (Sat.ret s.base h4)⟩)
theorem rv_ixScr {ns : List Int} {i : Int} {n : Int} (e : atI ns i = some n) : RV (rIx K) (vscr K ns) (dat (.int i)) M (dat (.int n)) M := fun Φ ρ σ v w H Q ⟨F, s⟩ q => by
  obtain ⟨a, rfl, h1⟩ := s.fr.1.2
  cases s.fr.2
  refine .inl ⟨a, ns.map V.int, i, .int n, rfl, rfl, ex_l s.ex h1, ?_, q _ _ (Sat.ret s.base (.int _))⟩
  unfold atI at e ⊢
  rw [List.length_map]
  cases q : ixN ns.length i with
  | none => rw [q] at e; cases e
  | some j =>
    rw [q] at e
    show (ns.map V.int)[j]? = _
    have e' : ns[j]? = some n := e
    rw [List.getElem?_map, e']
    rfl
def cutD {α : Type} (xs : List α) (lo hi : Option Int) : List α := (xs.drop (HT.sIx xs.length 0 lo)).take (HT.sIx xs.length xs.length hi - HT.sIx xs.length 0 lo)
theorem rpl_cut {F : Hp} {ws : List V} {ds : List PyData} (h : RpL F ws ds) (lo hi : Option Int) : RpL F (cutV ws lo hi) (cutD ds lo hi) := by
  unfold cutV cutD
  rw [h.length]
  exact (h.drop _).take _
/-- a slice of a list, a tuple, a text -/
def rSlU (K : PySem.W.Frag) : V → Option Int → Option Int → Hp → VK → Prop := fun x lo hi H Q => rSlL K x lo hi H Q ∨ rSlA K x lo hi H Q
theorem sl_U {X : Cx} : SlR X (rSlU X.K) := sl_list.or sl_tupA
theorem eo_none : EvO tNoPart ρ M none M := fun Φ σ H Q s q => q H s
theorem eo_some {te : TE} {i : Int} (h : Ev te ρ M (dat (.int i)) M') : EvO (tPart te) ρ M (some i) M' := fun Φ σ H Q s q => h Φ σ H _ s fun v H1 ⟨F, s1⟩ => by
  cases s1.fr.2
  exact ⟨i, rfl, q H1 ⟨F, s1.weak Le.and⟩⟩
theorem ev_slL {te : TE} {tl th : TO} {M1 M2 M3 : Cells} {lo hi : Option Int} {ds : List PyData} (h : Ev te ρ M x M1) (h1 : EvO tl ρ M1 lo M2) (h2 : EvO th ρ M2 hi M3) (hx : IsLst x M3 ds) : Ev (tSl (rSlU K) te tl th) ρ M (dat (.list (cutD ds lo hi))) M3 := fun Φ σ H Q s q =>
  h Φ σ H _ s fun v H1 s1 => h1 _ σ H1 _ s1 fun H2 s2 => h2 _ σ H2 _ s2 fun H3 ⟨F, s3⟩ => by
    obtain ⟨a, ws, rfl, h1, h2⟩ := hx s3 s3.fr.2
    exact .inl ⟨a, ws, rfl, sq_of h1, fun p hp => q _ _ (Sat.retNew (s3.weak Le.and) hp fun F' fx e => .lst e ((rpl_cut h2 lo hi).mono fx))⟩
theorem cut_whole {ds : List PyData} {lo hi : Option Int} (h1 : HT.sIx ds.length 0 lo = 0) (h2 : HT.sIx ds.length ds.length hi = ds.length) : cutD ds lo hi = ds := by
  unfold cutD
  rw [h1, h2]
  simp
theorem ev_slT {te : TE} {tl th : TO} {M1 M2 M3 : Cells} {lo hi : Option Int} {ds : List PyData} (h : Ev te ρ M (dat (.tuple ds)) M1) (h1 : EvO tl ρ M1 lo M2) (h2 : EvO th ρ M2 hi M3) : Ev (tSl (rSlU K) te tl th) ρ M (dat (.tuple (cutD ds lo hi))) M3 := fun Φ σ H Q s q =>
  h Φ σ H _ s fun v H1 s1 => h1 _ σ H1 _ s1 fun H2 s2 => h2 _ σ H2 _ s2 fun H3 ⟨F, s3⟩ => by
    have e0 := s3.fr.2
    obtain ⟨a, ws, rfl, h1, h2⟩ := ist_dat s3 s3.fr.2
    refine .inr ⟨a, ws, rfl, st_of h1, fun hw => q _ _ (Sat.ret (s3.weak Le.and) ?_), fun hw p hp => q _ _ (Sat.retNew (s3.weak Le.and) hp fun F' fx e => .tup e ((rpl_cut h2 lo hi).mono fx))⟩
    rw [h2.length] at hw
    rw [cut_whole hw.1 hw.2]
    exact e0
end

/-! ### tests -/
section
variable {K : PySem.W.Frag} {ρ : Env} {M M1 M2 M' : Cells} {x y z : VD} {te ta tb : TE} {t u : TT}
theorem et_test {b : Bool} (h : Ev te ρ M (dat (.bool b)) M') : EvT (tTest te) ρ M b M' := fun Φ σ H Q s q => h Φ σ H _ s fun v H1 s1 => by
  have ⟨F, s2⟩ := s1
  cases s2.fr.2
  exact ⟨b, rfl, q H1 s1.weak1⟩
theorem et_B {b : Bool} (h : Ev te ρ M (dat (.bool b)) M') : EvT (tB te) ρ M b M' := fun Φ σ H Q s q => h Φ σ H _ s fun v H1 s1 => by
  have ⟨F, s2⟩ := s1
  cases s2.fr.2
  exact ⟨b, rfl, q H1 s1.weak1⟩
theorem et_yes : EvT tYes ρ M true M := fun Φ σ H Q s q => q H s
/-- the second one is asked where the first one lets -/
theorem et_and {a b : Bool} (h1 : EvT t ρ M a M1) (h2 : a = true → EvT u ρ M1 b M1) : EvT (tAnd t u) ρ M (a && b) M1 := fun Φ σ H Q s q => h1 Φ σ H _ s fun H1 s1 => by
  cases a with
  | true => rw [if_pos rfl]; exact h2 rfl Φ σ H1 Q s1 q
  | false => rw [if_neg Bool.false_ne_true]; exact q H1 s1
theorem et_or {a b : Bool} (h1 : EvT t ρ M a M1) (h2 : a = false → EvT u ρ M1 b M1) : EvT (tOr t u) ρ M (a || b) M1 := fun Φ σ H Q s q => h1 Φ σ H _ s fun H1 s1 => by
  cases a with
  | true => rw [if_pos rfl]; exact q H1 s1
  | false => rw [if_neg Bool.false_ne_true]; exact h2 rfl Φ σ H1 Q s1 q
theorem et_andT {b : Bool} (h1 : EvT t ρ M true M1) (h2 : EvT u ρ M1 b M2) : EvT (tAnd t u) ρ M b M2 := fun Φ σ H Q s q => h1 Φ σ H _ s fun H1 s1 => by
  rw [if_pos rfl]; exact h2 Φ σ H1 Q s1 q
theorem et_andF (h1 : EvT t ρ M false M1) : EvT (tAnd t u) ρ M false M1 := fun Φ σ H Q s q => h1 Φ σ H _ s fun H1 s1 => by
  rw [if_neg Bool.false_ne_true]; exact q H1 s1
theorem et_orF {b : Bool} (h1 : EvT t ρ M false M1) (h2 : EvT u ρ M1 b M2) : EvT (tOr t u) ρ M b M2 := fun Φ σ H Q s q => h1 Φ σ H _ s fun H1 s1 => by
  rw [if_neg Bool.false_ne_true]; exact h2 Φ σ H1 Q s1 q
theorem et_orT (h1 : EvT t ρ M true M1) : EvT (tOr t u) ρ M true M1 := fun Φ σ H Q s q => h1 Φ σ H _ s fun H1 s1 => by
  rw [if_pos rfl]; exact q H1 s1
theorem et_not {a : Bool} (h1 : EvT t ρ M a M') : EvT (tNot t) ρ M (!a) M' := fun Φ σ H Q s q => h1 Φ σ H _ s q
theorem EvT.eq {a b : Bool} (h : EvT t ρ M a M') (e : a = b) : EvT t ρ M b M' := e ▸ h
theorem ev_andV {a b : Bool} (h1 : Ev ta ρ M (dat (.bool a)) M1) (h2 : a = true → Ev tb ρ M1 (dat (.bool b)) M1) : Ev (tAndV ta tb) ρ M (dat (.bool (a && b))) M1 := fun Φ σ H Q s q => h1 Φ σ H _ s fun v H1 s1 => by
  have ⟨F, s2⟩ := s1
  cases s2.fr.2
  refine ⟨a, rfl, ?_⟩
  cases a with
  | true => rw [if_pos rfl]; exact h2 rfl Φ σ H1 Q s1.weak1 q
  | false => rw [if_neg Bool.false_ne_true]; exact q _ H1 s1
theorem ev_orV {a b : Bool} (h1 : Ev ta ρ M (dat (.bool a)) M1) (h2 : a = false → Ev tb ρ M1 (dat (.bool b)) M1) : Ev (tOrV ta tb) ρ M (dat (.bool (a || b))) M1 := fun Φ σ H Q s q => h1 Φ σ H _ s fun v H1 s1 => by
  have ⟨F, s2⟩ := s1
  cases s2.fr.2
  refine ⟨a, rfl, ?_⟩
  cases a with
  | true => rw [if_pos rfl]; exact q _ H1 s1
  | false => rw [if_neg Bool.false_ne_true]; exact h2 rfl Φ σ H1 Q s1.weak1 q
theorem ev_notV {a : Bool} (h1 : Ev ta ρ M (dat (.bool a)) M') : Ev (tNotV ta) ρ M (dat (.bool (!a))) M' := fun Φ σ H Q s q => h1 Φ σ H _ s fun v H1 s1 => by
  have ⟨F, s2⟩ := s1
  cases s2.fr.2
  exact ⟨a, rfl, q _ H1 ⟨F, s2.ex, ⟨s2.fr.1, .bl _⟩, s2.sl, s2.nd, s2.ce⟩⟩
/-- a < b < c -/
theorem ev_chain {r r' : R2} {tc : TE} {a b : Bool} (h1 : Ev ta ρ M x M) (h2 : Ev tb ρ M y M) (hr : RV r x y M (dat (.bool a)) M) (h3 : a = true → Ev tc ρ M z M) (hr' : a = true → RV r' y z M (dat (.bool b)) M) : Ev (tChain r r' ta tb tc) ρ M (dat (.bool (a && b))) M := fun Φ σ H Q s q =>
  h1 Φ σ H _ s fun v H1 s1 => h2 _ σ H1 _ s1 fun w H2 s2 => by
    refine hr (Φ.and y w) ρ σ v w H2 _ (s2.weak (.of rfl fun F p => ⟨⟨⟨p.1.1, p.2⟩, p.1.2⟩, p.2⟩)) fun u H3 s3 => ?_
    have ⟨F, s4⟩ := s3
    cases s4.fr.2
    refine ⟨a, rfl, ?_⟩
    cases a with
    | false =>
      rw [if_neg Bool.false_ne_true]
      exact q _ H3 (s3.weak (.of rfl fun F p => ⟨p.1.1, p.2⟩))
    | true =>
      rw [if_pos rfl]
      refine h3 rfl _ σ H3 _ (s3.weak Le.and) fun c H4 s5 => ?_
      exact hr' rfl Φ ρ σ w c H4 Q s5 q
end
end Sx

set_option Elab.async false
set_option linter.all false
set_option maxRecDepth 100000
set_option maxHeartbeats 2000000
/-! Sx3: attributes, calls, statements, loops, comprehensions, by descriptions. -/
namespace Sx
open PySem L2 Evl

/-! ### attributes -/
inductive FGet (f : Str) (x : VD) : List Str → List VD → Prop
  | here {ns : List Str} {xs : List VD} : FGet f x (f :: ns) (x :: xs)
  | there {g : Str} {y : VD} {ns : List Str} {xs : List VD} : ¬ f = g → FGet f x ns xs → FGet f x (g :: ns) (y :: xs)
inductive FPut (f : Str) (y : VD) : List Str → List VD → List Str → List VD → Prop
  | here {z : VD} {ns : List Str} {xs : List VD} : FPut f y (f :: ns) (z :: xs) (f :: ns) (y :: xs)
  | there {g : Str} {z : VD} {ns ns' : List Str} {xs xs' : List VD} : ¬ g = f → FPut f y ns xs ns' xs' → FPut f y (g :: ns) (z :: xs) (g :: ns') (z :: xs')
  | new : FPut f y [] [] [f] [y]
theorem FA.cons_inv {F : Hp} {n : Str} {ns : List Str} {x : VD} {xs : List VD} {fs : List (Str × V)} (h : FA F (n :: ns) (x :: xs) fs) : ∃ v r, fs = (n, v) :: r ∧ x.P F v ∧ FA F ns xs r := by
  obtain ⟨h1, h2⟩ := h
  cases fs with
  | nil => simp at h1
  | cons a r =>
    obtain ⟨k, v⟩ := a
    simp only [List.map_cons, List.cons.injEq] at h1
    obtain ⟨rfl, h1⟩ := h1
    cases h2 with
    | cons q1 q2 => exact ⟨v, r, rfl, q1, h1, q2⟩
theorem FGet.look {f : Str} {x : VD} {F : Hp} {ns : List Str} {xs : List VD} (h : FGet f x ns xs) : ∀ {fs : List (Str × V)}, FA F ns xs fs → ∃ v, fs.lookup f = some v ∧ x.P F v := by
  induction h with
  | here =>
    intro fs a
    obtain ⟨v, r, rfl, q1, q2⟩ := a.cons_inv
    exact ⟨v, by simp [List.lookup], q1⟩
  | there hne _ ih =>
    intro fs a
    obtain ⟨v, r, rfl, q1, q2⟩ := a.cons_inv
    obtain ⟨w, h1, h2⟩ := ih q2
    refine ⟨w, ?_, h2⟩
    have hb : (f == _) = false := beq_eq_false_iff_ne.mpr hne
    simp only [List.lookup, hb]
    exact h1
theorem FPut.put {f : Str} {y : VD} {F : Hp} {v : V} (hv : y.P F v) {ns ns' : List Str} {xs xs' : List VD} (h : FPut f y ns xs ns' xs') : ∀ {fs : List (Str × V)}, FA F ns xs fs → FA F ns' xs' (putF f v fs) := by
  induction h with
  | here =>
    intro fs a
    obtain ⟨w, r, rfl, q1, q2⟩ := a.cons_inv
    rw [putF, if_pos rfl]
    exact ⟨by simp [q2.1], .cons hv q2.2⟩
  | there hne _ ih =>
    intro fs a
    obtain ⟨w, r, rfl, q1, q2⟩ := a.cons_inv
    rw [putF, if_neg hne]
    have := ih q2
    exact ⟨by simp [this.1], .cons q1 this.2⟩
  | new =>
    intro fs a
    obtain ⟨h1, h2⟩ := a
    cases fs with
    | nil => exact ⟨rfl, .cons hv .nil⟩
    | cons _ _ => simp at h1
theorem FA.lookup_none {F : Hp} {m : Str} : ∀ {ns : List Str} {xs : List VD} {fs : List (Str × V)}, FA F ns xs fs → m ∉ ns → fs.lookup m = none
  | [], xs, fs, h, _ => by
    cases fs with
    | nil => rfl
    | cons _ _ => simp [FA] at h
  | n :: ns, xs, fs, h, hm => by
    have hl := Paired.length h.2
    cases xs with
    | nil =>
      have := congrArg List.length h.1
      simp at this hl
      omega
    | cons x xs =>
      obtain ⟨v, r, rfl, q1, q2⟩ := h.cons_inv
      have hne : ¬ m = n := fun e => hm (e ▸ List.mem_cons_self)
      have hb : (m == n) = false := beq_eq_false_iff_ne.mpr hne
      simp only [List.lookup, hb]
      exact FA.lookup_none q2 fun z => hm (List.mem_cons_of_mem _ z)
theorem FA.len {F : Hp} {ns : List Str} {xs : List VD} {fs : List (Str × V)} (h : FA F ns xs fs) : fs.length = ns.length := by rw [← h.1, List.length_map]

section
variable {K : PySem.W.Frag} {ρ ρ' : Env} {M M1 M2 M3 M' : Cells} {x y z : VD} {te ta tb tv : TE} {t u : TS} {C p : Addr} {f : Str} {ns ns' : List Str} {xs xs' : List VD} {Φ : Fr} {D : Ends}
/-- what the text must have of a class: it is plain, none of the names is its own -/
structure ClsF (K : PySem.W.Frag) (C : Addr) (ns : List Str) : Prop where
  cl : Cls K C
  no : ∀ f ∈ ns, NoAttr K C f
theorem ev_fld (h : Ev ta ρ M (val (.ref p)) M1) (m : (p, cI C ns xs) ∈ M1) (c : ClsF K C ns') (hf : f ∈ ns') (g : FGet f x ns xs) : Ev (tFld K ta f) ρ M x M1 := fun Φ σ H Q s q => h Φ σ H _ s fun v H1 s1 => by
  have ⟨F, s2⟩ := s1
  have e : v = .ref p := s2.fr.2
  obtain ⟨o, h1, h0, dx, fs, rfl, h3⟩ := s2.at m
  obtain ⟨w, h4, h5⟩ := g.look h3
  exact ⟨p, C, dx, fs, w, e, h1, c.cl, c.no f hf, h4, q w H1 ⟨F, s2.ex, ⟨s2.fr.1, h5⟩, s2.sl, s2.nd, s2.ce⟩⟩

/-! ### calls -/
abbrev FSpec := List VD → Cells → (VD → Cells → Prop) → Prop
/-- one outcome alone -/
def Det (x : VD) (M : Cells) : VD → Cells → Prop := fun y N => y = x ∧ N = M
/-- a def's promise -/
def spF (n : Nat) (S : FSpec) : Sp := fun vs H Q _ => ∃ (Φ : Fr) (ρ : Env) (σ : L2.St) (ds : List VD) (M : Cells) (P : VD → Cells → Prop), Sat (Φ.andA ds vs) ρ M σ H ∧ vs.length = n ∧ S ds M P ∧
  ∀ x M' v H', P x M' → Sat (Φ.and x v) ρ M' σ H' → Q v H'
theorem spF_len {n : Nat} {S : FSpec} {vs : List V} {H : Hp} {Q : VK} {E : XK} (h : spF n S vs H Q E) : vs.length = n := let ⟨_, _, _, _, _, _, _, e, _⟩ := h; e
/-- several outcomes -/
def EvR (te : TE) (ρ : Env) (M : Cells) (P : VD → Cells → Prop) : Prop := ∀ (Φ : Fr) (σ : L2.St) (H : Hp) (Q : VK), Sat Φ ρ M σ H → (∀ x M' v H', P x M' → Sat (Φ.and x v) ρ M' σ H' → Q v H') → te σ H Q
theorem EvR.of (h : Ev te ρ M x M') : EvR te ρ M (Det x M') := fun Φ σ H Q s q => h Φ σ H Q s fun v H' s' => q x M' v H' ⟨rfl, rfl⟩ s'
theorem EvR.ev (h : EvR te ρ M (Det x M')) : Ev te ρ M x M' := fun Φ σ H Q s q => h Φ σ H Q s fun x1 M1 v H' ⟨e1, e2⟩ s' => by
  subst e1; subst e2
  exact q v H' s'
theorem EvR.imp {P P' : VD → Cells → Prop} (h : EvR te ρ M P) (k : ∀ x M', P x M' → P' x M') : EvR te ρ M P' := fun Φ σ H Q s q => h Φ σ H Q s fun x M' v H' p s' => q x M' v H' (k x M' p) s'
theorem er_call {n : Nat} {S : FSpec} {P : VD → Cells → Prop} {E : XK} {ta : TA} {ds : List VD} (h : EvA ta ρ M ds M1) (hn : ds.length = n) (hS : S ds M1 P) : EvR (tCall (spF n S) [] E ta) ρ M P := fun Φ σ H Q s q =>
  h Φ σ H _ s fun vs H1 s1 => by
    have ⟨F, s2⟩ := s1
    have hl := Paired.length s2.fr.2
    rw [List.append_nil]
    exact ⟨Φ, ρ, σ, ds, M1, P, s1, by rw [← hl]; exact hn, hS, fun x M' v H' p s' => q x M' v H' p s'⟩
theorem ev_call {n : Nat} {S : FSpec} {E : XK} {ta : TA} {ds : List VD} (h : EvA ta ρ M ds M1) (hn : ds.length = n) (hS : S ds M1 (Det x M2)) : Ev (tCall (spF n S) [] E ta) ρ M x M2 := (er_call h hn hS).ev
theorem er_meth {n : Nat} {S : FSpec} {P : VD → Cells → Prop} {E : XK} {m : Str} {t : TA} {ds : List VD} (ho : Ev ta ρ M (val (.ref p)) M1) (hm : (p, cI C ns xs) ∈ M1) (hf : m ∉ ns) (h : EvA t ρ M1 ds M2) (hn : ds.length + 1 = n) (hS : S (val (.ref p) :: ds) M2 P) : EvR (tMeth C m (spF n S) [] E ta t) ρ M P := fun Φ σ H Q s q =>
  ho Φ σ H _ s fun v H1 s1 => by
    have ⟨F, s2⟩ := s1
    have e : v = .ref p := s2.fr.2
    obtain ⟨o, h1, h0, dx, fs, rfl, h3⟩ := s2.at hm
    refine ⟨p, dx, fs, e, h1, h3.lookup_none hf, h _ σ H1 _ s1 fun vs H2 s3 => ?_⟩
    have ⟨F', s4⟩ := s3
    have hl := Paired.length s4.fr.2
    rw [List.append_nil]
    exact ⟨Φ, ρ, σ, val (.ref p) :: ds, M2, P, s3.weak (.of rfl fun F h => ⟨h.1.1, .cons h.1.2 h.2⟩), by rw [List.length_cons, ← hl]; exact hn, hS, fun x M' v H' p s' => q x M' v H' p s'⟩
theorem ev_meth {n : Nat} {S : FSpec} {E : XK} {m : Str} {t : TA} {ds : List VD} (ho : Ev ta ρ M (val (.ref p)) M1) (hm : (p, cI C ns xs) ∈ M1) (hf : m ∉ ns) (h : EvA t ρ M1 ds M2) (hn : ds.length + 1 = n) (hS : S (val (.ref p) :: ds) M2 (Det x M3)) : Ev (tMeth C m (spF n S) [] E ta t) ρ M x M3 := (er_meth ho hm hf h hn hS).ev
/-- C(..): the new instance anywhere -/
theorem er_make {n : Nat} {S : FSpec} {P : VD → Cells → Prop} {E : XK} {t : TA} {ds : List VD} (h : EvA t ρ M ds M1) (hn : ds.length + 1 = n) (hS : ∀ p, S (val (.ref p) :: ds) ((p, cI C [] []) :: M1) fun y M' => y = vn ∧ P (val (.ref p)) M') : EvR (tMake C (spF n S) [] E t) ρ M P := fun Φ σ H Q s q =>
  h Φ σ H _ s fun vs H1 s1 => fun x dx hx hdx hne => by
    have ⟨F, s2⟩ := s1
    have hl := Paired.length s2.fr.2
    rw [List.append_nil]
    have s3 := (s2.newH (o := .own x) hdx).newC (c := cI C [] []) (o := .ins C dx []) (p := x) (by rw [upd_ne hne.symm]; exact hx) fun e => ⟨e, dx, [], rfl, rfl, .nil⟩
    refine ⟨Φ, ρ, σ, val (.ref x) :: ds, (x, cI C [] []) :: M1, fun y M' => y = vn ∧ P (val (.ref x)) M', ⟨F, s3.weak (.of rfl fun F h => ⟨h.1, .cons rfl h.2⟩)⟩, by rw [List.length_cons, ← hl]; exact hn, hS x, fun y M' v H' hp s' => ?_⟩
    obtain ⟨rfl, hp⟩ := hp
    have ⟨F', s5⟩ := s'
    refine ⟨?_, q (val (.ref x)) M' (.ref x) H' hp ⟨F', s5.ex, ⟨s5.fr.1, rfl⟩, s5.sl, s5.nd, s5.ce⟩⟩
    have e : Rp F' v .none := s5.fr.2
    cases e
    rfl

/-! ### built-in calls, methods of built-in types -/
theorem ev_cb {r : List V → Hp → VK → Prop} {ta : TA} {ds : List VD} (h : EvA ta ρ M ds M1) (hr : RC r ds M1 z M2) : Ev (tCB r ta) ρ M z M2 := fun Φ σ H Q s q => h Φ σ H _ s fun vs H1 s1 => hr Φ ρ σ vs H1 Q s1 q
def IsTy (K : PySem.W.Frag) (T : String) (x : VD) (M : Cells) : Prop := ∀ {F Φ ρ σ H v}, SatF F Φ ρ M σ H → x.P F v → tyV K T v H
theorem ity_l {ds : List VD} (h : IsLstV x M ds) : IsTy K "list" x M := fun s q => by
  obtain ⟨a, ws, rfl, h1, _⟩ := h s q
  exact .inl ⟨rfl, ws, sq_of h1⟩
theorem ity_s {i : Str} : IsTy K "str" (dat (.str i)) M := fun s q => by cases q; exact rfl
theorem ev_bm {T : String} {r : V → List V → Hp → VK → Prop} {ta : TA} {ds : List VD} (ho : Ev tb ρ M x M1) (ty : IsTy K T x M1) (h : EvA ta ρ M1 ds M2) (hr : RM r x ds M2 z M3) : Ev (tBM K T r tb ta) ρ M z M3 := fun Φ σ H Q s q =>
  ho Φ σ H _ s fun v H1 ⟨F, s1⟩ => ⟨ty s1 s1.fr.2, h _ σ H1 _ ⟨F, s1⟩ fun vs H2 s2 => hr Φ ρ σ v vs H2 Q s2 q⟩
theorem ev_bm0 {T : String} {r : V → List V → Hp → VK → Prop} (ho : Ev tb ρ M x M1) (ty : IsTy K T x M1) (hr : RM r x [] M1 z M2) : Ev (tBM0 K T r tb) ρ M z M2 := fun Φ σ H Q s q =>
  ho Φ σ H _ s fun v H1 ⟨F, s1⟩ => ⟨ty s1 s1.fr.2, hr Φ ρ σ v [] H1 Q ⟨F, s1.ex, ⟨s1.fr, .nil⟩, s1.sl, s1.nd, s1.ce⟩ q⟩
/-- xs.append(e) -/
theorem rm_append {ds : List PyData} {d : PyData} (h : Put p (cLd ds) (cLd (ds ++ [d])) M M') (hl : ds.length < sizeLine) : RM rAppend (val (.ref p)) [dat d] M vn M' := fun Φ ρ σ v vs H Q ⟨F, s⟩ q => by
  have e : v = .ref p := s.fr.1.2
  cases s.fr.2 with
  | cons q1 q2 =>
    cases q2
    obtain ⟨o, h1, h0, ws, rfl, h3⟩ := s.at h.mem
    refine ⟨p, ws, _, e, rfl, h1, by rw [h3.length]; exact hl, q .non _ ⟨F, ?_⟩⟩
    have s' := s.put1 (o := .lst (ws ++ [_])) h h0 ⟨h0, _, rfl, h3.append (.cons q1 .nil)⟩
    exact ⟨s'.ex, ⟨s'.fr.1.1, .non⟩, s'.sl, s'.nd, s'.ce⟩
theorem rm_appendV {ds : List VD} {d : VD} (h : Put p (cL ds) (cL (ds ++ [d])) M M') (hl : ds.length < sizeLine) : RM rAppend (val (.ref p)) [d] M vn M' := fun Φ ρ σ v vs H Q ⟨F, s⟩ q => by
  have e : v = .ref p := s.fr.1.2
  cases s.fr.2 with
  | cons q1 q2 =>
    cases q2
    obtain ⟨o, h1, h0, ws, rfl, h3⟩ := s.at h.mem
    refine ⟨p, ws, _, e, rfl, h1, by rw [← Paired.length h3]; exact hl, q .non _ ⟨F, ?_⟩⟩
    have s' := s.put1 (o := .lst (ws ++ [_])) h h0 ⟨h0, _, rfl, h3.append (.cons q1 .nil)⟩
    exact ⟨s'.ex, ⟨s'.fr.1.1, .non⟩, s'.sl, s'.nd, s'.ce⟩
/-- len -/
def rLen (K : PySem.W.Frag) : List V → Hp → VK → Prop := fun xs H Q => ∃ x n, xs = [x] ∧ LenV K x H n ∧ Q (.int n) H
theorem call_len' {X : Cx} : CallR X (.builtin "len") (rLen X.K) := call_len
def rLenD : List V → Hp → VK → Prop := fun xs H Q => ∃ a kvs, xs = [V.ref a] ∧ H a = some (.dK kvs) ∧ Q (.int kvs.length) H
def rLenU (K : PySem.W.Frag) : List V → Hp → VK → Prop := fun xs H Q => rLen K xs H Q ∨ rLenD xs H Q
theorem call_lenU {X : Cx} : CallR X (.builtin "len") (rLenU X.K) := call_len'.or call_lenD
theorem rc1 {ds : List VD} {F : Hp} {vs : List V} (h : DA F [x] vs) : ∃ v, vs = [v] ∧ x.P F v := by
  cases h with
  | cons q1 q2 => cases q2; exact ⟨_, rfl, q1⟩
theorem rc2 {F : Hp} {vs : List V} (h : DA F [x, y] vs) : ∃ v w, vs = [v, w] ∧ x.P F v ∧ y.P F w := by
  cases h with
  | cons q1 q2 =>
    cases q2 with
    | cons q3 q4 => cases q4; exact ⟨_, _, rfl, q1, q3⟩
theorem SatF.base1 {F : Hp} {σ : L2.St} {H : Hp} {ds : List VD} {vs : List V} (s : SatF F (Φ.andA ds vs) ρ M σ H) : SatF F Φ ρ M σ H := s.weak Le.andA
theorem rc_len {ds : List VD} (hx : IsSeq K x M ds) : RC (rLenU K) [x] M (dat (.int ds.length)) M := fun Φ ρ σ vs H Q ⟨F, s⟩ q => by
  obtain ⟨v, rfl, h1⟩ := rc1 (ds := []) s.fr.2
  obtain ⟨a, ws, rfl, h2, h3⟩ := hx s h1
  have hl := Paired.length h3
  refine .inl ⟨_, ws.length, rfl, ?_, q _ _ (Sat.ret s.base1 (by rw [← hl]; exact .int _))⟩
  rcases h2 with h2 | h2
  · exact .inl ⟨ws, h2, rfl⟩
  · exact .inr ⟨ws, h2, rfl⟩
theorem rc_lenL {ds : List PyData} (hx : IsLst x M ds) : RC (rLenU K) [x] M (dat (.int ds.length)) M := by
  have h := rc_len (K := K) (iss_l (K := K) hx.v)
  rw [List.length_map] at h; exact h
theorem rc_lenT {ds : List PyData} (hx : IsTup x M ds) : RC (rLenU K) [x] M (dat (.int ds.length)) M := by
  have h := rc_len (K := K) (iss_t (K := K) hx.v)
  rw [List.length_map] at h; exact h
theorem rc_lenScr {is : List Int} : RC (rLenU K) [vscr K is] M (dat (.int is.length)) M := fun Φ ρ σ vs H Q ⟨F, s⟩ q => by
  obtain ⟨v, rfl, a, rfl, h1⟩ := rc1 (ds := []) s.fr.2
  refine .inl ⟨_, (is.map V.int).length, rfl, .inl ⟨_, ex_l s.ex h1, rfl⟩, q _ _ (Sat.ret s.base1 (by rw [List.length_map]; exact .int _))⟩
theorem rc_lenS {i : Str} (h : i.length ≤ sizeLine) : RC (rLenU K) [dat (.str i)] M (dat (.int i.length)) M := fun Φ ρ σ vs H Q ⟨F, s⟩ q => by
  obtain ⟨v, rfl, h1⟩ := rc1 (ds := []) s.fr.2
  cases h1
  exact .inl ⟨_, i.length, rfl, ⟨h, rfl⟩, q _ _ (Sat.ret s.base1 (.int _))⟩
/-- tuple(xs), list(xs) -/
def rTupOf (K : PySem.W.Frag) : List V → Hp → VK → Prop := fun xs H Q => ∃ p ys, xs = [.ref p] ∧ ((SqL K H p ys ∧ ∀ l, H l = none → Q (.ref l) (upd H l (.tup ys))) ∨ (SqT K H p ys ∧ Q (.ref p) H))
theorem call_tuple_of' {X : Cx} : CallR X (.type "tuple") (rTupOf X.K) := call_tuple_of
def rLstOf (K : PySem.W.Frag) : List V → Hp → VK → Prop := fun xs H Q => ∃ p ys, xs = [.ref p] ∧ (SqL K H p ys ∨ SqT K H p ys) ∧ ∀ l, H l = none → Q (.ref l) (upd H l (.lst ys))
theorem call_list_of' {X : Cx} : CallR X (.type "list") (rLstOf X.K) := call_list_of
theorem rc_tupL {ds : List PyData} (hx : IsLst x M ds) : RC (rTupOf K) [x] M (dat (.tuple ds)) M := fun Φ ρ σ vs H Q ⟨F, s⟩ q => by
  obtain ⟨v, rfl, h1⟩ := rc1 (ds := []) s.fr.2
  obtain ⟨a, ws, rfl, h2, h3⟩ := hx s h1
  exact ⟨a, ws, rfl, .inl ⟨sq_of h2, fun l hl => q _ _ (Sat.retNew s.base1 hl fun F' fx e => .tup e (h3.mono fx))⟩⟩
theorem rc_tupT {ds : List PyData} : RC (rTupOf K) [dat (.tuple ds)] M (dat (.tuple ds)) M := fun Φ ρ σ vs H Q ⟨F, s⟩ q => by
  obtain ⟨v, rfl, h1⟩ := rc1 (ds := []) s.fr.2
  have h1' := h1
  obtain ⟨a, ws, rfl, h2, h3⟩ := ist_dat s h1
  exact ⟨a, ws, rfl, .inr ⟨st_of h2, q _ _ (Sat.ret s.base1 h1')⟩⟩
theorem rc_lstL {ds : List PyData} (hx : IsLst x M ds) : RC (rLstOf K) [x] M (dat (.list ds)) M := fun Φ ρ σ vs H Q ⟨F, s⟩ q => by
  obtain ⟨v, rfl, h1⟩ := rc1 (ds := []) s.fr.2
  obtain ⟨a, ws, rfl, h2, h3⟩ := hx s h1
  exact ⟨a, ws, rfl, .inl (sq_of h2), fun l hl => q _ _ (Sat.retNew s.base1 hl fun F' fx e => .lst e (h3.mono fx))⟩
theorem rc_lstT {ds : List PyData} (hx : IsTup x M ds) : RC (rLstOf K) [x] M (dat (.list ds)) M := fun Φ ρ σ vs H Q ⟨F, s⟩ q => by
  obtain ⟨v, rfl, h1⟩ := rc1 (ds := []) s.fr.2
  obtain ⟨a, ws, rfl, h2, h3⟩ := hx s h1
  exact ⟨a, ws, rfl, .inr (st_of h2), fun l hl => q _ _ (Sat.retNew s.base1 hl fun F' fx e => .lst e (h3.mono fx))⟩
/-- any, all of a list of truth values -/
theorem rc_any {bs : List Bool} (hx : IsLst x M (bs.map PyData.bool)) : RC (rAny K) [x] M (dat (.bool (bs.any id))) M := fun Φ ρ σ vs H Q ⟨F, s⟩ q => by
  obtain ⟨v, rfl, h1⟩ := rc1 (ds := []) s.fr.2
  obtain ⟨a, ws, rfl, h2, h3⟩ := hx s h1
  cases h3.bls
  exact ⟨a, bs, rfl, sq_of h2, q _ _ (Sat.ret s.base1 (.bl _))⟩
theorem rc_all {bs : List Bool} (hx : IsLst x M (bs.map PyData.bool)) : RC (rAll K) [x] M (dat (.bool (bs.all id))) M := fun Φ ρ σ vs H Q ⟨F, s⟩ q => by
  obtain ⟨v, rfl, h1⟩ := rc1 (ds := []) s.fr.2
  obtain ⟨a, ws, rfl, h2, h3⟩ := hx s h1
  cases h3.bls
  exact ⟨a, bs, rfl, sq_of h2, q _ _ (Sat.ret s.base1 (.bl _))⟩
/-- max, min of two ints; abs; int -/
def rMax2 : List V → Hp → VK → Prop := fun xs H Q => ∃ i j, xs = [.int i, .int j] ∧ Q (.int (if j > i then j else i)) H
def rMin2 : List V → Hp → VK → Prop := fun xs H Q => ∃ i j, xs = [.int i, .int j] ∧ Q (.int (if j < i then j else i)) H
def rAbs : List V → Hp → VK → Prop := fun xs H Q => ∃ i, xs = [.int i] ∧ Q (.int (if i < 0 then -i else i)) H
def rInt1 : List V → Hp → VK → Prop := fun xs H Q => (∃ i, xs = [.int i] ∧ Q (.int i) H) ∨ ∃ k, xs = [.bl k] ∧ Q (.int (if k then 1 else 0)) H
theorem call_max2' {X : Cx} (hc : X.calm = true) : CallR X (.builtin "max") rMax2 := call_max2 hc
theorem call_min2' {X : Cx} (hc : X.calm = true) : CallR X (.builtin "min") rMin2 := call_min2 hc
theorem call_abs' {X : Cx} : CallR X (.builtin "abs") rAbs := call_abs
theorem call_int1' {X : Cx} : CallR X (.type "int") rInt1 := call_int1
theorem rc_max2 {i j : Int} : RC rMax2 [dat (.int i), dat (.int j)] M (dat (.int (max i j))) M := fun Φ ρ σ vs H Q ⟨F, s⟩ q => by
  obtain ⟨v, w, rfl, h1, h2⟩ := rc2 s.fr.2
  cases h1; cases h2
  have e : (if j > i then j else i) = max i j := by split <;> omega
  exact ⟨i, j, rfl, by rw [e]; exact q _ _ (Sat.ret s.base1 (.int _))⟩
theorem rc_min2 {i j : Int} : RC rMin2 [dat (.int i), dat (.int j)] M (dat (.int (min i j))) M := fun Φ ρ σ vs H Q ⟨F, s⟩ q => by
  obtain ⟨v, w, rfl, h1, h2⟩ := rc2 s.fr.2
  cases h1; cases h2
  have e : (if j < i then j else i) = min i j := by split <;> omega
  exact ⟨i, j, rfl, by rw [e]; exact q _ _ (Sat.ret s.base1 (.int _))⟩
theorem rc_abs {i : Int} : RC rAbs [dat (.int i)] M (dat (.int (if i < 0 then -i else i))) M := fun Φ ρ σ vs H Q ⟨F, s⟩ q => by
  obtain ⟨v, rfl, h1⟩ := rc1 (ds := []) s.fr.2
  cases h1
  exact ⟨i, rfl, q _ _ (Sat.ret s.base1 (.int _))⟩
theorem rc_int {i : Int} : RC rInt1 [dat (.int i)] M (dat (.int i)) M := fun Φ ρ σ vs H Q ⟨F, s⟩ q => by
  obtain ⟨v, rfl, h1⟩ := rc1 (ds := []) s.fr.2
  cases h1
  exact .inl ⟨i, rfl, q _ _ (Sat.ret s.base1 (.int _))⟩
end

/-! ### statements -/
def Cont (k : L2.St → Hp → Prop) (Φ : Fr) (ρ : Env) (M : Cells) : Prop := ∀ σ H, Sat Φ ρ M σ H → k σ H
/-- a word between -/
def InvK (Φ : Fr) (J : Env → Cells → Prop) : L2.St → Hp → Prop := fun σ H => ∃ ρ M, J ρ M ∧ Sat Φ ρ M σ H
/-- what is wanted of what is handed back -/
def RtQ (Q : VK) (Φ : Fr) (P : VD → Cells → Prop) : Prop := ∀ Φ' ρ σ x M v H, Le Φ' Φ → P x M → Sat (Φ'.and x v) ρ M σ H → Q v H
abbrev fnD (Q : VK) : Ends := { nx := fun _ H' => Q .non H', rt := Q }
section
variable {K : PySem.W.Frag} {ρ ρ' ρ1 : Env} {M M1 M2 M3 M' : Cells} {x y z : VD} {te ta tb tv : TE} {t u : TS} {tc : TT} {C p : Addr} {f : Str} {ns ns' nn : List Str} {xs xs' : List VD} {Φ Ψ : Fr} {D : Ends} {Q : VK} {P : VD → Cells → Prop} {J : Env → Cells → Prop}
theorem c_seq (h : Cont (t { D with nx := u D }) Φ ρ M) : Cont (tSeq t u D) Φ ρ M := h
theorem c_cut (h : Cont (t { D with nx := u D }) Φ ρ M) : Cont (tCut t u D) Φ ρ M := fun σ H s => ⟨u D, h σ H s, fun _ _ h => h⟩
/-- .. by a word -/
theorem c_cutW (J : Env → Cells → Prop) (h : Cont (t { D with nx := InvK Φ J }) Φ ρ M) (k : ∀ ρ' M', J ρ' M' → Cont (u D) Φ ρ' M') : Cont (tCut t u D) Φ ρ M := fun σ H s => ⟨InvK Φ J, h σ H s, fun σ' H' ⟨ρ', M', j, s'⟩ => k ρ' M' j σ' H' s'⟩
theorem c_inv (j : J ρ M) (l : Le Ψ Φ) : Cont (InvK Φ J) Ψ ρ M := fun σ H s => ⟨ρ, M, j, s.weak l⟩
theorem c_ret (h : Ev te ρ M x M1) (hQ : RtQ D.rt Φ P) (hP : P x M1) (l : Le Ψ Φ) : Cont (tRet te D) Ψ ρ M := fun σ H s => h Ψ σ H _ s fun v H1 s1 => hQ Ψ ρ σ x M1 v H1 l hP s1
theorem c_retR {P' : VD → Cells → Prop} (h : EvR te ρ M P') (hQ : RtQ D.rt Φ P) (hP : ∀ x M1, P' x M1 → P x M1) (l : Le Ψ Φ) : Cont (tRet te D) Ψ ρ M := fun σ H s => h Ψ σ H _ s fun x M1 v H1 p s1 => hQ Ψ ρ σ x M1 v H1 l (hP x M1 p) s1
theorem Sat.non (s : Sat Φ ρ M σ H) : Sat (Φ.and vn .non) ρ M σ H := let ⟨F, s⟩ := s; ⟨F, s.ex, ⟨s.fr, .non⟩, s.sl, s.nd, s.ce⟩
theorem c_retN (hQ : RtQ D.rt Φ P) (hP : P vn M) (l : Le Ψ Φ) : Cont (tRetN D) Ψ ρ M := fun σ H s => hQ Ψ ρ σ vn M .non H l hP s.non
theorem c_end (hQ : RtQ Q Φ P) (hP : P vn M) (l : Le Ψ Φ) : Cont (fun _ H' => Q .non H') Ψ ρ M := fun σ H s => hQ Ψ ρ σ vn M .non H l hP s.non
theorem c_next (h : Cont D.nx Φ ρ M) : Cont (tNext D) Φ ρ M := h
theorem c_break (h : Cont D.bk Φ ρ M) : Cont (tBreak D) Φ ρ M := h
theorem c_cont (h : Cont D.ct Φ ρ M) : Cont (tCont D) Φ ρ M := h
theorem Sat.asg {v : V} {σ : L2.St} {H : Hp} {i : Nat} (s : Sat (Φ.and x v) ρ M σ H) (h : SetAt x ρ i ρ') : Sat Φ ρ' M (σ.set i (some v)) H := by
  obtain ⟨F, s⟩ := s
  rw [h.eq]
  exact ⟨F, s.ex, s.fr.1, s.sl.set s.fr.2, s.nd, s.ce⟩
theorem c_asg {i : Nat} (h : Ev te ρ M x M1) (hs : SetAt x ρ i ρ') (k : Cont D.nx Φ ρ' M1) : Cont (tAsg te (gName i) D) Φ ρ M := fun σ H s => h Φ σ H _ s fun v H1 s1 => k _ _ (s1.asg hs)
theorem c_asgR {i : Nat} (h : EvR te ρ M P) (k : ∀ x M1, P x M1 → ∃ ρ', SetAt x ρ i ρ' ∧ Cont D.nx Φ ρ' M1) : Cont (tAsg te (gName i) D) Φ ρ M := fun σ H s => h Φ σ H _ s fun x M1 v H1 p s1 => by
  obtain ⟨ρ', hs, k⟩ := k x M1 p
  exact k _ _ (s1.asg hs)
theorem c_drop (h : Ev te ρ M x M1) (k : Cont D.nx Φ ρ M1) : Cont (tDrop te D) Φ ρ M := fun σ H s => h Φ σ H _ s fun v H1 s1 => k σ H1 s1.weak1
theorem c_dropR (h : EvR te ρ M P) (k : ∀ x M1, P x M1 → Cont D.nx Φ ρ M1) : Cont (tDrop te D) Φ ρ M := fun σ H s => h Φ σ H _ s fun x M1 v H1 p s1 => k x M1 p σ H1 s1.weak1
theorem c_if {b : Bool} (h : EvT tc ρ M b M1) (h1 : b = true → Cont (t D) Φ ρ M1) (h2 : b = false → Cont (u D) Φ ρ M1) : Cont (tIfS tc t u D) Φ ρ M := fun σ H s => h Φ σ H _ s fun H1 s1 => by
  cases b with
  | true => rw [if_pos rfl]; exact h1 rfl σ H1 s1
  | false => rw [if_neg Bool.false_ne_true]; exact h2 rfl σ H1 s1
theorem c_aug {i : Nat} {g : Int → Int → Int} {a b : Int} (h0 : At (dat (.int a)) ρ i) (h : Ev te ρ M (dat (.int b)) M1) (hs : SetAt (dat (.int (g a b))) ρ i ρ') (k : Cont D.nx Φ ρ' M1) : Cont (tAug i te (ipI g) D) Φ ρ M := fun σ H s => by
  have ⟨F, s0⟩ := s
  obtain ⟨v, h1, h2⟩ := s0.sl.2 i _ h0.get
  cases h2
  refine ⟨_, h1, h Φ σ H _ s fun w H1 s1 => ?_⟩
  have ⟨F1, s2⟩ := s1
  cases s2.fr.2
  refine ⟨a, b, rfl, rfl, k _ _ ?_⟩
  rw [hs.eq]
  exact ⟨F1, s2.ex, s2.fr.1, s2.sl.set (.int _), s2.nd, s2.ce⟩
theorem c_fld (hv : Ev tv ρ M y M1) (ho : Ev ta ρ M1 (val (.ref p)) M2) (h : Put p (cI C ns xs) (cI C ns' xs') M2 M3) (g : FPut f y ns xs ns' xs') (c : ClsF K C nn) (hf : f ∈ nn) (hl : ns.length < 1000) (k : Cont D.nx Φ ρ M3) : Cont (sFld K ta tv f D) Φ ρ M := fun σ H s =>
  hv Φ σ H _ s fun v H1 s1 => ho _ σ H1 _ s1 fun w H2 ⟨F, s2⟩ => by
    have e : w = .ref p := s2.fr.2
    obtain ⟨o, h1, h0, dx, fs, rfl, h3⟩ := s2.at h.mem
    refine ⟨p, C, dx, fs, e, h1, c.cl, c.no f hf, by rw [h3.len]; exact hl, k σ _ ⟨F, ?_⟩⟩
    exact (s2.put1 (o := .ins C dx (putF f v fs)) h h0 ⟨h0, dx, _, rfl, g.put s2.fr.1.2 h3⟩).weak (.of rfl fun F h => h.1.1)
end
end Sx

set_option Elab.async false
set_option linter.all false
set_option maxRecDepth 100000
set_option maxHeartbeats 2000000
/-! Sx4: targets, loops, comprehensions, by descriptions; a def's body. -/
namespace Sx
open PySem L2 Evl
section
variable {K : PySem.W.Frag} {ρ ρ' ρ1 ρ2 : Env} {M M1 M2 M3 M' : Cells} {x y z : VD} {te ta tb tv : TE} {t u : TS} {tt : TT} {C p : Addr} {Φ Ψ : Fr} {D : Ends} {P : VD → Cells → Prop} {J : Env → Cells → Prop}
/-! ### targets: what they store, where -/
def Tgt (g : TG) (js : List Nat) (x : VD) (ρ : Env) (ρ' : Env) : Prop := ∀ (Φ : Fr) (M : Cells) (v : V) (σ : L2.St) (H : Hp) (k : L2.St → Hp → Prop), Sat (Φ.and x v) ρ M σ H →
  (∀ σ', (∀ i, i ∉ js → σ'[i]? = σ[i]?) → σ'.length = σ.length → Sat Φ ρ' M σ' H → k σ' H) → g v σ H k
def Tgts (g : TGs) (js : List Nat) (xs : List VD) (ρ : Env) (ρ' : Env) : Prop := ∀ (Φ : Fr) (M : Cells) (vs : List V) (σ : L2.St) (H : Hp) (k : L2.St → Hp → Prop), Sat (Φ.andA xs vs) ρ M σ H →
  (∀ σ', (∀ i, i ∉ js → σ'[i]? = σ[i]?) → σ'.length = σ.length → Sat Φ ρ' M σ' H → k σ' H) → g vs σ H k
theorem tg_name {i : Nat} (h : SetAt x ρ i ρ') : Tgt (gName i) [i] x ρ ρ' := fun Φ M v σ H k s q => q _ (fun j hj => List.getElem?_set_ne (by simpa using Ne.symm (by simpa using hj))) (by simp) (s.asg h)
theorem tgs_nil : Tgts gNil [] [] ρ ρ := fun Φ M vs σ H k ⟨F, s⟩ q => by
  have e := s.fr.2
  cases e
  exact ⟨rfl, q σ (fun _ _ => rfl) rfl ⟨F, s.base1⟩⟩
theorem tgs_cons {g : TG} {gs : TGs} {js ks : List Nat} {xs : List VD} (h : Tgt g js x ρ ρ1) (hs : Tgts gs ks xs ρ1 ρ2) : Tgts (gCons g gs) (js ++ ks) (x :: xs) ρ ρ2 := fun Φ M vs σ H k s q => by
  have ⟨F, s0⟩ := s
  have e := s0.fr.2
  cases vs with
  | nil => cases e
  | cons v r =>
    refine ⟨v, r, rfl, h (Φ.andA xs r) M v σ H _ (s.weak (.of rfl fun F h => by
      cases h.2 with
      | cons q1 q2 => exact ⟨⟨h.1, q2⟩, q1⟩)) fun σ1 hj hl s1 => ?_⟩
    exact hs Φ M r σ1 H k s1 fun σ2 hk hl2 s2 => q σ2 (fun i hi => (hk i (fun z => hi (List.mem_append_right _ z))).trans (hj i fun z => hi (List.mem_append_left _ z))) (hl2.trans hl) s2
theorem tg_tup {gs : TGs} {js : List Nat} {n : Nat} {xs : List VD} (hx : ∀ {M}, IsTupV x M xs) (hs : Tgts gs js xs ρ ρ') (hn : xs.length = n) : Tgt (gTup K n gs) js x ρ ρ' := fun Φ M v σ H k ⟨F, s⟩ q => by
  obtain ⟨a, ws, rfl, h1, h2⟩ := hx s s.fr.2
  exact ⟨a, ws, rfl, st_of h1, by rw [← Paired.length h2]; exact hn, hs Φ M ws σ H k ⟨F, s.ex, ⟨s.fr.1, h2⟩, s.sl, s.nd, s.ce⟩ q⟩
theorem tg_tupD {gs : TGs} {js : List Nat} {n : Nat} {ds : List PyData} (hs : Tgts gs js (ds.map dat) ρ ρ') (hn : ds.length = n) : Tgt (gTup K n gs) js (dat (.tuple ds)) ρ ρ' := tg_tup ist_dat.v hs (by rw [List.length_map]; exact hn)
theorem c_asgG {g : TG} {js : List Nat} (h : Ev te ρ M x M1) (hg : Tgt g js x ρ ρ') (k : Cont D.nx Φ ρ' M1) : Cont (tAsg te g D) Φ ρ M := fun σ H s => h Φ σ H _ s fun v H1 s1 => hg Φ M1 v σ H1 _ s1 fun σ' _ _ s' => k σ' H1 s'
/-- a, b = e1, e2 -/
theorem c_par {i j : Nat} {ta : TA} (h : EvA ta ρ M [x, y] M1) (h1 : SetAt x ρ i ρ1) (h2 : SetAt y ρ1 j ρ2) (k : Cont D.nx Φ ρ2 M1) : Cont (tPar i j ta D) Φ ρ M := fun σ H s => h Φ σ H _ s fun vs H1 s1 => by
  have ⟨F, s0⟩ := s1
  obtain ⟨v, w, rfl, q1, q2⟩ := rc2 s0.fr.2
  refine ⟨v, w, rfl, k _ _ ?_⟩
  have s2 : Sat ((Φ.and y w).and x v) ρ M1 σ H1 := s1.weak (.of rfl fun F h => by
    obtain ⟨v', w', e, q1, q2⟩ := rc2 h.2
    cases e
    exact ⟨⟨h.1, q2⟩, q1⟩)
  exact (s2.asg h1).asg h2
theorem c_par3 {i j l : Nat} {ta : TA} {ρ3 : Env} (h : EvA ta ρ M [x, y, z] M1) (h1 : SetAt x ρ i ρ1) (h2 : SetAt y ρ1 j ρ2) (h3 : SetAt z ρ2 l ρ3) (k : Cont D.nx Φ ρ3 M1) : Cont (tPar3 i j l ta D) Φ ρ M := fun σ H s => h Φ σ H _ s fun vs H1 s1 => by
  have ⟨F, s0⟩ := s1
  obtain ⟨v, w, u', rfl⟩ : ∃ a b c, vs = [a, b, c] := by
    have e := Paired.length s0.fr.2
    match vs, e with
    | [a, b, c], _ => exact ⟨a, b, c, rfl⟩
  refine ⟨v, w, u', rfl, k _ _ ?_⟩
  have s2 : Sat (((Φ.and z u').and y w).and x v) ρ M1 σ H1 := s1.weak (.of rfl fun F h => by
    cases h.2 with
    | cons q1 q2 =>
      cases q2 with
      | cons q3 q4 =>
        cases q4 with
        | cons q5 q6 => exact ⟨⟨⟨h.1, q5⟩, q3⟩, q1⟩)
  exact ((s2.asg h1).asg h2).asg h3

/-! ### what is walked -/
def Walks (J : It) (Ψ : Fr) (its : List VD) : Prop := ∃ (G : Hp → Prop) (Y : Nat → Hp → V → Hp → Prop), Walk J its.length G Y ∧ (∀ Φ ρ M σ H, Le Φ Ψ → Sat Φ ρ M σ H → G H) ∧
  ∀ (i : Nat) (d : VD) (x : V) (H H' : Hp) (Φ : Fr) (ρ : Env) (M : Cells) (σ : L2.St), its[i]? = some d → Le Φ Ψ → Sat Φ ρ M σ H → Y i H x H' → Sat (Φ.and d x) ρ M σ H'
def EvI (wi : TI) (ρ : Env) (M : Cells) (its : List VD) (M' : Cells) : Prop := ∀ (Φ : Fr) (σ : L2.St) (H : Hp) (R : It → Hp → Prop), Sat Φ ρ M σ H → (∀ J H' Ψ, Le Ψ Φ → Sat Ψ ρ M' σ H' → Walks J Ψ its → R J H') → wi σ H R
theorem ei_vec {K : PySem.W.Frag} {ds : List VD} {a : Addr} {ws : List V} (hl : ws.length = ds.length) (hq : ∀ Φ ρ M σ H, Le Φ Ψ → Sat Φ ρ M σ H → SqL K H a ws ∧ ∃ F, SatF F Φ ρ M σ H ∧ DA F ds ws) : Walks (Itl K a) Ψ ds := by
  refine ⟨fun H => SqL K H a ws, YAt ws, hl ▸ walk_list, fun Φ ρ M σ H l s => (hq Φ ρ M σ H l s).1, fun i d x H H' Φ ρ M σ hi l s y => ?_⟩
  obtain ⟨rfl, hx⟩ := y
  obtain ⟨_, F, s0, hd⟩ := hq Φ ρ M σ H' l s
  obtain ⟨v, h1, h2⟩ := hd.get hi
  rw [hx] at h1
  cases h1
  exact ⟨F, s0.ex, ⟨s0.fr, h2⟩, s0.sl, s0.nd, s0.ce⟩
theorem ei_vecT {K : PySem.W.Frag} {ds : List VD} {a : Addr} {ws : List V} (hl : ws.length = ds.length) (hq : ∀ Φ ρ M σ H, Le Φ Ψ → Sat Φ ρ M σ H → SqT K H a ws ∧ ∃ F, SatF F Φ ρ M σ H ∧ DA F ds ws) : Walks (Itt K a) Ψ ds := by
  refine ⟨fun H => SqT K H a ws, YAt ws, hl ▸ walk_tup, fun Φ ρ M σ H l s => (hq Φ ρ M σ H l s).1, fun i d x H H' Φ ρ M σ hi l s y => ?_⟩
  obtain ⟨rfl, hx⟩ := y
  obtain ⟨_, F, s0, hd⟩ := hq Φ ρ M σ H' l s
  obtain ⟨v, h1, h2⟩ := hd.get hi
  rw [hx] at h1
  cases h1
  exact ⟨F, s0.ex, ⟨s0.fr, h2⟩, s0.sl, s0.nd, s0.ce⟩
/-- a fact of the frozen part, kept -/
def Fr.also (Φ : Fr) (G : Hp → Prop) (h : ∀ {F F'}, Fx F F' → G F → G F') : Fr := ⟨Φ.N, fun F => Φ.P F ∧ G F, fun e ⟨h1, h2⟩ => ⟨Φ.mono e h1, h e h2⟩⟩
/-- the description is of a frozen list (tuple) of such items -/
def FzL (x : VD) (ds : List VD) : Prop := ∀ F v, x.P F v → (vlst ds).P F v
def FzT (x : VD) (ds : List VD) : Prop := ∀ F v, x.P F v → (vtup ds).P F v
theorem fzl_dat {ds : List PyData} : FzL (dat (.list ds)) (ds.map dat) := fun F v h => vlst_dat.mpr h
theorem fzl_v {ds : List VD} : FzL (vlst ds) ds := fun F v h => h
theorem fzt_dat {ds : List PyData} : FzT (dat (.tuple ds)) (ds.map dat) := fun F v h => vtup_dat.mpr h
theorem fzt_v {ds : List VD} : FzT (vtup ds) ds := fun F v h => h
theorem fz_walkL {ds : List VD} {v : V} {σ : L2.St} {H : Hp} (s : Sat (Φ.and x v) ρ M σ H) (hx : FzL x ds) : ∃ a ws Ψ, v = .ref a ∧ SqL K H a ws ∧ Le Ψ Φ ∧ Sat Ψ ρ M σ H ∧ Walks (Itl K a) Ψ ds := by
  have ⟨F, s0⟩ := s
  obtain ⟨a, ws, rfl, h1, h2⟩ := hx F v s0.fr.2
  refine ⟨a, ws, Φ.also (fun F => F a = some (.lst ws) ∧ DA F ds ws) fun e h => ⟨e.pl _ _ h.1 rfl, h.2.mono e⟩, rfl, sq_of (s0.ex _ _ h1), .of rfl fun F h => h.1, ⟨F, s0.ex, ⟨s0.fr.1, h1, h2⟩, s0.sl, s0.nd, s0.ce⟩, ?_⟩
  refine ei_vec (ws := ws) (Paired.length h2).symm fun Φ' ρ' M' σ' H' l ⟨F', s'⟩ => ?_
  have := l.p F' s'.fr
  exact ⟨sq_of (s'.ex _ _ this.2.1), F', s', this.2.2⟩
theorem fz_walkT {ds : List VD} {v : V} {σ : L2.St} {H : Hp} (s : Sat (Φ.and x v) ρ M σ H) (hx : FzT x ds) : ∃ a ws Ψ, v = .ref a ∧ SqT K H a ws ∧ Le Ψ Φ ∧ Sat Ψ ρ M σ H ∧ Walks (Itt K a) Ψ ds := by
  have ⟨F, s0⟩ := s
  obtain ⟨a, ws, rfl, h1, h2⟩ := hx F v s0.fr.2
  refine ⟨a, ws, Φ.also (fun F => F a = some (.tup ws) ∧ DA F ds ws) fun e h => ⟨e.pl _ _ h.1 rfl, h.2.mono e⟩, rfl, st_of (s0.ex _ _ h1), .of rfl fun F h => h.1, ⟨F, s0.ex, ⟨s0.fr.1, h1, h2⟩, s0.sl, s0.nd, s0.ce⟩, ?_⟩
  refine ei_vecT (ws := ws) (Paired.length h2).symm fun Φ' ρ' M' σ' H' l ⟨F', s'⟩ => ?_
  have := l.p F' s'.fr
  exact ⟨st_of (s'.ex _ _ this.2.1), F', s', this.2.2⟩
/-- a list or a tuple -/
def iSeq (K : PySem.W.Frag) (tl : TE) : TI := fun σ H R => tl σ H fun x H1 => (∃ a, x = .ref a ∧ (∃ xs, SqL K H1 a xs) ∧ R (Itl K a) H1) ∨ ∃ a, x = .ref a ∧ (∃ xs, SqT K H1 a xs) ∧ R (Itt K a) H1
theorem iter_at {X : Cx} {tg : Expr} {pins : List (Addr × Obj)} {σ : L2.St} {H : Hp} {s1 : Shared} {R : It → Hp → Prop} {a : Addr} {xs : List V} (I1 : Inv X pins σ H s1) (hq : SqL X.K H a xs) (q : R (Itl X.K a) H) :
    wpAny (model X.prog X.w) X.A (pyIter (.ref a)) (PIE X pins σ tg R) X.xe s1 := by
  obtain ⟨its, rv, pl, hz⟩ := I1.list hq
  refine PySem.wpAny_pyIter_list pl.isList ?_
  refine ⟨_, [s1.heap.objs.size], _, _, H, rfl, I1.kept (t' := s1.toks) (fun b o => Heap.get?_push_of_some _), turn_list a _, ⟨_, Heap.get?_push_size _ rfl, rfl, rfl⟩, ?_, q⟩
  intro b hb
  cases List.mem_singleton.mp hb
  exact I1.fpOk (Nat.le_refl _) (I1.hok.fresh (Nat.le_refl _))
theorem iter_at_t {X : Cx} {tg : Expr} {pins : List (Addr × Obj)} {σ : L2.St} {H : Hp} {s1 : Shared} {R : It → Hp → Prop} {a : Addr} {xs : List V} (I1 : Inv X pins σ H s1) (hq : SqT X.K H a xs) (q : R (Itt X.K a) H) :
    wpAny (model X.prog X.w) X.A (pyIter (.ref a)) (PIE X pins σ tg R) X.xe s1 := by
  obtain ⟨its, rv, pl, hz⟩ := I1.tuple hq
  refine PySem.wpAny_pyIter_tuple (show s1.heap.IsTuple a its.toArray from pl) ?_
  refine ⟨_, [s1.heap.objs.size], _, _, H, rfl, I1.kept (t' := s1.toks) (fun b o => Heap.get?_push_of_some _), turn_tuple a _, ⟨_, Heap.get?_push_size _ rfl, rfl, rfl⟩, ?_, q⟩
  intro b hb
  cases List.mem_singleton.mp hb
  exact I1.fpOk (Nat.le_refl _) (I1.hok.fresh (Nat.le_refl _))
theorem pi_seq {X : Cx} {tg l : Expr} {tl : TE} (hl : PE X l tl) : PI X tg l (iSeq X.K tl) := by
  refine ⟨fun pins s σ H R I h => ?_⟩
  refine wpAny_mono (hl.run pins s σ H _ I h) (fun v s1 ⟨x, H1, I1, r1, q1⟩ => ?_) fun _ _ z => z
  rcases q1 with ⟨a, e, ⟨xs, hq⟩, q⟩ | ⟨a, e, ⟨xs, hq⟩, q⟩
  · subst e
    cases r1
    exact iter_at I1 hq q
  · subst e
    cases r1
    exact iter_at_t I1 hq q
theorem ei_seqL {tl : TE} {ds : List VD} (h : Ev tl ρ M x M') (hx : FzL x ds) : EvI (iSeq K tl) ρ M ds M' := fun Φ σ H R s q => h Φ σ H _ s fun v H1 s1 => by
  obtain ⟨a, ws, Ψ, e, h1, h2, h3, h4⟩ := fz_walkL (K := K) s1 hx
  exact .inl ⟨a, e, ⟨ws, h1⟩, q _ _ Ψ h2 h3 h4⟩
theorem ei_seqT {tl : TE} {ds : List VD} (h : Ev tl ρ M x M') (hx : FzT x ds) : EvI (iSeq K tl) ρ M ds M' := fun Φ σ H R s q => h Φ σ H _ s fun v H1 s1 => by
  obtain ⟨a, ws, Ψ, e, h1, h2, h3, h4⟩ := fz_walkT (K := K) s1 hx
  exact .inr ⟨a, e, ⟨ws, h1⟩, q _ _ Ψ h2 h3 h4⟩
def irange (lo : Int) (n : Nat) : List VD := (List.range n).map fun i => dat (.int (lo + (i : Nat)))
theorem ei_rng {lo : Int} {n : Nat} : Walks (Itr lo n) Ψ (irange lo n) := by
  refine ⟨fun _ => True, YFn fun i => .int (lo + i), ?_, fun _ _ _ _ _ _ _ => trivial, fun i d x H H' Φ ρ M σ hi l s y => ?_⟩
  · have : (irange lo n).length = n := by simp [irange]
    rw [this]
    exact walk_range
  · obtain ⟨rfl, rfl⟩ := y
    have ⟨F, s0⟩ := s
    have e : d = dat (.int (lo + (i : Nat))) := by
      unfold irange at hi
      rw [List.getElem?_map] at hi
      cases q : (List.range n)[i]? with
      | none => rw [q] at hi; cases hi
      | some j =>
        rw [q] at hi
        have := List.getElem?_eq_some_iff.mp q
        obtain ⟨h1, h2⟩ := this
        rw [List.getElem_range] at h2
        subst h2
        exact (Option.some.inj hi).symm
    subst e
    exact ⟨F, s0.ex, ⟨s0.fr, .int _⟩, s0.sl, s0.nd, s0.ce⟩
theorem ei_rng1 {ta : TA} {n : Int} (h : EvA ta ρ M [dat (.int n)] M') (hn : -(2 ^ 62) ≤ n ∧ n < 2 ^ 62) : EvI (iRng1 ta) ρ M (irange 0 n.toNat) M' := fun Φ σ H R s q => h Φ σ H _ s fun vs H1 s1 => by
  have ⟨F, s0⟩ := s1
  obtain ⟨v, rfl, h1⟩ := rc1 (ds := []) s0.fr.2
  cases h1
  exact ⟨n, rfl, hn.1, hn.2, q _ H1 Φ (.refl _) (s1.weak Le.andA) ei_rng⟩
theorem ei_rng2 {ta : TA} {m n : Int} (h : EvA ta ρ M [dat (.int m), dat (.int n)] M') (hn : -(2 ^ 62) ≤ m ∧ m < 2 ^ 62 ∧ -(2 ^ 62) ≤ n ∧ n < 2 ^ 62) : EvI (iRng2 ta) ρ M (irange m (n - m).toNat) M' := fun Φ σ H R s q => h Φ σ H _ s fun vs H1 s1 => by
  have ⟨F, s0⟩ := s1
  obtain ⟨v, w, rfl, h1, h2⟩ := rc2 s0.fr.2
  cases h1; cases h2
  exact ⟨m, n, rfl, hn, q _ H1 Φ (.refl _) (s1.weak Le.andA) ei_rng⟩
/-- pairs: a new tuple each -/
theorem ei_pair {G : Hp → Prop} {n : Nat} {J : It} {f g : Nat → Option V} {ds es : List VD} (hn : ds.length = n) (hn2 : es.length = n) (w : Walk J n G (YPair f g)) (hG : ∀ Φ ρ M σ H, Le Φ Ψ → Sat Φ ρ M σ H → G H)
    (h : ∀ Φ ρ M σ H, Le Φ Ψ → Sat Φ ρ M σ H → ∃ F, SatF F Φ ρ M σ H ∧ ∀ (i : Nat) d e v w, ds[i]? = some d → es[i]? = some e → f i = some v → g i = some w → d.P F v ∧ e.P F w) : Walks J Ψ ((ds.zip es).map fun p => vtup [p.1, p.2]) := by
  refine ⟨G, YPair f g, ?_, hG, fun i d x H H' Φ ρ M σ hi l s y => ?_⟩
  · have : ((ds.zip es).map fun p => vtup [p.1, p.2]).length = n := by simp [hn, hn2]
    rw [this]
    exact w
  · obtain ⟨T, v, u, rfl, hT, rfl, h1, h2⟩ := y
    obtain ⟨F, s0, hd⟩ := h Φ ρ M σ H l s
    rw [List.getElem?_map] at hi
    cases q : (ds.zip es)[i]? with
    | none => rw [q] at hi; cases hi
    | some p =>
      obtain ⟨d1, e1⟩ := p
      rw [q] at hi
      cases hi
      rw [List.getElem?_zip_eq_some] at q
      obtain ⟨k1, k2⟩ := hd i d1 e1 v u q.1 q.2 h1 h2
      exact Sat.retNew s0 hT fun F' fx e => ⟨T, [v, u], rfl, e, .cons (d1.mono fx k1) (.cons (e1.mono fx k2) .nil)⟩
theorem ei_enum {ta : TA} {ds : List VD} (h : EvA ta ρ M [x] M') (hx : FzL x ds) : EvI (iEnum K ta) ρ M (((irange 0 ds.length).zip ds).map fun p => vtup [p.1, p.2]) M' := fun Φ σ H R s q => h Φ σ H _ s fun vs H1 s1 => by
  have ⟨F, s0⟩ := s1
  obtain ⟨v, rfl, h1⟩ := rc1 (ds := []) s0.fr.2
  obtain ⟨a, ws, rfl, h1, h2⟩ := hx F v h1
  refine ⟨a, ws, rfl, sq_of (s0.ex _ _ h1), q _ H1 (Φ.also (fun F => F a = some (.lst ws) ∧ DA F ds ws) fun e h => ⟨e.pl _ _ h.1 rfl, h.2.mono e⟩) (.of rfl fun F h => h.1) ⟨F, s0.ex, ⟨s0.fr.1, h1, h2⟩, s0.sl, s0.nd, s0.ce⟩ ?_⟩
  have hl := Paired.length h2
  refine ei_pair (n := ws.length) (by simp [irange, hl]) hl (walk_enum (K := K) (a := a) (xs := ws)) (fun Φ' ρ' M' σ' H' l ⟨F', s'⟩ => sq_of (s'.ex _ _ (l.p F' s'.fr).2.1)) fun Φ' ρ' M' σ' H' l ⟨F', s'⟩ => ⟨F', s', fun i d e v w q1 q2 q3 q4 => ?_⟩
  obtain ⟨v', k1, k2⟩ := (l.p F' s'.fr).2.2.get q2
  rw [q4] at k1
  cases k1
  refine ⟨?_, k2⟩
  cases q3
  unfold irange at q1
  rw [List.getElem?_map] at q1
  cases q : (List.range ds.length)[i]? with
  | none => rw [q] at q1; cases q1
  | some j =>
    rw [q] at q1
    obtain ⟨z1, z2⟩ := List.getElem?_eq_some_iff.mp q
    rw [List.getElem_range] at z2
    subst z2
    cases q1
    show Rp F' (V.int (i : Int)) (PyData.int (0 + (i : Int)))
    rw [Int.zero_add]
    exact .int _
theorem ei_zip {ta : TA} {ds es : List VD} (h : EvA ta ρ M [x, y] M') (hx : FzL x ds) (hy : FzL y es) : EvI (iZip K ta) ρ M ((ds.zip es).map fun p => vtup [p.1, p.2]) M' := fun Φ σ H R s q => h Φ σ H _ s fun vs H1 s1 => by
  have ⟨F, s0⟩ := s1
  obtain ⟨v, w, rfl, h1, h2⟩ := rc2 s0.fr.2
  obtain ⟨a, ws, rfl, h1, h3⟩ := hx F v h1
  obtain ⟨b, us, rfl, h2, h4⟩ := hy F w h2
  refine ⟨a, b, ws, us, rfl, sq_of (s0.ex _ _ h1), sq_of (s0.ex _ _ h2), q _ H1 (Φ.also (fun F => (F a = some (.lst ws) ∧ DA F ds ws) ∧ F b = some (.lst us) ∧ DA F es us) fun e h => ⟨⟨e.pl _ _ h.1.1 rfl, h.1.2.mono e⟩, e.pl _ _ h.2.1 rfl, h.2.2.mono e⟩) (.of rfl fun F h => h.1) ⟨F, s0.ex, ⟨s0.fr.1, ⟨h1, h3⟩, h2, h4⟩, s0.sl, s0.nd, s0.ce⟩ ?_⟩
  have hl := Paired.length h3
  have hl2 := Paired.length h4
  have e1 : (ds.take (min ws.length us.length)).zip (es.take (min ws.length us.length)) = ds.zip es := by
    rw [List.zip_eq_zipWith, List.zip_eq_zipWith, ← List.take_zipWith, List.take_of_length_le (by rw [List.length_zipWith]; omega)]
  rw [← e1]
  refine ei_pair (n := min ws.length us.length) (by rw [List.length_take]; omega) (by rw [List.length_take]; omega) (walk_zip (K := K) (a := a) (b := b) (xs := ws) (ys := us) rfl) (fun Φ' ρ' M' σ' H' l ⟨F', s'⟩ => ⟨sq_of (s'.ex _ _ (l.p F' s'.fr).2.1.1), sq_of (s'.ex _ _ (l.p F' s'.fr).2.2.1)⟩) fun Φ' ρ' M' σ' H' l ⟨F', s'⟩ => ⟨F', s', fun i d e v w q1 q2 q3 q4 => ?_⟩
  have hi : i < min ws.length us.length := by
    have := (List.getElem?_eq_some_iff.mp q1).1
    rw [List.length_take] at this
    omega
  rw [List.getElem?_take_of_lt hi] at q1 q2
  obtain ⟨v', k1, k2⟩ := (l.p F' s'.fr).2.1.2.get q1
  obtain ⟨w', k3, k4⟩ := (l.p F' s'.fr).2.2.2.get q2
  rw [q3] at k1
  rw [q4] at k3
  cases k1; cases k3
  exact ⟨k2, k4⟩

/-! ### for -/
theorem c_for {wi : TI} {g : TG} {tb : TS} {its : List VD} (h : EvI wi ρ M its M1) (I : Nat → Env → Cells → Prop) (h0 : I 0 ρ M1)
    (hs : ∀ Ψ, Le Ψ Φ → ∀ (i : Nat) d ρ' M', its[i]? = some d → I i ρ' M' → ∃ ρ'' js, Tgt g js d ρ' ρ'' ∧ Cont (tb { D with nx := InvK Ψ (I (i + 1)), ct := InvK Ψ (I (i + 1)), bk := D.nx }) Ψ ρ'' M')
    (hd : ∀ ρ' M', I its.length ρ' M' → Cont D.nx Φ ρ' M') : Cont (tFor wi g tb D) Φ ρ M := fun σ H s => h Φ σ H _ s fun J H1 Ψ l s1 ⟨G, Y, w, hG, hY⟩ =>
  for_it w (fun i => InvK Ψ (I i)) ⟨ρ, M1, h0, s1⟩ (fun i σ' H' _ ⟨ρ', M', _, s'⟩ => hG Ψ ρ' M' σ' H' (.refl _) s') (fun i x σ' H' H2 hi ⟨ρ', M', j, s'⟩ y => by
    have hi' : its[i]? = some its[i] := by simp [hi]
    obtain ⟨ρ'', js, hg, k⟩ := hs Ψ l i its[i] ρ' M' hi' j
    exact hg Ψ M' x σ' H2 _ (hY i its[i] x H' H2 Ψ ρ' M' σ' hi' (.refl _) s' y) fun σ2 _ _ s2 => k σ2 H2 s2) fun σ' H' ⟨ρ', M', j, s'⟩ => hd ρ' M' j σ' H' (s'.weak l)

theorem for_k {g : TG} {tb : TS} {js : List Nat} {d : VD} {D' : Ends} (h : Tgt g js d ρ ρ') (k : Cont (tb D') Ψ ρ' M) : ∃ ρ'' js, Tgt g js d ρ ρ'' ∧ Cont (tb D') Ψ ρ'' M := ⟨ρ', js, h, k⟩

/-! ### while -/
theorem c_while {tc : TT} {tb : TS} (I : Nat → Env → Cells → Prop) (m0 : Nat) (h0 : I m0 ρ M)
    (hs : ∀ m ρ' M', I m ρ' M' → ∃ b M1, EvT tc ρ' M' b M1 ∧ (b = true → Cont (tb { D with nx := InvK Φ (fun ρ M => ∃ m', m' < m ∧ I m' ρ M), ct := InvK Φ (fun ρ M => ∃ m', m' < m ∧ I m' ρ M), bk := D.nx }) Φ ρ' M1) ∧ (b = false → Cont D.nx Φ ρ' M1)) :
    Cont (tWhile tc tb D) Φ ρ M := fun σ H s => by
  refine ⟨fun m => InvK Φ (I m), ⟨m0, ρ, M, h0, s⟩, ?_⟩
  rintro m σ' H' ⟨ρ', M', j, s'⟩
  obtain ⟨b, M1, hb, h1, h2⟩ := hs m ρ' M' j
  refine hb Φ σ' H' _ s' fun H1 s1 => ?_
  cases b with
  | true =>
    rw [if_pos rfl]
    exact ⟨_, fun σ2 H2 ⟨ρ2, M2, ⟨m', hm, j2⟩, s2⟩ => ⟨m', hm, ρ2, M2, j2, s2⟩, h1 rfl σ' H1 s1⟩
  | false =>
    rw [if_neg Bool.false_ne_true]
    exact h2 rfl σ' H1 s1

/-! ### comprehensions -/
def wipeE (ρ : Env) : List Nat → Env
  | [] => ρ
  | v :: vs => (wipeE ρ vs).set v none
theorem Slots.wipes {F : Hp} {σ : L2.St} {ρ : Env} (h : Slots F σ ρ) : ∀ vs : List Nat, Slots F (L2.wipe σ vs) (wipeE ρ vs)
  | [] => h
  | v :: vs => (Slots.wipes h vs).wipe v
theorem wipe_get (σ : L2.St) : ∀ (vs : List Nat) (i : Nat), (L2.wipe σ vs)[i]? = if i ∈ vs then (if i < σ.length then some none else none) else σ[i]?
  | [], i => by simp [L2.wipe]
  | v :: vs, i => by
    rw [L2.wipe, List.getElem?_set, wipe_length]
    by_cases h : v = i
    · subst h; simp
    · rw [if_neg h, wipe_get σ vs i]
      have : (i ∈ v :: vs) ↔ i ∈ vs := by
        rw [List.mem_cons]
        constructor
        · rintro (e | e)
          · exact absurd e.symm h
          · exact e
        · exact .inr
      simp only [this]
theorem wipe_eq {σ σ' : L2.St} {js vs : List Nat} (h : ∀ i, i ∉ js → σ'[i]? = (L2.wipe σ vs)[i]?) (hl : σ'.length = (L2.wipe σ vs).length) (hj : ∀ i ∈ js, i ∈ vs) : L2.wipe σ' vs = L2.wipe σ vs := by
  apply List.ext_getElem?
  intro i
  rw [wipe_length] at hl
  rw [wipe_get, wipe_get, hl]
  by_cases hi : i ∈ vs
  · rw [if_pos hi, if_pos hi]
  · rw [if_neg hi, if_neg hi, h i (fun z => hi (hj i z)), wipe_get, if_neg hi]
theorem SatF.wiped {F : Hp} {σ : L2.St} {H : Hp} (s : SatF F Φ ρ M σ H) (vs : List Nat) : SatF F Φ (wipeE ρ vs) M (L2.wipe σ vs) H := ⟨s.ex, s.fr, s.sl.wipes vs, s.nd, s.ce⟩
/-- an owned list of values is frozen -/
theorem SatF.freeze {F : Hp} {σ : L2.St} {H : Hp} {D : Addr} {acc : List VD} (s : SatF F (Φ.more (D, cL acc)) ρ M σ H) : Sat (Φ.and (vlst acc) (.ref D)) ρ M σ H := by
  obtain ⟨o, h1, h0, ws, rfl, h3⟩ := s.ce (D, cL acc) (List.mem_append_right _ List.mem_cons_self)
  have fx : Fx F (upd F D (.lst ws)) := Fx.of (Ex.new h0)
  have hsub : (M ++ Φ.N).Sublist (M ++ (Φ.more (D, cL acc)).N) := List.Sublist.append (List.Sublist.refl M) (List.sublist_cons_self _ _)
  refine ⟨upd F D (.lst ws), fun a u e => ?_, ⟨Φ.mono fx s.fr, D, ws, rfl, upd_same, h3.mono fx⟩, s.sl.mono fx, s.nd.sublist (hsub.map _), fun c hc => ?_⟩
  · by_cases h : a = D
    · subst h; rw [upd_same] at e; cases e; exact h1
    · rw [upd_ne h] at e; exact s.ex a u e
  · obtain ⟨u, k1, k2⟩ := s.ce c (hsub.subset hc)
    have hne : c.1 ≠ D := fun e => by
      have nd := s.nd
      have hmem : c ∈ M ++ Φ.N := hc
      have hp : (M ++ (Φ.more (D, cL acc)).N).Perm ((D, cL acc) :: (M ++ Φ.N)) := List.perm_middle
      have nd2 := (hp.map (·.1)).nodup_iff.mp nd
      rw [List.map_cons, List.nodup_cons] at nd2
      exact nd2.1 (List.mem_map.mpr ⟨c, hmem, e⟩)
    exact ⟨u, k1, c.2.mono fx (upd_ne hne) k2⟩
/-- the general one: I by the turn, what is made so far, the cells -/
theorem er_lc {wi : TI} {g : TG} {tt : TT} {vs : List Nat} {its : List VD} (h : EvI wi ρ M its M1) (I : Nat → List VD → Cells → Prop) (h0 : I 0 [] M1) (hl : its.length ≤ 16000000)
    (hI : ∀ i acc M', I i acc M' → acc.length ≤ i)
    (hs : ∀ (i : Nat) d acc M', its[i]? = some d → I i acc M' → ∃ ρ'' js b M2, Tgt g js d (wipeE ρ vs) ρ'' ∧ (∀ i ∈ js, i ∈ vs) ∧ EvT tt ρ'' M' b M2 ∧ (b = true → EvR te ρ'' M2 fun y M3 => I (i + 1) (acc ++ [y]) M3) ∧ (b = false → I (i + 1) acc M2)) :
    EvR (tLc wi g tt te vs) ρ M fun y M' => ∃ acc, y = vlst acc ∧ I its.length acc M' := fun Φ σ H Q s q => h Φ σ H _ s fun J H1 Ψ l s1 ⟨G, Y, w, hG, hY⟩ => fun Dl hD => by
  have ⟨F1, s2⟩ := s1
  have lm : ∀ c, Le (Ψ.more c) Ψ := fun c => Le.more
  -- the frame's slots are kept aside
  let Ψ0 : Fr := Ψ.slots σ ρ
  refine lc_it w (fun i H' => ∃ acc M', I i acc M' ∧ Sat (Ψ0.more (Dl, cL acc)) (wipeE ρ vs) M' (L2.wipe σ vs) H') ⟨[], M1, h0, ?_⟩ (fun i H' _ ⟨acc, M', _, s'⟩ => hG _ _ _ _ _ (Le.trans Le.more Le.slots) s') (fun i x H' H2 hi ⟨acc, M', j, s'⟩ y => ?_) (fun H' ⟨acc, M', j, s'⟩ => ?_)
  · have s3 := s2.newC (c := cL []) (o := .lst []) hD fun e => ⟨e, [], rfl, .nil⟩
    refine ⟨F1, s3.ex, ⟨s3.fr, s3.sl⟩, s3.sl.wipes vs, ?_, fun c hc => ?_⟩
    · have hp : (M1 ++ (Ψ0.more (Dl, cL [])).N).Perm ((Dl, cL []) :: M1 ++ Ψ.N) := List.perm_middle
      exact (hp.map (·.1)).nodup_iff.mpr s3.nd
    · have hp : (M1 ++ (Ψ0.more (Dl, cL [])).N).Perm ((Dl, cL []) :: M1 ++ Ψ.N) := List.perm_middle
      exact s3.ce c (hp.mem_iff.mp hc)
  · have hi' : its[i]? = some its[i] := by simp [hi]
    obtain ⟨ρ'', js, b, M2, hg, hj, ht, h1, h2⟩ := hs i its[i] acc M' hi' j
    have s3 := hY i its[i] x H' H2 _ _ _ _ hi' (Le.trans Le.more Le.slots) s' y
    refine hg _ M' x _ H2 _ s3 fun σ2 k1 k2 s4 => ⟨wipe_eq k1 k2 hj, ht _ σ2 H2 _ s4 fun H3 s5 => ?_⟩
    -- back to the wiped slots
    have back : ∀ {Φ' : Fr} {acc' : List VD} {M' : Cells} {H' : Hp} {σ3 : L2.St} {ρ3 : Env}, Sat (Ψ0.more (Dl, cL acc')) ρ3 M' σ3 H' → Sat (Ψ0.more (Dl, cL acc')) (wipeE ρ vs) M' (L2.wipe σ vs) H' := fun {_ _ _ _ _ _} ⟨F, z⟩ => ⟨F, z.ex, z.fr, z.fr.2.wipes vs, z.nd, z.ce⟩
    cases b with
    | false =>
      rw [if_neg Bool.false_ne_true]
      exact ⟨acc, M2, h2 rfl, back (Φ' := Ψ) s5⟩
    | true =>
      rw [if_pos rfl]
      refine h1 rfl _ σ2 H3 _ s5 fun y M3 v H4 j4 s6 => ?_
      have ⟨F, s7⟩ := s6
      obtain ⟨o, e1, e0, ws, rfl, e3⟩ := s7.ce (Dl, cL acc) (List.mem_append_right _ List.mem_cons_self)
      refine ⟨ws, e1, ?_, acc ++ [y], M3, j4, back (Φ' := Ψ) (σ3 := σ2) (ρ3 := ρ'') ⟨F, ?_⟩⟩
      · rw [← Paired.length e3]
        have := hI i acc M' j
        have hz : sizeLine = 16777216 := sizeLine_eq
        omega
      · exact s7.put (Φ' := Ψ0.more (Dl, cL (acc ++ [y]))) (c := cL acc) (Put.behind .here M3) s7.fr.1 e0 ⟨e0, _, rfl, e3.append (.cons s7.fr.2 .nil)⟩
  · have ⟨F, s3⟩ := s'
    have s4 : SatF F (Ψ0.more (Dl, cL acc)) ρ M' σ H' := ⟨s3.ex, s3.fr, s3.fr.2, s3.nd, s3.ce⟩
    exact q (vlst acc) M' (.ref Dl) H' ⟨acc, rfl, j⟩ (s4.freeze.weak ⟨by show Φ.N.Sublist Ψ.N; exact l.n, fun F h => ⟨l.p F h.1.1, h.2⟩⟩)
theorem lc_k {g : TG} {tt : TT} {js vs : List Nat} {d : VD} {b : Bool} {Pe : Env → Prop} (h : Tgt g js d ρ ρ') (hj : ∀ i ∈ js, i ∈ vs) (ht : EvT tt ρ' M b M) (k : Pe ρ') :
    ∃ ρ'' js, Tgt g js d ρ ρ'' ∧ (∀ i ∈ js, i ∈ vs) ∧ EvT tt ρ'' M b M ∧ Pe ρ'' := ⟨ρ', js, h, hj, ht, k⟩
/-- data for each item that is let by, nothing else changes -/
theorem ev_lc {α : Type} {wi : TI} {g : TG} {tt : TT} {vs : List Nat} {e : α → VD} {xs : List α} {f : α → Bool} {r : α → PyData} (h : EvI wi ρ M (xs.map e) M1) (hl : xs.length ≤ 16000000)
    (hs : ∀ a, a ∈ xs → ∃ ρ'' js, Tgt g js (e a) (wipeE ρ vs) ρ'' ∧ (∀ i ∈ js, i ∈ vs) ∧ EvT tt ρ'' M1 (f a) M1 ∧ (f a = true → Ev te ρ'' M1 (dat (r a)) M1)) : Ev (tLc wi g tt te vs) ρ M (dat (.list ((xs.filter f).map r))) M1 := by
  refine Ev.imp (EvR.ev ((er_lc h (fun i acc M' => M' = M1 ∧ acc = (((xs.take i).filter f).map r).map dat) ⟨rfl, rfl⟩ (by rw [List.length_map]; exact hl) (fun i acc M' ⟨_, e⟩ => ?_) fun i d acc M' hi ⟨e1, e2⟩ => ?_).imp (P' := Det (vlst (((xs.filter f).map r).map dat)) M1) fun x M' ⟨acc, e, e1, e2⟩ => ?_)) fun F v h => vlst_dat.mp h
  · subst e
    rw [List.length_map, List.length_map]
    exact Nat.le_trans (List.length_filter_le _ _) (by rw [List.length_take]; omega)
  · subst e1; subst e2
    rw [List.getElem?_map] at hi
    cases q : xs[i]? with
    | none => rw [q] at hi; cases hi
    | some a =>
      rw [q] at hi
      cases hi
      have htk : xs.take (i + 1) = xs.take i ++ [a] := by rw [List.take_succ, q]; rfl
      obtain ⟨ρ'', js, h1, hj, h2, h3⟩ := hs a (List.mem_of_getElem? q)
      refine ⟨ρ'', js, f a, M', h1, hj, h2, fun hf => (EvR.of (h3 hf)).imp fun y M3 ⟨z1, z2⟩ => ?_, fun hf => ⟨rfl, ?_⟩⟩
      · subst z1; subst z2
        refine ⟨rfl, ?_⟩
        rw [htk, List.filter_append, List.map_append, List.map_append, List.filter_cons_of_pos hf]
        rfl
      · rw [htk, List.filter_append, List.map_append, List.map_append, List.filter_cons_of_neg (by rw [hf]; exact Bool.false_ne_true)]
        simp
  · subst e
    rw [List.length_map, List.take_length] at e2
    exact ⟨by rw [e2], e1⟩
end

/-! ### a def's body -/
def entry (N : List Str) (ds : List VD) : Env := ds.map some ++ List.replicate (N.length - ds.length) none
theorem slots_entry {F : Hp} {N : List Str} {ds : List VD} {vs : List V} (h : DA F ds vs) : Slots F (L2.start N vs) (entry N ds) := by
  have hl := Paired.length h
  refine ⟨by simp [L2.start, entry, hl], fun i x e => ?_⟩
  unfold entry at e
  by_cases hi : i < ds.length
  · rw [List.getElem?_append_left (by simpa using hi), List.getElem?_map] at e
    cases q : ds[i]? with
    | none => rw [q] at e; cases e
    | some d =>
      rw [q] at e
      cases e
      obtain ⟨v, h1, h2⟩ := h.get q
      refine ⟨v, ?_, h2⟩
      unfold L2.start
      rw [List.getElem?_append_left (by rw [List.length_map]; omega), List.getElem?_map, h1]
      rfl
  · rw [List.getElem?_append_right (by simpa using hi), List.getElem?_replicate] at e
    split at e <;> cases e
theorem fn_start {n : Nat} {S : FSpec} {vs : List V} {H : Hp} {Q : VK} {E : XK} {t : TS} {N : List Str} (h : spF n S vs H Q E)
    (k : ∀ ds M P Φ, ds.length = n → S ds M P → RtQ Q Φ P → Cont (t (fnD Q)) Φ (entry N ds) M) : t { nx := fun _ H' => Q .non H', rt := Q } (L2.start N vs) H := by
  obtain ⟨Φ, ρ, σ, ds, M, P, s, e, hS, hq⟩ := h
  have ⟨F, s0⟩ := s
  refine k ds M P (Φ.slots σ ρ) ((Paired.length s0.fr.2).trans e) hS (fun Φ' ρ' σ' x M' v H' l hp s' => ?_) _ _ ⟨F, s0.ex, ⟨s0.fr.1, s0.sl⟩, slots_entry s0.fr.2, s0.nd, s0.ce⟩
  have s2 := s'.weak (Ψ := (Φ.slots σ ρ).and x v) ⟨l.n, fun F h => ⟨l.p F h.1, h.2⟩⟩
  have ⟨F', s3⟩ := s2
  exact hq x M' v H' hp ⟨F', s3.ex, ⟨s3.fr.1.1, s3.fr.2⟩, s3.fr.1.2, s3.nd, s3.ce⟩
end Sx

set_option Elab.async false
set_option linter.all false
set_option maxRecDepth 100000
set_option maxHeartbeats 2000000
/-! Sx5: more rules; what all our laws have: the script's cells, drawn numbers. -/
namespace Sx
open PySem L2 Evl
/-- a list's item, by values -/
theorem get_list {X : Cx} : PGet X (rIxL X.K) := by
  intro pins s σ H o i ov iv Q I ro ri h
  obtain ⟨p, xs, j, z, rfl, rfl, hq, he, q⟩ := h
  cases ro
  obtain ⟨t, rfl⟩ := ri
  obtain ⟨its, r, pl, hz⟩ := I.list hq
  obtain ⟨k, h1, h2, h3, h4, h5⟩ := atI_get he
  obtain ⟨w, ew, rw'⟩ := r.get h2
  have hl := r.length
  have hn := line63
  by_cases h0 : 0 ≤ j
  · have hj : j.toNat = k := by
      rw [PySem.seqIndex_of h0 h5] at h1
      exact Option.some.inj h1
    exact PySem.wpAny_getItem_list pl.isList h0 (by omega) (by rw [hj]; simpa using ew) ⟨z, H, I, rw', q⟩
  · have hj : (j + (its.toArray.size : Int)).toNat = k := by
      rw [PySem.seqIndex_neg (by omega) h4] at h1
      rw [List.size_toArray, ← hl]
      exact Option.some.inj h1
    exact PySem.wpAny_getItem_list_neg pl.isList (by omega) (by rw [List.size_toArray] <;> omega) (by omega) (by rw [hj]; simpa using ew) ⟨z, H, I, rw', q⟩
section
variable {K : PySem.W.Frag} {ρ ρ' : Env} {M M1 M2 M3 M' : Cells} {x y z : VD} {te ta tb tv : TE} {t u : TS} {p : Addr} {Φ : Fr} {D : Ends}
theorem ixN_lt {n : Nat} {k : Int} {j : Nat} (h : ixN n k = some j) : j < n := (ixN_seq h).2.1
/-- xs[i] op= n, an owned list whose item is an int -/
theorem c_augS {g : Int → Int → Int} {xs : List VD} {k a b : Int} {j : Nat} (ho : Ev ta ρ M (val (.ref p)) M) (hi : Ev tb ρ M (dat (.int k)) M) (hj : ixN xs.length k = some j) (hx : xs[j]? = some (dat (.int a))) (hv : Ev tv ρ M (dat (.int b)) M) (hp : Put p (cL xs) (cL (xs.set j (dat (.int (g a b))))) M M') (kk : Cont D.nx Φ ρ M') :
    Cont (tAugS ta tb tv (rIxL K) (ipI g) rSetL D) Φ ρ M := fun σ H s => ho Φ σ H _ s fun v1 H1 s1 => hi _ σ H1 _ s1 fun v2 H2 s2 => by
  have ⟨F2, z2⟩ := s2
  have e1 : v1 = .ref p := z2.fr.1.2
  cases z2.fr.2
  subst e1
  obtain ⟨o, k1, k0, ws, rfl, k3⟩ := z2.at hp.mem
  obtain ⟨w, q1, q2⟩ := k3.get hx
  refine ⟨p, ws, k, w, rfl, rfl, sq_of k1, ?_, ?_⟩
  · unfold atI
    rw [← Paired.length k3, hj]
    exact q1
  · cases q2
    refine hv _ σ H2 _ s2 fun v3 H3 s3 => ?_
    have ⟨F3, z3⟩ := s3
    cases z3.fr.2
    refine ⟨a, b, rfl, rfl, ?_⟩
    obtain ⟨o, k1, k0, ws, rfl, k3⟩ := z3.at hp.mem
    refine ⟨p, ws, k, j, rfl, rfl, k1, by rw [← Paired.length k3]; exact hj, kk σ _ ⟨F3, ?_⟩⟩
    exact (z3.put1 (o := .lst (ws.set j (.int (g a b)))) hp k0 ⟨k0, _, rfl, DA.set (d := dat (.int (g a b))) (Rp.int _) j k3⟩).weak (.of rfl fun F h => h.1.1.1)
theorem dpAll_ints {H : Hp} : ∀ ns : List Int, DpAll K H (ns.map V.int) (ns.map PyData.int)
  | [] => .nil
  | n :: ns => .cons (.int n) (dpAll_ints ns)
/-- the script, as data -/
theorem isd_scr {ns : List Int} : IsDat K (vscr K ns) M (.list (ns.map .int)) := fun s ⟨a, e, h⟩ => by
  subst e
  exact .lst (ex_l s.ex h) (dpAll_ints ns)
/-- an owned list is made of a written one -/
theorem er_lstC {t : TA} {ds : List VD} (h : EvA t ρ M ds M1) (hl : ds.length ≤ sizeLine) : EvR (tLst t) ρ M fun y M' => ∃ p, y = val (.ref p) ∧ M' = (p, cL ds) :: M1 := fun Φ σ H Q s q =>
  h Φ σ H _ s fun vs H1 ⟨F, s1⟩ => by
    have hr := s1.fr.2
    refine ⟨by rw [← Paired.length hr]; exact hl, fun p hp => ?_⟩
    have s2 := s1.newC (c := cL ds) (o := .lst vs) hp fun e => ⟨e, vs, rfl, hr⟩
    exact q _ _ _ _ ⟨p, rfl, rfl⟩ ⟨F, s2.ex, ⟨s2.fr.1, rfl⟩, s2.sl, s2.nd, s2.ce⟩
theorem er_lstCd {t : TA} {ds : List PyData} (h : EvD t ρ M ds M1) (hl : ds.length ≤ sizeLine) : EvR (tLst t) ρ M fun y M' => ∃ p, y = val (.ref p) ∧ M' = (p, cLd ds) :: M1 := fun Φ σ H Q s q =>
  h Φ σ H _ s fun vs H1 ⟨F, s1⟩ => by
    have hr := DA.of_dat.mp s1.fr.2
    refine ⟨by rw [hr.length]; exact hl, fun p hp => ?_⟩
    have s2 := s1.newC (c := cLd ds) (o := .lst vs) hp fun e => ⟨e, vs, rfl, hr⟩
    exact q _ _ _ _ ⟨p, rfl, rfl⟩ ⟨F, s2.ex, ⟨s2.fr.1, rfl⟩, s2.sl, s2.nd, s2.ce⟩
/-- cells that are no longer needed -/
theorem Sat.drop {σ : L2.St} {H : Hp} (s : Sat Φ ρ M σ H) (h : M'.Sublist M) : Sat Φ ρ M' σ H :=
  let ⟨F, s⟩ := s
  let hs := List.Sublist.append h (List.Sublist.refl Φ.N)
  ⟨F, s.ex, s.fr, s.sl, s.nd.sublist (hs.map _), fun c hc => s.ce c (hs.subset hc)⟩
theorem c_dropC {k : L2.St → Hp → Prop} (h : M'.Sublist M) (c : Cont k Φ ρ M') : Cont k Φ ρ M := fun σ H s => c σ H (s.drop h)
/-- the order of the cells -/
theorem Sat.perm {σ : L2.St} {H : Hp} (s : Sat Φ ρ M σ H) (h : M.Perm M') : Sat Φ ρ M' σ H :=
  let ⟨F, s⟩ := s
  let hs := h.append_right Φ.N
  ⟨F, s.ex, s.fr, s.sl, (hs.map (·.1)).nodup_iff.mp s.nd, fun c hc => s.ce c (hs.mem_iff.mpr hc)⟩
theorem c_perm {k : L2.St → Hp → Prop} (h : M.Perm M') (c : Cont k Φ ρ M') : Cont k Φ ρ M := fun σ H s => c σ H (s.perm h)
/-- what is known of a slot may be said otherwise -/
theorem Sat.slots {σ : L2.St} {H : Hp} (s : Sat Φ ρ M σ H) (h : ∀ F, Slots F σ ρ → Slots F σ ρ') : Sat Φ ρ' M σ H := let ⟨F, s⟩ := s; ⟨F, s.ex, s.fr, h F s.sl, s.nd, s.ce⟩
/-- slots that are no longer needed: forgotten -/
inductive Fgt : Env → Env → Prop
  | nil : Fgt [] []
  | keep {a : Option VD} {l l' : Env} : Fgt l l' → Fgt (a :: l) (a :: l')
  | drop {a : Option VD} {l l' : Env} : Fgt l l' → Fgt (a :: l) (none :: l')
theorem Fgt.len {l l' : Env} (h : Fgt l l') : l'.length = l.length := by
  induction h with
  | nil => rfl
  | keep _ ih => simp [ih]
  | drop _ ih => simp [ih]
theorem Fgt.get {l l' : Env} (h : Fgt l l') : ∀ {i : Nat} {x : VD}, l'[i]? = some (some x) → l[i]? = some (some x) := by
  induction h with
  | nil => intro i x e; exact e
  | keep _ ih =>
    intro i x e
    cases i with
    | zero => exact e
    | succ i => simpa using ih (by simpa using e)
  | drop _ ih =>
    intro i x e
    cases i with
    | zero => simp at e
    | succ i => simpa using ih (by simpa using e)
theorem c_fgt {k : L2.St → Hp → Prop} (h : Fgt ρ ρ') (c : Cont k Φ ρ' M) : Cont k Φ ρ M := fun σ H s => c σ H (s.slots fun F q => ⟨q.1.trans h.len.symm, fun i x e => q.2 i x (h.get e)⟩)
end

/-! ### the numbers of our laws -/
def scrCell (s : List Int) (i : Int) : Int :=
  let c := s.getD (i % s.length).toNat 0
  if (if c < 0 then -c else c) ≥ 10 ^ 60 then c % 10 ^ 18 else c
def lawNum (s : List Int) (i : Int) : Int :=
  if s = [] then (i * 48271 + 12345) % 2147483647
  else (((scrCell s i + 977 * i) * 48271 + 31 * s.length) % 2147483647 * 69621 % 2147483629 * 16807 + i) % 2147483587
def tk (s : List Int) (k m : Int) : Int := lawNum s k % m
theorem tk_nn {s : List Int} {k m : Int} (h : 0 < m) : 0 ≤ tk s k m := Int.emod_nonneg _ (by omega)
theorem tk_lt {s : List Int} {k m : Int} (h : 0 < m) : tk s k m < m := Int.emod_lt_of_pos _ h
abbrev cDraw (K : PySem.W.Frag) (s : List Int) (k : Int) : CD := cL [vscr K s, dat (.int k)]
end Sx

set_option Elab.async false
set_option linter.all false
set_option maxRecDepth 100000
set_option maxHeartbeats 2000000
/-! Sx6: more rules, and small facts of lists. -/
namespace Sx
open PySem L2 Evl
section
variable {K : PySem.W.Frag} {ρ ρ' ρ1 : Env} {M M1 M2 M3 M' : Cells} {x y z : VD} {te ta tb tv : TE} {t u : TS} {p : Addr} {Φ : Fr} {D : Ends} {P : VD → Cells → Prop}
/-! ### several outcomes -/
def EvAR (ta : TA) (ρ : Env) (M : Cells) (P : List VD → Cells → Prop) : Prop := ∀ (Φ : Fr) (σ : L2.St) (H : Hp) (Q : List V → Hp → Prop), Sat Φ ρ M σ H → (∀ ds M' v H', P ds M' → Sat (Φ.andA ds v) ρ M' σ H' → Q v H') → ta σ H Q
theorem ear_nil {P : List VD → Cells → Prop} (h : P [] M) : EvAR tNil ρ M P := fun Φ σ H Q ⟨F, s⟩ q => q [] M [] H h ⟨F, s.ex, ⟨s.fr, .nil⟩, s.sl, s.nd, s.ce⟩
theorem ear_cons {tr : TA} {P : List VD → Cells → Prop} {Pa : VD → Cells → Prop} (ha : EvR ta ρ M Pa) (hr : ∀ x M1, Pa x M1 → EvAR tr ρ M1 fun ds M2 => P (x :: ds) M2) : EvAR (tCons ta tr) ρ M P := fun Φ σ H Q s q =>
  ha Φ σ H _ s fun x M1 v H1 hx s1 => hr x M1 hx _ σ H1 _ s1 fun ds M2 vs H2 hp s2 => q (x :: ds) M2 (v :: vs) H2 hp (s2.weak (.of rfl fun F p => ⟨p.1.1, .cons p.1.2 p.2⟩))
theorem EvAR.of {t : TA} {ds : List VD} {P : List VD → Cells → Prop} (h : EvA t ρ M ds M1) (hp : P ds M1) : EvAR t ρ M P := fun Φ σ H Q s q => h Φ σ H _ s fun vs H1 s1 => q ds M1 vs H1 hp s1
theorem er_tupV {t : TA} (h : EvAR t ρ M fun ds M' => ds.length ≤ sizeLine ∧ P (vtup ds) M') : EvR (tTup t) ρ M P := fun Φ σ H Q s q =>
  h Φ σ H _ s fun ds M1 vs H1 ⟨hl, hp⟩ ⟨F, s1⟩ => by
    have hr := s1.fr.2
    refine ⟨by rw [← Paired.length hr]; exact hl, fun p hp' => ?_⟩
    obtain ⟨s2, fx⟩ := s1.new (o := .tup vs) hp'
    exact q _ M1 _ _ hp ⟨_, s2.ex, ⟨s2.fr.1, ⟨p, vs, rfl, upd_same, hr.mono fx⟩⟩, s2.sl, s2.nd, s2.ce⟩
theorem er_lstV {t : TA} (h : EvAR t ρ M fun ds M' => ds.length ≤ sizeLine ∧ P (vlst ds) M') : EvR (tLst t) ρ M P := fun Φ σ H Q s q =>
  h Φ σ H _ s fun ds M1 vs H1 ⟨hl, hp⟩ ⟨F, s1⟩ => by
    have hr := s1.fr.2
    refine ⟨by rw [← Paired.length hr]; exact hl, fun p hp' => ?_⟩
    obtain ⟨s2, fx⟩ := s1.new (o := .lst vs) hp'
    exact q _ M1 _ _ hp ⟨_, s2.ex, ⟨s2.fr.1, ⟨p, vs, rfl, upd_same, hr.mono fx⟩⟩, s2.sl, s2.nd, s2.ce⟩
theorem c_asgGR {g : TG} (h : EvR te ρ M P) (k : ∀ x M1, P x M1 → ∃ ρ' js, Tgt g js x ρ ρ' ∧ Cont D.nx Φ ρ' M1) : Cont (tAsg te g D) Φ ρ M := fun σ H s => h Φ σ H _ s fun x M1 v H1 hp s1 => by
  obtain ⟨ρ', js, hg, kk⟩ := k x M1 hp
  exact hg Φ M1 v σ H1 _ s1 fun σ' _ _ s' => kk σ' H1 s'
/-- o.f = e, several outcomes -/
theorem c_fldR {C : Addr} {f : Str} {nn : List Str} (hv : EvR tv ρ M P) (k : ∀ y M1, P y M1 → ∃ p ns ns' xs xs' M2 M3, Ev ta ρ M1 (val (.ref p)) M2 ∧ Put p (cI C ns xs) (cI C ns' xs') M2 M3 ∧ FPut f y ns xs ns' xs' ∧ ns.length < 1000 ∧ Cont D.nx Φ ρ M3)
    (c : ClsF K C nn) (hf : f ∈ nn) : Cont (sFld K ta tv f D) Φ ρ M := fun σ H s =>
  hv Φ σ H _ s fun y M1 v H1 hp s1 => by
    obtain ⟨p, ns, ns', xs, xs', M2, M3, ho, h, g, hl, k⟩ := k y M1 hp
    refine ho _ σ H1 _ s1 fun w H2 ⟨F, s2⟩ => ?_
    have e : w = .ref p := s2.fr.2
    obtain ⟨o, h1, h0, dx, fs, rfl, h3⟩ := s2.at h.mem
    refine ⟨p, C, dx, fs, e, h1, c.cl, c.no f hf, by rw [h3.len]; exact hl, k σ _ ⟨F, ?_⟩⟩
    exact (s2.put1 (o := .ins C dx (putF f v fs)) h h0 ⟨h0, dx, _, rfl, g.put s2.fr.1.2 h3⟩).weak (.of rfl fun F h => h.1.1)
theorem fld_k {C : Addr} {f : Str} {ns ns' : List Str} {xs xs' : List VD} (ho : Ev ta ρ M1 (val (.ref p)) M2) (h : Put p (cI C ns xs) (cI C ns' xs') M2 M3) (g : FPut f y ns xs ns' xs') (hl : ns.length < 1000) (k : Cont D.nx Φ ρ M3) :
    ∃ p ns ns' xs xs' M2 M3, Ev ta ρ M1 (val (.ref p)) M2 ∧ Put p (cI C ns xs) (cI C ns' xs') M2 M3 ∧ FPut f y ns xs ns' xs' ∧ ns.length < 1000 ∧ Cont D.nx Φ ρ M3 := ⟨p, ns, ns', xs, xs', M2, M3, ho, h, g, hl, k⟩
/-- what is said of an empty list -/
theorem eqv_nil {ds : List PyData} : PyData.eqv (.list ds) (.list []) = ds.isEmpty := by
  cases ds <;> simp [PyData.eqv, PyData.eqvAll]
theorem eqv_nilT {ds : List PyData} : PyData.eqv (.tuple ds) (.tuple []) = ds.isEmpty := by
  cases ds <;> simp [PyData.eqv, PyData.eqvAll]
theorem c_asgP {i : Nat} (h : Ev te ρ M x M) (hs : SetAt x ρ i ρ') (k : Cont D.nx Φ ρ' M) : Cont (tAsg te (gName i) D) Φ ρ M := c_asg h hs k
theorem rc_lenM {α : Type} {f : α → PyData} {xs : List α} (hx : IsLst x M (xs.map f)) : RC (rLenU K) [x] M (dat (.int (xs.length : Int))) M := by
  have h := rc_lenL (K := K) hx
  rw [List.length_map] at h; exact h
theorem rc_lenMT {α : Type} {f : α → PyData} {xs : List α} : RC (rLenU K) [dat (.tuple (xs.map f))] M (dat (.int (xs.length : Int))) M := by
  have h := rc_lenT (K := K) (M := M) (ist_dat (ds := xs.map f))
  rw [List.length_map] at h; exact h
/-! ### slices -/
theorem cut_map {α β : Type} (f : α → β) (xs : List α) (lo hi : Option Int) : cutD (xs.map f) lo hi = (cutD xs lo hi).map f := by
  unfold cutD
  rw [List.length_map, List.map_take, List.map_drop]
theorem cut_nn {α : Type} (xs : List α) (a b : Nat) : cutD xs (some (a : Int)) (some (b : Int)) = (xs.drop a).take (b - a) := by
  unfold cutD
  rw [HT.sIx_nat, HT.sIx_nat]
  apply List.ext_getElem?
  intro i
  rw [List.getElem?_take, List.getElem?_take, List.getElem?_drop, List.getElem?_drop]
  by_cases h : i < b - a
  · rw [if_pos h]
    by_cases h2 : i < min b xs.length - min a xs.length
    · rw [if_pos h2]
      have : min a xs.length = a := by omega
      rw [this]
    · rw [if_neg h2, List.getElem?_eq_none (by omega)]
  · rw [if_neg h, if_neg (by omega)]
theorem cut_0n {α : Type} (xs : List α) (b : Nat) : cutD xs none (some (b : Int)) = xs.take b := by
  have := cut_nn xs 0 b
  unfold cutD at this ⊢
  rw [HT.sIx_none]
  rw [show ((0 : Nat) : Int) = 0 from rfl] at this
  have e : HT.sIx xs.length 0 (some 0) = 0 := by
    have := HT.sIx_nat xs.length 0 0
    simpa using this
  rw [e] at this
  simpa using this
theorem cut_n0 {α : Type} (xs : List α) (a : Nat) : cutD xs (some (a : Int)) none = xs.drop a := by
  unfold cutD
  rw [HT.sIx_nat, HT.sIx_none]
  apply List.ext_getElem?
  intro i
  rw [List.getElem?_take, List.getElem?_drop, List.getElem?_drop]
  by_cases h2 : i < xs.length - min a xs.length
  · rw [if_pos h2]
    have : min a xs.length = a := by omega
    rw [this]
  · rw [if_neg h2, List.getElem?_eq_none (by omega)]
theorem ev_slT1 {te : TE} {tl th : TO} {d : PyData} {ds : List PyData} (h : Ev te ρ M (dat (.tuple (d :: ds))) M1) (h1 : EvO tl ρ M1 (some 1) M2) (h2 : EvO th ρ M2 none M3) : Ev (tSl (rSlU K) te tl th) ρ M (dat (.tuple ds)) M3 := by
  have := ev_slT (K := K) h h1 h2
  have e : cutD (d :: ds) (some ((1 : Nat) : Int)) none = ds := by rw [cut_n0]; rfl
  rw [show (some (1 : Int)) = some ((1 : Nat) : Int) from rfl, e] at this
  exact this
theorem ei_seqTM {α : Type} {f : α → PyData} {xs : List α} {tl : TE} (h : Ev tl ρ M (dat (.tuple (xs.map f))) M') : EvI (iSeq K tl) ρ M (xs.map fun a => dat (f a)) M' := by
  have := ei_seqT (K := K) h fzt_dat
  rw [List.map_map] at this
  exact this
theorem ei_seqLM {α : Type} {f : α → PyData} {xs : List α} {tl : TE} (h : Ev tl ρ M (dat (.list (xs.map f))) M') : EvI (iSeq K tl) ρ M (xs.map fun a => dat (f a)) M' := by
  have := ei_seqL (K := K) h fzl_dat
  rw [List.map_map] at this
  exact this
theorem any_map_id {α : Type} (xs : List α) (g : α → Bool) : (xs.map g).any id = xs.any g := by
  induction xs with
  | nil => rfl
  | cons x xs ih => simp [ih]
theorem all_map_id {α : Type} (xs : List α) (g : α → Bool) : (xs.map g).all id = xs.all g := by
  induction xs with
  | nil => rfl
  | cons x xs ih => simp [ih]
theorem rc_anyM {α : Type} {g : α → Bool} {xs : List α} : RC (rAny K) [dat (.list (xs.map fun a => .bool (g a)))] M (dat (.bool (xs.any g))) M := by
  have := rc_any (K := K) (M := M) (bs := xs.map g) (x := dat (.list ((xs.map g).map PyData.bool))) isl_dat
  rw [any_map_id, List.map_map] at this
  exact this
theorem rc_allM {α : Type} {g : α → Bool} {xs : List α} : RC (rAll K) [dat (.list (xs.map fun a => .bool (g a)))] M (dat (.bool (xs.all g))) M := by
  have := rc_all (K := K) (M := M) (bs := xs.map g) (x := dat (.list ((xs.map g).map PyData.bool))) isl_dat
  rw [all_map_id, List.map_map] at this
  exact this
theorem c_invF {J : Env → Cells → Prop} {Φ Ψ : Fr} (j : J ρ' M) (h : Fgt ρ ρ') (l : Le Ψ Φ) : Cont (InvK Φ J) Ψ ρ M := c_fgt h (c_inv j l)
theorem asgR_k {k : L2.St → Hp → Prop} {Φ : Fr} {i : Nat} (h : SetAt x ρ i ρ') (c : Cont k Φ ρ' M) : ∃ ρ', SetAt x ρ i ρ' ∧ Cont k Φ ρ' M := ⟨ρ', h, c⟩
theorem asgGR_k {k : L2.St → Hp → Prop} {Φ : Fr} {g : TG} {js : List Nat} (h : Tgt g js x ρ ρ') (c : Cont k Φ ρ' M) : ∃ ρ' js, Tgt g js x ρ ρ' ∧ Cont k Φ ρ' M := ⟨ρ', js, h, c⟩
def TgtsD (gs : TGs) (js : List Nat) (ds : List PyData) (ρ ρ' : Env) : Prop := Tgts gs js (ds.map dat) ρ ρ'
theorem td_nil : TgtsD gNil [] [] ρ ρ := tgs_nil
theorem td_cons {ρ2 : Env} {g : TG} {gs : TGs} {js ks : List Nat} {d : PyData} {ds : List PyData} (h : Tgt g js (dat d) ρ ρ1) (hs : TgtsD gs ks ds ρ1 ρ2) : TgtsD (gCons g gs) (js ++ ks) (d :: ds) ρ ρ2 := tgs_cons h hs
theorem td_tup {gs : TGs} {js : List Nat} {n : Nat} {ds : List PyData} (hs : TgtsD gs js ds ρ ρ') (hn : ds.length = n) : Tgt (gTup K n gs) js (dat (.tuple ds)) ρ ρ' := tg_tupD hs hn
/-! ### enumerate, data -/
theorem ei_enumD {α : Type} {f : α → PyData} {xs : List α} {ta : TA} (h : EvA ta ρ M [x] M') (hx : FzL x ((xs.map f).map dat)) : EvI (iEnum K ta) ρ M (xs.zipIdx.map fun p => vtup [dat (.int (p.2 : Int)), dat (f p.1)]) M' := by
  have h := ei_enum (K := K) h hx
  have e : (((irange 0 ((xs.map f).map dat).length).zip ((xs.map f).map dat)).map fun p => vtup [p.1, p.2]) = xs.zipIdx.map fun p => vtup [dat (.int (p.2 : Int)), dat (f p.1)] := by
    apply List.ext_getElem?
    intro i
    rw [List.getElem?_map, List.getElem?_map, List.getElem?_zipIdx]
    by_cases hi : i < xs.length
    · have h1 : xs[i]? = some xs[i] := by simp [hi]
      have h2 : (irange 0 ((xs.map f).map dat).length)[i]? = some (dat (.int (i : Int))) := by
        unfold irange
        rw [List.getElem?_map, List.getElem?_range (by simpa using hi)]
        simp
      have h3 : ((xs.map f).map dat)[i]? = some (dat (f xs[i])) := by simp [hi]
      have h4 : ((irange 0 ((xs.map f).map dat).length).zip ((xs.map f).map dat))[i]? = some (dat (.int (i : Int)), dat (f xs[i])) := List.getElem?_zip_eq_some.mpr ⟨h2, h3⟩
      rw [h4, h1]
      simp
    · have h1 : xs[i]? = none := by simp; omega
      have h4 : ((irange 0 ((xs.map f).map dat).length).zip ((xs.map f).map dat))[i]? = none := by
        apply List.getElem?_eq_none
        rw [List.length_zip]
        simp
        omega
      rw [h4, h1]
      simp
  rw [e] at h
  exact h
theorem rng_map (lo : Int) (n : Nat) : irange lo n = (List.range n).map fun i => dat (.int (lo + (i : Nat))) := rfl
/-- each item gives one -/
theorem ev_lcY {α : Type} {wi : TI} {g : TG} {vs : List Nat} {e : α → VD} {xs : List α} {r : α → PyData} (h : EvI wi ρ M (xs.map e) M1) (hl : xs.length ≤ 16000000)
    (hs : ∀ a, a ∈ xs → ∃ ρ'' js, Tgt g js (e a) (wipeE ρ vs) ρ'' ∧ (∀ i ∈ js, i ∈ vs) ∧ Ev te ρ'' M1 (dat (r a)) M1) : Ev (tLc wi g tYes te vs) ρ M (dat (.list (xs.map r))) M1 := by
  have := ev_lc (tt := tYes) (f := fun _ => true) (r := r) h hl fun a ha => let ⟨ρ'', js, h1, hj, h2⟩ := hs a ha; ⟨ρ'', js, h1, hj, et_yes, fun _ => h2⟩
  have e : xs.filter (fun _ => true) = xs := by simp
  rw [e] at this
  exact this
theorem lcY_k {g : TG} {js vs : List Nat} {d : VD} (h : Tgt g js d ρ ρ') (hj : ∀ i ∈ js, i ∈ vs) (k : Ev te ρ' M x M) : ∃ ρ'' js, Tgt g js d ρ ρ'' ∧ (∀ i ∈ js, i ∈ vs) ∧ Ev te ρ'' M x M := ⟨ρ', js, h, hj, k⟩
theorem lcF_k {g : TG} {tt : TT} {js vs : List Nat} {d : VD} {b : Bool} (h : Tgt g js d ρ ρ') (hj : ∀ i ∈ js, i ∈ vs) (ht : EvT tt ρ' M b M) (k : b = true → Ev te ρ' M x M) : ∃ ρ'' js, Tgt g js d ρ ρ'' ∧ (∀ i ∈ js, i ∈ vs) ∧ EvT tt ρ'' M b M ∧ (b = true → Ev te ρ'' M x M) := ⟨ρ', js, h, hj, ht, k⟩
end
section
/-! ### some cells are changed, the others stay as they are -/
def Sw (cs cs' : Cells) (M M' : Cells) : Prop := ∃ L, M.Perm (cs ++ L) ∧ M'.Perm (cs' ++ L)
inductive Pk (p : Addr) (c c' : CD) : Cells → Cells → Cells → Cells → Prop
  | here {r r' : Cells} : Pk p c c' ((p, c) :: r) ((p, c') :: r') r r'
  | there {x x' : Addr × CD} {cs cs' r r' : Cells} : Pk p c c' cs cs' r r' → Pk p c c' (x :: cs) (x' :: cs') (x :: r) (x' :: r')
theorem Pk.perm {p : Addr} {c c' : CD} {cs cs' r r' : Cells} (h : Pk p c c' cs cs' r r') : cs.Perm ((p, c) :: r) ∧ cs'.Perm ((p, c') :: r') := by
  induction h with
  | here => exact ⟨.refl _, .refl _⟩
  | there _ ih => exact ⟨(ih.1.cons _).trans (.swap _ _ _), (ih.2.cons _).trans (.swap _ _ _)⟩
theorem sw_nil {M : Cells} : Sw [] [] M M := ⟨M, .refl _, .refl _⟩
theorem sw_pick {p : Addr} {c c' : CD} {cs cs' r r' M M' : Cells} (h : Pk p c c' cs cs' r r') (k : Sw r r' M M') : Sw cs cs' ((p, c) :: M) ((p, c') :: M') := by
  obtain ⟨L, h1, h2⟩ := k
  exact ⟨L, (h1.cons _).trans (h.perm.1.symm.append_right L), (h2.cons _).trans (h.perm.2.symm.append_right L)⟩
theorem sw_skip {x : Addr × CD} {cs cs' M M' : Cells} (k : Sw cs cs' M M') : Sw cs cs' (x :: M) (x :: M') := by
  obtain ⟨L, h1, h2⟩ := k
  exact ⟨x :: L, (h1.cons _).trans List.perm_middle.symm, (h2.cons _).trans List.perm_middle.symm⟩
inductive Rm (c : Addr × CD) : Cells → Cells → Prop
  | here {l : Cells} : Rm c (c :: l) l
  | there {x : Addr × CD} {l l' : Cells} : Rm c l l' → Rm c (x :: l) (x :: l')
theorem Rm.perm {c : Addr × CD} {l l' : Cells} (h : Rm c l l') : l.Perm (c :: l') := by
  induction h with
  | here => exact .refl _
  | there _ ih => exact (ih.cons _).trans (.swap _ _ _)
theorem perm_step {c : Addr × CD} {l l' r : Cells} (h : Rm c l l') (k : l'.Perm r) : l.Perm (c :: r) := h.perm.trans (k.cons c)
/-- behind a def: the order of the cells, and cells of its own -/
def Up (P : VD → Cells → Prop) : VD → Cells → Prop := fun x N => ∃ N1 N', N.Perm N1 ∧ N'.Sublist N1 ∧ P x N'
theorem RtQ.up {Q : VK} {Φ : Fr} {P : VD → Cells → Prop} (h : RtQ Q Φ P) : RtQ Q Φ (Up P) := fun Φ' ρ σ x M v H l ⟨N1, N', h1, h2, hp⟩ s => h Φ' ρ σ x N' v H l hp ((s.perm h1).drop h2)
theorem up_perm {P : VD → Cells → Prop} {x : VD} {N N' : Cells} (h : N.Perm N') (hp : P x N') : Up P x N := ⟨N', N', h, .refl _, hp⟩
theorem up_of {P : VD → Cells → Prop} {x : VD} {N : Cells} (hp : P x N) : Up P x N := ⟨N, N, .refl _, .refl _, hp⟩
theorem up_drop {P : VD → Cells → Prop} {x : VD} {N N' : Cells} (h : N'.Sublist N) (hp : P x N') : Up P x N := ⟨N, N', .refl _, h, hp⟩
end
/-- None or an int -/
def oi : Option Int → PyData
  | none => .none
  | some i => .int i
theorem isNone_oi (o : Option Int) : isNoneD (oi o) = o.isNone := by cases o <;> rfl
theorem eqok_oi : EqOk oi := fun x y => by cases x <;> cases y <;> simp [oi, PyData.eqv]
theorem shp_oi {n : Nat} (o : Option Int) : Shp n (oi o) := by
  cases o with
  | none => exact shp_none
  | some i => exact shp_int
end Sx

set_option Elab.async false
set_option linter.all false
set_option maxRecDepth 100000
set_option maxHeartbeats 2000000
/-! Sx7: dicts. A dict that never changes is a value (vdi); one that does, or is walked, is a cell (cD). -/
namespace Sx
open PySem L2 Evl
section
variable {α β : Type}
def valG (kvs : List (L2.Key × β)) (k : L2.Key) : Option β := (kvs.find? fun kv => decide (kv.1 = k)).map (·.2)
def putG (kvs : List (L2.Key × β)) (k : L2.Key) (v : β) : List (L2.Key × β) :=
  if (kvs.any fun kv => decide (kv.1 = k)) = true then kvs.map (fun kv => if kv.1 = k then (kv.1, v) else kv) else kvs ++ [(k, v)]
def mergeG (kvs more : List (L2.Key × β)) : List (L2.Key × β) := more.foldl (fun acc kv => putG acc kv.1 kv.2) kvs
theorem valG_cons (p : L2.Key × β) (r : List (L2.Key × β)) (k : L2.Key) : valG (p :: r) k = if p.1 = k then some p.2 else valG r k := by
  unfold valG
  rw [List.find?_cons]
  by_cases h : p.1 = k <;> simp [h]
theorem valG_map (f : α → β) (kvs : List (L2.Key × α)) (k : L2.Key) : valG (kvs.map fun p => (p.1, f p.2)) k = (valG kvs k).map f := by
  induction kvs with
  | nil => rfl
  | cons p r ih => rw [List.map_cons, valG_cons, valG_cons, ih]; by_cases h : p.1 = k <;> simp [h]
theorem valG_snoc (k j : L2.Key) (y : β) : ∀ kvs : List (L2.Key × β), valG kvs k = none → valG (kvs ++ [(k, y)]) j = if j = k then some y else valG kvs j
  | [], _ => by
    rw [List.nil_append, valG_cons]
    by_cases h : j = k
    · rw [if_pos h, if_pos h.symm]
    · rw [if_neg h, if_neg (fun e => h e.symm)]
  | p :: r, hn => by
    rw [valG_cons] at hn
    by_cases h : p.1 = k
    · rw [if_pos h] at hn; cases hn
    · rw [if_neg h] at hn
      rw [List.cons_append, valG_cons, valG_cons, valG_snoc k j y r hn]
      by_cases h2 : p.1 = j
      · rw [if_pos h2, if_pos h2, if_neg (fun e => h (h2.trans e))]
      · rw [if_neg h2, if_neg h2]
theorem valG_any (kvs : List (L2.Key × β)) (k : L2.Key) : (kvs.any fun kv => decide (kv.1 = k)) = (valG kvs k).isSome := by
  induction kvs with
  | nil => rfl
  | cons p r ih => rw [List.any_cons, valG_cons, ih]; by_cases h : p.1 = k <;> simp [h]
theorem valG_put (kvs : List (L2.Key × β)) (k j : L2.Key) (y : β) : valG (putG kvs k y) j = if j = k then some y else valG kvs j := by
  unfold putG
  rw [valG_any]
  cases h : valG kvs k with
  | none => rw [if_neg (by simp)]; exact valG_snoc k j y kvs h
  | some z =>
    rw [if_pos (by rfl)]
    have hz : ∀ kvs : List (L2.Key × β), valG (kvs.map fun kv => if kv.1 = k then (kv.1, y) else kv) j = (valG kvs j).map fun x => if j = k then y else x := by
      intro kvs
      induction kvs with
      | nil => rfl
      | cons p r ih =>
        rw [List.map_cons, valG_cons, valG_cons, ih]
        by_cases h1 : p.1 = k
        · simp only [if_pos h1]
          by_cases h2 : p.1 = j
          · rw [if_pos h2, if_pos h2, Option.map_some, if_pos (h2.symm.trans h1)]
          · rw [if_neg h2, if_neg h2]
        · simp only [if_neg h1]
          by_cases h2 : p.1 = j
          · rw [if_pos h2, if_pos h2, Option.map_some, if_neg (fun e => h1 (h2.trans e))]
          · rw [if_neg h2, if_neg h2]
    rw [hz]
    by_cases hj : j = k
    · subst hj; rw [h, Option.map_some, if_pos rfl, if_pos rfl]
    · rw [if_neg hj]
      simp [hj]
theorem length_putG (kvs : List (L2.Key × β)) (k : L2.Key) (v : β) : (putG kvs k v).length ≤ kvs.length + 1 := by
  unfold putG
  split
  · rw [List.length_map]; omega
  · rw [List.length_append, List.length_singleton]; omega
theorem putG_map (f : α → β) (kvs : List (L2.Key × α)) (k : L2.Key) (v : α) : putG (kvs.map fun p => (p.1, f p.2)) k (f v) = (putG kvs k v).map fun p => (p.1, f p.2) := by
  have e : ((kvs.map fun p => (p.1, f p.2)).any fun kv => decide (kv.1 = k)) = (kvs.any fun kv => decide (kv.1 = k)) := by rw [List.any_map]; rfl
  unfold putG
  rw [e]
  split
  · rw [List.map_map, List.map_map]
    apply List.map_congr_left
    intro p _
    simp only [Function.comp]
    by_cases h : p.1 = k <;> simp [h]
  · rw [List.map_append]; rfl
end
def kD : L2.Key → PyData
  | .inl i => .int i
  | .inr x => .str x
theorem kv_of {F : Hp} {k : L2.Key} {v : V} (h : Rp F v (kD k)) : v = kV k := by
  cases k <;> (cases h; rfl)
/-! ### pairs of keys and values -/
abbrev PrV (F : Hp) (p : L2.Key × VD) (q : L2.Key × V) : Prop := p.1 = q.1 ∧ p.2.P F q.2
abbrev DP (F : Hp) : List (L2.Key × VD) → List (L2.Key × V) → Prop := Paired (PrV F)
theorem DP.mono {F F' : Hp} (e : Fx F F') : ∀ {kvs : List (L2.Key × VD)} {vs : List (L2.Key × V)}, DP F kvs vs → DP F' kvs vs
  | _, _, .nil => .nil
  | _, _, .cons h t => .cons ⟨h.1, VD.mono _ e h.2⟩ (DP.mono e t)
inductive OptR (F : Hp) : Option VD → Option V → Prop
  | none : OptR F none none
  | some {x : VD} {v : V} : x.P F v → OptR F (some x) (some v)
theorem DP.val {F : Hp} (k : L2.Key) : ∀ {kvs : List (L2.Key × VD)} {vs : List (L2.Key × V)}, DP F kvs vs → OptR F (valG kvs k) (valV vs k)
  | _, _, .nil => .none
  | _, _, .cons (a := p) (b := q) h t => by
    rw [valG_cons]
    by_cases e : p.1 = k
    · rw [if_pos e, valV_pos (h.1.symm.trans e)]
      exact .some h.2
    · rw [if_neg e, valV_neg (fun z => e (h.1.trans z))]
      exact DP.val k t
theorem OptR.isSome {F : Hp} {o : Option VD} {u : Option V} (h : OptR F o u) : u.isSome = o.isSome := by cases h <;> rfl
theorem OptR.getD {F : Hp} {o : Option VD} {u : Option V} {x : VD} {v : V} (h : OptR F o u) (hx : x.P F v) : (o.getD x).P F (u.getD v) := by
  cases h with
  | none => exact hx
  | some h => exact h
theorem DP.put {F : Hp} (k : L2.Key) {x : VD} {v : V} (hx : x.P F v) {kvs : List (L2.Key × VD)} {vs : List (L2.Key × V)} (h : DP F kvs vs) : DP F (putG kvs k x) (putK vs k v) := by
  have e : (vs.any fun kv => decide (kv.1 = k)) = (kvs.any fun kv => decide (kv.1 = k)) := by
    rw [valG_any kvs, valV_any]; exact (h.val k).isSome
  unfold putG putK
  rw [e]
  split
  · have hz : ∀ {kvs : List (L2.Key × VD)} {vs : List (L2.Key × V)}, DP F kvs vs → DP F (kvs.map fun kv => if kv.1 = k then (kv.1, x) else kv) (vs.map fun kv => if kv.1 = k then (kv.1, v) else kv) := by
     intro kvs vs h
     induction h with
     | nil => exact .nil
     | @cons a b l1 l2 h t ih =>
      refine .cons ?_ ih
      show PrV F (if a.1 = k then (a.1, x) else a) (if b.1 = k then (b.1, v) else b)
      by_cases z : a.1 = k
      · rw [if_pos z, if_pos (h.1.symm.trans z)]; exact ⟨h.1, hx⟩
      · rw [if_neg z, if_neg (fun y => z (h.1.trans y))]; exact h
    exact hz h
  · have hz : ∀ {kvs : List (L2.Key × VD)} {vs : List (L2.Key × V)}, DP F kvs vs → DP F (kvs ++ [(k, x)]) (vs ++ [(k, v)]) := by
     intro kvs vs h
     induction h with
     | nil => exact .cons ⟨rfl, hx⟩ .nil
     | cons h t ih => exact .cons h ih
    exact hz h
theorem DP.merge {F : Hp} : ∀ {more : List (L2.Key × VD)} {ms : List (L2.Key × V)} {kvs : List (L2.Key × VD)} {vs : List (L2.Key × V)}, DP F more ms → DP F kvs vs → DP F (mergeG kvs more) (mergeK vs ms)
  | _, _, _, _, .nil, h => h
  | _, _, _, _, .cons (a := p) (b := q) h t, g => by
    show DP F (mergeG (putG _ p.1 p.2) _) (mergeK (putK _ q.1 q.2) _)
    rw [← h.1]
    exact DP.merge t (g.put p.1 h.2)
theorem DP.len {F : Hp} {kvs : List (L2.Key × VD)} {vs : List (L2.Key × V)} (h : DP F kvs vs) : kvs.length = vs.length := Paired.length h
/-- a dict that stays -/
def vdi (kvs : List (L2.Key × VD)) : VD := ⟨fun F v => ∃ a vs, v = .ref a ∧ F a = some (.dK vs) ∧ DP F kvs vs, fun e ⟨a, vs, h1, h2, h3⟩ => ⟨a, vs, h1, e.pl _ _ h2 rfl, h3.mono e⟩⟩
/-- a dict of one's own -/
def cD (kvs : List (L2.Key × VD)) : CD := ⟨fun F p o => F p = none ∧ ∃ vs, o = .dK vs ∧ DP F kvs vs, fun e q ⟨h0, vs, h1, h2⟩ => ⟨q.trans h0, vs, h1, h2.mono e⟩⟩
/-- .. while a loop walks it -/
def cDl (kvs : List (L2.Key × VD)) : CD := ⟨fun F p o => F p = none ∧ ∃ od vs, o = .frz od (.dK vs) ∧ DP F kvs vs, fun e q ⟨h0, od, vs, h1, h2⟩ => ⟨q.trans h0, od, vs, h1, h2.mono e⟩⟩
def IsDi (x : VD) (M : Cells) (kvs : List (L2.Key × VD)) : Prop := ∀ {F Φ ρ σ H v}, SatF F Φ ρ M σ H → x.P F v → ∃ a vs, v = .ref a ∧ Rd H a (.dK vs) ∧ DP F kvs vs
def IsDu (x : VD) (M : Cells) (kvs : List (L2.Key × VD)) : Prop := ∀ {F Φ ρ σ H v}, SatF F Φ ρ M σ H → x.P F v → ∃ a vs, v = .ref a ∧ H a = some (.dK vs) ∧ DP F kvs vs
section
variable {K : PySem.W.Frag} {ρ ρ' : Env} {M M1 M2 M3 M4 M' : Cells} {x y z : VD} {te td ty tv ta tb : TE} {p : Addr} {Φ : Fr} {D : Ends} {kvs ls : List (L2.Key × VD)} {k : L2.Key} {P : VD → Cells → Prop}
theorem isdu_v : IsDu (vdi kvs) M kvs := fun s ⟨a, vs, h1, h2, h3⟩ => ⟨a, vs, h1, s.ex _ _ h2, h3⟩
theorem isdu_c (m : (p, cD kvs) ∈ M) : IsDu (val (.ref p)) M kvs := fun s h => by
  obtain ⟨o, h1, h0, vs, rfl, h3⟩ := s.at m
  exact ⟨p, vs, h, h1, h3⟩
theorem IsDu.r (h : IsDu x M kvs) : IsDi x M kvs := fun s q => let ⟨a, vs, h1, h2, h3⟩ := h s q; ⟨a, vs, h1, .inl h2, h3⟩
theorem isdi_v : IsDi (vdi kvs) M kvs := IsDu.r isdu_v
theorem isdi_c (m : (p, cD kvs) ∈ M) : IsDi (val (.ref p)) M kvs := IsDu.r (isdu_c m)
theorem isdi_l (m : (p, cDl kvs) ∈ M) : IsDi (val (.ref p)) M kvs := fun s h => by
  obtain ⟨o, h1, h0, od, vs, rfl, h3⟩ := s.at m
  exact ⟨p, vs, h, .inr ⟨od, h1⟩, h3⟩
/-! ### made -/
theorem ev_dnewK : Ev tDNewK ρ M (vdi []) M := fun Φ σ H Q ⟨F, s⟩ q => fun p hp => q _ _ (Sat.retNew s hp fun F' fx e => ⟨p, [], rfl, e, .nil⟩)
theorem er_dnewC : EvR tDNewK ρ M fun y M' => ∃ p, y = val (.ref p) ∧ M' = (p, cD []) :: M := fun Φ σ H Q ⟨F, s⟩ q => fun p hp => by
  have s2 := s.newC (c := cD []) (o := .dK []) hp fun e => ⟨e, [], rfl, .nil⟩
  exact q _ _ _ _ ⟨p, rfl, rfl⟩ ⟨F, s2.ex, ⟨s2.fr, rfl⟩, s2.sl, s2.nd, s2.ce⟩
/-! ### read -/
theorem ev_dget1 (hd : Ev td ρ M x M1) (h1 : IsDi x M1 kvs) (hk : Ev ty ρ M1 (dat (kD k)) M2) (h2 : IsDi x M2 kvs) : Ev (tDGet1 td ty) ρ M ((valG kvs k).getD vn) M2 := fun Φ σ H Q s q => hd Φ σ H _ s fun v H1 s1 => by
  have ⟨F1, z1⟩ := s1
  obtain ⟨a, vs, rfl, e1, -⟩ := h1 z1 z1.fr.2
  refine ⟨a, rfl, .inl ⟨vs, e1⟩, hk _ σ H1 _ s1 fun w H2 s2 => ?_⟩
  have ⟨F2, z2⟩ := s2
  obtain ⟨a', vs2, e, e2, d2⟩ := h2 z2 z2.fr.1.2
  cases e
  cases kv_of z2.fr.2
  exact ⟨valV vs2 k, .inl ⟨vs2, k, e2, rfl, rfl⟩, q _ _ (Sat.ret z2.base ((d2.val k).getD .non))⟩
theorem ev_dget2 (hd : Ev td ρ M x M1) (h1 : IsDi x M1 kvs) (hk : Ev ty ρ M1 (dat (kD k)) M2) (hv : Ev tv ρ M2 y M3) (h2 : IsDi x M3 kvs) : Ev (tDGet2 td ty tv) ρ M ((valG kvs k).getD y) M3 := fun Φ σ H Q s q => hd Φ σ H _ s fun v H1 s1 => by
  have ⟨F1, z1⟩ := s1
  obtain ⟨a, vs, rfl, e1, -⟩ := h1 z1 z1.fr.2
  refine ⟨a, rfl, .inl ⟨vs, e1⟩, hk _ σ H1 _ s1 fun w H2 s2 => hv _ σ H2 _ s2 fun u H3 s3 => ?_⟩
  have ⟨F3, z3⟩ := s3
  obtain ⟨a', vs2, e, e2, d2⟩ := h2 z3 z3.fr.1.1.2
  cases e
  cases kv_of z3.fr.1.2
  exact ⟨valV vs2 k, .inl ⟨vs2, k, e2, rfl, rfl⟩, q _ _ (Sat.ret (z3.base.weak Le.and) ((d2.val k).getD z3.fr.2))⟩
theorem ev_dget (hd : Ev td ρ M x M1) (hk : Ev ty ρ M1 (dat (kD k)) M2) (h2 : IsDi x M2 kvs) (hv : valG kvs k = some y) : Ev (tDGet td ty) ρ M y M2 := fun Φ σ H Q s q => hd Φ σ H _ s fun v H1 s1 => hk _ σ H1 _ s1 fun w H2 s2 => by
  have ⟨F2, z2⟩ := s2
  obtain ⟨a', vs2, rfl, e2, d2⟩ := h2 z2 z2.fr.1.2
  cases kv_of z2.fr.2
  have r := d2.val k
  rw [hv] at r
  generalize hw : valV vs2 k = ow at r
  cases r with
  | some hr => exact ⟨a', _, rfl, .inl ⟨vs2, k, e2, rfl, hw.symm⟩, q _ _ (Sat.ret z2.base hr)⟩
theorem ev_din (hk : Ev ty ρ M (dat (kD k)) M1) (hd : Ev td ρ M1 x M2) (h2 : IsDi x M2 kvs) : Ev (tDIn ty td) ρ M (dat (.bool (valG kvs k).isSome)) M2 := fun Φ σ H Q s q => hk Φ σ H _ s fun w H1 s1 => hd _ σ H1 _ s1 fun v H2 s2 => by
  have ⟨F2, z2⟩ := s2
  obtain ⟨a', vs2, rfl, e2, d2⟩ := h2 z2 z2.fr.2
  cases kv_of z2.fr.1.2
  refine ⟨a', valV vs2 k, rfl, .inl ⟨vs2, k, e2, rfl, rfl⟩, ?_⟩
  rw [(d2.val k).isSome]
  exact q _ _ (Sat.ret z2.base (.bl _))
theorem ev_dnin (hk : Ev ty ρ M (dat (kD k)) M1) (hd : Ev td ρ M1 x M2) (h2 : IsDi x M2 kvs) : Ev (tDNotIn ty td) ρ M (dat (.bool (!(valG kvs k).isSome))) M2 := fun Φ σ H Q s q => hk Φ σ H _ s fun w H1 s1 => hd _ σ H1 _ s1 fun v H2 s2 => by
  have ⟨F2, z2⟩ := s2
  obtain ⟨a', vs2, rfl, e2, d2⟩ := h2 z2 z2.fr.2
  cases kv_of z2.fr.1.2
  refine ⟨a', valV vs2 k, rfl, .inl ⟨vs2, k, e2, rfl, rfl⟩, ?_⟩
  rw [(d2.val k).isSome]
  exact q _ _ (Sat.ret z2.base (.bl _))
/-! ### stored -/
theorem c_dput (hv : Ev tv ρ M x M1) (hd : Ev td ρ M1 (val (.ref p)) M2) (hk : Ev ty ρ M2 (dat (kD k)) M3) (hp : Put p (cD kvs) (cD (putG kvs k x)) M3 M4) (hl : kvs.length < sizeLine) (c : Cont D.nx Φ ρ M4) :
    Cont (sDPut td ty tv D) Φ ρ M := fun σ H s => hv Φ σ H _ s fun v H1 s1 => hd _ σ H1 _ s1 fun w H2 s2 => hk _ σ H2 _ s2 fun u H3 s3 => by
  have ⟨F3, z3⟩ := s3
  have ew : w = .ref p := z3.fr.1.2
  cases kv_of z3.fr.2
  subst ew
  obtain ⟨o, k1, k0, vs, rfl, k3⟩ := z3.at hp.mem
  refine ⟨p, _, rfl, .inl ⟨vs, k, k1, rfl, by rw [← k3.len]; exact hl, rfl⟩, c σ _ ⟨F3, ?_⟩⟩
  exact (z3.put1 (o := .dK (putK vs k v)) hp k0 ⟨k0, _, rfl, k3.put k z3.fr.1.1.2⟩).weak (.of rfl fun F h => h.1.1.1)
end
end Sx

set_option Elab.async false
set_option linter.all false
set_option maxRecDepth 100000
set_option maxHeartbeats 2000000
/-! SxEb: an attribute is stored on an exception whose class stands over a class of ours over Exception. -/
namespace PySem
namespace XeB
open Builtin Builtin.ObjectAttr PySem.ESX
section
variable {prog : Program} {w : World} {A : Around} {R : Result → Shared → Prop} {hp : Heap} {g : Array GenState} {dw : Drawn} {t : Nat} {os : OsState}
theorem has_it {C D : Addr} {b : Value} (hb : exTail.contains b = true) : (Value.ref C :: Value.ref D :: exTail).contains b = true := by
  rw [List.contains_cons, List.contains_cons, hb, Bool.or_true, Bool.or_true]
theorem mro2 {K : W.Frag} {C D : Addr} {cd : ClassData} (hcd : W.clsIn K C = some cd) (hm : cd.mro = .ref C :: .ref D :: exTail) {b : Value} (hb : (Value.ref C :: Value.ref D :: exTail).contains b = true) : W.mroIn K C b = some true := by
  unfold W.mroIn
  rw [hcd, Option.bind_some, hm, if_neg (show ¬ (List.isEmpty (Value.ref C :: Value.ref D :: exTail) = true) from Bool.false_ne_true), hb]
theorem put_new {K : W.Frag} {name : Str} {tk : Tok} {v : Value} {x C D : Addr} {fv : Array Value} {cd : ClassData}
    (X : K.In hp) (hx : hp.get? x = some { cls := .ref C, data := .fields fv }) (hcd : W.clsIn K C = some cd) (hm : cd.mro = .ref C :: .ref D :: exTail) (hh : cd.hasDict = true) (ha : W.findIn K (.ref C) name = some none)
    (fin : ∀ h' tk' dx, (∀ b o, b ≠ x → hp.get? b = some o → h'.get? b = some o) → hp.objs.size ≤ dx → dx ≠ x → h'.get? x = some { cls := .ref C, dict := some dx, data := .fields fv } →
      h'.Ns1 dx (fun y => if y = name then some v else none) → R (.ok (.ret .none)) ⟨h', g, dw, tk', os⟩) :
    codeAny (model prog w) A (.call (.builtin "object.__setattr__") ⟨[.ref x, .str name tk, v], []⟩) R ⟨hp, g, dw, t, os⟩ := by
  have J : W.InstAt hp x { cls := .ref C, data := .fields fv } C none := ⟨hx, rfl, rfl, trivial⟩
  have ne : x ≠ hp.objs.size := Nat.ne_of_lt (Heap.lt_size hx)
  have S0 := F.store_object
  have so : W.Looks (model prog w) hp (isInstance (.ref x) (.type "object")) true := J.type.andThen (W.looks_mroIn X (mro2 hcd hm (has_it (by decide +kernel))))
  have lm : W.Looks (model prog w) hp (mroOf (.ref C)) cd.mro := (W.looks_clsIn X hcd).andThen .now
  have l3 : W.Looks (model prog w) hp (storeTaker? none) none := .now
  have lc : W.Looks (model prog w) hp (classData C) cd := W.looks_clsIn X hcd
  have pass : refuseLoop (.ref x) "__setattr__" cd.mro = pure () := by
    rw [hm, refuseLoop_ref, refuseLoop_ref]
    exact F.store_Exception.passes _
  refine codeAny_call_builtin S0.slot.plain S0.entry (@W.check_slot (model prog w) _ _ ⟨hp, g, dw, t, os⟩ "object.__setattr__" "object" "__setattr__" (.ref x) [.str name tk, v] [] _ S0.kind S0.split so (S0.args (.ref x) (.str name tk) v) ?_)
  rw [W.osa_eq, refuse_eq]
  refine wpAny_bind (wpAny_bind (J.type.at (wpAny_bind (lm.at ?_)))); rw [pass]
  refine wpAny_pure (wpAny_bind (J.type.at (wpAny_bind ((W.looks_findIn X ha).at (wpAny_bind (l3.at ?_))))))
  obtain ⟨nm, bs, mro, ns, qn, hd, sn, sb, ab, col, del⟩ := cd
  dsimp only at hh
  subst hh
  unfold storeInOwnDict ownDictForStores
  repeat (first | with_reducible refine HandSPX.store_in_new ?_ ?_ | with_reducible refine wpAny_loadPart_at hx ?_ | with_reducible refine lc.at ?_ | wp_step)
  · exact ⟨_, #[], _, (Heap.get?_update_ne _ _ _ _ ne.symm).trans (Heap.get?_push_at rfl rfl), rfl, fun e he => absurd he (by simp), fun _ => rfl⟩
  · intro h' tk' hn' hs
    have hx1 : (hp.push { cls := .type "dict", data := .dict #[] }).get? x = some { cls := .ref C, data := .fields fv } := Heap.get?_push_of_some _ hx
    refine fin h' tk' hp.objs.size (fun b o hb ho => ?_) (Nat.le_refl _) ne.symm ((hs.2 x ne).trans (Heap.get?_update_self _ hx1 rfl)) hn'
    exact (hs.2 b (Nat.ne_of_lt (Heap.lt_size ho))).trans ((Heap.get?_update_ne _ _ _ _ hb).trans (Heap.get?_push_of_some _ ho))
theorem has_same {D : Addr} (Y : String) : (Value.ref D :: exTail).contains (.type Y) = exTail.contains (.type Y) := by
  rw [List.contains_cons]
  simp
theorem mod_keeps {K : W.Frag} {mg : Str → Option Value} {h h' : Heap} (M0 : L2.Mod K mg h) (k : ∀ b o, h.get? b = some o → h'.get? b = some o) : L2.Mod K mg h' :=
  let ⟨mb, h1, h2⟩ := M0.blt
  ⟨M0.kin.keeps k, M0.glob.keeps k, ⟨mb, h1.keeps k, h2⟩, M0.nolimit.keeps k⟩
theorem mod_at {X : L2.Cx} {pins : List (Addr × Obj)} {σ : L2.St} {H : L2.Hp} {s : Shared} (I : L2.Inv X pins σ H s) : L2.Mod X.K X.mg s.heap := mod_keeps I.mod I.bk
/-- a made exception with one field -/
structure OwnMade (h h' : Heap) (e C d : Addr) (f : Str) (v : Value) : Prop where
  keep : ∀ b o, h.get? b = some o → h'.get? b = some o
  new : h.objs.size ≤ e
  obj : ∃ oe vs, h'.get? e = some oe ∧ oe.cls = .ref C ∧ oe.dict = some d ∧ oe.data = .fields vs ∧ vs[1]? = some .none
  dbig : h.objs.size ≤ d
  dne : d ≠ e
  ns : h'.Ns1 d (fun y => if y = f then some v else none)
end
section
open L2 PySem.HandSPX
/-- C(e) -/
def tMk (C : Addr) (f : Str) (ta : TA) : St → Hp → XK → Prop := fun σ H Q => ta σ H fun vs H1 => ∃ v, vs = [v] ∧ ∀ d, H1 d = none → Q (.ref C) (some d) (upd H1 d (.xd [(f, v)]))
theorem relO_one {v : V} {v' : Value} (r : RelV v v') (f g : Str) : RelO (List.lookup g [(f, v)]) (if g = f then some v' else none) := by
  by_cases h : g = f
  · subst h
    rw [if_pos rfl]
    simp only [List.lookup, beq_self_eq_true]
    exact r
  · have q : (g == f) = false := by simpa using h
    rw [if_neg h]
    simp only [List.lookup, q]
    trivial
theorem mk_fin {X : Cx} {pins : List (Addr × Obj)} {σ : St} {H1 : Hp} {Q : XK} {s1 : Shared} {C : Addr} {f : Str} {v : V} {v' : Value} (I1 : Inv X pins σ H1 s1) (rv : RelV v v')
    (exC : W.subIn X.K (.ref C) (.type "BaseException") = some true) (tyC : W.typeIn X.K (.ref C) = some (.type "type")) (q1 : ∀ d, H1 d = none → Q (.ref C) (some d) (upd H1 d (.xd [(f, v)])))
    (mk : ∀ (R : Result → Shared → Prop), (∀ h' tk e d, OwnMade s1.heap h' e C d f v' → R (.ok (.ret (.ref e))) { s1 with heap := h', toks := tk }) → codeAny (model X.prog X.w) X.A (.call (.ref C) ⟨[v'], []⟩) R s1) :
    wpAny (model X.prog X.w) X.A (call (.ref C) [v']) (MkP X pins σ Q) X.xe s1 := by
  obtain ⟨hp, g, dr, tk, os⟩ := s1
  refine wpAny_call (mk _ fun h' tk' e d M => ?_)
  show MkP X pins σ Q (.ref e) ⟨h', g, dr, tk', os⟩
  obtain ⟨oe, fv, hoe, hc, hd, hdat, h1⟩ := M.obj
  obtain ⟨G', g1, g2⟩ := restrict h' fun b => decide (b ≠ e)
  have gk : ∀ b, b ≠ e → G'.get? b = h'.get? b := fun b hb => g1 b (decide_eq_true hb)
  have ge : G'.get? e = none := g2 e (by simp)
  have old : ∀ b o, hp.get? b = some o → G'.get? b = some o := fun b o q => (gk b (Nat.ne_of_lt (Nat.lt_of_lt_of_le (Heap.lt_size q) M.new))).trans (M.keep b o q)
  have ob : ObjOk X.prog X.w (upd H1 d (.xd [(f, v)])) G' d (.xd [(f, v)]) := ⟨_, M.ns.at (fun o q => (gk d M.dne).trans q), fun y => relO_one rv f y⟩
  have J : Inv X pins σ (upd H1 d (.xd [(f, v)])) ⟨G', g, dr, tk', os⟩ := I1.laid (t' := tk') old M.dbig ob
  refine ⟨e, oe, fv, ⟨G', g, dr, tk', os⟩, _, .ref C, some d, rfl, J, fun b o q => ?_, ge, hoe, ?_, hdat, h1, ?_, rfl, I1.bare, raises_own exC tyC, q1 d (I1.hok.fresh M.dbig)⟩
  · by_cases hb : b = e
    · have q' : G'.get? b = some o := q
      rw [hb, ge] at q'; cases q'
    · exact (gk b hb).symm.trans q
  · exact ⟨hc, hd⟩
  · rw [upd_ne (Ne.symm M.dne)]; exact I1.hok.fresh M.new
end
end XeB
end PySem

set_option Elab.async false
set_option linter.all false
set_option maxRecDepth 100000
set_option maxHeartbeats 2000000
/-! Sx8: defs that may raise; raise, try. -/
namespace Sx
open PySem L2 Evl PyProof.Rows
/-! ### calls within a try, or of a def that raises itself: the wish W of what leaves -/
section
variable {X : Cx} {CX : CXT} {k : Nat} {f C : Addr} {fd : FuncData} {ps : List Str} {sp : Sp} {E : L2.St → XK} {x m : Str} {p pos apos : Pos} {e o : Expr} {es : List Expr} {ta : TE} {t : TA}
theorem pe_callS0 (F : FnOk X.prog X.w X.K X.mg X.base CX k f fd ps sp) (hr : Room k X.A) (hg : Gl X x) (hm : X.mg x = some (.ref f)) (hk : PySem.W.keepIn X.K (.ref f) = true) (hb : Binds X.K fd ps []) (hx : ∀ σ, PassesAt CX X σ (E σ))
    (hdb : (x == ("__debug__" : Str)) = false := by decide) : PE X (.Call (.Name x p) [] [] pos) (tCallS sp E tNil) :=
  ⟨fun pins s σ H Q I h => wpAny_Call_Name_kw (ld_glob I hg hm (PySem.W.callWith_K0 I.kIn hk (run_fnS (us := []) F hr hb (hx σ) I .nil h)) hdb)⟩
def tMethS (C : Addr) (m : Str) (sp : Sp) (E : L2.St → XK) (ta : TE) (t : TA) : TE := fun σ H Q => ta σ H fun x H1 => ∃ a dx fs, x = .ref a ∧ H1 a = some (.ins C dx fs) ∧ fs.lookup m = none ∧
  t σ H1 fun vs H2 => sp (x :: vs) H2 Q (E σ)
theorem pe_methS {pl : Sem Bool} (he : PE X o ta) (c : Cls X.K C) (hm : Meth X.K C m f) (F : FnOk X.prog X.w X.K X.mg X.base CX k f fd ps sp) (hr : Room k X.A) (hb : Binds X.K fd ps []) (hx : ∀ σ, PassesAt CX X σ (E σ)) (ha : PA X (e :: es) t)
    (hst : starEach (e :: es) X.env = (false, eval e X.env) :: starEach es X.env := by rfl) (hpl : (backTo pos (starEach es X.env)).any (·.1) = false := by rfl)
    (ht : eval (.Call (.Attribute o m apos) (e :: es) [] pos) X.env = (do let ov ← eval o X.env; standAt apos.atName; let (f, first) ← holding [ov] (getMethod ov m pl); callWith pos f first (backTo pos (starEach (e :: es) X.env)) (backToKw pos (keywordEach [] X.env))) := by rfl) :
    PE X (.Call (.Attribute o m apos) (e :: es) [] pos) (tMethS C m sp E ta t) := ⟨fun pins s σ H Q I h => by
  refine PySem.W.methodCall_KW (pl := pl) (thn (he.run pins s σ H _ I h) fun u s1 ⟨y, H1, I1, ry, a, dx, fs, ey, ea, l, q⟩ => ?_) ht
  subst ey; obtain rfl : u = Value.ref a := ry
  refine getmeth_ok I1 ea c hm l (PySem.W.callWith_K (first := [.ref a]) (h₀ := X.base) I.ok.mod.kin hm.kp (thn (ha.run pos pins s1 σ H1 _ I1 q) fun us s2 ⟨vs, H2, I2, r, q2⟩ => ⟨I2.kIn, ?_⟩) hst hpl)
  exact run_fnS (us := .ref a :: us) (vs := .ref a :: vs) F hr hb (hx σ) I2 (.cons rfl r) q2⟩
theorem pe_methS0 {pl : Sem Bool} (he : PE X o ta) (c : Cls X.K C) (hm : Meth X.K C m f) (F : FnOk X.prog X.w X.K X.mg X.base CX k f fd ps sp) (hr : Room k X.A) (hb : Binds X.K fd ps []) (hx : ∀ σ, PassesAt CX X σ (E σ))
    (ht : eval (.Call (.Attribute o m apos) [] [] pos) X.env = (do let ov ← eval o X.env; standAt apos.atName; let (f, first) ← holding [ov] (getMethod ov m pl); callWith pos f first (backTo pos (starEach [] X.env)) (backToKw pos (keywordEach [] X.env))) := by rfl) :
    PE X (.Call (.Attribute o m apos) [] [] pos) (tMethS C m sp E ta tNil) := ⟨fun pins s σ H Q I h => by
  refine PySem.W.methodCall_KW (pl := pl) (thn (he.run pins s σ H _ I h) fun u s1 ⟨y, H1, I1, ry, a, dx, fs, ey, ea, l, q⟩ => ?_) ht
  subst ey; obtain rfl : u = Value.ref a := ry
  refine getmeth_ok I1 ea c hm l (PySem.W.callWith_K0 I1.kIn hm.kp ?_)
  exact run_fnS (us := [.ref a]) (vs := [.ref a]) F hr hb (hx σ) I1 (.cons rfl .nil) q⟩
def tMakeS (C : Addr) (sp : Sp) (E : L2.St → XK) (t : TA) : TE := fun σ H Q => t σ H fun vs H1 => ∀ x dx, H1 x = none → H1 dx = none → dx ≠ x →
  sp (.ref x :: vs) (upd (upd H1 dx (.own x)) x (.ins C dx [])) (fun v H2 => v = .non ∧ Q (.ref x) H2) (E σ)
theorem run_makeS {pins : List (Addr × Obj)} {σ : L2.St} {H : Hp} {s : Shared} {Q : VK} {us : List Value} {vs : List V} (M : Mk X.K C f) (F : FnOk X.prog X.w X.K X.mg X.base CX k f fd ps sp) (hr : Room (k + 1) X.A) (hb : Binds X.K fd ps [])
    (hx : PassesAt CX X σ (E σ)) (I : Inv X pins σ H s) (r : Vals vs us)
    (h : ∀ x dx, H x = none → H dx = none → dx ≠ x → sp (.ref x :: vs) (upd (upd H dx (.own x)) x (.ins C dx [])) (fun v H2 => v = .non ∧ Q (.ref x) H2) (E σ)) :
    wpAny (model X.prog X.w) X.A (call (.ref C) us) (EP X pins σ Q) X.xe s := by
  have z1 := Nat.le_succ s.heap.objs.size
  have hq := h (s.heap.objs.size + 1) s.heap.objs.size (I.hok.fresh z1) (I.hok.fresh (Nat.le_refl _)) (Nat.ne_of_lt (Nat.lt_succ_self _))
  have J := Inv.made (C := C) I
  have r2 : Vals (V.ref (s.heap.objs.size + 1) :: vs) (Value.ref (s.heap.objs.size + 1) :: us) := .cons rfl r
  have hl : (Value.ref (s.heap.objs.size + 1) :: us ++ []).length = ps.length := by
    rw [List.append_nil, ← r2.length]; exact F.len _ _ _ _ hq
  have b := hb _ (Value.ref (s.heap.objs.size + 1) :: us) J.kIn hl
  rw [List.append_nil] at b
  refine wpAny_call (make_map (f := f) I.kIn M.makes M.init (beq_iff_eq.mp M.fn) (codeAny_mono (F.run _ X.stack _ _ ⟨Value.ref (s.heap.objs.size + 1) :: us, []⟩ _ _ _ (E σ) (hr.make C us []) (J.env0.make C us []) b r2 hq) fun r s' hq' => ?_))
  match r, hq' with
  | .error e, hq' => exact hx pins _ _ e s' J hq'
  | .ok (.ret u), hq' =>
    obtain ⟨v, H', I3, rv, ev, q3⟩ := J.after hq'
    subst ev
    exact ⟨rv, ⟨V.ref (s.heap.objs.size + 1), H', I3, rfl, q3⟩⟩
  | .ok .next, hq' => exact False.elim hq'
  | .ok .brk, hq' => exact False.elim hq'
  | .ok .cont, hq' => exact False.elim hq'
theorem pe_makeS (M : Mk X.K C f) (F : FnOk X.prog X.w X.K X.mg X.base CX k f fd ps sp) (hr : Room (k + 1) X.A) (hg : Gl X x) (hm : X.mg x = some (.ref C)) (hb : Binds X.K fd ps []) (hx : ∀ σ, PassesAt CX X σ (E σ))
    (ha : PA X (e :: es) t) (hdb : (x == ("__debug__" : Str)) = false := by decide) (he : starEach (e :: es) X.env = (false, eval e X.env) :: starEach es X.env := by rfl) (hpl : (backTo pos (starEach es X.env)).any (·.1) = false := by rfl) :
    PE X (.Call (.Name x p) (e :: es) [] pos) (tMakeS C sp E t) :=
  ⟨fun pins s σ H Q I h => wpAny_Call_Name_kw (ld_glob I hg hm (PySem.W.callWith_K (h₀ := X.base) I.ok.mod.kin M.kp (thn (ha.run pos pins s σ H _ I h) fun us s1 ⟨vs, H1, I1, r, q⟩ => ⟨I1.kIn, run_makeS M F hr hb (hx σ) I1 r q⟩) he hpl) hdb)⟩
end
/-! ### the wish, told by descriptions -/
def cX (f : Str) (y : VD) : CD := ⟨fun F p o => F p = none ∧ ∃ v, o = .xd [(f, v)] ∧ y.P F v, fun e q ⟨h0, v, h1, h2⟩ => ⟨q.trans h0, v, h1, y.mono e h2⟩⟩
abbrev W0 : WX := fun _ _ _ _ => False
abbrev PXT := Env → Addr → Str → VD → Cells → Prop
/-- W is content with the exceptions that PE tells -/
def RtX (W : WX) (Φ : Fr) (PE : PXT) : Prop := ∀ Φ' ρ σ C f y dd M H, Le Φ' Φ → PE ρ C f y M → Sat Φ' ρ ((dd, cX f y) :: M) σ H → W (.ref C) (some dd) σ H
/-- an expression below a frame, several outcomes -/
def EvL (Φ0 : Fr) (te : TE) (ρ : Env) (M : Cells) (P : VD → Cells → Prop) : Prop := ∀ (Φ : Fr) (σ : L2.St) (H : Hp) (Q : VK), Le Φ Φ0 → Sat Φ ρ M σ H → (∀ x M' v H', P x M' → Sat (Φ.and x v) ρ M' σ H' → Q v H') → te σ H Q
/-- a def that may raise: its promise -/
abbrev XSpec := List VD → Cells → (VD → Cells → Prop) → (Addr → Str → VD → Cells → Prop) → Prop
def spX (n : Nat) (S : XSpec) : Sp := fun vs H Q E => ∃ (Φ : Fr) (ρ : Env) (σ : L2.St) (ds : List VD) (M : Cells) (P : VD → Cells → Prop) (PE : Addr → Str → VD → Cells → Prop), Sat (Φ.andA ds vs) ρ M σ H ∧ vs.length = n ∧ S ds M P PE ∧
  (∀ x M' v H', P x M' → Sat (Φ.and x v) ρ M' σ H' → Q v H') ∧ ∀ C f y dd M' H', PE C f y M' → Sat Φ ρ ((dd, cX f y) :: M') σ H' → E (.ref C) (some dd) H'
theorem spX_len {n : Nat} {S : XSpec} {vs : List V} {H : Hp} {Q : VK} {E : XK} (h : spX n S vs H Q E) : vs.length = n := let ⟨_, _, _, _, _, _, _, _, e, _⟩ := h; e
section
variable {K : PySem.W.Frag} {ρ ρ' ρ1 : Env} {M M1 M2 M' : Cells} {x y z : VD} {te ta tb : TE} {t : TA} {C p : Addr} {f : Str} {Φ Ψ : Fr} {D : Ends} {Q : VK} {P : VD → Cells → Prop} {PE : PXT} {W : WX} {n : Nat} {ds : List VD}
theorem EvR.l (h : EvR te ρ M P) : EvL Φ te ρ M P := fun Φ' σ H Q _ s q => h Φ' σ H Q s q
theorem Ev.l (h : Ev te ρ M x M') (hp : P x M') : EvL Φ te ρ M P := fun Φ' σ H Q _ s q => h Φ' σ H Q s fun v H' s' => q x M' v H' hp s'
theorem EvL.imp {P' : VD → Cells → Prop} (h : EvL Φ te ρ M P) (k : ∀ x M', P x M' → P' x M') : EvL Φ te ρ M P' := fun Φ' σ H Q l s q => h Φ' σ H Q l s fun x M' v H' hp s' => q x M' v H' (k x M' hp) s'
theorem EvL.le (h : EvL Φ te ρ M P) (l : Le Ψ Φ) : EvL Ψ te ρ M P := fun Φ' σ H Q l' s q => h Φ' σ H Q (l'.trans l) s q
theorem rtx0 : RtX W0 Φ (fun _ _ _ _ _ => False) := fun _ _ _ _ _ _ _ _ _ _ z _ => z.elim
theorem RtX.le (h : RtX W Φ PE) (l : Le Ψ Φ) : RtX W Ψ PE := fun Φ' ρ σ C f y dd M H l' hp s => h Φ' ρ σ C f y dd M H (l'.trans l) hp s
theorem evl_call {S : XSpec} {PE' : Addr → Str → VD → Cells → Prop} (ha : EvA t ρ M ds M1) (hn : ds.length = n) (hS : S ds M1 P PE') (hX : RtX W Φ PE) (hP : ∀ C f y M', PE' C f y M' → PE ρ C f y M') : EvL Φ (tCallS (spX n S) (WE W) t) ρ M P := fun Φ' σ H Q l s q =>
  ha Φ' σ H _ s fun vs H1 s1 => ⟨Φ', ρ, σ, ds, M1, P, PE', s1, let ⟨F, s2⟩ := s1; (Paired.length s2.fr.2).symm.trans hn, hS, fun x M' v H' hp s' => q x M' v H' hp s', fun C f y dd M' H' hp s' => hX Φ' ρ σ C f y dd M' H' l (hP C f y M' hp) s'⟩
theorem evl_meth {m : Str} {S : XSpec} {PE' : Addr → Str → VD → Cells → Prop} {ns : List Str} {xs : List VD} (ho : Ev ta ρ M (val (.ref p)) M1) (hc : (p, cI C ns xs) ∈ M1) (hno : ¬ m ∈ ns) (ha : EvA t ρ M1 ds M2) (hn : ds.length + 1 = n) (hS : S (val (.ref p) :: ds) M2 P PE') (hX : RtX W Φ PE) (hP : ∀ C f y M', PE' C f y M' → PE ρ C f y M') : EvL Φ (tMethS C m (spX n S) (WE W) ta t) ρ M P := fun Φ' σ H Q l s q =>
  ho Φ' σ H _ s fun v H1 s1 => by
    have ⟨F, z⟩ := s1
    have e : v = .ref p := z.fr.2
    subst e
    obtain ⟨o, h1, h0, dx, fs, rfl, h3⟩ := z.at hc
    refine ⟨p, dx, fs, rfl, h1, h3.lookup_none hno, ha _ σ H1 _ s1 fun vs H2 s2 => ?_⟩
    have s3 : Sat (Φ'.andA (val (.ref p) :: ds) (.ref p :: vs)) ρ M2 σ H2 := s2.weak (.of rfl fun F p => ⟨p.1.1, .cons p.1.2 p.2⟩)
    exact ⟨Φ', ρ, σ, _, M2, P, PE', s3, let ⟨F, s2⟩ := s3; (Paired.length s2.fr.2).symm.trans hn, hS, fun x M' v H' hp s' => q x M' v H' hp s', fun C f y dd M' H' hp s' => hX Φ' ρ σ C f y dd M' H' l (hP C f y M' hp) s'⟩
theorem evl_make {S : XSpec} {PE' : Addr → Str → VD → Cells → Prop} (h : EvA t ρ M ds M1) (hn : ds.length + 1 = n) (hS : ∀ p, S (val (.ref p) :: ds) ((p, cI C [] []) :: M1) (fun y M' => y = vn ∧ P (val (.ref p)) M') PE') (hX : RtX W Φ PE) (hP : ∀ C f y M', PE' C f y M' → PE ρ C f y M') : EvL Φ (tMakeS C (spX n S) (WE W) t) ρ M P := fun Φ' σ H Q l s q =>
  h Φ' σ H _ s fun vs H1 s1 => fun x dx hx hdx hne => by
    have ⟨F, s2⟩ := s1
    have hl := Paired.length s2.fr.2
    have s3 := (s2.newH (o := .own x) hdx).newC (c := cI C [] []) (o := .ins C dx []) (p := x) (by rw [upd_ne hne.symm]; exact hx) fun e => ⟨e, dx, [], rfl, rfl, .nil⟩
    refine ⟨Φ', ρ, σ, val (.ref x) :: ds, (x, cI C [] []) :: M1, fun y M' => y = vn ∧ P (val (.ref x)) M', PE', ⟨F, s3.weak (.of rfl fun F h => ⟨h.1, .cons rfl h.2⟩)⟩, by rw [List.length_cons, ← hl]; exact hn, hS x, fun y M' v H' hp s' => ?_, fun C f y dd M' H' hp s' => hX Φ' ρ σ C f y dd M' H' l (hP C f y M' hp) s'⟩
    obtain ⟨rfl, hp⟩ := hp
    have ⟨F', s5⟩ := s'
    refine ⟨?_, q (val (.ref x)) M' (.ref x) H' hp ⟨F', s5.ex, ⟨s5.fr.1, rfl⟩, s5.sl, s5.nd, s5.ce⟩⟩
    have e : Rp F' v .none := s5.fr.2
    cases e
    rfl
/-! ### statements -/
theorem c_asgL {i : Nat} (h : EvL Φ te ρ M P) (k : ∀ x M1, P x M1 → ∃ ρ', SetAt x ρ i ρ' ∧ Cont D.nx Φ ρ' M1) : Cont (tAsg te (gName i) D) Φ ρ M := fun σ H s => h Φ σ H _ (.refl _) s fun x M1 v H1 p s1 => by
  obtain ⟨ρ', hs, k⟩ := k x M1 p
  exact k _ _ (s1.asg hs)
theorem c_dropL (h : EvL Φ te ρ M P) (k : ∀ x M1, P x M1 → Cont D.nx Φ ρ M1) : Cont (tDrop te D) Φ ρ M := fun σ H s => h Φ σ H _ (.refl _) s fun x M1 v H1 p s1 => k x M1 p σ H1 s1.weak1
theorem c_retL {P' : VD → Cells → Prop} (h : EvL Ψ te ρ M P') (hQ : RtQ D.rt Φ P) (hP : ∀ x M1, P' x M1 → P x M1) (l : Le Ψ Φ) : Cont (tRet te D) Ψ ρ M := fun σ H s => h Ψ σ H _ (.refl _) s fun x M1 v H1 p s1 => hQ Ψ ρ σ x M1 v H1 l (hP x M1 p) s1
def tRaise (C : Addr) (f : Str) (W : WX) (t : TA) : TS := fun _ σ H => XeB.tMk C f t σ H fun cls d H' => W cls d σ H'
theorem c_raise (h : EvA t ρ M [y] M1) (hX : RtX W Φ PE) (hP : PE ρ C f y M1) (l : Le Ψ Φ) : Cont (tRaise C f W t D) Ψ ρ M := fun σ H s => h Ψ σ H _ s fun vs H1 s1 => by
  have ⟨F, z⟩ := s1
  obtain ⟨v, rfl, hv⟩ := rc1 (ds := []) z.fr.2
  refine ⟨v, rfl, fun d hd => ?_⟩
  have z2 := z.newC (c := cX f y) (o := .xd [(f, v)]) hd fun e => ⟨e, v, rfl, hv⟩
  exact hX Ψ ρ σ C f y d M1 _ l hP ⟨F, z2.ex, z2.fr.1, z2.sl, z2.nd, z2.ce⟩
theorem Sat.unset {σ : L2.St} {H : Hp} (s : Sat Φ ρ M σ H) (i : Nat) : Sat Φ (ρ.set i none) M (σ.set i none) H := let ⟨F, s⟩ := s
  ⟨F, s.ex, s.fr, ⟨by rw [List.length_set, List.length_set]; exact s.sl.1, fun j x e => by
    rw [List.getElem?_set] at e
    by_cases h : i = j
    · rw [if_pos h] at e
      split at e <;> cases e
    · rw [if_neg h] at e
      rw [List.getElem?_set, if_neg h]
      exact s.sl.2 j x e⟩, s.nd, s.ce⟩
theorem c_unset {k : L2.St → Hp → Prop} {i : Nat} (c : Cont k Φ (ρ.set i none) M) : Cont (fun σ' H' => k (σ'.set i none) H') Φ ρ M := fun σ H s => c _ H (s.unset i)
abbrev tTryAs (K : PySem.W.Frag) (c : Value) (i : Nat) (ts : Addr → Value → Option Addr → TS) (Wout : WX) (tb : WX → TS) : TS := fun D σ H => tb (wAs K c i ts Wout D) D σ H
abbrev sEnds (D : Ends) (i : Nat) : Ends := { nx := fun σ' H' => D.nx (σ'.set i none) H', rt := D.rt, bk := fun σ' H' => D.bk (σ'.set i none) H', ct := fun σ' H' => D.ct (σ'.set i none) H' }
theorem c_tryAs {i : Nat} {c : Value} {ts : Addr → Value → Option Addr → TS} {Wout : WX} {tb : WX → TS} (PE : PXT) (hb : ∀ W, RtX W Φ PE → Cont (tb W D) Φ ρ M)
    (hs : ∀ Ψ ρ' C f y M' dd, Le Ψ Φ → PE ρ' C f y M' → PySem.W.exmOne K (.ref C) c = some true ∧ ∀ a, Cont (ts a (.ref C) (some dd) (sEnds D i)) Ψ (ρ'.set i (some (val (.ref a)))) ((dd, cX f y) :: M')) : Cont (tTryAs K c i ts Wout tb D) Φ ρ M :=
  hb (wAs K c i ts Wout D) fun Ψ ρ' σ C f y dd M' H l hp s => by
    obtain ⟨h1, h2⟩ := hs Ψ ρ' C f y M' dd l hp
    refine ⟨true, h1, fun _ a _ => h2 a _ _ ?_, fun z => Bool.noConfusion z⟩
    have ⟨F, z⟩ := s
    exact ⟨F, z.ex, z.fr, z.sl.set (x := val (.ref a)) (v := .ref a) rfl, z.nd, z.ce⟩
/-- the caught one's field -/
theorem ev_xf {a dd : Addr} (h : Ev te ρ M (val (.ref a)) M1) (hm : (dd, cX f y) ∈ M1) : Ev (tXf a (.ref C) (some dd) C f te) ρ M y M1 := fun Φ σ H Q s q => h Φ σ H _ s fun v H1 s1 => by
  have ⟨F, z⟩ := s1
  obtain ⟨o, k1, k0, w, rfl, k3⟩ := z.at hm
  refine ⟨z.fr.2, rfl, dd, _, w, rfl, k1, ?_, q _ _ (Sat.ret (z.weak Le.and) k3)⟩
  simp [List.lookup]
theorem fn_startX {n : Nat} {S : XSpec} {vs : List V} {H : Hp} {Q : VK} {E : XK} {t : WX → TS} {N : List Str} (h : spX n S vs H Q E)
    (k : ∀ W ds M P PE Φ, ds.length = n → S ds M P PE → RtQ Q Φ P → RtX W Φ (fun _ => PE) → Cont (t W (fnD Q)) Φ (entry N ds) M) : t (fun cls d _ H => E cls d H) { nx := fun _ H' => Q .non H', rt := Q } (L2.start N vs) H := by
  obtain ⟨Φ, ρ, σ, ds, M, P, PE, s, e, hS, hq, hx⟩ := h
  have ⟨F, s0⟩ := s
  refine k _ ds M P PE (Φ.slots σ ρ) ((Paired.length s0.fr.2).trans e) hS (fun Φ' ρ' σ' x M' v H' l hp s' => ?_) (fun Φ' ρ' σ' C f y dd M' H' l hp s' => ?_) _ _ ⟨F, s0.ex, ⟨s0.fr.1, s0.sl⟩, slots_entry s0.fr.2, s0.nd, s0.ce⟩
  · have s2 := s'.weak (Ψ := (Φ.slots σ ρ).and x v) ⟨l.n, fun F h => ⟨l.p F h.1, h.2⟩⟩
    have ⟨F', s3⟩ := s2
    exact hq x M' v H' hp ⟨F', s3.ex, ⟨s3.fr.1.1, s3.fr.2⟩, s3.fr.1.2, s3.nd, s3.ce⟩
  · have s2 := s'.weak l
    have ⟨F', s3⟩ := s2
    exact hx C f y dd M' H' hp ⟨F', s3.ex, s3.fr.1, s3.fr.2, s3.nd, s3.ce⟩
end
end Sx

set_option Elab.async false
set_option linter.all false
set_option maxRecDepth 100000
set_option maxHeartbeats 2000000
/-! Sx9: isinstance, a star in a display, a list's place set, dict displays, str(n), dict(rows). -/
namespace Sx
open PySem L2 Evl StX
section
variable {K : PySem.W.Frag} {ρ ρ' ρ1 : Env} {M M1 M2 M3 M4 M' : Cells} {x y z : VD} {te ta tb ty tv : TE} {t : TA} {p : Addr} {Φ : Fr} {D : Ends} {P : VD → Cells → Prop} {ds es : List VD}
/-! ### isinstance of data -/
def tyD : PyData → String
  | .none => "NoneType"
  | .bool _ => "bool"
  | .int _ => "int"
  | .str _ => "str"
  | .list _ => "list"
  | .tuple _ => "tuple"
  | .dict _ => "dict"
theorem rc_isi {d : PyData} {c : String} {b : Bool} (h : kitB (tyD d) c = some b) : RC (rIsi K) [dat d, val (.ty c)] M (dat (.bool b)) M := fun Φ ρ σ vs H Q ⟨F, s⟩ q => by
  obtain ⟨v, w, rfl, h1, h2⟩ := rc2 s.fr.2
  have e2 : w = .ty c := h2
  subst e2
  refine ⟨v, _, .type (tyD d), .type c, b, rfl, .ty c, .base ?_, kit_ty h, q _ _ (Sat.ret (s.weak Le.andA) (.bl b))⟩
  cases h1 with
  | non => exact .non
  | bl b => exact .bl _
  | int i => exact .int _
  | str x => exact .str _
  | lst h1 h2 => exact .lst (s.ex _ _ h1)
  | tup h1 h2 => exact .tup (s.ex _ _ h1)
/-! ### (*xs, y) -/
theorem ea_starT {ds' : List PyData} (h : Ev te ρ M x M1) (hx : IsTup x M1 ds') (hr : EvA t ρ M1 es M2) : EvA (tStar K te t) ρ M (ds'.map dat ++ es) M2 := fun Φ σ H Q s q => h Φ σ H _ s fun v H1 s1 => by
  have ⟨F, z⟩ := s1
  obtain ⟨a, ws, rfl, h1, h2⟩ := hx z z.fr.2
  refine ⟨a, ws, rfl, .inl (st_of h1), ?_⟩
  have s2 : Sat (Φ.andA (ds'.map dat) ws) ρ M1 σ H1 := ⟨F, z.ex, ⟨z.fr.1, DA.of_dat.mpr h2⟩, z.sl, z.nd, z.ce⟩
  exact hr _ σ H1 _ s2 fun vs H2 s3 => q _ _ (s3.weak (.of rfl fun F p => ⟨p.1.1, DA.append p.1.2 p.2⟩))
/-! ### xs[i] = v -/
theorem c_setL {xs : List VD} {k : Int} {j : Nat} (hv : Ev te ρ M x M1) (ho : Ev ta ρ M1 (val (.ref p)) M2) (hi : Ev tb ρ M2 (dat (.int k)) M3) (hj : ixN xs.length k = some j) (hp : Put p (cL xs) (cL (xs.set j x)) M3 M4) (kk : Cont D.nx Φ ρ M4) :
    Cont (tAsg te (gSub ta tb rSetL) D) Φ ρ M := fun σ H s => hv Φ σ H _ s fun v H1 s1 => ho _ σ H1 _ s1 fun w H2 s2 => hi _ σ H2 _ s2 fun u H3 s3 => by
  have ⟨F, z⟩ := s3
  have e1 : w = .ref p := z.fr.1.2
  cases z.fr.2
  subst e1
  obtain ⟨o, k1, k0, ws, rfl, k3⟩ := z.at hp.mem
  refine ⟨p, ws, k, j, rfl, rfl, k1, by rw [← Paired.length k3]; exact hj, kk σ _ ⟨F, ?_⟩⟩
  exact (z.put1 (o := .lst (ws.set j v)) hp k0 ⟨k0, _, rfl, DA.set z.fr.1.1.2 j k3⟩).weak (.of rfl fun F h => h.1.1.1)
theorem c_setLd {xs : List PyData} {d : PyData} {k : Int} {j : Nat} (hv : Ev te ρ M (dat d) M1) (ho : Ev ta ρ M1 (val (.ref p)) M2) (hi : Ev tb ρ M2 (dat (.int k)) M3) (hj : ixN xs.length k = some j) (hp : Put p (cLd xs) (cLd (xs.set j d)) M3 M4) (kk : Cont D.nx Φ ρ M4) :
    Cont (tAsg te (gSub ta tb rSetL) D) Φ ρ M := fun σ H s => hv Φ σ H _ s fun v H1 s1 => ho _ σ H1 _ s1 fun w H2 s2 => hi _ σ H2 _ s2 fun u H3 s3 => by
  have ⟨F, z⟩ := s3
  have e1 : w = .ref p := z.fr.1.2
  cases z.fr.2
  subst e1
  obtain ⟨o, k1, k0, ws, rfl, k3⟩ := z.at hp.mem
  refine ⟨p, ws, k, j, rfl, rfl, k1, by rw [k3.length]; exact hj, kk σ _ ⟨F, ?_⟩⟩
  have r : RpL F (ws.set j v) (xs.set j d) := by
    have := DA.set (d := dat d) z.fr.1.1.2 j (DA.of_dat.mpr k3)
    rw [← List.map_set] at this
    exact DA.of_dat.mp this
  exact (z.put1 (o := .lst (ws.set j v)) hp k0 ⟨k0, _, rfl, r⟩).weak (.of rfl fun F h => h.1.1.1)
theorem ed_starT {ds' es' : List PyData} (h : Ev te ρ M x M1) (hx : IsTup x M1 ds') (hr : EvD t ρ M1 es' M2) : EvD (tStar K te t) ρ M (ds' ++ es') M2 := by
  have := ea_starT (K := K) h hx hr
  rw [← List.map_append] at this
  exact this
/-! ### a dict with texts as keys -/
theorem valG_here {β : Type} {k : L2.Key} {y : β} {l : List (L2.Key × β)} : valG ((k, y) :: l) k = some y := by rw [valG_cons, if_pos rfl]
theorem ev_dgetS {td : TE} {kvs : List (L2.Key × VD)} {k : Str} (hd : Ev td ρ M x M1) (hk : Ev ty ρ M1 (dat (.str k)) M2) (h2 : IsDi x M2 kvs) (hv : valG kvs (.inr k) = some y) : Ev (tDGet td ty) ρ M y M2 := ev_dget (k := .inr k) hd hk h2 hv
theorem c_dputS {td : TE} {kvs kvs' : List (L2.Key × VD)} {k : Str} (hv : Ev tv ρ M x M1) (hd : Ev td ρ M1 (val (.ref p)) M2) (hk : Ev ty ρ M2 (dat (.str k)) M3) (hp : Put p (cD kvs) (cD kvs') M3 M4) (he : putG kvs (.inr k) x = kvs') (hl : kvs.length < sizeLine) (c : Cont D.nx Φ ρ M4) :
    Cont (sDPut td ty tv D) Φ ρ M := c_dput (k := .inr k) hv hd hk (he ▸ hp) hl c
/-! ### dict displays -/
theorem SatF.inN {F : Hp} {σ : L2.St} {H : Hp} {c : Addr × CD} (s : SatF F Φ ρ (c :: M) σ H) : SatF F (Φ.more c) ρ M σ H := by
  have hp : (M ++ (Φ.more c).N).Perm (c :: (M ++ Φ.N)) := List.perm_middle
  exact ⟨s.ex, s.fr, s.sl, (hp.map (·.1)).nodup_iff.mpr s.nd, fun d hd => s.ce d (hp.mem_iff.mp hd)⟩
theorem SatF.outN {F : Hp} {σ : L2.St} {H : Hp} {c : Addr × CD} (s : SatF F (Φ.more c) ρ M σ H) : SatF F Φ ρ (c :: M) σ H := by
  have hp : (M ++ (Φ.more c).N).Perm (c :: (M ++ Φ.N)) := List.perm_middle
  exact ⟨s.ex, s.fr, s.sl, (hp.map (·.1)).nodup_iff.mp s.nd, fun d hd => s.ce d (hp.mem_iff.mpr hd)⟩
def Fr.andP (Φ : Fr) (kvs : List (L2.Key × VD)) (ps : List (V × V)) : Fr := ⟨Φ.N, fun F => Φ.P F ∧ ∃ vs : List (L2.Key × V), ps = vs.map (fun kv => (kV kv.1, kv.2)) ∧ DP F kvs vs, fun e ⟨h, vs, h1, h2⟩ => ⟨Φ.mono e h, vs, h1, h2.mono e⟩⟩
def EvPs (trs : List (TE × TE)) (ρ : Env) (M : Cells) (kvs : List (L2.Key × VD)) (M' : Cells) : Prop := ∀ (Φ : Fr) (σ : L2.St) (H : Hp) (Q : List (V × V) → Hp → Prop), Sat Φ ρ M σ H → (∀ ps H', Sat (Φ.andP kvs ps) ρ M' σ H' → Q ps H') → tPairs trs σ H Q
theorem ep_nil : EvPs [] ρ M [] M := fun Φ σ H Q ⟨F, s⟩ q => q [] H ⟨F, s.ex, ⟨s.fr, [], rfl, .nil⟩, s.sl, s.nd, s.ce⟩
theorem ep_cons {trs : List (TE × TE)} {k : L2.Key} {kvs : List (L2.Key × VD)} (hk : Ev ta ρ M (dat (kD k)) M1) (hv : Ev tb ρ M1 x M2) (hr : EvPs trs ρ M2 kvs M3) : EvPs ((ta, tb) :: trs) ρ M ((k, x) :: kvs) M3 := fun Φ σ H Q s q =>
  hk Φ σ H _ s fun v H1 s1 => hv _ σ H1 _ s1 fun w H2 s2 => hr _ σ H2 _ s2 fun ps H3 s3 => q _ H3 (by
    have e : v = kV k := let ⟨F, z⟩ := s3; kv_of z.fr.1.1.2
    subst e
    exact s3.weak (.of rfl fun F h => ⟨h.1.1.1, let ⟨vs, h1, h2⟩ := h.2; ⟨(k, w) :: vs, by rw [h1]; rfl, .cons ⟨rfl, h.1.2⟩ h2⟩⟩))
theorem er_disp {trs : List (TE × TE)} {kvs : List (L2.Key × VD)} (h : EvPs trs ρ M kvs M1) (hl : kvs.length ≤ 15) : EvR (tDisp trs) ρ M fun y M' => ∃ p, y = val (.ref p) ∧ M' = (p, cD (mergeG [] kvs)) :: M1 := fun Φ σ H Q ⟨F, s⟩ q => fun p hp =>
  h (Φ.more (p, cD [])) σ _ _ ⟨F, (s.newC (c := cD []) (o := .dK []) hp fun e => ⟨e, [], rfl, .nil⟩).inN⟩ fun ps H2 ⟨F2, z⟩ => by
    obtain ⟨vs, e1, e2⟩ := z.fr.2
    have z1 : SatF F2 (Φ.more (p, cD [])) ρ M1 σ H2 := ⟨z.ex, z.fr.1, z.sl, z.nd, z.ce⟩
    have z2 := z1.outN
    obtain ⟨o, k1, k0, ws, rfl, k3⟩ := z2.at List.mem_cons_self
    cases k3
    refine ⟨k1, vs, e1, by rw [← e2.len]; exact hl, ?_⟩
    have z3 := z2.put1 (o := .dK (mergeK [] vs)) (c' := cD (mergeG [] kvs)) .here k0 ⟨k0, _, rfl, DP.merge e2 .nil⟩
    exact q _ _ _ _ ⟨p, rfl, rfl⟩ ⟨F2, z3.ex, ⟨z3.fr, rfl⟩, z3.sl, z3.nd, z3.ce⟩
/-! ### str(n) -/
abbrev rStrInt : List V → Hp → VK → Prop := fun xs H Q => ∃ i, xs = [.int i] ∧ i.natAbs.log2 < 1920 ∧ Q (.str (toString i)) H
theorem call_str_int' {X : Cx} : CallR X (.type "str") rStrInt := call_str_int
theorem rc_strI {i : Int} (h : i.natAbs.log2 < 1920) : RC rStrInt [dat (.int i)] M (dat (.str (toString i))) M := fun Φ ρ σ vs H Q ⟨F, s⟩ q => by
  obtain ⟨v, rfl, h1⟩ := rc1 (ds := []) s.fr.2
  cases h1
  exact ⟨i, rfl, h, q _ _ (Sat.ret (s.weak Le.andA) (.str _))⟩
end
end Sx

set_option Elab.async false
set_option linter.all false
set_option maxRecDepth 100000
set_option maxHeartbeats 2000000
/-! Sx10: tuples known to their object; dict(x) of pairs; dicts compared. -/
namespace L2
open PySem PySem.Spec PyProof.Rows
section
variable {X : Cx}
/-- a tuple display, known to its object -/
def tTupZ (t : TA) : TE := fun σ H Q => t σ H fun xs H1 => xs.length ≤ sizeLine ∧ ∀ p o, H1 p = none → o.dict = none → Q (.ref p) (upd H1 p (.frz o (.tup xs)))
theorem pe_tupZ {es : List Expr} {t : TA} {x1} {pos : Pos} (h : PA X es t) : PE X (.Tuple es x1 pos) (tTupZ t) := by
  refine ⟨fun pins s σ H Q I hq => ?_⟩
  refine wpAny_Tuple_spliced (thn (h.run pos pins s σ H _ I hq) fun us s1 ⟨xs, H1, I1, r, z, q⟩ => ⟨by rw [← r.length]; exact z, ?_⟩)
  have fresh : H1 s1.heap.objs.size = none := I1.hok.fresh (Nat.le_refl _)
  refine ⟨.ref s1.heap.objs.size, upd H1 s1.heap.objs.size (.frz { cls := .type "tuple", data := .seq us.toArray } (.tup xs)), I1.laid (t' := s1.toks) (fun b u e => Heap.get?_push_of_some _ e) (Nat.le_refl _) ?_, rfl, q _ _ fresh rfl⟩
  exact ⟨Heap.get?_push_size _ rfl, z, us, r, ⟨_, Heap.get?_push_size _ rfl, rfl, _, rfl⟩⟩
/-- tuple(xs) of a list, known to its object -/
def rTupZ (K : PySem.W.Frag) : List V → Hp → VK → Prop := fun xs H Q => ∃ p ys, xs = [.ref p] ∧ SqL K H p ys ∧ ∀ l o, H l = none → o.dict = none → Q (.ref l) (upd H l (.frz o (.tup ys)))
theorem call_tupZ : CallR X (.type "tuple") (rTupZ X.K) := by
  intro pins s σ H xs us Q I r h
  obtain ⟨p, ys, rfl, hq, q⟩ := h
  obtain ⟨u, rfl, rx⟩ := vals1 r
  cases rx
  obtain ⟨its, r', pl, hz⟩ := I.list hq
  have many := r'.length
  refine call_tuple_list pl.isList (fun h' kp => ?_) (by simp only [List.size_toArray] <;> omega)
  have J1 : Inv X pins σ H { s with heap := h' } := I.kept (t' := s.toks) kp
  have J2 : Inv X pins σ (upd H h'.objs.size (.frz { cls := .type "tuple", data := .seq its.toArray } (.tup ys))) { s with heap := h'.push { cls := .type "tuple", data := .seq its.toArray } } :=
    J1.laid (t' := s.toks) (fun b o e => Heap.get?_push_of_some _ e) (Nat.le_refl _) ⟨Heap.get?_push_size _ rfl, hz, its, r', IsTup.new _ _⟩
  exact ⟨.ref h'.objs.size, _, J2, rfl, q _ _ (J1.hok.fresh (Nat.le_refl _)) rfl⟩
/-- pairs in tuples that are laid -/
theorem pairs_laid {pins : List (Addr × Obj)} {σ : St} {H : Hp} {s : Shared} (I : Inv X pins σ H s) : ∀ {ps : List Addr} {kvs : List (Key × V)}, Paired (fun p kv => SqT X.K H p [kV kv.1, kv.2]) ps kvs →
    ∃ (prs : List (Key × Value)) (pv : List (Value × Value)), KV kvs prs ∧ prs.length = ps.length ∧ pv.length = ps.length ∧ ∀ (j : Nat) (b : Addr), ps[j]? = some b → ∃ k u y, prs[j]? = some (k, y) ∧ pv[j]? = some (u, y) ∧ IsTup s.heap b #[u, y] ∧ (mixKind X.prog X.w).is k u = true
  | _, _, .nil => ⟨[], [], .nil, rfl, rfl, fun j b e => by simp at e⟩
  | _, _, .cons (a := p) (b := kv) h t => by
    obtain ⟨prs, pv, r, l1, l2, hp⟩ := pairs_laid I t
    obtain ⟨its, rv, ht, _⟩ := I.tuple h
    obtain ⟨u, y, ei, ru, ry⟩ := vals2 rv
    subst ei
    refine ⟨(kv.1, y) :: prs, (u, y) :: pv, .cons ⟨rfl, ry⟩ r, by rw [List.length_cons, List.length_cons, l1], by rw [List.length_cons, List.length_cons, l2], fun j b e => ?_⟩
    cases j with
    | zero =>
      have e' : p = b := Option.some.inj e
      subst e'
      exact ⟨kv.1, u, y, rfl, rfl, ht, kV_is ru⟩
    | succ j =>
      obtain ⟨k, u', y', e1, e2, e3⟩ := hp j b (by simpa using e)
      exact ⟨k, u', y', by simpa using e1, by simpa using e2, e3⟩
/-- dict(xs): xs a list of pairs, or a tuple of pairs that is known to its object -/
def rDictP (K : PySem.W.Frag) : List V → Hp → VK → Prop := fun xs H Q => ∃ (a : Addr) (ps : List Addr) (kvs : List (Key × V)), xs = [.ref a] ∧ (SqL K H a (ps.map V.ref) ∨ ∃ o, H a = some (.frz o (.tup (ps.map V.ref))) ∧ o.dict = none) ∧
  Paired (fun p kv => SqT K H p [kV kv.1, kv.2]) ps kvs ∧ ∀ p, H p = none → Q (.ref p) (upd H p (.dK (mergeK [] kvs)))
theorem call_dictP' (hcalm : X.calm = true) : CallR X (.type "dict") (rDictP X.K) := by
  intro pins s σ H xs us Q I r h
  obtain ⟨a, ps, kvs, ex, hq, hp, q⟩ := h
  rcases hq with hq | ⟨o, hq, hod⟩
  · exact call_dictP hcalm pins s σ H xs us Q I r ⟨a, ps, kvs, ex, hq, hp, q⟩
  subst ex
  obtain ⟨u, eu, rx⟩ := vals1 r
  subst eu
  cases rx
  obtain ⟨ho, hz, its, rv, o', ho', hc, n, hdat⟩ := (show ObjOk X.prog X.w H s.heap a (.frz o (.tup (ps.map V.ref))) from I.hok a _ hq)
  rw [ho] at ho'
  cases ho'
  have ei := refs_at rv
  subst ei
  rw [List.length_map] at hz
  obtain ⟨prs, pv, rel, l1, l2, hpr⟩ := pairs_laid I hp
  have P := PySem.PairArg.tuple (prog := X.prog) (w := X.w) a (ps.map Value.ref).toArray (fun j => ps.getD j 0) pv
  refine PySem.call_dict_pairs (knd := mixKind X.prog X.w) (kvs := prs) P (I.ok.hd hcalm) ⟨⟨o, n, ho, hc, hod, hdat⟩, by simp [l2], fun j k v e => ?_⟩ ⟨by rw [l1, l2], fun i key v e => ?_⟩ (by rw [l2]; exact hz) fun h' tk hd' k => ?_
  · have hj : j < ps.length := by rw [← l2]; exact (List.getElem?_eq_some_iff.mp e).1
    obtain ⟨k', u, y, e1, e2, e3, _⟩ := hpr j ps[j] (List.getElem?_eq_getElem hj)
    rw [e2] at e
    obtain ⟨rfl, rfl⟩ := Prod.mk.inj (Option.some.inj e)
    refine ⟨by simp [hj, List.getD], .inl ?_⟩
    show s.heap.IsTuple (ps.getD j 0) _
    rw [show ps.getD j 0 = ps[j] by simp [List.getD, hj]]
    exact e3
  · have hj : i < ps.length := by rw [← l2]; exact (List.getElem?_eq_some_iff.mp e).1
    obtain ⟨k', u, y, e1, e2, _, e4⟩ := hpr i ps[i] (List.getElem?_eq_getElem hj)
    have e : pv[i]? = some (key, v) := e
    rw [e2] at e
    obtain ⟨rfl, rfl⟩ := Prod.mk.inj (Option.some.inj e)
    exact ⟨k', e1, e4⟩
  · have hm : (s.heap.objs.size == sysModules) = false := beq_eq_false_iff_ne.mpr (Nat.ne_of_gt I.big)
    have few : (mergeK [] kvs).length ≤ sizeLine := by
      refine Nat.le_trans (length_mergeK kvs []) ?_
      rw [List.length_nil, Nat.zero_add, rel.length, l1]
      exact hz
    exact ⟨.ref s.heap.objs.size, upd H s.heap.objs.size (.dK (mergeK [] kvs)), I.laid (t' := tk) (fun b o e => k b o (fun z => nomatch z) e) (Nat.le_refl _) (show ObjOk X.prog X.w _ _ _ (.dK (mergeK [] kvs)) from ⟨few, hm, merged [] prs, KV.merge rel .nil, hd'⟩), rfl, q _ (I.hok.fresh (Nat.le_refl _))⟩
/-- a != b of two dicts that say the same -/
def rNeDi : R2 := fun x y H Q => ∃ a b ks, x = .ref a ∧ y = .ref b ∧ H a = some (.dK ks) ∧ H b = some (.dK ks) ∧ (∀ p ∈ ks, flatB p.2 = true) ∧ Q (.bl false) H
theorem hits_alike {A : Around} {s : Shared} {vb : List (Key × Value)} : ∀ {ks : List (Key × V)} {va vb' : List (Key × Value)}, KV ks va → KV ks vb' → (∀ q ∈ vb', valueAt vb q.1 = some q.2) → (∀ p ∈ ks, flatB p.2 = true) → PySem.W.KeqHits A s vb va true
  | _, _, _, .nil, .nil, _, _ => .nil
  | _, _, _, .cons (b := q1) h1 t1, .cons (b := q2) h2 t2, hv, hf => by
    obtain ⟨k, v⟩ := q1
    obtain ⟨k2, v2⟩ := q2
    have e : k = k2 := h1.1.symm.trans h2.1
    subst e
    exact PySem.W.KeqHits.hit (e := true) (b := true) (hv _ List.mem_cons_self) (eqAt_same h1.2 h2.2 (hf _ List.mem_cons_self)) (hits_alike t1 t2 (fun q m => hv q (List.mem_cons_of_mem _ m)) fun p m => hf p (List.mem_cons_of_mem _ m))
theorem val_once : ∀ {vb : List (Key × Value)}, (vb.map (·.1)).Nodup → ∀ q ∈ vb, valueAt vb q.1 = some q.2
  | [], _, _, h => nomatch h
  | p :: r, hn, q, h => by
    rw [List.map_cons, List.nodup_cons] at hn
    unfold valueAt
    rw [List.find?_cons]
    rcases List.mem_cons.mp h with rfl | h
    · simp
    · have hne : ¬ p.1 = q.1 := fun e => hn.1 (e ▸ List.mem_map_of_mem h)
      simp only [hne, decide_false]
      exact val_once hn.2 q h
theorem op_neDi (hu : X.A.units + 64 < cLine) : OpR X (compareOp .NotEq) rNeDi := by
  intro pins s σ H x y v u Q I rx ry h
  obtain ⟨a, b, ks, rfl, rfl, ha, hb, hf, q⟩ := h
  cases (show v = Value.ref a from rx)
  cases (show u = Value.ref b from ry)
  obtain ⟨_, ya, va, ra, da⟩ := dk_of I.hok ha
  obtain ⟨_, yb, vb, rb, db⟩ := dk_of I.hok hb
  have hn : (vb.map (·.1)).Nodup := let ⟨_, _, _, _, _, _, _, _, z⟩ := db; z
  refine PySem.W.keq_ne (knd := mixKind X.prog X.w) (r := true) ya yb da db (by omega) (fun _ => hits_alike ra rb (val_once hn) hf) ?_
  have e : va.length = vb.length := by rw [← ra.length, ← rb.length]
  rw [show (!(va.length == vb.length && true)) = false by simp [e]]
  exact ⟨.bl false, H, I, rfl, q⟩
end
end L2
namespace Sx
open PySem L2 Evl
/-- a tuple of data, known to its object: it has no dict of its own -/
def vzt (ds : List PyData) : VD := ⟨fun F v => ∃ a o vs, v = .ref a ∧ F a = some (.frz o (.tup vs)) ∧ o.dict = none ∧ RpL F vs ds, fun e ⟨a, o, vs, h1, h2, h3, h4⟩ => ⟨a, o, vs, h1, e.pl _ _ h2 rfl, h3, h4.mono e⟩⟩
def encPr (p : L2.Key × PyData) : PyData := .tuple [kD p.1, p.2]
abbrev dKs (l : List (L2.Key × PyData)) : List (L2.Key × VD) := l.map fun p => (p.1, dat p.2)
def rNeW (K : PySem.W.Frag) : R2 := fun x y H Q => rNeU K x y H Q ∨ rNeDi x y H Q
theorem op_neW {X : Cx} (hu : X.A.units + 64 < cLine) : OpR X (compareOp .NotEq) (rNeW X.K) := (op_neU hu).or (op_neDi hu)
theorem pairs_rp {K : PySem.W.Frag} {F H : Hp} (ex : ∀ a u, F a = some u → H a = some u) : ∀ {l : List (L2.Key × PyData)} {vs : List V}, RpL F vs (l.map encPr) → ∃ (ps : List Addr) (kvs : List (L2.Key × V)), vs = ps.map V.ref ∧ Paired (fun p kv => SqT K H p [kV kv.1, kv.2]) ps kvs ∧ DP F (dKs l) kvs
  | [], _, .nil => ⟨[], [], rfl, .nil, .nil⟩
  | (k, d) :: l, _, .cons h t => by
    obtain ⟨ps, kvs, rfl, hp, hd⟩ := pairs_rp ex t
    cases h with
    | @tup a xs _ h1 h2 =>
      cases h2 with
      | cons g1 g2 =>
        cases g2 with
        | cons g3 g4 =>
          cases g4
          cases kv_of g1
          exact ⟨a :: ps, (k, _) :: kvs, rfl, .cons (.inl (.inl (ex _ _ h1))) hp, .cons ⟨rfl, g3⟩ hd⟩
section
variable {K : PySem.W.Frag} {ρ ρ' : Env} {M M1 M2 M' : Cells} {x y : VD} {te ta tb : TE} {t : TA} {Φ : Fr} {l : List (L2.Key × PyData)}
theorem rc_dicL : RC (rDictP K) [dat (.list (l.map encPr))] M (vdi (mergeG [] (dKs l))) M := fun Φ ρ σ vs H Q ⟨F, s⟩ q => by
  obtain ⟨v, rfl, h1⟩ := rc1 (ds := []) s.fr.2
  cases h1 with
  | @lst a xs _ g1 g2 =>
    obtain ⟨ps, kvs, rfl, hp, hd⟩ := pairs_rp (K := K) s.ex g2
    exact ⟨a, ps, kvs, rfl, .inl (sq_of (s.ex _ _ g1)), hp, fun p hp' => q _ _ (Sat.retNew s.base1 hp' fun F' fx e => ⟨p, _, rfl, e, (hd.merge .nil).mono fx⟩)⟩
theorem rc_dicZ : RC (rDictP K) [vzt (l.map encPr)] M (vdi (mergeG [] (dKs l))) M := fun Φ ρ σ vs H Q ⟨F, s⟩ q => by
  obtain ⟨v, rfl, a, o, xs, rfl, g1, g3, g2⟩ := rc1 (ds := []) s.fr.2
  obtain ⟨ps, kvs, rfl, hp, hd⟩ := pairs_rp (K := K) s.ex g2
  exact ⟨a, ps, kvs, rfl, .inr ⟨o, s.ex _ _ g1, g3⟩, hp, fun p hp' => q _ _ (Sat.retNew s.base1 hp' fun F' fx e => ⟨p, _, rfl, e, (hd.merge .nil).mono fx⟩)⟩
theorem rc_lstZ {ds : List PyData} : RC (rLstOf K) [vzt ds] M (dat (.list ds)) M := fun Φ ρ σ vs H Q ⟨F, s⟩ q => by
  obtain ⟨v, rfl, a, o, xs, rfl, g1, g3, g2⟩ := rc1 (ds := []) s.fr.2
  exact ⟨a, xs, rfl, .inr (.inl (.inr ⟨o, s.ex _ _ g1⟩)), fun l hl => q _ _ (Sat.retNew s.base1 hl fun F' fx e => .lst e (g2.mono fx))⟩
theorem rc_tupZ {ds : List PyData} (hx : IsLst x M ds) : RC (rTupZ K) [x] M (vzt ds) M := fun Φ ρ σ vs H Q ⟨F, s⟩ q => by
  obtain ⟨v, rfl, h1⟩ := rc1 (ds := []) s.fr.2
  obtain ⟨a, ws, rfl, h2, h3⟩ := hx s h1
  exact ⟨a, ws, rfl, sq_of h2, fun l o hl ho => q _ _ (Sat.retNew s.base1 hl fun F' fx e => ⟨l, o, ws, rfl, e, ho, h3.mono fx⟩)⟩
theorem ev_tupZ {ds : List PyData} (h : EvD t ρ M ds M1) (hl : ds.length ≤ sizeLine) : Ev (tTupZ t) ρ M (vzt ds) M1 := fun Φ σ H Q s q => h Φ σ H _ s fun vs H1 ⟨F, s1⟩ => by
  have hr := DA.of_dat.mp s1.fr.2
  refine ⟨by rw [hr.length]; exact hl, fun p o hp ho => ?_⟩
  obtain ⟨s2, fx⟩ := s1.new (o := .frz o (.tup vs)) hp
  exact q _ _ ⟨_, s2.ex, ⟨s2.fr.1, p, o, vs, rfl, upd_same, ho, hr.mono fx⟩, s2.sl, s2.nd, s2.ce⟩
theorem rv_neDi {ks : List (L2.Key × Int)} : RV (rNeW K) (vdi (dKs (ks.map fun p => (p.1, .int p.2)))) (vdi (dKs (ks.map fun p => (p.1, .int p.2)))) M (dat (.bool false)) M := fun Φ ρ σ v w H Q ⟨F, s⟩ q => by
  obtain ⟨a, va, rfl, e1, d1⟩ := s.fr.1.2
  obtain ⟨b, vb, rfl, e2, d2⟩ := s.fr.2
  have hz : ∀ {ks : List (L2.Key × Int)} {va : List (L2.Key × V)}, DP F (dKs (ks.map fun p => (p.1, .int p.2))) va → va = ks.map fun p => (p.1, V.int p.2) := by
    intro ks
    induction ks with
    | nil => intro va h; cases h; rfl
    | cons p r ih =>
      intro va h
      cases h with
      | cons h t =>
        rename_i b l
        obtain ⟨k, v⟩ := b
        obtain ⟨g1, g2⟩ := h
        cases g1
        cases g2
        rw [ih t]
        rfl
  have q1 := hz d1
  have q2 := hz d2
  subst q1
  subst q2
  refine .inr ⟨a, b, _, rfl, rfl, s.ex _ _ e1, s.ex _ _ e2, fun p hp => ?_, q _ _ (Sat.ret s.base (.bl _))⟩
  obtain ⟨r, _, rfl⟩ := List.mem_map.mp hp
  rfl
theorem rc_tupZv {ds : List PyData} : RC (rTupZ K) [vlst (ds.map dat)] M (vzt ds) M := fun Φ ρ σ vs H Q s q => rc_tupZ (isl_dat (ds := ds)) Φ ρ σ vs H Q (s.weak (.of rfl fun F h => by
  obtain ⟨v, rfl, h1⟩ := rc1 (ds := []) h.2
  exact ⟨h.1, .cons (vlst_dat.mp h1) .nil⟩)) q
/-- an expression with one outcome, told with others -/
theorem Ev.er {P : VD → Cells → Prop} (h : Ev te ρ M x M') (hp : P x M') : EvR te ρ M P := fun Φ σ H Q s q => h Φ σ H Q s fun v H' s' => q x M' v H' hp s'
theorem er_cb {r : List V → Hp → VK → Prop} {P : VD → Cells → Prop} (h : EvAR t ρ M fun ds M1 => ∃ z M2, RC r ds M1 z M2 ∧ P z M2) : EvR (tCB r t) ρ M P := fun Φ σ H Q s q => h Φ σ H _ s fun ds M1 vs H1 ⟨z, M2, hr, hp⟩ s1 => hr Φ ρ σ vs H1 Q s1 fun w H2 s2 => q z M2 w H2 hp s2
theorem er_op {r : R2} {P Pa : VD → Cells → Prop} (ha : EvR ta ρ M Pa) (hb : ∀ x M1, Pa x M1 → EvR tb ρ M1 fun y M2 => ∃ z M3, RV r x y M2 z M3 ∧ P z M3) : EvR (tOp r ta tb) ρ M P := fun Φ σ H Q s q =>
  ha Φ σ H _ s fun x M1 v H1 hx s1 => hb x M1 hx _ σ H1 _ s1 fun y M2 w H2 ⟨z, M3, hr, hp⟩ s2 => hr Φ ρ σ v w H2 Q s2 fun u H3 s3 => q z M3 u H3 hp s3
/-- i, j = .., several outcomes -/
theorem c_parR {D : Ends} {P : List VD → Cells → Prop} {i j : Nat} (h : EvAR t ρ M P) (k : ∀ ds M1, P ds M1 → ∃ x y ρ1 ρ2, ds = [x, y] ∧ SetAt x ρ i ρ1 ∧ SetAt y ρ1 j ρ2 ∧ Cont D.nx Φ ρ2 M1) : Cont (tPar i j t D) Φ ρ M := fun σ H s => h Φ σ H _ s fun ds M1 vs H1 hp s1 => by
  obtain ⟨x, y, ρ1, ρ2, rfl, h1, h2, kk⟩ := k ds M1 hp
  have ⟨F, s0⟩ := s1
  obtain ⟨v, w, rfl, q1, q2⟩ := rc2 s0.fr.2
  refine ⟨v, w, rfl, kk _ _ ?_⟩
  have s2 : Sat ((Φ.and y w).and x v) ρ M1 σ H1 := s1.weak (.of rfl fun F h => by
    obtain ⟨v', w', e, q1, q2⟩ := rc2 h.2
    cases e
    exact ⟨⟨h.1, q2⟩, q1⟩)
  exact (s2.asg h1).asg h2
theorem c_par3R {D : Ends} {P : List VD → Cells → Prop} {i j l : Nat} (h : EvAR t ρ M P) (k : ∀ ds M1, P ds M1 → ∃ x y z ρ1 ρ2 ρ3, ds = [x, y, z] ∧ SetAt x ρ i ρ1 ∧ SetAt y ρ1 j ρ2 ∧ SetAt z ρ2 l ρ3 ∧ Cont D.nx Φ ρ3 M1) : Cont (tPar3 i j l t D) Φ ρ M := fun σ H s => h Φ σ H _ s fun ds M1 vs H1 hp s1 => by
  obtain ⟨x, y, z, ρ1, ρ2, ρ3, rfl, h1, h2, h3, kk⟩ := k ds M1 hp
  have ⟨F, s0⟩ := s1
  obtain ⟨v, w, u', rfl⟩ : ∃ a b c, vs = [a, b, c] := by
    have e := Paired.length s0.fr.2
    match vs, e with
    | [a, b, c], _ => exact ⟨a, b, c, rfl⟩
  refine ⟨v, w, u', rfl, kk _ _ ?_⟩
  have s2 : Sat (((Φ.and z u').and y w).and x v) ρ M1 σ H1 := s1.weak (.of rfl fun F h => by
    cases h.2 with
    | cons q1 q2 =>
      cases q2 with
      | cons q3 q4 =>
        cases q4 with
        | cons q5 q6 => exact ⟨⟨⟨h.1, q5⟩, q3⟩, q1⟩)
  exact ((s2.asg h1).asg h2).asg h3
end
end Sx

set_option Elab.async false
set_option linter.all false
set_option maxRecDepth 100000
set_option maxHeartbeats 2000000
namespace Lw
open PySem L2 Sx
/-! ### the data -/
abbrev Rows := List (Str × Int)
def nm (i : Nat) : Str := ("c" : Str) ++ (toString (i : Int) : String)
abbrev rk (r : Rows) : List (L2.Key × PyData) := r.map fun p => (.inr p.1, .int p.2)
abbrev zr (r : Rows) : VD := vzt ((rk r).map encPr)
def dI (r : Rows) : List (L2.Key × Int) := mergeG [] (r.map fun p => (.inr p.1, p.2))
abbrev dV (r : Rows) : VD := vdi (dKs ((dI r).map fun p => (p.1, .int p.2)))
def own (r : Rows) (c : Str) : Option Int := valG (dI r) (.inr c)
theorem mergeG_map {α β : Type} (f : α → β) : ∀ (more kvs : List (L2.Key × α)), mergeG (kvs.map fun p => (p.1, f p.2)) (more.map fun p => (p.1, f p.2)) = (mergeG kvs more).map fun p => (p.1, f p.2)
  | [], kvs => rfl
  | p :: r, kvs => by
    show mergeG (putG _ p.1 (f p.2)) _ = (mergeG (putG kvs p.1 p.2) r).map _
    rw [putG_map]
    exact mergeG_map f r _
theorem dV_is (r : Rows) : vdi (mergeG [] (dKs (rk r))) = dV r := by
  have e : dKs (rk r) = (r.map fun p => ((.inr p.1 : L2.Key), p.2)).map fun p => (p.1, dat (.int p.2)) := by
    unfold dKs rk
    rw [List.map_map, List.map_map]
    rfl
  have e2 : dKs ((dI r).map fun p => (p.1, PyData.int p.2)) = (dI r).map fun p => (p.1, dat (.int p.2)) := by
    unfold dKs
    rw [List.map_map]
    rfl
  rw [e]
  show _ = vdi (dKs ((dI r).map fun p => (p.1, PyData.int p.2)))
  rw [e2]
  exact congrArg vdi (mergeG_map (fun i : Int => dat (.int i)) _ [])
theorem own_is (r : Rows) (c : Str) : valG (dKs ((dI r).map fun p => (p.1, PyData.int p.2))) (.inr c) = (own r c).map fun i => dat (.int i) := by
  unfold dKs own
  rw [List.map_map]
  exact valG_map (fun i : Int => dat (.int i)) (dI r) (.inr c)
abbrev mN : List Str := ["name", "number", "rows"]
abbrev mI (C : Addr) (n : Int) (r : Rows) : CD := cI C mN [dat (.str "m0"), dat (.int n), dV r]
def oD : Option Int → PyData
  | none => .none
  | some i => .int i
def upD (r : Rows) (c : Str) (f : PyData) : PyData := match own r c with
  | none => .none
  | some e => .tuple [.str "up", .str c, .int e, f]
def downD (r : Rows) (c : Str) (e : Int) (f : PyData) : PyData := if own r c = some e then .tuple [.str "air", .str c, .int e, f] else .none
def top (i : Nat) : Stmt := PySem.Challenge.pw_mastcalls_k13_whole_lists.main.body.getD i (.Pass ⟨0, 0, 0, 0⟩)
abbrev s_Mast_init : Stmt := (inClass (top 1) 0)
abbrev s_Mast_take : Stmt := (inClass (top 1) 1)
abbrev s_Mast_fall : Stmt := (inClass (top 1) 2)
abbrev s_Mast_lead_up : Stmt := (inClass (top 1) 3)
abbrev s_Mast_lead_down : Stmt := (inClass (top 1) 4)
abbrev s_law_number : Stmt := (top 3)
abbrev s_law_take : Stmt := (top 4)
abbrev s_law_pick : Stmt := (top 5)
abbrev s_law : Stmt := (top 6)
theorem sc_Mast_init : FnScope ["self", "name"] ["self", "name"] (defScope s_Mast_init) := ⟨rfl, rfl, rfl, by decide +kernel, rfl, by decide +kernel, by decide +kernel⟩
theorem sc_Mast_take : FnScope ["self", "number", "rows"] ["self", "number", "rows"] (defScope s_Mast_take) := ⟨rfl, rfl, rfl, by decide +kernel, rfl, by decide +kernel, by decide +kernel⟩
theorem sc_Mast_fall : FnScope ["self"] ["self"] (defScope s_Mast_fall) := ⟨rfl, rfl, rfl, by decide +kernel, rfl, by decide +kernel, by decide +kernel⟩
theorem sc_Mast_lead_up : FnScope ["self", "call", "frame"] ["self", "call", "frame"] (defScope s_Mast_lead_up) := ⟨rfl, rfl, rfl, by decide +kernel, rfl, by decide +kernel, by decide +kernel⟩
theorem sc_Mast_lead_down : FnScope ["self", "call", "epoch", "frame"] ["self", "call", "epoch", "frame"] (defScope s_Mast_lead_down) := ⟨rfl, rfl, rfl, by decide +kernel, rfl, by decide +kernel, by decide +kernel⟩
theorem sc_law_number : FnScope ["_law_script", "_law_index", "_law_cell", "_law_blend"] ["_law_script", "_law_index"] (defScope s_law_number) := ⟨rfl, rfl, rfl, by decide +kernel, rfl, by decide +kernel, by decide +kernel⟩
theorem sc_law_take : FnScope ["_law_draw", "_law_many"] ["_law_draw", "_law_many"] (defScope s_law_take) := ⟨rfl, rfl, rfl, by decide +kernel, rfl, by decide +kernel, by decide +kernel⟩
theorem sc_law_pick : FnScope ["_law_draw", "_law_items"] ["_law_draw", "_law_items"] (defScope s_law_pick) := ⟨rfl, rfl, rfl, by decide +kernel, rfl, by decide +kernel, by decide +kernel⟩
theorem sc_law : FnScope ["_law_script", "_law_draw", "_law_lists", "_law_mast", "_law_rows", "_law_number_here", "_law_turn", "_law_kind", "_law_late", "_law_call", "_law_epoch", "_law_frame", "_law_own", "_law_at"] ["_law_script"] (defScope s_law) := ⟨rfl, rfl, rfl, by decide +kernel, rfl, by decide +kernel, by decide +kernel⟩
/-! what the walk asks of the text as the top has left it -/
structure Tx (K : PySem.W.Frag) (mg : Str → Option Value) where
  Pg : Program
  C_Mast : Addr
  f_Mast_init : Addr
  fd_Mast_init : FuncData
  f_Mast_take : Addr
  fd_Mast_take : FuncData
  f_Mast_fall : Addr
  fd_Mast_fall : FuncData
  f_Mast_lead_up : Addr
  fd_Mast_lead_up : FuncData
  f_Mast_lead_down : Addr
  fd_Mast_lead_down : FuncData
  f_law_number : Addr
  fd_law_number : FuncData
  f_law_take : Addr
  fd_law_take : FuncData
  f_law_pick : Addr
  fd_law_pick : FuncData
  f_law : Addr
  fd_law : FuncData
  F_Mast : ClsF K C_Mast ["name", "number", "rows"]
  mg_Mast : mg "Mast" = some (.ref C_Mast)
  M_Mast : Mk K C_Mast f_Mast_init
  F_Mast_init : Fun K "__init__" "Mast.__init__" s_Mast_init f_Mast_init fd_Mast_init
  k_Mast_init : PySem.W.keepIn K (.ref f_Mast_init) = true
  b_Mast_init : Binds K fd_Mast_init ["self", "name"] []
  F_Mast_take : Fun K "take" "Mast.take" s_Mast_take f_Mast_take fd_Mast_take
  k_Mast_take : PySem.W.keepIn K (.ref f_Mast_take) = true
  b_Mast_take : Binds K fd_Mast_take ["self", "number", "rows"] []
  m_Mast_take : Meth K C_Mast "take" f_Mast_take
  F_Mast_fall : Fun K "fall" "Mast.fall" s_Mast_fall f_Mast_fall fd_Mast_fall
  k_Mast_fall : PySem.W.keepIn K (.ref f_Mast_fall) = true
  b_Mast_fall : Binds K fd_Mast_fall ["self"] []
  m_Mast_fall : Meth K C_Mast "fall" f_Mast_fall
  F_Mast_lead_up : Fun K "lead_up" "Mast.lead_up" s_Mast_lead_up f_Mast_lead_up fd_Mast_lead_up
  k_Mast_lead_up : PySem.W.keepIn K (.ref f_Mast_lead_up) = true
  b_Mast_lead_up : Binds K fd_Mast_lead_up ["self", "call", "frame"] []
  m_Mast_lead_up : Meth K C_Mast "lead_up" f_Mast_lead_up
  F_Mast_lead_down : Fun K "lead_down" "Mast.lead_down" s_Mast_lead_down f_Mast_lead_down fd_Mast_lead_down
  k_Mast_lead_down : PySem.W.keepIn K (.ref f_Mast_lead_down) = true
  b_Mast_lead_down : Binds K fd_Mast_lead_down ["self", "call", "epoch", "frame"] []
  m_Mast_lead_down : Meth K C_Mast "lead_down" f_Mast_lead_down
  F_law_number : Fun K "_law_number" "_law_number" s_law_number f_law_number fd_law_number
  k_law_number : PySem.W.keepIn K (.ref f_law_number) = true
  b_law_number : Binds K fd_law_number ["_law_script", "_law_index"] []
  mg_law_number : mg "_law_number" = some (.ref f_law_number)
  F_law_take : Fun K "_law_take" "_law_take" s_law_take f_law_take fd_law_take
  k_law_take : PySem.W.keepIn K (.ref f_law_take) = true
  b_law_take : Binds K fd_law_take ["_law_draw", "_law_many"] []
  mg_law_take : mg "_law_take" = some (.ref f_law_take)
  F_law_pick : Fun K "_law_pick" "_law_pick" s_law_pick f_law_pick fd_law_pick
  k_law_pick : PySem.W.keepIn K (.ref f_law_pick) = true
  b_law_pick : Binds K fd_law_pick ["_law_draw", "_law_items"] []
  mg_law_pick : mg "_law_pick" = some (.ref f_law_pick)
  F_law : Fun K "law" "law" s_law f_law fd_law
  k_law : PySem.W.keepIn K (.ref f_law) = true
  b_law : Binds K fd_law ["_law_script"] []
  mg_law : mg "law" = some (.ref f_law)
  no_abs : mg "abs" = none
  no_dict : mg "dict" = none
  no_int : mg "int" = none
  no_len : mg "len" = none
  no_list : mg "list" = none
  no_range : mg "range" = none
  no_str : mg "str" = none
  no_tuple : mg "tuple" = none
def S_law_number (K : PySem.W.Frag) {mg : Str → Option Value} (T : Tx K mg) : FSpec := fun ds M P => ∃ (s : List Int) (i : Int), ds = [vscr K s, dat (.int i)] ∧ P (dat (.int (lawNum s i))) M
def S_law_take (K : PySem.W.Frag) {mg : Str → Option Value} (T : Tx K mg) : FSpec := fun ds M P => ∃ (s : List Int) (k m : Int) (p : Addr) (M' : Cells), ds = [val (.ref p), dat (.int m)] ∧ 0 < m ∧ Put p (cDraw K s k) (cDraw K s (k + 1)) M M' ∧ P (dat (.int (tk s (k + 1) m))) M'

abbrev lsV (ls : List (Int × Rows)) : VD := vlst (ls.map fun p => vtup [dat (.int p.1), zr p.2])
def S_law_pick (K : PySem.W.Frag) {mg : Str → Option Value} (T : Tx K mg) : FSpec := fun ds M P => ∃ (s : List Int) (k : Int) (p : Addr) (ls : List (Int × Rows)) (M' : Cells), ds = [val (.ref p), lsV ls] ∧ 0 < ls.length ∧ Put p (cDraw K s k) (cDraw K s (k + 1)) M M' ∧ ∀ l, l ∈ ls → P (vtup [dat (.int l.1), zr l.2]) M'
def S_Mast_init (K : PySem.W.Frag) {mg : Str → Option Value} (T : Tx K mg) : FSpec := fun ds M P => ∃ p M0, ds = [val (.ref p), dat (.str "m0")] ∧ M = (p, cI T.C_Mast [] []) :: M0 ∧ P vn ((p, mI T.C_Mast 0 []) :: M0)
def S_Mast_take (K : PySem.W.Frag) {mg : Str → Option Value} (T : Tx K mg) : FSpec := fun ds M P => ∃ p n r m r' M', ds = [val (.ref p), dat (.int m), zr r'] ∧ Sw [(p, mI T.C_Mast n r)] [(p, if n ≤ m then mI T.C_Mast m r' else mI T.C_Mast n r)] M M' ∧ P vn M'
def S_Mast_fall (K : PySem.W.Frag) {mg : Str → Option Value} (T : Tx K mg) : FSpec := fun ds M P => ∃ p n r M', ds = [val (.ref p)] ∧ Sw [(p, mI T.C_Mast n r)] [(p, mI T.C_Mast n [])] M M' ∧ P vn M'
def S_Mast_lead_up (K : PySem.W.Frag) {mg : Str → Option Value} (T : Tx K mg) : FSpec := fun ds M P => ∃ p n r c f, ds = [val (.ref p), dat (.str c), dat f] ∧ (p, mI T.C_Mast n r) ∈ M ∧ P (dat (upD r c f)) M
def S_Mast_lead_down (K : PySem.W.Frag) {mg : Str → Option Value} (T : Tx K mg) : FSpec := fun ds M P => ∃ p n r c e f, ds = [val (.ref p), dat (.str c), dat (.int e), dat f] ∧ (p, mI T.C_Mast n r) ∈ M ∧ P (dat (downD r c e f)) M
def SLaw (K : PySem.W.Frag) : FSpec := fun ds M P => ∃ s : List Int, ds = [vscr K s] ∧ M = [] ∧ s.length ≤ 63 ∧ ∀ M', P (dat (.bool true)) M'
def S_law (K : PySem.W.Frag) {mg : Str → Option Value} (T : Tx K mg) : FSpec := SLaw K

abbrev rd_law_number_8 (K : PySem.W.Frag) {mg : Str → Option Value} (T : Tx K mg) : TS := (tRet (tCB (rInt1) (tCons (tOp (rI (fun _ j => 0 < j) fun i j => .int (i % j)) (tOp (rAddU K) (tOp (rI CMul fun i j => .int (i * j)) (tOp (rI (fun _ j => 0 < j) fun i j => .int (i % j)) (tOp (rI CMul fun i j => .int (i * j)) (tVar 3) (tC (.int 69621))) (tC (.int 2147483629))) (tC (.int 16807))) (tVar 1)) (tC (.int 2147483587))) tNil)))
abbrev rd_law_number_7 (K : PySem.W.Frag) {mg : Str → Option Value} (T : Tx K mg) : TS := tSeq (tAsg (tOp (rI (fun _ j => 0 < j) fun i j => .int (i % j)) (tOp (rAddU K) (tOp (rI CMul fun i j => .int (i * j)) (tOp (rAddU K) (tVar 2) (tOp (rI CMul fun i j => .int (i * j)) (tC (.int 977)) (tVar 1))) (tC (.int 48271))) (tOp (rI CMul fun i j => .int (i * j)) (tC (.int 31)) (tCB (rLenU K) (tCons (tVar 0) tNil)))) (tC (.int 2147483647))) (gName 3)) (rd_law_number_8 K T)
abbrev rd_law_number_6 (K : PySem.W.Frag) {mg : Str → Option Value} (T : Tx K mg) : TS := tNext
abbrev rd_law_number_5 (K : PySem.W.Frag) {mg : Str → Option Value} (T : Tx K mg) : TS := (tAsg (tOp (rI (fun _ j => 0 < j) fun i j => .int (i % j)) (tVar 2) (tOp (rI CPow fun i j => .int (i ^ j.toNat)) (tC (.int 10)) (tC (.int 18)))) (gName 2))
abbrev rd_law_number_4 (K : PySem.W.Frag) {mg : Str → Option Value} (T : Tx K mg) : TS := Evl.tCut (tIfS (tTest (tOp (rI0 fun i j => .bl (decide (j ≤ i))) (tCB (rAbs) (tCons (tVar 2) tNil)) (tOp (rI CPow fun i j => .int (i ^ j.toNat)) (tC (.int 10)) (tC (.int 60))))) (rd_law_number_5 K T) (rd_law_number_6 K T)) (rd_law_number_7 K T)
abbrev rd_law_number_3 (K : PySem.W.Frag) {mg : Str → Option Value} (T : Tx K mg) : TS := tSeq (tAsg (tOp (rIx K) (tVar 0) (tOp (rI (fun _ j => 0 < j) fun i j => .int (i % j)) (tVar 1) (tCB (rLenU K) (tCons (tVar 0) tNil)))) (gName 2)) (rd_law_number_4 K T)
abbrev rd_law_number_2 (K : PySem.W.Frag) {mg : Str → Option Value} (T : Tx K mg) : TS := tNext
abbrev rd_law_number_1 (K : PySem.W.Frag) {mg : Str → Option Value} (T : Tx K mg) : TS := (tRet (tCB (rInt1) (tCons (tOp (rI (fun _ j => 0 < j) fun i j => .int (i % j)) (tOp (rAddU K) (tOp (rI CMul fun i j => .int (i * j)) (tVar 1) (tC (.int 48271))) (tC (.int 12345))) (tC (.int 2147483647))) tNil)))
abbrev rd_law_number_0 (K : PySem.W.Frag) {mg : Str → Option Value} (T : Tx K mg) : TS := Evl.tCut (tIfS (tTest (tOp (rEqU K) (tVar 0) (tLst tNil))) (rd_law_number_1 K T) (rd_law_number_2 K T)) (rd_law_number_3 K T)
abbrev rd_law_take_1 (K : PySem.W.Frag) {mg : Str → Option Value} (T : Tx K mg) : TS := (tRet (tOp (rI (fun _ j => 0 < j) fun i j => .int (i % j)) (tCB (rInt1) (tCons (tCall (spF 2 (S_law_number K T)) [] E0 (tCons (tOp (rIx K) (tVar 0) (tC (.int 0))) (tCons (tCB (rInt1) (tCons (tOp (rIx K) (tVar 0) (tC (.int 1))) tNil)) tNil))) tNil)) (tVar 1)))
abbrev rd_law_take_0 (K : PySem.W.Frag) {mg : Str → Option Value} (T : Tx K mg) : TS := tSeq (tAugS (tVar 0) (tC (.int 1)) (tC (.int 1)) (rIxL K) (ipI fun i j => i + j) rSetL) (rd_law_take_1 K T)
abbrev rd_law_pick_0 (K : PySem.W.Frag) {mg : Str → Option Value} (T : Tx K mg) : TS := (tRet (tOp (rIx K) (tVar 1) (tCall (spF 2 (S_law_take K T)) [] E0 (tCons (tVar 0) (tCons (tCB (rLenU K) (tCons (tVar 1) tNil)) tNil)))))
abbrev rd_Mast_init_2 (K : PySem.W.Frag) {mg : Str → Option Value} (T : Tx K mg) : TS := (sFld K (tVar 0) tDNewK "rows")
abbrev rd_Mast_init_1 (K : PySem.W.Frag) {mg : Str → Option Value} (T : Tx K mg) : TS := tSeq (sFld K (tVar 0) (tC (.int 0)) "number") (rd_Mast_init_2 K T)
abbrev rd_Mast_init_0 (K : PySem.W.Frag) {mg : Str → Option Value} (T : Tx K mg) : TS := tSeq (sFld K (tVar 0) (tVar 1) "name") (rd_Mast_init_1 K T)
abbrev rd_Mast_take_3 (K : PySem.W.Frag) {mg : Str → Option Value} (T : Tx K mg) : TS := tNext
abbrev rd_Mast_take_2 (K : PySem.W.Frag) {mg : Str → Option Value} (T : Tx K mg) : TS := (sFld K (tVar 0) (tCB (rDictP K) (tCons (tCB (rLstOf K) (tCons (tVar 2) tNil)) tNil)) "rows")
abbrev rd_Mast_take_1 (K : PySem.W.Frag) {mg : Str → Option Value} (T : Tx K mg) : TS := tSeq (sFld K (tVar 0) (tVar 1) "number") (rd_Mast_take_2 K T)
abbrev rd_Mast_take_0 (K : PySem.W.Frag) {mg : Str → Option Value} (T : Tx K mg) : TS := (tIfS (tTest (tOp (rI0 fun i j => .bl (decide (j ≤ i))) (tVar 1) (tFld K (tVar 0) "number"))) (rd_Mast_take_1 K T) (rd_Mast_take_3 K T))
abbrev rd_Mast_fall_0 (K : PySem.W.Frag) {mg : Str → Option Value} (T : Tx K mg) : TS := (sFld K (tVar 0) tDNewK "rows")
abbrev rd_Mast_lead_up_3 (K : PySem.W.Frag) {mg : Str → Option Value} (T : Tx K mg) : TS := (tRet (tTup (tCons (tC (.str "up")) (tCons (tVar 1) (tCons (tDGet (tFld K (tVar 0) "rows") (tVar 1)) (tCons (tVar 2) tNil))))))
abbrev rd_Mast_lead_up_2 (K : PySem.W.Frag) {mg : Str → Option Value} (T : Tx K mg) : TS := tNext
abbrev rd_Mast_lead_up_1 (K : PySem.W.Frag) {mg : Str → Option Value} (T : Tx K mg) : TS := (tRet (tC .non))
abbrev rd_Mast_lead_up_0 (K : PySem.W.Frag) {mg : Str → Option Value} (T : Tx K mg) : TS := Evl.tCut (tIfS (tB (tDNotIn (tVar 1) (tFld K (tVar 0) "rows"))) (rd_Mast_lead_up_1 K T) (rd_Mast_lead_up_2 K T)) (rd_Mast_lead_up_3 K T)
abbrev rd_Mast_lead_down_3 (K : PySem.W.Frag) {mg : Str → Option Value} (T : Tx K mg) : TS := (tRet (tTup (tCons (tC (.str "air")) (tCons (tVar 1) (tCons (tVar 2) (tCons (tVar 3) tNil))))))
abbrev rd_Mast_lead_down_2 (K : PySem.W.Frag) {mg : Str → Option Value} (T : Tx K mg) : TS := tNext
abbrev rd_Mast_lead_down_1 (K : PySem.W.Frag) {mg : Str → Option Value} (T : Tx K mg) : TS := (tRet (tC .non))
abbrev rd_Mast_lead_down_0 (K : PySem.W.Frag) {mg : Str → Option Value} (T : Tx K mg) : TS := Evl.tCut (tIfS (tTest (tOp (rNeU K) (tDGet1 (tFld K (tVar 0) "rows") (tVar 1)) (tVar 2))) (rd_Mast_lead_down_1 K T) (rd_Mast_lead_down_2 K T)) (rd_Mast_lead_down_3 K T)
abbrev rd_law_26 (K : PySem.W.Frag) {mg : Str → Option Value} (T : Tx K mg) : TS := (tRet (tC (.bl true)))
abbrev rd_law_25 (K : PySem.W.Frag) {mg : Str → Option Value} (T : Tx K mg) : TS := tNext
abbrev rd_law_24 (K : PySem.W.Frag) {mg : Str → Option Value} (T : Tx K mg) : TS := (tRet (tC (.bl false)))
abbrev rd_law_23 (K : PySem.W.Frag) {mg : Str → Option Value} (T : Tx K mg) : TS := (tIfS (tOr (tTest (tOp (rNeU K) (tFld K (tVar 3) "number") (tVar 5))) (tOr (tTest (tOp (rNeW K) (tFld K (tVar 3) "rows") (tCB (rDictP K) (tCons (tVar 4) tNil)))) (tTest (tOp (rNeU K) (tFld K (tVar 3) "name") (tC (.str "m0")))))) (rd_law_24 K T) (rd_law_25 K T))
abbrev rd_law_22 (K : PySem.W.Frag) {mg : Str → Option Value} (T : Tx K mg) : TS := tNext
abbrev rd_law_21 (K : PySem.W.Frag) {mg : Str → Option Value} (T : Tx K mg) : TS := (tRet (tC (.bl false)))
abbrev rd_law_20 (K : PySem.W.Frag) {mg : Str → Option Value} (T : Tx K mg) : TS := Evl.tCut (tIfS (tTest (tOp (rNeU K) (tMeth T.C_Mast "lead_down" (spF 4 (S_Mast_lead_down K T)) [] E0 (tVar 3) (tCons (tVar 9) (tCons (tVar 10) (tCons (tVar 11) tNil)))) (tIf (tTest (tOp (rEqU K) (tVar 12) (tVar 10))) (tTup (tCons (tC (.str "air")) (tCons (tVar 9) (tCons (tVar 10) (tCons (tVar 11) tNil))))) (tC .non)))) (rd_law_21 K T) (rd_law_22 K T)) (rd_law_23 K T)
abbrev rd_law_19 (K : PySem.W.Frag) {mg : Str → Option Value} (T : Tx K mg) : TS := tNext
abbrev rd_law_18 (K : PySem.W.Frag) {mg : Str → Option Value} (T : Tx K mg) : TS := (tRet (tC (.bl false)))
abbrev rd_law_17 (K : PySem.W.Frag) {mg : Str → Option Value} (T : Tx K mg) : TS := Evl.tCut (tIfS (tTest (tOp (rNeU K) (tMeth T.C_Mast "lead_up" (spF 3 (S_Mast_lead_up K T)) [] E0 (tVar 3) (tCons (tVar 9) (tCons (tVar 11) tNil))) (tIf (tTest (tOp rNotN (tVar 12) (tC .non))) (tTup (tCons (tC (.str "up")) (tCons (tVar 9) (tCons (tVar 12) (tCons (tVar 11) tNil))))) (tC .non)))) (rd_law_18 K T) (rd_law_19 K T)) (rd_law_20 K T)
abbrev rd_law_16 (K : PySem.W.Frag) {mg : Str → Option Value} (T : Tx K mg) : TS := tSeq (tAsg (tDGet1 (tCB (rDictP K) (tCons (tVar 4) tNil)) (tVar 9)) (gName 12)) (rd_law_17 K T)
abbrev rd_law_15 (K : PySem.W.Frag) {mg : Str → Option Value} (T : Tx K mg) : TS := tSeq (tPar3 9 10 11 (tCons (tOp (rAddU K) (tC (.str "c")) (tCB (rStrInt) (tCons (tCall (spF 2 (S_law_take K T)) [] E0 (tCons (tVar 1) (tCons (tC (.int 4)) tNil))) tNil))) (tCons (tOp (rAddU K) (tC (.int 1)) (tCall (spF 2 (S_law_take K T)) [] E0 (tCons (tVar 1) (tCons (tC (.int 9)) tNil)))) (tCons (tTup (tCons (tC (.str "frame")) (tCons (tVar 6) (tCons (tC (.int 7)) (tCons (tC (.int 0)) tNil))))) tNil)))) (rd_law_16 K T)
abbrev rd_law_14 (K : PySem.W.Frag) {mg : Str → Option Value} (T : Tx K mg) : TS := tNext
abbrev rd_law_13 (K : PySem.W.Frag) {mg : Str → Option Value} (T : Tx K mg) : TS := (tAsg (tTupZ tNil) (gName 4))
abbrev rd_law_12 (K : PySem.W.Frag) {mg : Str → Option Value} (T : Tx K mg) : TS := tSeq (tDrop (tMeth T.C_Mast "fall" (spF 1 (S_Mast_fall K T)) [] E0 (tVar 3) tNil)) (rd_law_13 K T)
abbrev rd_law_11 (K : PySem.W.Frag) {mg : Str → Option Value} (T : Tx K mg) : TS := (tIfS (tAnd (tTest (tOp (rEqU K) (tVar 7) (tC (.int 3)))) (tTest (tOp (rEqU K) (tCall (spF 2 (S_law_take K T)) [] E0 (tCons (tVar 1) (tCons (tC (.int 2)) tNil))) (tC (.int 0))))) (rd_law_12 K T) (rd_law_14 K T))
abbrev rd_law_10 (K : PySem.W.Frag) {mg : Str → Option Value} (T : Tx K mg) : TS := tNext
abbrev rd_law_9 (K : PySem.W.Frag) {mg : Str → Option Value} (T : Tx K mg) : TS := (tAsg (tVar 8) (gTup K 2 (gCons (gName 5) (gCons (gName 4) gNil))))
abbrev rd_law_8 (K : PySem.W.Frag) {mg : Str → Option Value} (T : Tx K mg) : TS := (tIfS (tTest (tOp (rI0 fun i j => .bl (decide (j ≤ i))) (tOp (rIx K) (tVar 8) (tC (.int 0))) (tVar 5))) (rd_law_9 K T) (rd_law_10 K T))
abbrev rd_law_7 (K : PySem.W.Frag) {mg : Str → Option Value} (T : Tx K mg) : TS := tSeq (tDrop (tMeth T.C_Mast "take" (spF 3 (S_Mast_take K T)) [] E0 (tVar 3) (tCons (tOp (rIx K) (tVar 8) (tC (.int 0))) (tCons (tOp (rIx K) (tVar 8) (tC (.int 1))) tNil)))) (rd_law_8 K T)
abbrev rd_law_6 (K : PySem.W.Frag) {mg : Str → Option Value} (T : Tx K mg) : TS := tSeq (tAsg (tCall (spF 2 (S_law_pick K T)) [] E0 (tCons (tVar 1) (tCons (tVar 2) tNil))) (gName 8)) (rd_law_7 K T)
abbrev rd_law_5 (K : PySem.W.Frag) {mg : Str → Option Value} (T : Tx K mg) : TS := Evl.tCut (tIfS (tTest (tOp (rI0 fun i j => .bl (decide (i < j))) (tVar 7) (tC (.int 3)))) (rd_law_6 K T) (rd_law_11 K T)) (rd_law_15 K T)
abbrev rd_law_4 (K : PySem.W.Frag) {mg : Str → Option Value} (T : Tx K mg) : TS := tSeq (tAsg (tCall (spF 2 (S_law_take K T)) [] E0 (tCons (tVar 1) (tCons (tC (.int 6)) tNil))) (gName 7)) (rd_law_5 K T)
abbrev rd_law_3 (K : PySem.W.Frag) {mg : Str → Option Value} (T : Tx K mg) : TS := Evl.tCut (tFor (iRng1 (tCons (tC (.int 25)) tNil)) (gName 6) (rd_law_4 K T)) (rd_law_26 K T)
abbrev rd_law_2 (K : PySem.W.Frag) {mg : Str → Option Value} (T : Tx K mg) : TS := tSeq (tPar3 3 4 5 (tCons (tMake T.C_Mast (spF 2 (S_Mast_init K T)) [] E0 (tCons (tC (.str "m0")) tNil)) (tCons (tTupZ tNil) (tCons (tC (.int 0)) tNil)))) (rd_law_3 K T)
abbrev rd_law_1 (K : PySem.W.Frag) {mg : Str → Option Value} (T : Tx K mg) : TS := tSeq (tAsg (tLc (iRng1 (tCons (tC (.int 6)) tNil)) (gName 5) tYes (tTup (tCons (tOp (rAddU K) (tVar 5) (tC (.int 1))) (tCons (tCB (rTupZ K) (tCons (tLc (iRng1 (tCons (tCall (spF 2 (S_law_take K T)) [] E0 (tCons (tVar 1) (tCons (tC (.int 4)) tNil))) tNil)) (gName 13) tYes (tTup (tCons (tOp (rAddU K) (tC (.str "c")) (tCB (rStrInt) (tCons (tVar 13) tNil))) (tCons (tOp (rAddU K) (tC (.int 1)) (tCall (spF 2 (S_law_take K T)) [] E0 (tCons (tVar 1) (tCons (tC (.int 9)) tNil)))) tNil))) [13]) tNil)) tNil))) [5]) (gName 2)) (rd_law_2 K T)
abbrev rd_law_0 (K : PySem.W.Frag) {mg : Str → Option Value} (T : Tx K mg) : TS := tSeq (tAsg (tLst (tCons (tVar 0) (tCons (tC (.int 0)) tNil))) (gName 1)) (rd_law_1 K T)
/-! ### steps -/
local macro_rules | `(tactic| walk_at "shp") => `(tactic| first
  | exact shp_int
  | exact shp_none
  | exact shp_bool
  | exact shp_oi _
  | (apply shp_str; first | decide +kernel | assumption)
  | (apply shp_list; walk_at "shpA")
  | (apply shp_tuple; walk_at "shpA")
  | assumption)
local macro_rules | `(tactic| walk_at "shpA") => `(tactic| first
  | exact shpA_nil
  | (apply shpA_cons; (· walk_at "shp"); walk_at "shpA")
  | (apply shpA_map; intro _ _; walk_at "shp"))
/-- what is left beside: closed, or left -/
local macro_rules | `(tactic| walk_at "side") => `(tactic| first
  | (with_reducible show Shp _ _); walk_at "shp"
  | (with_reducible show _ ≤ sizeLine); first | decide | (show _ ≤ 16777216; omega) | (show _ ≤ 16777216; simp only [List.length_map, List.length_append, List.length_cons, List.length_nil]; omega)
  | (with_reducible show _ < sizeLine); first | decide | (show _ < 16777216; omega) | (show _ < 16777216; simp only [List.length_map, List.length_append, List.length_cons, List.length_nil]; omega)
  | (with_reducible show CMul _ _); first | exact Or.inr ⟨by decide, by decide⟩ | exact Or.inl ⟨by decide, by decide⟩ | exact Or.inl ⟨by omega, by omega⟩ | exact Or.inr ⟨by omega, by omega⟩
  | (with_reducible show CPow _ _); exact ⟨by decide, by decide, by decide⟩
  | (with_reducible show CDiv _ _); first | exact ⟨by decide, by decide⟩ | exact ⟨by omega, by omega⟩
  | (with_reducible show Le _ _); first | with_reducible exact Le.refl _ | with_reducible assumption
  | (with_reducible show L2.atI _ _ = _); first | with_reducible assumption | exact rfl | exact atI_nat rfl
  | (with_reducible show _ < _); first | with_reducible assumption | decide | omega
  | (with_reducible show _ ≤ _); first | with_reducible assumption | decide | omega
  | (with_reducible show _ ∧ _); omega
  | (with_reducible show ∀ i, i ∈ _ → i ∈ _); decide
  | (with_reducible show (_ : Nat) = _); first | exact rfl | omega)
local macro_rules | `(tactic| walk_at "rm") => `(tactic| first
  | exact Rm.here
  | (apply Rm.there; walk_at "rm"))
local macro_rules | `(tactic| walk_at "perm") => `(tactic| first
  | with_reducible exact List.Perm.refl _
  | (apply perm_step; (· walk_at "rm"); walk_at "perm")
  | exact List.Perm.refl _)
local macro_rules | `(tactic| walk_at "pk") => `(tactic| first
  | with_reducible exact Pk.here
  | ((with_reducible apply Pk.there); walk_at "pk"))
/-- a part of a reading: what it gives. One word for all kinds -/
local macro_rules | `(tactic| walk_at "sx") => `(tactic| first
  -- an expression
  | with_reducible exact ev_int
  | with_reducible exact ev_bl
  | with_reducible exact ev_str
  | with_reducible exact ev_non
  | (with_reducible apply ev_var) <;> walk_at "sx"
  | (with_reducible apply ev_op) <;> walk_at "sx"
  | (with_reducible apply ev_fld) <;> walk_at "sx"
  | (with_reducible apply ev_cb) <;> walk_at "sx"
  | (with_reducible apply ev_tupD) <;> walk_at "sx"
  | (with_reducible apply ev_lstD) <;> walk_at "sx"
  | (with_reducible apply ev_tupV) <;> walk_at "sx"
  | (with_reducible apply ev_lstV) <;> walk_at "sx"
  | (with_reducible apply ev_slL) <;> walk_at "sx"
  | (with_reducible apply ev_slT1) <;> walk_at "sx"
  | (with_reducible apply ev_slT) <;> walk_at "sx"
  | (with_reducible apply ev_un) <;> walk_at "sx"
  | (with_reducible apply ev_chain) <;> walk_at "sx"
  | (with_reducible apply ev_andV) <;> walk_at "sx"
  | (with_reducible apply ev_orV) <;> walk_at "sx"
  | (with_reducible apply ev_notV) <;> walk_at "sx"
  | (with_reducible apply ev_lcY) <;> walk_at "sx"
  | (with_reducible apply ev_lc) <;> walk_at "sx"
  | ((with_reducible show ∀ a, a ∈ _ → ∃ ρ'' js, _); intro a ha; dsimp only [wipeE, List.set]; (first | with_reducible apply lcY_k | with_reducible apply lcF_k) <;> walk_at "sx")
  | (with_reducible apply ev_call) <;> walk_at "sx"
  | (with_reducible apply ev_meth) <;> walk_at "sx"
  | (with_reducible apply ev_bm) <;> walk_at "sx"
  | (with_reducible show Ev _ _ _ _ _); walk_at "own"
  -- a test
  | with_reducible exact et_yes
  | (with_reducible apply et_test) <;> walk_at "sx"
  | (with_reducible apply et_B) <;> walk_at "sx"
  | (with_reducible apply et_not) <;> walk_at "sx"
  | (with_reducible apply et_and) <;> walk_at "sx"
  | (with_reducible apply et_or) <;> walk_at "sx"
  -- arguments
  | with_reducible exact ea_nil
  | (with_reducible apply ea_cons) <;> walk_at "sx"
  | with_reducible exact ed_nil
  | (with_reducible apply ed_cons) <;> walk_at "sx"
  | with_reducible exact eo_none
  | (with_reducible apply eo_some) <;> walk_at "sx"
  -- what an operation gives
  | with_reducible exact rv_addI
  | with_reducible exact rv_int0
  | with_reducible exact rv_bl0
  | with_reducible exact rv_eqI
  | with_reducible exact rv_neI
  | with_reducible exact rv_eqS
  | with_reducible exact rv_neS
  | with_reducible exact rv_isN
  | with_reducible exact rv_notN
  | (with_reducible apply rv_intC) <;> walk_at "sx"
  | (with_reducible apply rv_addS) <;> walk_at "sx"
  | (with_reducible apply rv_ixL isl_dat) <;> walk_at "sx"
  | (with_reducible apply rv_ixT ist_dat) <;> walk_at "sx"
  | (with_reducible apply rv_ixL) <;> walk_at "sx"
  | (with_reducible apply rv_ixLV) <;> walk_at "sx"
  | (apply rv_ixT ist_dat) <;> walk_at "sx"
  | (with_reducible apply rv_ixTV istv_vtup) <;> walk_at "sx"
  | (with_reducible apply rv_ixScr) <;> walk_at "sx"
  | (apply rv_ixL isl_dat) <;> walk_at "sx"
  | (with_reducible apply rv_ixL) <;> walk_at "sx"
  | (apply rv_cat) <;> walk_at "sx"
  | (with_reducible apply rv_eqD) <;> walk_at "sx"
  | (with_reducible apply rv_neD) <;> walk_at "sx"
  | with_reducible exact ru_neg
  | with_reducible exact rc_int
  | with_reducible exact rc_abs
  | with_reducible exact rc_max2
  | with_reducible exact rc_min2
  | with_reducible exact rc_lenScr
  | with_reducible exact rc_lenM isl_dat
  | ((with_reducible apply rc_lenM); (with_reducible apply isl_cell) <;> walk_at "sx")
  | with_reducible exact rc_lenMT
  | (with_reducible apply rc_lenL) <;> walk_at "sx"
  | (apply rc_lenT ist_dat)
  | (with_reducible apply rc_tupL) <;> walk_at "sx"
  | (apply rc_tupT)
  | (with_reducible apply rc_lstL) <;> walk_at "sx"
  | (apply rc_lstT ist_dat)
  | with_reducible exact rc_anyM
  | with_reducible exact rc_allM
  | ((with_reducible apply rm_append) <;> walk_at "sx")
  -- lists, tuples, data
  | with_reducible exact isl_dat
  | with_reducible exact isd_dat
  | with_reducible exact isd_scr
  | (with_reducible apply isl_cell) <;> walk_at "sx"
  | (with_reducible apply islv_cell) <;> walk_at "sx"
  | with_reducible exact islv_vlst
  | (with_reducible apply isd_cell) <;> walk_at "sx"
  | (with_reducible apply isd_vtup) <;> walk_at "sx"
  | (with_reducible apply isd_vlst) <;> walk_at "sx"
  | with_reducible exact isds_nil
  | (with_reducible apply isds_cons) <;> walk_at "sx"
  | with_reducible exact fzl_dat
  | with_reducible exact fzl_v
  | with_reducible exact fzt_dat
  | with_reducible exact fzt_v
  | (with_reducible apply ity_l) <;> walk_at "sx"
  | with_reducible exact ity_s
  | (with_reducible apply IsLst.v) <;> walk_at "sx"
  -- places
  | with_reducible exact At.here
  | (with_reducible apply At.there) <;> walk_at "sx"
  | with_reducible exact SetAt.here
  | (with_reducible apply SetAt.there) <;> walk_at "sx"
  | with_reducible exact List.mem_cons_self
  | (with_reducible apply List.mem_cons_of_mem) <;> walk_at "sx"
  | ((with_reducible show (_ : Addr × CD) ∈ _); with_reducible assumption)
  | with_reducible exact Put.here
  | (with_reducible apply Put.there) <;> walk_at "sx"
  | ((with_reducible show Put _ _ _ _ _); with_reducible assumption)
  | ((with_reducible show Sw _ _ _ _); with_reducible assumption)
  | with_reducible exact sw_nil
  | ((with_reducible apply sw_pick); (· walk_at "pk"); walk_at "sx")
  | ((with_reducible apply sw_skip); walk_at "sx")
  | with_reducible exact FGet.here
  | ((with_reducible apply FGet.there); (· decide +kernel); walk_at "sx")
  | with_reducible exact FPut.here
  | with_reducible exact FPut.new
  | ((with_reducible apply FPut.there); (· decide +kernel); walk_at "sx")
  | (with_reducible show ClsF _ _ _); with_reducible assumption
  | (with_reducible show RtQ _ _ _); assumption
  | (with_reducible show (_ : Str) ∈ _); decide +kernel
  | (with_reducible show ¬ (_ : Str) ∈ _); decide +kernel
  -- what is walked, targets
  | (with_reducible apply ei_rng1) <;> walk_at "sx"
  | (with_reducible apply ei_rng2) <;> walk_at "sx"
  | (with_reducible apply ei_enumD) <;> walk_at "sx"
  | (with_reducible apply ei_enum) <;> walk_at "sx"
  | (with_reducible apply ei_zip) <;> walk_at "sx"
  | (with_reducible apply ei_seqLM) <;> walk_at "sx"
  | (with_reducible apply ei_seqTM) <;> walk_at "sx"
  | (with_reducible apply ei_seqL) <;> walk_at "sx"
  | (with_reducible apply ei_seqT) <;> walk_at "sx"
  | (with_reducible apply tg_name) <;> walk_at "sx"
  | (with_reducible apply tg_tup istv_vtup) <;> walk_at "sx"
  | (with_reducible apply td_tup) <;> walk_at "sx"
  | with_reducible exact td_nil
  | (with_reducible apply td_cons) <;> walk_at "sx"
  | with_reducible exact tgs_nil
  | (with_reducible apply tgs_cons) <;> walk_at "sx"
  -- beside
  | walk_at "spec"
  | walk_at "side"
  | walk_at "leave")
/-- a question of another kind is left -/
local macro_rules | `(tactic| walk_at "leave") => `(tactic| first
  | with_reducible show Cont _ _ _ _
  | with_reducible show Shp _ _
  | with_reducible show _ ≤ _
  | with_reducible show _ < _
  | with_reducible show CMul _ _
  | with_reducible show CDiv _ _
  | with_reducible show CPow _ _
  | with_reducible show _ = _
  | with_reducible show Le _ _
  | ((with_reducible show _ = true → _); with_reducible assumption)
  | ((with_reducible show _ = true → _); intro _; walk_at "sx")
  | ((with_reducible show _ = false → _); intro _; walk_at "sx"))
/-- a plain statement -/
local macro_rules | `(tactic| walk_at "st") => `(tactic| first
  | (with_reducible apply c_seq); walk_at "st"
  | (with_reducible apply c_asg) <;> (first | walk_at "sx" | skip)
  | (with_reducible apply c_asgG) <;> (first | walk_at "sx" | skip)
  | (with_reducible apply c_par) <;> (first | walk_at "sx" | skip)
  | (with_reducible apply c_par3) <;> (first | walk_at "sx" | skip)
  | (with_reducible apply c_aug) <;> (first | walk_at "sx" | skip)
  | (with_reducible apply c_augS) <;> (first | walk_at "sx" | skip)
  | (with_reducible apply c_fld) <;> (first | walk_at "sx" | skip)
  | (with_reducible apply c_drop) <;> (first | walk_at "sx" | skip)
  | with_reducible apply c_next
  | with_reducible apply c_break
  | with_reducible apply c_cont)
/-- a value is handed back; a word is met again -/
local macro_rules | `(tactic| walk_at "ret") => `(tactic| (with_reducible apply c_ret) <;> (first | walk_at "sx" | skip))
local macro_rules | `(tactic| walk_at "inv") => `(tactic| (with_reducible apply c_inv) <;> (first | walk_at "side" | skip))
local macro_rules | `(tactic| walk_at "seq") => `(tactic| with_reducible apply c_seq)
local macro_rules | `(tactic| walk_at "cut") => `(tactic| with_reducible apply c_cut)
local macro_rules | `(tactic| walk_at "if") => `(tactic| ((with_reducible apply c_if); (case' h => first | walk_at "sx" | skip)))
local macro_rules | `(tactic| walk_at "fgt") => `(tactic| first
  | exact Fgt.nil
  | (with_reducible apply Fgt.keep; walk_at "fgt")
  | (with_reducible apply Fgt.drop; walk_at "fgt"))

theorem law_number_body {K : PySem.W.Frag} {mg : Str → Option Value} (T : Tx K mg) : ∀ Q ds M P Φ, ds.length = 2 → S_law_number K T ds M P → RtQ Q Φ P → Cont (rd_law_number_0 K T (fnD Q)) Φ (entry ["_law_script", "_law_index", "_law_cell", "_law_blend"] ds) M := by
  rintro Q ds M P Φ - ⟨s, i, rfl, hP⟩ hQ
  show Cont _ _ [some (vscr K s), some (dat (.int i)), none, none] _
  have he : (PyData.list (List.map PyData.int s)).eqv (PyData.list []) = decide (s = []) := EqOk.dec (eqok_list eqok_int) s []
  apply c_cut
  refine c_if (by walk_at "sx") ?_ ?_
  · rw [he]
    intro h
    have hs := of_decide_eq_true h
    walk_at "ret"
    have : lawNum s i = (i * 48271 + 12345) % 2147483647 := by unfold lawNum; rw [if_pos hs]
    rw [this] at hP
    exact hP
  · rw [he]
    intro h
    have hs := of_decide_eq_false h
    have hl : (0 : Int) < s.length := by
      cases s with
      | nil => exact absurd rfl hs
      | cons _ _ => simp
    have h0 : 0 ≤ i % s.length := Int.emod_nonneg _ (by omega)
    have h1 : i % s.length < s.length := Int.emod_lt_of_pos _ hl
    have hat : L2.atI s (i % s.length) = some (s.getD (i % s.length).toNat 0) := by
      have hj : (i % s.length).toNat < s.length := by omega
      have e : ((i % s.length).toNat : Int) = i % s.length := by omega
      have e2 := atI_nat (xs := s) (j := (i % s.length).toNat) (v := s.getD (i % s.length).toNat 0) (by simp [List.getD, hj])
      rw [e] at e2
      exact e2
    apply c_next
    walk_at "st"
    refine c_cutW (fun ρ' M' => ρ' = [some (vscr K s), some (dat (.int i)), some (dat (.int (scrCell s i))), none] ∧ M' = M) ?_ ?_
    · refine c_if (by walk_at "sx") ?_ ?_
      · intro hb
        have hb := of_decide_eq_true hb
        walk_at "st"
        walk_at "inv"
        refine ⟨?_, rfl⟩
        have : scrCell s i = s.getD (i % s.length).toNat 0 % 10 ^ (18 : Int).toNat := by
          unfold scrCell
          exact if_pos hb
        rw [this]
      · intro hb
        have hb := of_decide_eq_false hb
        apply c_next
        walk_at "inv"
        refine ⟨?_, rfl⟩
        have : scrCell s i = s.getD (i % s.length).toNat 0 := by
          unfold scrCell
          exact if_neg hb
        rw [this]
    · rintro ρ' M' ⟨rfl, rfl⟩
      walk_at "st"
      walk_at "ret"
      have : lawNum s i = (((scrCell s i + 977 * i) * 48271 + 31 * s.length) % 2147483647 * 69621 % 2147483629 * 16807 + i) % 2147483587 := by unfold lawNum; rw [if_neg hs]
      rw [this] at hP
      exact hP
theorem number_ev {K : PySem.W.Frag} {mg : Str → Option Value} {T : Tx K mg} {s : List Int} {i : Int} {M : Cells} : S_law_number K T [vscr K s, dat (.int i)] M (Det (dat (.int (lawNum s i))) M) := ⟨s, i, rfl, rfl, rfl⟩
theorem take_ev {K : PySem.W.Frag} {mg : Str → Option Value} {T : Tx K mg} {s : List Int} {k m : Int} {p : Addr} {M M' : Cells} (h : Put p (cDraw K s k) (cDraw K s (k + 1)) M M') (hm : 0 < m) :
    S_law_take K T [val (.ref p), dat (.int m)] M (Det (dat (.int (tk s (k + 1) m))) M') := ⟨s, k, m, p, M', rfl, hm, h, rfl, rfl⟩
local macro_rules | `(tactic| walk_at "spec") => `(tactic| first
  | with_reducible exact number_ev
  | (with_reducible apply take_ev) <;> walk_at "sx")
theorem law_take_body {K : PySem.W.Frag} {mg : Str → Option Value} (T : Tx K mg) : ∀ Q ds M P Φ, ds.length = 2 → S_law_take K T ds M P → RtQ Q Φ P → Cont (rd_law_take_0 K T (fnD Q)) Φ (entry ["_law_draw", "_law_many"] ds) M := by
  rintro Q ds M P Φ - ⟨s, k, m, p, M', rfl, hm, hput, hP⟩ hQ
  show Cont _ _ [some (val (.ref p)), some (dat (.int m))] _
  apply c_seq
  refine c_augS (j := 1) (a := k) (p := p) (by walk_at "sx") (by walk_at "sx") rfl rfl (by walk_at "sx") hput ?_
  have hm' : (p, cDraw K s (k + 1)) ∈ M' := by
    clear hP hQ
    induction hput with
    | here => exact List.mem_cons_self
    | there _ ih => exact List.mem_cons_of_mem _ ih
  have hl : IsLstV (val (.ref p)) M' [vscr K s, dat (.int (k + 1))] := islv_cell hm'
  walk_at "ret"
  exact hP

end Lw


set_option Elab.async false
set_option linter.all false
set_option maxRecDepth 100000
set_option maxHeartbeats 4000000
namespace Lw
open PySem L2 Sx
/-! ### steps -/
local macro_rules | `(tactic| walk_at "shp") => `(tactic| first
  | exact shp_int
  | exact shp_none
  | exact shp_bool
  | exact shp_oi _
  | (apply shp_str; first | decide +kernel | assumption)
  | (apply shp_list; walk_at "shpA")
  | (apply shp_tuple; walk_at "shpA")
  | assumption)
local macro_rules | `(tactic| walk_at "shpA") => `(tactic| first
  | exact shpA_nil
  | (apply shpA_cons; (· walk_at "shp"); walk_at "shpA")
  | (apply shpA_map; intro _ _; walk_at "shp"))
/-- what is left beside: closed, or left -/
local macro_rules | `(tactic| walk_at "side") => `(tactic| first
  | (with_reducible show Shp _ _); walk_at "shp"
  | (with_reducible show _ ≤ sizeLine); first | decide | (show _ ≤ 16777216; omega) | (show _ ≤ 16777216; simp only [List.length_map, List.length_append, List.length_cons, List.length_nil]; omega)
  | (with_reducible show _ < sizeLine); first | decide | (show _ < 16777216; omega) | (show _ < 16777216; simp only [List.length_map, List.length_append, List.length_cons, List.length_nil]; omega)
  | (with_reducible show CMul _ _); first | exact Or.inr ⟨by decide, by decide⟩ | exact Or.inl ⟨by decide, by decide⟩ | exact Or.inl ⟨by omega, by omega⟩ | exact Or.inr ⟨by omega, by omega⟩
  | (with_reducible show CPow _ _); exact ⟨by decide, by decide, by decide⟩
  | (with_reducible show CDiv _ _); first | exact ⟨by decide, by decide⟩ | exact ⟨by omega, by omega⟩
  | (with_reducible show Le _ _); first | with_reducible exact Le.refl _ | with_reducible assumption
  | (with_reducible show L2.atI _ _ = _); first | with_reducible assumption | exact rfl | exact atI_nat rfl
  | (with_reducible show _ < _); first | with_reducible assumption | decide | omega
  | (with_reducible show _ ≤ _); first | with_reducible assumption | decide | omega
  | (with_reducible show _ ∧ _); omega
  | (with_reducible show ∀ i, i ∈ _ → i ∈ _); decide
  | (with_reducible show (_ : Nat) = _); first | exact rfl | omega)
local macro_rules | `(tactic| walk_at "rm") => `(tactic| first
  | exact Rm.here
  | (apply Rm.there; walk_at "rm"))
local macro_rules | `(tactic| walk_at "perm") => `(tactic| first
  | with_reducible exact List.Perm.refl _
  | (apply perm_step; (· walk_at "rm"); walk_at "perm")
  | exact List.Perm.refl _)
local macro_rules | `(tactic| walk_at "pk") => `(tactic| first
  | with_reducible exact Pk.here
  | ((with_reducible apply Pk.there); walk_at "pk"))
/-- a part of a reading: what it gives. One word for all kinds -/
local macro_rules | `(tactic| walk_at "sx") => `(tactic| first
  -- an expression
  | with_reducible exact ev_int
  | with_reducible exact ev_bl
  | with_reducible exact ev_str
  | with_reducible exact ev_non
  | (with_reducible apply ev_var) <;> walk_at "sx"
  | (with_reducible apply ev_op) <;> walk_at "sx"
  | (with_reducible apply ev_fld) <;> walk_at "sx"
  | (with_reducible apply ev_cb) <;> walk_at "sx"
  | (with_reducible apply ev_tupD) <;> walk_at "sx"
  | (with_reducible apply ev_lstD) <;> walk_at "sx"
  | (with_reducible apply ev_tupV) <;> walk_at "sx"
  | (with_reducible apply ev_lstV) <;> walk_at "sx"
  | (with_reducible apply ev_slL) <;> walk_at "sx"
  | (with_reducible apply ev_slT1) <;> walk_at "sx"
  | (with_reducible apply ev_slT) <;> walk_at "sx"
  | (with_reducible apply ev_un) <;> walk_at "sx"
  | (with_reducible apply ev_chain) <;> walk_at "sx"
  | (with_reducible apply ev_andV) <;> walk_at "sx"
  | (with_reducible apply ev_orV) <;> walk_at "sx"
  | (with_reducible apply ev_notV) <;> walk_at "sx"
  | (with_reducible apply ev_lcY) <;> walk_at "sx"
  | (with_reducible apply ev_lc) <;> walk_at "sx"
  | ((with_reducible show ∀ a, a ∈ _ → ∃ ρ'' js, _); intro a ha; dsimp only [wipeE, List.set]; (first | with_reducible apply lcY_k | with_reducible apply lcF_k) <;> walk_at "sx")
  | (with_reducible apply ev_call) <;> walk_at "sx"
  | (with_reducible apply ev_meth) <;> walk_at "sx"
  | (with_reducible apply ev_bm) <;> walk_at "sx"
  | (with_reducible show Ev _ _ _ _ _); walk_at "own"
  -- a test
  | with_reducible exact et_yes
  | (with_reducible apply et_test) <;> walk_at "sx"
  | (with_reducible apply et_B) <;> walk_at "sx"
  | (with_reducible apply et_not) <;> walk_at "sx"
  | (with_reducible apply et_and) <;> walk_at "sx"
  | (with_reducible apply et_or) <;> walk_at "sx"
  -- arguments
  | with_reducible exact ea_nil
  | (with_reducible apply ea_cons) <;> walk_at "sx"
  | with_reducible exact ed_nil
  | (with_reducible apply ed_cons) <;> walk_at "sx"
  | with_reducible exact eo_none
  | (with_reducible apply eo_some) <;> walk_at "sx"
  -- what an operation gives
  | with_reducible exact rv_addI
  | with_reducible exact rv_int0
  | with_reducible exact rv_bl0
  | with_reducible exact rv_eqI
  | with_reducible exact rv_neI
  | with_reducible exact rv_eqS
  | with_reducible exact rv_neS
  | with_reducible exact rv_isN
  | with_reducible exact rv_notN
  | (with_reducible apply rv_intC) <;> walk_at "sx"
  | (with_reducible apply rv_addS) <;> walk_at "sx"
  | (with_reducible apply rv_ixL isl_dat) <;> walk_at "sx"
  | (with_reducible apply rv_ixT ist_dat) <;> walk_at "sx"
  | (with_reducible apply rv_ixL) <;> walk_at "sx"
  | (with_reducible apply rv_ixLV) <;> walk_at "sx"
  | (apply rv_ixT ist_dat) <;> walk_at "sx"
  | (with_reducible apply rv_ixTV istv_vtup) <;> walk_at "sx"
  | (with_reducible apply rv_ixScr) <;> walk_at "sx"
  | (apply rv_ixL isl_dat) <;> walk_at "sx"
  | (with_reducible apply rv_ixL) <;> walk_at "sx"
  | (apply rv_cat) <;> walk_at "sx"
  | (with_reducible apply rv_eqD) <;> walk_at "sx"
  | (with_reducible apply rv_neD) <;> walk_at "sx"
  | with_reducible exact ru_neg
  | with_reducible exact rc_int
  | with_reducible exact rc_abs
  | with_reducible exact rc_max2
  | with_reducible exact rc_min2
  | with_reducible exact rc_lenScr
  | with_reducible exact rc_lenM isl_dat
  | ((with_reducible apply rc_lenM); (with_reducible apply isl_cell) <;> walk_at "sx")
  | with_reducible exact rc_lenMT
  | (with_reducible apply rc_lenL) <;> walk_at "sx"
  | (apply rc_lenT ist_dat)
  | (with_reducible apply rc_tupL) <;> walk_at "sx"
  | (apply rc_tupT)
  | (with_reducible apply rc_lstL) <;> walk_at "sx"
  | (apply rc_lstT ist_dat)
  | with_reducible exact rc_anyM
  | with_reducible exact rc_allM
  | ((with_reducible apply rm_append) <;> walk_at "sx")
  -- lists, tuples, data
  | with_reducible exact isl_dat
  | with_reducible exact isd_dat
  | with_reducible exact isd_scr
  | (with_reducible apply isl_cell) <;> walk_at "sx"
  | (with_reducible apply islv_cell) <;> walk_at "sx"
  | with_reducible exact islv_vlst
  | (with_reducible apply isd_cell) <;> walk_at "sx"
  | (with_reducible apply isd_vtup) <;> walk_at "sx"
  | (with_reducible apply isd_vlst) <;> walk_at "sx"
  | with_reducible exact isds_nil
  | (with_reducible apply isds_cons) <;> walk_at "sx"
  | with_reducible exact fzl_dat
  | with_reducible exact fzl_v
  | with_reducible exact fzt_dat
  | with_reducible exact fzt_v
  | (with_reducible apply ity_l) <;> walk_at "sx"
  | with_reducible exact ity_s
  | (with_reducible apply IsLst.v) <;> walk_at "sx"
  -- places
  | with_reducible exact At.here
  | (with_reducible apply At.there) <;> walk_at "sx"
  | with_reducible exact SetAt.here
  | (with_reducible apply SetAt.there) <;> walk_at "sx"
  | with_reducible exact List.mem_cons_self
  | (with_reducible apply List.mem_cons_of_mem) <;> walk_at "sx"
  | ((with_reducible show (_ : Addr × CD) ∈ _); with_reducible assumption)
  | with_reducible exact Put.here
  | (with_reducible apply Put.there) <;> walk_at "sx"
  | ((with_reducible show Put _ _ _ _ _); with_reducible assumption)
  | ((with_reducible show Sw _ _ _ _); with_reducible assumption)
  | with_reducible exact sw_nil
  | ((with_reducible apply sw_pick); (· walk_at "pk"); walk_at "sx")
  | ((with_reducible apply sw_skip); walk_at "sx")
  | with_reducible exact FGet.here
  | ((with_reducible apply FGet.there); (· decide +kernel); walk_at "sx")
  | with_reducible exact FPut.here
  | with_reducible exact FPut.new
  | ((with_reducible apply FPut.there); (· decide +kernel); walk_at "sx")
  | (with_reducible show ClsF _ _ _); with_reducible assumption
  | (with_reducible show RtQ _ _ _); assumption
  | (with_reducible show (_ : Str) ∈ _); decide +kernel
  | (with_reducible show ¬ (_ : Str) ∈ _); decide +kernel
  -- what is walked, targets
  | (with_reducible apply ei_rng1) <;> walk_at "sx"
  | (with_reducible apply ei_rng2) <;> walk_at "sx"
  | (with_reducible apply ei_enumD) <;> walk_at "sx"
  | (with_reducible apply ei_enum) <;> walk_at "sx"
  | (with_reducible apply ei_zip) <;> walk_at "sx"
  | (with_reducible apply ei_seqLM) <;> walk_at "sx"
  | (with_reducible apply ei_seqTM) <;> walk_at "sx"
  | (with_reducible apply ei_seqL) <;> walk_at "sx"
  | (with_reducible apply ei_seqT) <;> walk_at "sx"
  | (with_reducible apply tg_name) <;> walk_at "sx"
  | (with_reducible apply tg_tup istv_vtup) <;> walk_at "sx"
  | (with_reducible apply td_tup) <;> walk_at "sx"
  | with_reducible exact td_nil
  | (with_reducible apply td_cons) <;> walk_at "sx"
  | with_reducible exact tgs_nil
  | (with_reducible apply tgs_cons) <;> walk_at "sx"
  -- beside
  | walk_at "spec"
  | walk_at "side"
  | walk_at "leave")
/-- a question of another kind is left -/
local macro_rules | `(tactic| walk_at "leave") => `(tactic| first
  | with_reducible show Cont _ _ _ _
  | with_reducible show Shp _ _
  | with_reducible show _ ≤ _
  | with_reducible show _ < _
  | with_reducible show CMul _ _
  | with_reducible show CDiv _ _
  | with_reducible show CPow _ _
  | with_reducible show _ = _
  | with_reducible show Le _ _
  | ((with_reducible show _ = true → _); with_reducible assumption)
  | ((with_reducible show _ = true → _); intro _; walk_at "sx")
  | ((with_reducible show _ = false → _); intro _; walk_at "sx"))
/-- a plain statement -/
local macro_rules | `(tactic| walk_at "st") => `(tactic| first
  | (with_reducible apply c_seq); walk_at "st"
  | (with_reducible apply c_asg) <;> (first | walk_at "sx" | skip)
  | (with_reducible apply c_asgG) <;> (first | walk_at "sx" | skip)
  | (with_reducible apply c_par) <;> (first | walk_at "sx" | skip)
  | (with_reducible apply c_par3) <;> (first | walk_at "sx" | skip)
  | (with_reducible apply c_aug) <;> (first | walk_at "sx" | skip)
  | (with_reducible apply c_augS) <;> (first | walk_at "sx" | skip)
  | (with_reducible apply c_fld) <;> (first | walk_at "sx" | skip)
  | (with_reducible apply c_drop) <;> (first | walk_at "sx" | skip)
  | with_reducible apply c_next
  | with_reducible apply c_break
  | with_reducible apply c_cont)
/-- a value is handed back; a word is met again -/
local macro_rules | `(tactic| walk_at "ret") => `(tactic| (with_reducible apply c_ret) <;> (first | walk_at "sx" | skip))
local macro_rules | `(tactic| walk_at "inv") => `(tactic| (with_reducible apply c_inv) <;> (first | walk_at "side" | skip))
local macro_rules | `(tactic| walk_at "seq") => `(tactic| with_reducible apply c_seq)
local macro_rules | `(tactic| walk_at "cut") => `(tactic| with_reducible apply c_cut)
local macro_rules | `(tactic| walk_at "if") => `(tactic| ((with_reducible apply c_if); (case' h => first | walk_at "sx" | skip)))
local macro_rules | `(tactic| walk_at "fgt") => `(tactic| first
  | exact Fgt.nil
  | (with_reducible apply Fgt.keep; walk_at "fgt")
  | (with_reducible apply Fgt.drop; walk_at "fgt"))

/-! ### more steps: stars, dicts, tuples -/
local macro_rules | `(tactic| walk_at "sx") => `(tactic| first
  | (with_reducible apply ed_starT) <;> walk_at "sx"
  | (with_reducible apply ev_dgetS) <;> walk_at "sx"
  | with_reducible exact isdi_v
  | (with_reducible apply isdi_c) <;> walk_at "sx"
  | (with_reducible apply rv_catTd) <;> walk_at "sx"
  | with_reducible exact ist_dat
  | ((with_reducible show ¬ (_ : Int) < _); with_reducible assumption)
  | ((with_reducible show valG _ _ = _); walk_at "get")
  | ((with_reducible show putG _ _ _ = _); walk_at "get"))

local macro_rules | `(tactic| walk_at "own") => `(tactic| exact ev_dnewK)
theorem law_pick_body {K : PySem.W.Frag} {mg : Str → Option Value} (T : Tx K mg) : ∀ Q ds M P Φ, ds.length = 2 → S_law_pick K T ds M P → RtQ Q Φ P → Cont (rd_law_pick_0 K T (fnD Q)) Φ (entry ["_law_draw", "_law_items"] ds) M := by
  rintro Q ds M P Φ - ⟨s, k, p, ls, M', rfl, hl, hput, hP⟩ hQ
  show Cont _ _ [some (val (.ref p)), some (lsV ls)] _
  have hlen : (ls.map fun l : Int × Rows => vtup [dat (.int l.1), zr l.2]).length = ls.length := List.length_map _
  have h0 := tk_nn (s := s) (k := k + 1) (m := (ls.length : Int)) (by omega)
  have h1 := tk_lt (s := s) (k := k + 1) (m := (ls.length : Int)) (by omega)
  obtain ⟨i, hi⟩ : ∃ i : Nat, tk s (k + 1) (ls.length : Int) = (i : Int) := ⟨_, (Int.toNat_of_nonneg h0).symm⟩
  have hlt : i < ls.length := by omega
  refine c_ret (D := fnD Q) (x := vtup [dat (.int ls[i].1), zr ls[i].2]) (M1 := M') (ev_op (M1 := M) (M2 := M') (x := lsV ls) (y := dat (.int (i : Int))) (ev_var (.there .here)) ?_ (rv_ixLV islv_vlst (atI_nat ?_))) hQ (hP _ (List.getElem_mem hlt)) (Le.refl _)
  · rw [← hi]
    refine ev_call (ds := [val (.ref p), dat (.int (ls.length : Int))]) (M1 := M) (ea_cons (ev_var .here) (ea_cons (ev_cb (ea_cons (ev_var (.there .here)) ea_nil) ?_) ea_nil)) rfl (take_ev hput (by omega))
    have z := rc_len (K := K) (M := M) (iss_l (K := K) (islv_vlst (ds := ls.map fun l : Int × Rows => vtup [dat (.int l.1), zr l.2])))
    rw [hlen] at z
    exact z
  · rw [List.getElem?_map, List.getElem?_eq_getElem hlt]
    rfl
theorem Mast_init_body {K : PySem.W.Frag} {mg : Str → Option Value} (T : Tx K mg) : ∀ Q ds M P Φ, ds.length = 2 → S_Mast_init K T ds M P → RtQ Q Φ P → Cont (rd_Mast_init_0 K T (fnD Q)) Φ (entry ["self", "name"] ds) M := by
  rintro Q ds M P Φ - ⟨p, M0, rfl, rfl, hP⟩ hQ
  have hC := T.F_Mast
  show Cont _ _ [some (val (.ref p)), some (dat (.str "m0"))] _
  walk_at "st"
  walk_at "st"
  walk_at "st"
  exact c_end hQ hP (Le.refl _)
theorem Mast_take_body {K : PySem.W.Frag} {mg : Str → Option Value} (T : Tx K mg) : ∀ Q ds M P Φ, ds.length = 3 → S_Mast_take K T ds M P → RtQ Q Φ P → Cont (rd_Mast_take_0 K T (fnD Q)) Φ (entry ["self", "number", "rows"] ds) M := by
  rintro Q ds M P Φ - ⟨p, n, r, m, r', M', rfl, ⟨L, h1, h2⟩, hP⟩ hQ
  have hC := T.F_Mast
  show Cont _ _ [some (val (.ref p)), some (dat (.int m)), some (zr r')] _
  have hQ := hQ.up
  refine c_perm h1 ?_
  show Cont _ _ _ ((p, _) :: L)
  walk_at "if"
  case h1 =>
    intro hb
    rw [if_pos (of_decide_eq_true hb)] at h2
    walk_at "st"
    with_reducible apply c_fld (y := dV r') (M1 := (p, mI T.C_Mast m r) :: L)
    case hv =>
      rw [← dV_is r']
      exact ev_cb (ea_cons (ev_cb (ea_cons (ev_var (.there (.there .here))) ea_nil) rc_lstZ) ea_nil) rc_dicL
    all_goals (first | walk_at "sx" | skip)
    exact c_end hQ (up_perm h2.symm hP) (Le.refl _)
  case h2 =>
    intro hb
    rw [if_neg (of_decide_eq_false hb)] at h2
    walk_at "st"
    exact c_end hQ (up_perm h2.symm hP) (Le.refl _)
theorem Mast_fall_body {K : PySem.W.Frag} {mg : Str → Option Value} (T : Tx K mg) : ∀ Q ds M P Φ, ds.length = 1 → S_Mast_fall K T ds M P → RtQ Q Φ P → Cont (rd_Mast_fall_0 K T (fnD Q)) Φ (entry ["self"] ds) M := by
  rintro Q ds M P Φ - ⟨p, n, r, M', rfl, ⟨L, h1, h2⟩, hP⟩ hQ
  have hC := T.F_Mast
  show Cont _ _ [some (val (.ref p))] _
  have hQ := hQ.up
  refine c_perm h1 ?_
  show Cont _ _ _ ((p, _) :: L)
  walk_at "st"
  exact c_end hQ (up_perm h2.symm hP) (Le.refl _)
theorem Mast_lead_up_body {K : PySem.W.Frag} {mg : Str → Option Value} (T : Tx K mg) : ∀ Q ds M P Φ, ds.length = 3 → S_Mast_lead_up K T ds M P → RtQ Q Φ P → Cont (rd_Mast_lead_up_0 K T (fnD Q)) Φ (entry ["self", "call", "frame"] ds) M := by
  rintro Q ds M P Φ - ⟨p, n, r, c, f, rfl, hm, hP⟩ hQ
  have hC := T.F_Mast
  show Cont _ _ [some (val (.ref p)), some (dat (.str c)), some (dat f)] _
  walk_at "cut"
  with_reducible apply c_if (b := !(own r c).isSome) (M1 := M)
  case h =>
    have z := own_is r c
    have e : (!(own r c).isSome) = !(valG (dKs ((dI r).map fun p => (p.1, PyData.int p.2))) (.inr c)).isSome := by rw [z]; cases own r c <;> rfl
    rw [e]
    refine et_B (ev_dnin (k := .inr c) (ev_var (.there .here)) ?_ isdi_v)
    walk_at "sx"
  case h1 =>
    intro hb
    have ho : own r c = none := by cases h : own r c <;> simp_all
    refine c_ret (D := fnD Q) (x := dat .none) ev_non hQ ?_ (Le.refl _)
    unfold upD at hP
    rw [ho] at hP
    exact hP
  case h2 =>
    intro hb
    obtain ⟨e, ho⟩ : ∃ e, own r c = some e := by cases h : own r c <;> simp_all
    unfold upD at hP
    rw [ho] at hP
    walk_at "st"
    show Cont (rd_Mast_lead_up_3 K T (fnD Q)) Φ _ _
    refine c_ret (D := fnD Q) (M1 := M) (x := dat (.tuple [.str "up", .str c, .int e, f])) (ev_tupD (ed_cons ev_str (ed_cons (ev_var (.there .here)) (ed_cons (ev_dgetS (x := dV r) (kvs := dKs ((dI r).map fun p => (p.1, PyData.int p.2))) (y := dat (.int e)) ?_ (ev_var (.there .here)) isdi_v ?_) (ed_cons (ev_var (.there (.there .here))) ed_nil)))) (by show 4 ≤ 16777216; decide)) hQ hP (Le.refl _)
    · walk_at "sx"
    · rw [own_is, ho]; rfl
theorem Mast_lead_down_body {K : PySem.W.Frag} {mg : Str → Option Value} (T : Tx K mg) : ∀ Q ds M P Φ, ds.length = 4 → S_Mast_lead_down K T ds M P → RtQ Q Φ P → Cont (rd_Mast_lead_down_0 K T (fnD Q)) Φ (entry ["self", "call", "epoch", "frame"] ds) M := by
  rintro Q ds M P Φ - ⟨p, n, r, c, e, f, rfl, hm, hP⟩ hQ
  have hC := T.F_Mast
  show Cont _ _ [some (val (.ref p)), some (dat (.str c)), some (dat (.int e)), some (dat f)] _
  have hg : (valG (dKs ((dI r).map fun p => (p.1, PyData.int p.2))) (.inr c)).getD vn = dat (oD (own r c)) := by
    rw [own_is]
    cases own r c <;> rfl
  have hv : (!PyData.eqv (oD (own r c)) (.int e)) = !decide (own r c = some e) := by
    cases own r c <;> simp [oD, PyData.eqv, Bool.beq_eq_decide_eq]
  walk_at "cut"
  with_reducible apply c_if (b := !decide (own r c = some e)) (M1 := M)
  case h =>
    rw [← hv]
    refine et_test (ev_op (x := dat (oD (own r c))) (y := dat (.int e)) (M1 := M) (M2 := M) ?_ (ev_var (.there (.there .here))) (rv_neD isd_dat isd_dat ?_ shp_int))
    · rw [← hg]
      refine ev_dget1 (k := .inr c) ?_ isdi_v (ev_var (.there .here)) isdi_v
      walk_at "sx"
    · cases own r c
      · exact shp_none
      · exact shp_int
  case h1 =>
    intro hb
    have ho : ¬ own r c = some e := by simpa using hb
    refine c_ret (D := fnD Q) (x := dat .none) ev_non hQ ?_ (Le.refl _)
    unfold downD at hP
    rw [if_neg ho] at hP
    exact hP
  case h2 =>
    intro hb
    have ho : own r c = some e := by simpa using hb
    unfold downD at hP
    rw [if_pos ho] at hP
    walk_at "st"
    walk_at "ret"
    exact hP

end Lw


set_option Elab.async false
set_option linter.all false
set_option maxRecDepth 100000
set_option maxHeartbeats 4000000
namespace Lw
open PySem L2 Sx
/-! ### steps -/
local macro_rules | `(tactic| walk_at "shp") => `(tactic| first
  | exact shp_int
  | exact shp_none
  | exact shp_bool
  | exact shp_oi _
  | (apply shp_str; first | decide +kernel | assumption)
  | (apply shp_list; walk_at "shpA")
  | (apply shp_tuple; walk_at "shpA")
  | assumption)
local macro_rules | `(tactic| walk_at "shpA") => `(tactic| first
  | exact shpA_nil
  | (apply shpA_cons; (· walk_at "shp"); walk_at "shpA")
  | (apply shpA_map; intro _ _; walk_at "shp"))
/-- what is left beside: closed, or left -/
local macro_rules | `(tactic| walk_at "side") => `(tactic| first
  | (with_reducible show Shp _ _); walk_at "shp"
  | (with_reducible show _ ≤ sizeLine); first | decide | (show _ ≤ 16777216; omega) | (show _ ≤ 16777216; simp only [List.length_map, List.length_append, List.length_cons, List.length_nil]; omega)
  | (with_reducible show _ < sizeLine); first | decide | (show _ < 16777216; omega) | (show _ < 16777216; simp only [List.length_map, List.length_append, List.length_cons, List.length_nil]; omega)
  | (with_reducible show CMul _ _); first | exact Or.inr ⟨by decide, by decide⟩ | exact Or.inl ⟨by decide, by decide⟩ | exact Or.inl ⟨by omega, by omega⟩ | exact Or.inr ⟨by omega, by omega⟩
  | (with_reducible show CPow _ _); exact ⟨by decide, by decide, by decide⟩
  | (with_reducible show CDiv _ _); first | exact ⟨by decide, by decide⟩ | exact ⟨by omega, by omega⟩
  | (with_reducible show Le _ _); first | with_reducible exact Le.refl _ | with_reducible assumption
  | (with_reducible show L2.atI _ _ = _); first | with_reducible assumption | exact rfl | exact atI_nat rfl
  | (with_reducible show _ < _); first | with_reducible assumption | decide | omega
  | (with_reducible show _ ≤ _); first | with_reducible assumption | decide | omega
  | (with_reducible show _ ∧ _); omega
  | (with_reducible show ∀ i, i ∈ _ → i ∈ _); decide
  | (with_reducible show (_ : Nat) = _); first | exact rfl | omega)
local macro_rules | `(tactic| walk_at "rm") => `(tactic| first
  | exact Rm.here
  | (apply Rm.there; walk_at "rm"))
local macro_rules | `(tactic| walk_at "perm") => `(tactic| first
  | with_reducible exact List.Perm.refl _
  | (apply perm_step; (· walk_at "rm"); walk_at "perm")
  | exact List.Perm.refl _)
local macro_rules | `(tactic| walk_at "pk") => `(tactic| first
  | with_reducible exact Pk.here
  | ((with_reducible apply Pk.there); walk_at "pk"))
/-- a part of a reading: what it gives. One word for all kinds -/
local macro_rules | `(tactic| walk_at "sx") => `(tactic| first
  -- an expression
  | with_reducible exact ev_int
  | with_reducible exact ev_bl
  | with_reducible exact ev_str
  | with_reducible exact ev_non
  | (with_reducible apply ev_var) <;> walk_at "sx"
  | (with_reducible apply ev_op) <;> walk_at "sx"
  | (with_reducible apply ev_fld) <;> walk_at "sx"
  | (with_reducible apply ev_cb) <;> walk_at "sx"
  | (with_reducible apply ev_tupD) <;> walk_at "sx"
  | (with_reducible apply ev_lstD) <;> walk_at "sx"
  | (with_reducible apply ev_tupV) <;> walk_at "sx"
  | (with_reducible apply ev_lstV) <;> walk_at "sx"
  | (with_reducible apply ev_slL) <;> walk_at "sx"
  | (with_reducible apply ev_slT1) <;> walk_at "sx"
  | (with_reducible apply ev_slT) <;> walk_at "sx"
  | (with_reducible apply ev_un) <;> walk_at "sx"
  | (with_reducible apply ev_chain) <;> walk_at "sx"
  | (with_reducible apply ev_andV) <;> walk_at "sx"
  | (with_reducible apply ev_orV) <;> walk_at "sx"
  | (with_reducible apply ev_notV) <;> walk_at "sx"
  | (with_reducible apply ev_lcY) <;> walk_at "sx"
  | (with_reducible apply ev_lc) <;> walk_at "sx"
  | ((with_reducible show ∀ a, a ∈ _ → ∃ ρ'' js, _); intro a ha; dsimp only [wipeE, List.set]; (first | with_reducible apply lcY_k | with_reducible apply lcF_k) <;> walk_at "sx")
  | (with_reducible apply ev_call) <;> walk_at "sx"
  | (with_reducible apply ev_meth) <;> walk_at "sx"
  | (with_reducible apply ev_bm) <;> walk_at "sx"
  | (with_reducible show Ev _ _ _ _ _); walk_at "own"
  -- a test
  | with_reducible exact et_yes
  | (with_reducible apply et_test) <;> walk_at "sx"
  | (with_reducible apply et_B) <;> walk_at "sx"
  | (with_reducible apply et_not) <;> walk_at "sx"
  | (with_reducible apply et_and) <;> walk_at "sx"
  | (with_reducible apply et_or) <;> walk_at "sx"
  -- arguments
  | with_reducible exact ea_nil
  | (with_reducible apply ea_cons) <;> walk_at "sx"
  | with_reducible exact ed_nil
  | (with_reducible apply ed_cons) <;> walk_at "sx"
  | with_reducible exact eo_none
  | (with_reducible apply eo_some) <;> walk_at "sx"
  -- what an operation gives
  | with_reducible exact rv_addI
  | with_reducible exact rv_int0
  | with_reducible exact rv_bl0
  | with_reducible exact rv_eqI
  | with_reducible exact rv_neI
  | with_reducible exact rv_eqS
  | with_reducible exact rv_neS
  | with_reducible exact rv_isN
  | with_reducible exact rv_notN
  | (with_reducible apply rv_intC) <;> walk_at "sx"
  | (with_reducible apply rv_addS) <;> walk_at "sx"
  | (with_reducible apply rv_ixL isl_dat) <;> walk_at "sx"
  | (with_reducible apply rv_ixT ist_dat) <;> walk_at "sx"
  | (with_reducible apply rv_ixL) <;> walk_at "sx"
  | (with_reducible apply rv_ixLV) <;> walk_at "sx"
  | (apply rv_ixT ist_dat) <;> walk_at "sx"
  | (with_reducible apply rv_ixTV istv_vtup) <;> walk_at "sx"
  | (with_reducible apply rv_ixScr) <;> walk_at "sx"
  | (apply rv_ixL isl_dat) <;> walk_at "sx"
  | (with_reducible apply rv_ixL) <;> walk_at "sx"
  | (apply rv_cat) <;> walk_at "sx"
  | (with_reducible apply rv_eqD) <;> walk_at "sx"
  | (with_reducible apply rv_neD) <;> walk_at "sx"
  | with_reducible exact ru_neg
  | with_reducible exact rc_int
  | with_reducible exact rc_abs
  | with_reducible exact rc_max2
  | with_reducible exact rc_min2
  | with_reducible exact rc_lenScr
  | with_reducible exact rc_lenM isl_dat
  | ((with_reducible apply rc_lenM); (with_reducible apply isl_cell) <;> walk_at "sx")
  | with_reducible exact rc_lenMT
  | (with_reducible apply rc_lenL) <;> walk_at "sx"
  | (apply rc_lenT ist_dat)
  | (with_reducible apply rc_tupL) <;> walk_at "sx"
  | (apply rc_tupT)
  | (with_reducible apply rc_lstL) <;> walk_at "sx"
  | (apply rc_lstT ist_dat)
  | with_reducible exact rc_anyM
  | with_reducible exact rc_allM
  | ((with_reducible apply rm_append) <;> walk_at "sx")
  -- lists, tuples, data
  | with_reducible exact isl_dat
  | with_reducible exact isd_dat
  | with_reducible exact isd_scr
  | (with_reducible apply isl_cell) <;> walk_at "sx"
  | (with_reducible apply islv_cell) <;> walk_at "sx"
  | with_reducible exact islv_vlst
  | (with_reducible apply isd_cell) <;> walk_at "sx"
  | (with_reducible apply isd_vtup) <;> walk_at "sx"
  | (with_reducible apply isd_vlst) <;> walk_at "sx"
  | with_reducible exact isds_nil
  | (with_reducible apply isds_cons) <;> walk_at "sx"
  | with_reducible exact fzl_dat
  | with_reducible exact fzl_v
  | with_reducible exact fzt_dat
  | with_reducible exact fzt_v
  | (with_reducible apply ity_l) <;> walk_at "sx"
  | with_reducible exact ity_s
  | (with_reducible apply IsLst.v) <;> walk_at "sx"
  -- places
  | with_reducible exact At.here
  | (with_reducible apply At.there) <;> walk_at "sx"
  | with_reducible exact SetAt.here
  | (with_reducible apply SetAt.there) <;> walk_at "sx"
  | with_reducible exact List.mem_cons_self
  | (with_reducible apply List.mem_cons_of_mem) <;> walk_at "sx"
  | ((with_reducible show (_ : Addr × CD) ∈ _); with_reducible assumption)
  | with_reducible exact Put.here
  | (with_reducible apply Put.there) <;> walk_at "sx"
  | ((with_reducible show Put _ _ _ _ _); with_reducible assumption)
  | ((with_reducible show Sw _ _ _ _); with_reducible assumption)
  | with_reducible exact sw_nil
  | ((with_reducible apply sw_pick); (· walk_at "pk"); walk_at "sx")
  | ((with_reducible apply sw_skip); walk_at "sx")
  | with_reducible exact FGet.here
  | ((with_reducible apply FGet.there); (· decide +kernel); walk_at "sx")
  | with_reducible exact FPut.here
  | with_reducible exact FPut.new
  | ((with_reducible apply FPut.there); (· decide +kernel); walk_at "sx")
  | (with_reducible show ClsF _ _ _); with_reducible assumption
  | (with_reducible show RtQ _ _ _); assumption
  | (with_reducible show (_ : Str) ∈ _); decide +kernel
  | (with_reducible show ¬ (_ : Str) ∈ _); decide +kernel
  -- what is walked, targets
  | (with_reducible apply ei_rng1) <;> walk_at "sx"
  | (with_reducible apply ei_rng2) <;> walk_at "sx"
  | (with_reducible apply ei_enumD) <;> walk_at "sx"
  | (with_reducible apply ei_enum) <;> walk_at "sx"
  | (with_reducible apply ei_zip) <;> walk_at "sx"
  | (with_reducible apply ei_seqLM) <;> walk_at "sx"
  | (with_reducible apply ei_seqTM) <;> walk_at "sx"
  | (with_reducible apply ei_seqL) <;> walk_at "sx"
  | (with_reducible apply ei_seqT) <;> walk_at "sx"
  | (with_reducible apply tg_name) <;> walk_at "sx"
  | (with_reducible apply tg_tup istv_vtup) <;> walk_at "sx"
  | (with_reducible apply td_tup) <;> walk_at "sx"
  | with_reducible exact td_nil
  | (with_reducible apply td_cons) <;> walk_at "sx"
  | with_reducible exact tgs_nil
  | (with_reducible apply tgs_cons) <;> walk_at "sx"
  -- beside
  | walk_at "spec"
  | walk_at "side"
  | walk_at "leave")
/-- a question of another kind is left -/
local macro_rules | `(tactic| walk_at "leave") => `(tactic| first
  | with_reducible show Cont _ _ _ _
  | with_reducible show Shp _ _
  | with_reducible show _ ≤ _
  | with_reducible show _ < _
  | with_reducible show CMul _ _
  | with_reducible show CDiv _ _
  | with_reducible show CPow _ _
  | with_reducible show _ = _
  | with_reducible show Le _ _
  | ((with_reducible show _ = true → _); with_reducible assumption)
  | ((with_reducible show _ = true → _); intro _; walk_at "sx")
  | ((with_reducible show _ = false → _); intro _; walk_at "sx"))
/-- a plain statement -/
local macro_rules | `(tactic| walk_at "st") => `(tactic| first
  | (with_reducible apply c_seq); walk_at "st"
  | (with_reducible apply c_asg) <;> (first | walk_at "sx" | skip)
  | (with_reducible apply c_asgG) <;> (first | walk_at "sx" | skip)
  | (with_reducible apply c_par) <;> (first | walk_at "sx" | skip)
  | (with_reducible apply c_par3) <;> (first | walk_at "sx" | skip)
  | (with_reducible apply c_aug) <;> (first | walk_at "sx" | skip)
  | (with_reducible apply c_augS) <;> (first | walk_at "sx" | skip)
  | (with_reducible apply c_fld) <;> (first | walk_at "sx" | skip)
  | (with_reducible apply c_drop) <;> (first | walk_at "sx" | skip)
  | with_reducible apply c_next
  | with_reducible apply c_break
  | with_reducible apply c_cont)
/-- a value is handed back; a word is met again -/
local macro_rules | `(tactic| walk_at "ret") => `(tactic| (with_reducible apply c_ret) <;> (first | walk_at "sx" | skip))
local macro_rules | `(tactic| walk_at "inv") => `(tactic| (with_reducible apply c_inv) <;> (first | walk_at "side" | skip))
local macro_rules | `(tactic| walk_at "seq") => `(tactic| with_reducible apply c_seq)
local macro_rules | `(tactic| walk_at "cut") => `(tactic| with_reducible apply c_cut)
local macro_rules | `(tactic| walk_at "if") => `(tactic| ((with_reducible apply c_if); (case' h => first | walk_at "sx" | skip)))
local macro_rules | `(tactic| walk_at "fgt") => `(tactic| first
  | exact Fgt.nil
  | (with_reducible apply Fgt.keep; walk_at "fgt")
  | (with_reducible apply Fgt.drop; walk_at "fgt"))

/-! ### more steps: stars, dicts, tuples -/
local macro_rules | `(tactic| walk_at "sx") => `(tactic| first
  | (with_reducible apply ed_starT) <;> walk_at "sx"
  | (with_reducible apply ev_dgetS) <;> walk_at "sx"
  | with_reducible exact isdi_v
  | (with_reducible apply isdi_c) <;> walk_at "sx"
  | (with_reducible apply rv_catTd) <;> walk_at "sx"
  | with_reducible exact ist_dat
  | ((with_reducible show ¬ (_ : Int) < _); with_reducible assumption)
  | ((with_reducible show valG _ _ = _); walk_at "get")
  | ((with_reducible show putG _ _ _ = _); walk_at "get"))

local macro_rules | `(tactic| walk_at "own") => `(tactic| exact ev_dnewK)
/-! ### names of calls -/
theorem nm_ok : ∀ i, i < 4 → PyData.strOk (nm i) = true := by decide +kernel
theorem nm_len : ∀ i : Nat, i < 4 → (("c" : Str).length + ((toString (i : Int) : String) : Str).length ≤ 16777216) := by decide +kernel
theorem nm_log : ∀ i : Nat, i < 4 → ((i : Int).natAbs.log2 < 1920) := by decide +kernel
section
variable {K : PySem.W.Frag} {mg : Str → Option Value} {T : Tx K mg} {s : List Int} {pd p : Addr} {ls : List (Int × Rows)} {r : Rows} {n j t k : Int} {i : Nat} {x7 x8 x9 x10 x11 x12 x13 : Option VD} {Ψ Φ : Fr} {D : Ends} {ρ : Sx.Env} {M M' : Cells} {P : VD → Cells → Prop}
theorem ev_nm {te : TE} (h : Ev te ρ M (dat (.int (i : Int))) M') (hi : i < 4) : Ev (tOp (rAddU K) (tC (.str "c")) (tCB rStrInt (tCons te tNil))) ρ M (dat (.str (nm i))) M' :=
  ev_op ev_str (ev_cb (ea_cons h ea_nil) (rc_strI (nm_log i hi))) (rv_addS (nm_len i hi))
theorem mtake_ev {m : Int} {r' : Rows} (h : Sw [(p, mI T.C_Mast n r)] [(p, if n ≤ m then mI T.C_Mast m r' else mI T.C_Mast n r)] M M') : S_Mast_take K T [val (.ref p), dat (.int m), zr r'] M (Det vn M') := ⟨p, n, r, m, r', M', rfl, h, rfl, rfl⟩
theorem mfall_ev (h : Sw [(p, mI T.C_Mast n r)] [(p, mI T.C_Mast n [])] M M') : S_Mast_fall K T [val (.ref p)] M (Det vn M') := ⟨p, n, r, M', rfl, h, rfl, rfl⟩
theorem up_ev {c : Str} {f : PyData} (h : (p, mI T.C_Mast n r) ∈ M) : S_Mast_lead_up K T [val (.ref p), dat (.str c), dat f] M (Det (dat (upD r c f)) M) := ⟨p, n, r, c, f, rfl, h, rfl, rfl⟩
theorem down_ev {c : Str} {e : Int} {f : PyData} (h : (p, mI T.C_Mast n r) ∈ M) : S_Mast_lead_down K T [val (.ref p), dat (.str c), dat (.int e), dat f] M (Det (dat (downD r c e f)) M) := ⟨p, n, r, c, e, f, rfl, h, rfl, rfl⟩
theorem pick_er {k : Int} (hl : 0 < ls.length) (h : Put p (cDraw K s k) (cDraw K s (k + 1)) M M') : S_law_pick K T [val (.ref p), lsV ls] M (fun y N => ∃ l : Int × Rows, y = vtup [dat (.int l.1), zr l.2] ∧ N = M') := ⟨s, k, p, ls, M', rfl, hl, h, fun l _ => ⟨l, rfl, rfl⟩⟩
abbrev frD (t : Int) : PyData := .tuple [.str "frame", .int t, .int 7, .int 0]
theorem shp_fr {m : Nat} : Shp (m + 1) (frD t) := shp_tuple (shpA_cons (shp_str (by decide +kernel)) (shpA_cons shp_int (shpA_cons shp_int (shpA_cons shp_int shpA_nil))))
theorem eqv_fr : PyData.eqv (frD t) (frD t) = true := by simp [PyData.eqv, PyData.eqvAll]
theorem gd_up {c : Str} (hc : PyData.strOk c = true) : Shp 64 (upD r c (frD t)) ∧ PyData.eqv (upD r c (frD t)) (upD r c (frD t)) = true := by
  unfold upD
  cases own r c with
  | none => exact ⟨shp_none, by simp [PyData.eqv]⟩
  | some e => exact ⟨shp_tuple (n := 63) (shpA_cons (shp_str (by decide +kernel)) (shpA_cons (shp_str hc) (shpA_cons shp_int (shpA_cons shp_fr shpA_nil)))), by simp [PyData.eqv, PyData.eqvAll]⟩
theorem gd_down {c : Str} (hc : PyData.strOk c = true) : Shp 64 (downD r c n (frD t)) ∧ PyData.eqv (downD r c n (frD t)) (downD r c n (frD t)) = true := by
  unfold downD
  split
  · exact ⟨shp_tuple (n := 63) (shpA_cons (shp_str (by decide +kernel)) (shpA_cons (shp_str hc) (shpA_cons shp_int (shpA_cons shp_fr shpA_nil)))), by simp [PyData.eqv, PyData.eqvAll]⟩
  · exact ⟨shp_none, by simp [PyData.eqv]⟩
abbrev M13 (K : PySem.W.Frag) (C : Addr) (s : List Int) (pd p : Addr) (n : Int) (r : Rows) (j : Int) : Cells := [(pd, cDraw K s j), (p, mI C n r)]
def J13 (K : PySem.W.Frag) (C : Addr) (s : List Int) (pd p : Addr) (ls : List (Int × Rows)) : Sx.Env → Cells → Prop := fun ρ' M' => ∃ n r j, ρ' = [some (vscr K s), some (val (.ref pd)), some (lsV ls), some (val (.ref p)), some (zr r), some (dat (.int n)), none, none, none, none, none, none, none, none] ∧ M' = M13 K C s pd p n r j
theorem tests13 {c : Str} (hc : PyData.strOk c = true) (hD : D.nx = InvK Ψ (J13 K T.C_Mast s pd p ls)) :
    Cont (rd_law_16 K T D) Ψ [some (vscr K s), some (val (.ref pd)), some (lsV ls), some (val (.ref p)), some (zr r), some (dat (.int n)), some (dat (.int t)), x7, x8, some (dat (.str c)), some (dat (.int j)), some (dat (frD t)), x12, x13] (M13 K T.C_Mast s pd p n r k) := by
  have hC := T.F_Mast
  have hm : (p, mI T.C_Mast n r) ∈ M13 K T.C_Mast s pd p n r k := .tail _ (.head _)
  walk_at "seq"
  have hg : (valG (dKs ((dI r).map fun p => (p.1, PyData.int p.2))) (.inr c)).getD vn = dat (oD (own r c)) := by
    rw [own_is]
    cases own r c <;> rfl
  with_reducible apply c_asg (x := dat (oD (own r c))) (M1 := M13 K T.C_Mast s pd p n r k)
  case h =>
    rw [← hg]
    have z : Ev (tCB (rDictP K) (tCons (tVar 4) tNil)) [some (vscr K s), some (val (.ref pd)), some (lsV ls), some (val (.ref p)), some (zr r), some (dat (.int n)), some (dat (.int t)), x7, x8, some (dat (.str c)), some (dat (.int j)), some (dat (frD t)), x12, x13] (M13 K T.C_Mast s pd p n r k) (dV r) (M13 K T.C_Mast s pd p n r k) := by
      rw [← dV_is r]
      refine ev_cb (ea_cons (ev_var ?_) ea_nil) rc_dicZ
      walk_at "sx"
    refine ev_dget1 (k := .inr c) z isdi_v (ev_var ?_) isdi_v
    show At (dat (.str c)) _ _
    walk_at "sx"
  case hs => walk_at "sx"
  walk_at "cut"
  with_reducible apply c_if (b := false) (M1 := M13 K T.C_Mast s pd p n r k)
  case h =>
    obtain ⟨g1, g2⟩ := gd_up (r := r) (t := t) hc
    refine et_test (Ev.eq (ev_op (x := dat (upD r c (frD t))) (y := dat (upD r c (frD t))) (M1 := M13 K T.C_Mast s pd p n r k) (M2 := M13 K T.C_Mast s pd p n r k) ?_ ?_ (rv_neD isd_dat isd_dat g1 g1)) (by rw [g2]; rfl))
    · refine ev_meth (ds := [dat (.str c), dat (frD t)]) (M1 := M13 K T.C_Mast s pd p n r k) (M2 := M13 K T.C_Mast s pd p n r k) ?_ hm (by decide +kernel) ?_ rfl (up_ev hm)
      · walk_at "sx"
      · walk_at "sx"
    · unfold upD
      cases ho : own r c with
      | none =>
        refine ev_if (M1 := M13 K T.C_Mast s pd p n r k) (b := false) (EvT.eq (a := !isNoneD (oD none)) ?_ rfl) (fun h => Bool.noConfusion h) fun _ => ev_non
        walk_at "sx"
      | some e =>
        refine ev_if (M1 := M13 K T.C_Mast s pd p n r k) (b := true) (EvT.eq (a := !isNoneD (oD (some e))) ?_ rfl) (fun h => ?_) fun h => Bool.noConfusion h
        · walk_at "sx"
        · show Ev _ _ _ (dat (.tuple [.str "up", .str c, oD (some e), frD t])) _
          walk_at "sx"
  case h1 => intro hb; cases hb
  case h2 =>
    intro hb
    walk_at "st"
    walk_at "cut"
    with_reducible apply c_if (b := false) (M1 := M13 K T.C_Mast s pd p n r k)
    case h =>
      obtain ⟨g1, g2⟩ := gd_down (r := r) (t := t) (n := j) hc
      refine et_test (Ev.eq (ev_op (x := dat (downD r c j (frD t))) (y := dat (downD r c j (frD t))) (M1 := M13 K T.C_Mast s pd p n r k) (M2 := M13 K T.C_Mast s pd p n r k) ?_ ?_ (rv_neD isd_dat isd_dat g1 g1)) (by rw [g2]; rfl))
      · refine ev_meth (ds := [dat (.str c), dat (.int j), dat (frD t)]) (M1 := M13 K T.C_Mast s pd p n r k) (M2 := M13 K T.C_Mast s pd p n r k) ?_ hm (by decide +kernel) ?_ rfl (down_ev hm)
        · walk_at "sx"
        · walk_at "sx"
      · have hv : PyData.eqv (oD (own r c)) (.int j) = decide (own r c = some j) := by
          cases own r c <;> simp [oD, PyData.eqv, Bool.beq_eq_decide_eq]
        have hs : Shp 64 (oD (own r c)) := by
          cases own r c
          · exact shp_none
          · exact shp_int
        unfold downD
        by_cases ho : own r c = some j
        · rw [if_pos ho]
          refine ev_if (M1 := M13 K T.C_Mast s pd p n r k) (b := true) (EvT.eq (a := PyData.eqv (oD (own r c)) (.int j)) ?_ (hv.trans (decide_eq_true ho))) (fun h => ?_) fun h => Bool.noConfusion h
          · refine et_test (ev_op (ev_var ?_) (ev_var ?_) (rv_eqD isd_dat isd_dat hs shp_int))
            · walk_at "sx"
            · walk_at "sx"
          · walk_at "sx"
        · rw [if_neg ho]
          refine ev_if (M1 := M13 K T.C_Mast s pd p n r k) (b := false) (EvT.eq (a := PyData.eqv (oD (own r c)) (.int j)) ?_ (hv.trans (decide_eq_false ho))) (fun h => Bool.noConfusion h) fun _ => ev_non
          refine et_test (ev_op (ev_var ?_) (ev_var ?_) (rv_eqD isd_dat isd_dat hs shp_int))
          · walk_at "sx"
          · walk_at "sx"
    case h1 => intro hb; cases hb
    case h2 =>
      intro hb
      walk_at "st"
      with_reducible apply c_if (b := false) (M1 := M13 K T.C_Mast s pd p n r k)
      case h =>
        refine EvT.eq (a := (!decide (n = n)) || (false || !decide (("m0" : Str) = "m0"))) (et_or (et_test (ev_op (ev_fld (ev_var ?_) hm hC ?_ ?_) (ev_var ?_) rv_neI)) fun _ => et_or (et_test (ev_op (x := dV r) (y := dV r) (M1 := M13 K T.C_Mast s pd p n r k) (M2 := M13 K T.C_Mast s pd p n r k) (ev_fld (ev_var ?_) hm hC ?_ ?_) ?_ rv_neDi)) fun _ => et_test (ev_op (ev_fld (ev_var ?_) hm hC ?_ ?_) ev_str rv_neS)) (by simp)
        all_goals first | (rw [← dV_is r]; exact ev_cb (ea_cons (ev_var (.there (.there (.there (.there .here))))) ea_nil) rc_dicZ) | walk_at "sx"
      case h1 => intro hb; cases hb
      case h2 =>
        intro hb
        walk_at "st"
        rw [hD]
        with_reducible apply c_invF
        · exact ⟨_, _, _, rfl, rfl⟩
        · walk_at "fgt"
        · exact Le.refl _
end

end Lw


set_option Elab.async false
set_option linter.all false
set_option maxRecDepth 100000
set_option maxHeartbeats 4000000
namespace Lw
open PySem L2 Sx
/-! ### steps -/
local macro_rules | `(tactic| walk_at "shp") => `(tactic| first
  | exact shp_int
  | exact shp_none
  | exact shp_bool
  | exact shp_oi _
  | (apply shp_str; first | decide +kernel | assumption)
  | (apply shp_list; walk_at "shpA")
  | (apply shp_tuple; walk_at "shpA")
  | assumption)
local macro_rules | `(tactic| walk_at "shpA") => `(tactic| first
  | exact shpA_nil
  | (apply shpA_cons; (· walk_at "shp"); walk_at "shpA")
  | (apply shpA_map; intro _ _; walk_at "shp"))
/-- what is left beside: closed, or left -/
local macro_rules | `(tactic| walk_at "side") => `(tactic| first
  | (with_reducible show Shp _ _); walk_at "shp"
  | (with_reducible show _ ≤ sizeLine); first | decide | (show _ ≤ 16777216; omega) | (show _ ≤ 16777216; simp only [List.length_map, List.length_append, List.length_cons, List.length_nil]; omega)
  | (with_reducible show _ < sizeLine); first | decide | (show _ < 16777216; omega) | (show _ < 16777216; simp only [List.length_map, List.length_append, List.length_cons, List.length_nil]; omega)
  | (with_reducible show CMul _ _); first | exact Or.inr ⟨by decide, by decide⟩ | exact Or.inl ⟨by decide, by decide⟩ | exact Or.inl ⟨by omega, by omega⟩ | exact Or.inr ⟨by omega, by omega⟩
  | (with_reducible show CPow _ _); exact ⟨by decide, by decide, by decide⟩
  | (with_reducible show CDiv _ _); first | exact ⟨by decide, by decide⟩ | exact ⟨by omega, by omega⟩
  | (with_reducible show Le _ _); first | with_reducible exact Le.refl _ | with_reducible assumption
  | (with_reducible show L2.atI _ _ = _); first | with_reducible assumption | exact rfl | exact atI_nat rfl
  | (with_reducible show _ < _); first | with_reducible assumption | decide | omega
  | (with_reducible show _ ≤ _); first | with_reducible assumption | decide | omega
  | (with_reducible show _ ∧ _); omega
  | (with_reducible show ∀ i, i ∈ _ → i ∈ _); decide
  | (with_reducible show (_ : Nat) = _); first | exact rfl | omega)
local macro_rules | `(tactic| walk_at "rm") => `(tactic| first
  | exact Rm.here
  | (apply Rm.there; walk_at "rm"))
local macro_rules | `(tactic| walk_at "perm") => `(tactic| first
  | with_reducible exact List.Perm.refl _
  | (apply perm_step; (· walk_at "rm"); walk_at "perm")
  | exact List.Perm.refl _)
local macro_rules | `(tactic| walk_at "pk") => `(tactic| first
  | with_reducible exact Pk.here
  | ((with_reducible apply Pk.there); walk_at "pk"))
/-- a part of a reading: what it gives. One word for all kinds -/
local macro_rules | `(tactic| walk_at "sx") => `(tactic| first
  -- an expression
  | with_reducible exact ev_int
  | with_reducible exact ev_bl
  | with_reducible exact ev_str
  | with_reducible exact ev_non
  | (with_reducible apply ev_var) <;> walk_at "sx"
  | (with_reducible apply ev_op) <;> walk_at "sx"
  | (with_reducible apply ev_fld) <;> walk_at "sx"
  | (with_reducible apply ev_cb) <;> walk_at "sx"
  | (with_reducible apply ev_tupD) <;> walk_at "sx"
  | (with_reducible apply ev_lstD) <;> walk_at "sx"
  | (with_reducible apply ev_tupV) <;> walk_at "sx"
  | (with_reducible apply ev_lstV) <;> walk_at "sx"
  | (with_reducible apply ev_slL) <;> walk_at "sx"
  | (with_reducible apply ev_slT1) <;> walk_at "sx"
  | (with_reducible apply ev_slT) <;> walk_at "sx"
  | (with_reducible apply ev_un) <;> walk_at "sx"
  | (with_reducible apply ev_chain) <;> walk_at "sx"
  | (with_reducible apply ev_andV) <;> walk_at "sx"
  | (with_reducible apply ev_orV) <;> walk_at "sx"
  | (with_reducible apply ev_notV) <;> walk_at "sx"
  | (with_reducible apply ev_lcY) <;> walk_at "sx"
  | (with_reducible apply ev_lc) <;> walk_at "sx"
  | ((with_reducible show ∀ a, a ∈ _ → ∃ ρ'' js, _); intro a ha; dsimp only [wipeE, List.set]; (first | with_reducible apply lcY_k | with_reducible apply lcF_k) <;> walk_at "sx")
  | (with_reducible apply ev_call) <;> walk_at "sx"
  | (with_reducible apply ev_meth) <;> walk_at "sx"
  | (with_reducible apply ev_bm) <;> walk_at "sx"
  | (with_reducible show Ev _ _ _ _ _); walk_at "own"
  -- a test
  | with_reducible exact et_yes
  | (with_reducible apply et_test) <;> walk_at "sx"
  | (with_reducible apply et_B) <;> walk_at "sx"
  | (with_reducible apply et_not) <;> walk_at "sx"
  | (with_reducible apply et_and) <;> walk_at "sx"
  | (with_reducible apply et_or) <;> walk_at "sx"
  -- arguments
  | with_reducible exact ea_nil
  | (with_reducible apply ea_cons) <;> walk_at "sx"
  | with_reducible exact ed_nil
  | (with_reducible apply ed_cons) <;> walk_at "sx"
  | with_reducible exact eo_none
  | (with_reducible apply eo_some) <;> walk_at "sx"
  -- what an operation gives
  | with_reducible exact rv_addI
  | with_reducible exact rv_int0
  | with_reducible exact rv_bl0
  | with_reducible exact rv_eqI
  | with_reducible exact rv_neI
  | with_reducible exact rv_eqS
  | with_reducible exact rv_neS
  | with_reducible exact rv_isN
  | with_reducible exact rv_notN
  | (with_reducible apply rv_intC) <;> walk_at "sx"
  | (with_reducible apply rv_addS) <;> walk_at "sx"
  | (with_reducible apply rv_ixL isl_dat) <;> walk_at "sx"
  | (with_reducible apply rv_ixT ist_dat) <;> walk_at "sx"
  | (with_reducible apply rv_ixL) <;> walk_at "sx"
  | (with_reducible apply rv_ixLV) <;> walk_at "sx"
  | (apply rv_ixT ist_dat) <;> walk_at "sx"
  | (with_reducible apply rv_ixTV istv_vtup) <;> walk_at "sx"
  | (with_reducible apply rv_ixScr) <;> walk_at "sx"
  | (apply rv_ixL isl_dat) <;> walk_at "sx"
  | (with_reducible apply rv_ixL) <;> walk_at "sx"
  | (apply rv_cat) <;> walk_at "sx"
  | (with_reducible apply rv_eqD) <;> walk_at "sx"
  | (with_reducible apply rv_neD) <;> walk_at "sx"
  | with_reducible exact ru_neg
  | with_reducible exact rc_int
  | with_reducible exact rc_abs
  | with_reducible exact rc_max2
  | with_reducible exact rc_min2
  | with_reducible exact rc_lenScr
  | with_reducible exact rc_lenM isl_dat
  | ((with_reducible apply rc_lenM); (with_reducible apply isl_cell) <;> walk_at "sx")
  | with_reducible exact rc_lenMT
  | (with_reducible apply rc_lenL) <;> walk_at "sx"
  | (apply rc_lenT ist_dat)
  | (with_reducible apply rc_tupL) <;> walk_at "sx"
  | (apply rc_tupT)
  | (with_reducible apply rc_lstL) <;> walk_at "sx"
  | (apply rc_lstT ist_dat)
  | with_reducible exact rc_anyM
  | with_reducible exact rc_allM
  | ((with_reducible apply rm_append) <;> walk_at "sx")
  -- lists, tuples, data
  | with_reducible exact isl_dat
  | with_reducible exact isd_dat
  | with_reducible exact isd_scr
  | (with_reducible apply isl_cell) <;> walk_at "sx"
  | (with_reducible apply islv_cell) <;> walk_at "sx"
  | with_reducible exact islv_vlst
  | (with_reducible apply isd_cell) <;> walk_at "sx"
  | (with_reducible apply isd_vtup) <;> walk_at "sx"
  | (with_reducible apply isd_vlst) <;> walk_at "sx"
  | with_reducible exact isds_nil
  | (with_reducible apply isds_cons) <;> walk_at "sx"
  | with_reducible exact fzl_dat
  | with_reducible exact fzl_v
  | with_reducible exact fzt_dat
  | with_reducible exact fzt_v
  | (with_reducible apply ity_l) <;> walk_at "sx"
  | with_reducible exact ity_s
  | (with_reducible apply IsLst.v) <;> walk_at "sx"
  -- places
  | with_reducible exact At.here
  | (with_reducible apply At.there) <;> walk_at "sx"
  | with_reducible exact SetAt.here
  | (with_reducible apply SetAt.there) <;> walk_at "sx"
  | with_reducible exact List.mem_cons_self
  | (with_reducible apply List.mem_cons_of_mem) <;> walk_at "sx"
  | ((with_reducible show (_ : Addr × CD) ∈ _); with_reducible assumption)
  | with_reducible exact Put.here
  | (with_reducible apply Put.there) <;> walk_at "sx"
  | ((with_reducible show Put _ _ _ _ _); with_reducible assumption)
  | ((with_reducible show Sw _ _ _ _); with_reducible assumption)
  | with_reducible exact sw_nil
  | ((with_reducible apply sw_pick); (· walk_at "pk"); walk_at "sx")
  | ((with_reducible apply sw_skip); walk_at "sx")
  | with_reducible exact FGet.here
  | ((with_reducible apply FGet.there); (· decide +kernel); walk_at "sx")
  | with_reducible exact FPut.here
  | with_reducible exact FPut.new
  | ((with_reducible apply FPut.there); (· decide +kernel); walk_at "sx")
  | (with_reducible show ClsF _ _ _); with_reducible assumption
  | (with_reducible show RtQ _ _ _); assumption
  | (with_reducible show (_ : Str) ∈ _); decide +kernel
  | (with_reducible show ¬ (_ : Str) ∈ _); decide +kernel
  -- what is walked, targets
  | (with_reducible apply ei_rng1) <;> walk_at "sx"
  | (with_reducible apply ei_rng2) <;> walk_at "sx"
  | (with_reducible apply ei_enumD) <;> walk_at "sx"
  | (with_reducible apply ei_enum) <;> walk_at "sx"
  | (with_reducible apply ei_zip) <;> walk_at "sx"
  | (with_reducible apply ei_seqLM) <;> walk_at "sx"
  | (with_reducible apply ei_seqTM) <;> walk_at "sx"
  | (with_reducible apply ei_seqL) <;> walk_at "sx"
  | (with_reducible apply ei_seqT) <;> walk_at "sx"
  | (with_reducible apply tg_name) <;> walk_at "sx"
  | (with_reducible apply tg_tup istv_vtup) <;> walk_at "sx"
  | (with_reducible apply td_tup) <;> walk_at "sx"
  | with_reducible exact td_nil
  | (with_reducible apply td_cons) <;> walk_at "sx"
  | with_reducible exact tgs_nil
  | (with_reducible apply tgs_cons) <;> walk_at "sx"
  -- beside
  | walk_at "spec"
  | walk_at "side"
  | walk_at "leave")
/-- a question of another kind is left -/
local macro_rules | `(tactic| walk_at "leave") => `(tactic| first
  | with_reducible show Cont _ _ _ _
  | with_reducible show Shp _ _
  | with_reducible show _ ≤ _
  | with_reducible show _ < _
  | with_reducible show CMul _ _
  | with_reducible show CDiv _ _
  | with_reducible show CPow _ _
  | with_reducible show _ = _
  | with_reducible show Le _ _
  | ((with_reducible show _ = true → _); with_reducible assumption)
  | ((with_reducible show _ = true → _); intro _; walk_at "sx")
  | ((with_reducible show _ = false → _); intro _; walk_at "sx"))
/-- a plain statement -/
local macro_rules | `(tactic| walk_at "st") => `(tactic| first
  | (with_reducible apply c_seq); walk_at "st"
  | (with_reducible apply c_asg) <;> (first | walk_at "sx" | skip)
  | (with_reducible apply c_asgG) <;> (first | walk_at "sx" | skip)
  | (with_reducible apply c_par) <;> (first | walk_at "sx" | skip)
  | (with_reducible apply c_par3) <;> (first | walk_at "sx" | skip)
  | (with_reducible apply c_aug) <;> (first | walk_at "sx" | skip)
  | (with_reducible apply c_augS) <;> (first | walk_at "sx" | skip)
  | (with_reducible apply c_fld) <;> (first | walk_at "sx" | skip)
  | (with_reducible apply c_drop) <;> (first | walk_at "sx" | skip)
  | with_reducible apply c_next
  | with_reducible apply c_break
  | with_reducible apply c_cont)
/-- a value is handed back; a word is met again -/
local macro_rules | `(tactic| walk_at "ret") => `(tactic| (with_reducible apply c_ret) <;> (first | walk_at "sx" | skip))
local macro_rules | `(tactic| walk_at "inv") => `(tactic| (with_reducible apply c_inv) <;> (first | walk_at "side" | skip))
local macro_rules | `(tactic| walk_at "seq") => `(tactic| with_reducible apply c_seq)
local macro_rules | `(tactic| walk_at "cut") => `(tactic| with_reducible apply c_cut)
local macro_rules | `(tactic| walk_at "if") => `(tactic| ((with_reducible apply c_if); (case' h => first | walk_at "sx" | skip)))
local macro_rules | `(tactic| walk_at "fgt") => `(tactic| first
  | exact Fgt.nil
  | (with_reducible apply Fgt.keep; walk_at "fgt")
  | (with_reducible apply Fgt.drop; walk_at "fgt"))

/-! ### more steps: stars, dicts, tuples -/
local macro_rules | `(tactic| walk_at "sx") => `(tactic| first
  | (with_reducible apply ed_starT) <;> walk_at "sx"
  | (with_reducible apply ev_dgetS) <;> walk_at "sx"
  | with_reducible exact isdi_v
  | (with_reducible apply isdi_c) <;> walk_at "sx"
  | (with_reducible apply rv_catTd) <;> walk_at "sx"
  | with_reducible exact ist_dat
  | ((with_reducible show ¬ (_ : Int) < _); with_reducible assumption)
  | ((with_reducible show valG _ _ = _); walk_at "get")
  | ((with_reducible show putG _ _ _ = _); walk_at "get"))

local macro_rules | `(tactic| walk_at "own") => `(tactic| exact ev_dnewK)
local macro_rules | `(tactic| walk_at "spec") => `(tactic| first
  | with_reducible exact number_ev
  | (with_reducible apply take_ev) <;> walk_at "sx"
  | (with_reducible apply mtake_ev) <;> walk_at "sx"
  | (with_reducible apply mfall_ev) <;> walk_at "sx")
section
variable {K : PySem.W.Frag} {mg : Str → Option Value} {T : Tx K mg} {s : List Int} {pd p : Addr} {ls : List (Int × Rows)} {r : Rows} {n j t : Int} {i : Nat} {x6 x7 x8 x9 x10 x11 x12 x13 : Option VD} {Ψ Φ : Fr} {D : Ends} {ρ : Sx.Env} {M M' : Cells} {P : VD → Cells → Prop}
theorem ask13 (hD : D.nx = InvK Ψ (J13 K T.C_Mast s pd p ls)) :
    Cont (rd_law_15 K T D) Ψ [some (vscr K s), some (val (.ref pd)), some (lsV ls), some (val (.ref p)), some (zr r), some (dat (.int n)), some (dat (.int t)), x7, x8, x9, x10, x11, x12, x13] (M13 K T.C_Mast s pd p n r j) := by
  have h0 := tk_nn (s := s) (k := j + 1) (m := 4) (by decide)
  have h1 := tk_lt (s := s) (k := j + 1) (m := 4) (by decide)
  obtain ⟨i, hi⟩ : ∃ i : Nat, tk s (j + 1) 4 = (i : Int) := ⟨_, (Int.toNat_of_nonneg h0).symm⟩
  have hlt : i < 4 := by omega
  walk_at "seq"
  with_reducible apply c_par3 (x := dat (.str (nm i))) (y := dat (.int (1 + tk s (j + 1 + 1) 9))) (z := dat (frD t)) (M1 := M13 K T.C_Mast s pd p n r (j + 1 + 1))
  case h =>
    refine ea_cons (M1 := M13 K T.C_Mast s pd p n r (j + 1)) (ev_nm ?_ hlt) (ea_cons (M1 := M13 K T.C_Mast s pd p n r (j + 1 + 1)) ?_ (ea_cons (M1 := M13 K T.C_Mast s pd p n r (j + 1 + 1)) ?_ ea_nil))
    · rw [← hi]
      walk_at "sx"
    · walk_at "sx"
    · walk_at "sx"
  case h1 => walk_at "sx"
  case h2 => walk_at "sx"
  case h3 => walk_at "sx"
  case k => exact tests13 (nm_ok i hlt) hD
def J13' (K : PySem.W.Frag) (C : Addr) (s : List Int) (pd p : Addr) (ls : List (Int × Rows)) (t : Int) : Sx.Env → Cells → Prop := fun ρ' M' => ∃ n r j x7 x8, ρ' = [some (vscr K s), some (val (.ref pd)), some (lsV ls), some (val (.ref p)), some (zr r), some (dat (.int n)), some (dat (.int t)), x7, x8, none, none, none, none, none] ∧ M' = M13 K C s pd p n r j
theorem turn13 (hl : 0 < ls.length) (hD : D.nx = InvK Ψ (J13 K T.C_Mast s pd p ls)) :
    Cont (rd_law_4 K T D) Ψ [some (vscr K s), some (val (.ref pd)), some (lsV ls), some (val (.ref p)), some (zr r), some (dat (.int n)), some (dat (.int t)), none, none, none, none, none, none, none] (M13 K T.C_Mast s pd p n r j) := by
  have hC := T.F_Mast
  walk_at "st"
  generalize tk s (j + 1) 6 = v
  with_reducible apply c_cutW (J13' K T.C_Mast s pd p ls t)
  case k =>
    rintro ρ' M' ⟨n, r, j, x7, x8, rfl, rfl⟩
    exact ask13 hD
  case h =>
    walk_at "if"
    case h1 =>
      intro hb
      walk_at "seq"
      refine c_asgR (er_call (ds := [val (.ref pd), lsV ls]) (M1 := M13 K T.C_Mast s pd p n r (j + 1)) (by walk_at "sx") rfl (pick_er (M' := M13 K T.C_Mast s pd p n r (j + 1 + 1)) hl (by walk_at "sx"))) ?_
      rintro y M1 ⟨⟨m, r'⟩, rfl, rfl⟩
      apply asgR_k <;> (first | walk_at "sx" | skip)
      show Cont (rd_law_7 K T _) Ψ [some (vscr K s), some (val (.ref pd)), some (lsV ls), some (val (.ref p)), some (zr r), some (dat (.int n)), some (dat (.int t)), some (dat (.int v)), some (vtup [dat (.int m), zr r']), none, none, none, none, none] _
      walk_at "seq"
      refine c_drop (ev_meth (ds := [dat (.int m), zr r']) (M1 := M13 K T.C_Mast s pd p n r (j + 1 + 1)) (M2 := M13 K T.C_Mast s pd p n r (j + 1 + 1)) (M3 := [(pd, cDraw K s (j + 1 + 1)), (p, if n ≤ m then mI T.C_Mast m r' else mI T.C_Mast n r)]) ?_ (.tail _ (.head _)) (by decide +kernel) ?_ rfl (mtake_ev (n := n) (r := r) ?_)) ?_
      · walk_at "sx"
      · refine ea_cons (ev_op (ev_var ?_) ev_int (rv_ixTV (ds := [dat (.int m), zr r']) istv_vtup rfl)) (ea_cons (ev_op (ev_var ?_) ev_int (rv_ixTV (ds := [dat (.int m), zr r']) istv_vtup rfl)) ea_nil)
        · walk_at "sx"
        · walk_at "sx"
      · walk_at "sx"
      · with_reducible apply c_if (b := decide (n ≤ m)) (M1 := [(pd, cDraw K s (j + 1 + 1)), (p, if n ≤ m then mI T.C_Mast m r' else mI T.C_Mast n r)])
        case h =>
          refine et_test (ev_op (x := dat (.int m)) (y := dat (.int n)) (ev_op (ev_var ?_) ev_int (rv_ixTV (ds := [dat (.int m), zr r']) istv_vtup rfl)) (ev_var ?_) ?_)
          · walk_at "sx"
          · walk_at "sx"
          · walk_at "sx"
        case h1 =>
          intro hb
          rw [if_pos (of_decide_eq_true hb)]
          walk_at "st"
          exact c_inv ⟨_, _, _, _, _, rfl, rfl⟩ (Le.refl _)
        case h2 =>
          intro hb
          rw [if_neg (of_decide_eq_false hb)]
          walk_at "st"
          exact c_inv ⟨_, _, _, _, _, rfl, rfl⟩ (Le.refl _)
    case h2 =>
      intro hb
      by_cases hv : v = 3
      · subst hv
        with_reducible apply c_if (b := decide (tk s (j + 1 + 1) 2 = 0)) (M1 := M13 K T.C_Mast s pd p n r (j + 1 + 1))
        case h =>
          apply et_andT
          · apply EvT.eq
            · walk_at "sx"
            · exact decide_eq_true rfl
          · walk_at "sx"
        case h1 =>
          intro hb
          walk_at "st"
          show Cont (rd_law_13 K T _) _ _ _
          with_reducible apply c_asg (x := zr []) (M1 := M13 K T.C_Mast s pd p n [] (j + 1 + 1))
          case h => exact ev_tupZ ed_nil (by decide)
          case hs => walk_at "sx"
          · exact c_inv ⟨_, _, _, _, _, rfl, rfl⟩ (Le.refl _)
        case h2 =>
          intro hb
          walk_at "st"
          exact c_inv ⟨_, _, _, _, _, rfl, rfl⟩ (Le.refl _)
      · with_reducible apply c_if (b := false) (M1 := M13 K T.C_Mast s pd p n r (j + 1))
        case h =>
          apply et_andF
          apply EvT.eq
          · walk_at "sx"
          · exact decide_eq_false hv
        case h1 => intro hb; cases hb
        case h2 =>
          intro hb
          walk_at "st"
          exact c_inv ⟨_, _, _, _, _, rfl, rfl⟩ (Le.refl _)
end

end Lw


set_option Elab.async false
set_option linter.all false
set_option maxRecDepth 100000
set_option maxHeartbeats 4000000
namespace Lw
open PySem L2 Sx
/-! ### steps -/
local macro_rules | `(tactic| walk_at "shp") => `(tactic| first
  | exact shp_int
  | exact shp_none
  | exact shp_bool
  | exact shp_oi _
  | (apply shp_str; first | decide +kernel | assumption)
  | (apply shp_list; walk_at "shpA")
  | (apply shp_tuple; walk_at "shpA")
  | assumption)
local macro_rules | `(tactic| walk_at "shpA") => `(tactic| first
  | exact shpA_nil
  | (apply shpA_cons; (· walk_at "shp"); walk_at "shpA")
  | (apply shpA_map; intro _ _; walk_at "shp"))
/-- what is left beside: closed, or left -/
local macro_rules | `(tactic| walk_at "side") => `(tactic| first
  | (with_reducible show Shp _ _); walk_at "shp"
  | (with_reducible show _ ≤ sizeLine); first | decide | (show _ ≤ 16777216; omega) | (show _ ≤ 16777216; simp only [List.length_map, List.length_append, List.length_cons, List.length_nil]; omega)
  | (with_reducible show _ < sizeLine); first | decide | (show _ < 16777216; omega) | (show _ < 16777216; simp only [List.length_map, List.length_append, List.length_cons, List.length_nil]; omega)
  | (with_reducible show CMul _ _); first | exact Or.inr ⟨by decide, by decide⟩ | exact Or.inl ⟨by decide, by decide⟩ | exact Or.inl ⟨by omega, by omega⟩ | exact Or.inr ⟨by omega, by omega⟩
  | (with_reducible show CPow _ _); exact ⟨by decide, by decide, by decide⟩
  | (with_reducible show CDiv _ _); first | exact ⟨by decide, by decide⟩ | exact ⟨by omega, by omega⟩
  | (with_reducible show Le _ _); first | with_reducible exact Le.refl _ | with_reducible assumption
  | (with_reducible show L2.atI _ _ = _); first | with_reducible assumption | exact rfl | exact atI_nat rfl
  | (with_reducible show _ < _); first | with_reducible assumption | decide | omega
  | (with_reducible show _ ≤ _); first | with_reducible assumption | decide | omega
  | (with_reducible show _ ∧ _); omega
  | (with_reducible show ∀ i, i ∈ _ → i ∈ _); decide
  | (with_reducible show (_ : Nat) = _); first | exact rfl | omega)
local macro_rules | `(tactic| walk_at "rm") => `(tactic| first
  | exact Rm.here
  | (apply Rm.there; walk_at "rm"))
local macro_rules | `(tactic| walk_at "perm") => `(tactic| first
  | with_reducible exact List.Perm.refl _
  | (apply perm_step; (· walk_at "rm"); walk_at "perm")
  | exact List.Perm.refl _)
local macro_rules | `(tactic| walk_at "pk") => `(tactic| first
  | with_reducible exact Pk.here
  | ((with_reducible apply Pk.there); walk_at "pk"))
/-- a part of a reading: what it gives. One word for all kinds -/
local macro_rules | `(tactic| walk_at "sx") => `(tactic| first
  -- an expression
  | with_reducible exact ev_int
  | with_reducible exact ev_bl
  | with_reducible exact ev_str
  | with_reducible exact ev_non
  | (with_reducible apply ev_var) <;> walk_at "sx"
  | (with_reducible apply ev_op) <;> walk_at "sx"
  | (with_reducible apply ev_fld) <;> walk_at "sx"
  | (with_reducible apply ev_cb) <;> walk_at "sx"
  | (with_reducible apply ev_tupD) <;> walk_at "sx"
  | (with_reducible apply ev_lstD) <;> walk_at "sx"
  | (with_reducible apply ev_tupV) <;> walk_at "sx"
  | (with_reducible apply ev_lstV) <;> walk_at "sx"
  | (with_reducible apply ev_slL) <;> walk_at "sx"
  | (with_reducible apply ev_slT1) <;> walk_at "sx"
  | (with_reducible apply ev_slT) <;> walk_at "sx"
  | (with_reducible apply ev_un) <;> walk_at "sx"
  | (with_reducible apply ev_chain) <;> walk_at "sx"
  | (with_reducible apply ev_andV) <;> walk_at "sx"
  | (with_reducible apply ev_orV) <;> walk_at "sx"
  | (with_reducible apply ev_notV) <;> walk_at "sx"
  | (with_reducible apply ev_lcY) <;> walk_at "sx"
  | (with_reducible apply ev_lc) <;> walk_at "sx"
  | ((with_reducible show ∀ a, a ∈ _ → ∃ ρ'' js, _); intro a ha; dsimp only [wipeE, List.set]; (first | with_reducible apply lcY_k | with_reducible apply lcF_k) <;> walk_at "sx")
  | (with_reducible apply ev_call) <;> walk_at "sx"
  | (with_reducible apply ev_meth) <;> walk_at "sx"
  | (with_reducible apply ev_bm) <;> walk_at "sx"
  | (with_reducible show Ev _ _ _ _ _); walk_at "own"
  -- a test
  | with_reducible exact et_yes
  | (with_reducible apply et_test) <;> walk_at "sx"
  | (with_reducible apply et_B) <;> walk_at "sx"
  | (with_reducible apply et_not) <;> walk_at "sx"
  | (with_reducible apply et_and) <;> walk_at "sx"
  | (with_reducible apply et_or) <;> walk_at "sx"
  -- arguments
  | with_reducible exact ea_nil
  | (with_reducible apply ea_cons) <;> walk_at "sx"
  | with_reducible exact ed_nil
  | (with_reducible apply ed_cons) <;> walk_at "sx"
  | with_reducible exact eo_none
  | (with_reducible apply eo_some) <;> walk_at "sx"
  -- what an operation gives
  | with_reducible exact rv_addI
  | with_reducible exact rv_int0
  | with_reducible exact rv_bl0
  | with_reducible exact rv_eqI
  | with_reducible exact rv_neI
  | with_reducible exact rv_eqS
  | with_reducible exact rv_neS
  | with_reducible exact rv_isN
  | with_reducible exact rv_notN
  | (with_reducible apply rv_intC) <;> walk_at "sx"
  | (with_reducible apply rv_addS) <;> walk_at "sx"
  | (with_reducible apply rv_ixL isl_dat) <;> walk_at "sx"
  | (with_reducible apply rv_ixT ist_dat) <;> walk_at "sx"
  | (with_reducible apply rv_ixL) <;> walk_at "sx"
  | (with_reducible apply rv_ixLV) <;> walk_at "sx"
  | (apply rv_ixT ist_dat) <;> walk_at "sx"
  | (with_reducible apply rv_ixTV istv_vtup) <;> walk_at "sx"
  | (with_reducible apply rv_ixScr) <;> walk_at "sx"
  | (apply rv_ixL isl_dat) <;> walk_at "sx"
  | (with_reducible apply rv_ixL) <;> walk_at "sx"
  | (apply rv_cat) <;> walk_at "sx"
  | (with_reducible apply rv_eqD) <;> walk_at "sx"
  | (with_reducible apply rv_neD) <;> walk_at "sx"
  | with_reducible exact ru_neg
  | with_reducible exact rc_int
  | with_reducible exact rc_abs
  | with_reducible exact rc_max2
  | with_reducible exact rc_min2
  | with_reducible exact rc_lenScr
  | with_reducible exact rc_lenM isl_dat
  | ((with_reducible apply rc_lenM); (with_reducible apply isl_cell) <;> walk_at "sx")
  | with_reducible exact rc_lenMT
  | (with_reducible apply rc_lenL) <;> walk_at "sx"
  | (apply rc_lenT ist_dat)
  | (with_reducible apply rc_tupL) <;> walk_at "sx"
  | (apply rc_tupT)
  | (with_reducible apply rc_lstL) <;> walk_at "sx"
  | (apply rc_lstT ist_dat)
  | with_reducible exact rc_anyM
  | with_reducible exact rc_allM
  | ((with_reducible apply rm_append) <;> walk_at "sx")
  -- lists, tuples, data
  | with_reducible exact isl_dat
  | with_reducible exact isd_dat
  | with_reducible exact isd_scr
  | (with_reducible apply isl_cell) <;> walk_at "sx"
  | (with_reducible apply islv_cell) <;> walk_at "sx"
  | with_reducible exact islv_vlst
  | (with_reducible apply isd_cell) <;> walk_at "sx"
  | (with_reducible apply isd_vtup) <;> walk_at "sx"
  | (with_reducible apply isd_vlst) <;> walk_at "sx"
  | with_reducible exact isds_nil
  | (with_reducible apply isds_cons) <;> walk_at "sx"
  | with_reducible exact fzl_dat
  | with_reducible exact fzl_v
  | with_reducible exact fzt_dat
  | with_reducible exact fzt_v
  | (with_reducible apply ity_l) <;> walk_at "sx"
  | with_reducible exact ity_s
  | (with_reducible apply IsLst.v) <;> walk_at "sx"
  -- places
  | with_reducible exact At.here
  | (with_reducible apply At.there) <;> walk_at "sx"
  | with_reducible exact SetAt.here
  | (with_reducible apply SetAt.there) <;> walk_at "sx"
  | with_reducible exact List.mem_cons_self
  | (with_reducible apply List.mem_cons_of_mem) <;> walk_at "sx"
  | ((with_reducible show (_ : Addr × CD) ∈ _); with_reducible assumption)
  | with_reducible exact Put.here
  | (with_reducible apply Put.there) <;> walk_at "sx"
  | ((with_reducible show Put _ _ _ _ _); with_reducible assumption)
  | ((with_reducible show Sw _ _ _ _); with_reducible assumption)
  | with_reducible exact sw_nil
  | ((with_reducible apply sw_pick); (· walk_at "pk"); walk_at "sx")
  | ((with_reducible apply sw_skip); walk_at "sx")
  | with_reducible exact FGet.here
  | ((with_reducible apply FGet.there); (· decide +kernel); walk_at "sx")
  | with_reducible exact FPut.here
  | with_reducible exact FPut.new
  | ((with_reducible apply FPut.there); (· decide +kernel); walk_at "sx")
  | (with_reducible show ClsF _ _ _); with_reducible assumption
  | (with_reducible show RtQ _ _ _); assumption
  | (with_reducible show (_ : Str) ∈ _); decide +kernel
  | (with_reducible show ¬ (_ : Str) ∈ _); decide +kernel
  -- what is walked, targets
  | (with_reducible apply ei_rng1) <;> walk_at "sx"
  | (with_reducible apply ei_rng2) <;> walk_at "sx"
  | (with_reducible apply ei_enumD) <;> walk_at "sx"
  | (with_reducible apply ei_enum) <;> walk_at "sx"
  | (with_reducible apply ei_zip) <;> walk_at "sx"
  | (with_reducible apply ei_seqLM) <;> walk_at "sx"
  | (with_reducible apply ei_seqTM) <;> walk_at "sx"
  | (with_reducible apply ei_seqL) <;> walk_at "sx"
  | (with_reducible apply ei_seqT) <;> walk_at "sx"
  | (with_reducible apply tg_name) <;> walk_at "sx"
  | (with_reducible apply tg_tup istv_vtup) <;> walk_at "sx"
  | (with_reducible apply td_tup) <;> walk_at "sx"
  | with_reducible exact td_nil
  | (with_reducible apply td_cons) <;> walk_at "sx"
  | with_reducible exact tgs_nil
  | (with_reducible apply tgs_cons) <;> walk_at "sx"
  -- beside
  | walk_at "spec"
  | walk_at "side"
  | walk_at "leave")
/-- a question of another kind is left -/
local macro_rules | `(tactic| walk_at "leave") => `(tactic| first
  | with_reducible show Cont _ _ _ _
  | with_reducible show Shp _ _
  | with_reducible show _ ≤ _
  | with_reducible show _ < _
  | with_reducible show CMul _ _
  | with_reducible show CDiv _ _
  | with_reducible show CPow _ _
  | with_reducible show _ = _
  | with_reducible show Le _ _
  | ((with_reducible show _ = true → _); with_reducible assumption)
  | ((with_reducible show _ = true → _); intro _; walk_at "sx")
  | ((with_reducible show _ = false → _); intro _; walk_at "sx"))
/-- a plain statement -/
local macro_rules | `(tactic| walk_at "st") => `(tactic| first
  | (with_reducible apply c_seq); walk_at "st"
  | (with_reducible apply c_asg) <;> (first | walk_at "sx" | skip)
  | (with_reducible apply c_asgG) <;> (first | walk_at "sx" | skip)
  | (with_reducible apply c_par) <;> (first | walk_at "sx" | skip)
  | (with_reducible apply c_par3) <;> (first | walk_at "sx" | skip)
  | (with_reducible apply c_aug) <;> (first | walk_at "sx" | skip)
  | (with_reducible apply c_augS) <;> (first | walk_at "sx" | skip)
  | (with_reducible apply c_fld) <;> (first | walk_at "sx" | skip)
  | (with_reducible apply c_drop) <;> (first | walk_at "sx" | skip)
  | with_reducible apply c_next
  | with_reducible apply c_break
  | with_reducible apply c_cont)
/-- a value is handed back; a word is met again -/
local macro_rules | `(tactic| walk_at "ret") => `(tactic| (with_reducible apply c_ret) <;> (first | walk_at "sx" | skip))
local macro_rules | `(tactic| walk_at "inv") => `(tactic| (with_reducible apply c_inv) <;> (first | walk_at "side" | skip))
local macro_rules | `(tactic| walk_at "seq") => `(tactic| with_reducible apply c_seq)
local macro_rules | `(tactic| walk_at "cut") => `(tactic| with_reducible apply c_cut)
local macro_rules | `(tactic| walk_at "if") => `(tactic| ((with_reducible apply c_if); (case' h => first | walk_at "sx" | skip)))
local macro_rules | `(tactic| walk_at "fgt") => `(tactic| first
  | exact Fgt.nil
  | (with_reducible apply Fgt.keep; walk_at "fgt")
  | (with_reducible apply Fgt.drop; walk_at "fgt"))

/-! ### more steps: stars, dicts, tuples -/
local macro_rules | `(tactic| walk_at "sx") => `(tactic| first
  | (with_reducible apply ed_starT) <;> walk_at "sx"
  | (with_reducible apply ev_dgetS) <;> walk_at "sx"
  | with_reducible exact isdi_v
  | (with_reducible apply isdi_c) <;> walk_at "sx"
  | (with_reducible apply rv_catTd) <;> walk_at "sx"
  | with_reducible exact ist_dat
  | ((with_reducible show ¬ (_ : Int) < _); with_reducible assumption)
  | ((with_reducible show valG _ _ = _); walk_at "get")
  | ((with_reducible show putG _ _ _ = _); walk_at "get"))

local macro_rules | `(tactic| walk_at "own") => `(tactic| exact ev_dnewK)
section
variable {K : PySem.W.Frag} {mg : Str → Option Value} {T : Tx K mg} {s : List Int} {pd : Addr} {Ψ Φ : Fr}
theorem len_snoc {α : Type} {xs : List α} {x : α} {i : Nat} (h : xs.length = i) : (xs ++ [x]).length = i + 1 := by rw [List.length_append, h]; rfl
/-- one list's pairs -/
theorem pairs13 {ρ : Sx.Env} {j : Int} {x13 : Option VD} (hρ : ∀ d : VD, ∃ ρ', SetAt d (wipeE ρ [13]) 13 ρ' ∧ At (val (.ref pd)) ρ' 1 ∧ At d ρ' 13) (h1 : At (val (.ref pd)) ρ 1) :
    EvR (tLc (iRng1 (tCons (tCall (spF 2 (S_law_take K T)) [] E0 (tCons (tVar 1) (tCons (tC (.int 4)) tNil))) tNil)) (gName 13) tYes (tTup (tCons (tOp (rAddU K) (tC (.str "c")) (tCB (rStrInt) (tCons (tVar 13) tNil))) (tCons (tOp (rAddU K) (tC (.int 1)) (tCall (spF 2 (S_law_take K T)) [] E0 (tCons (tVar 1) (tCons (tC (.int 9)) tNil)))) tNil))) [13]) ρ [(pd, cDraw K s j)]
      (fun y N => ∃ (r : Rows) (j' : Int), y = vlst (((rk r).map encPr).map dat) ∧ N = [(pd, cDraw K s j')]) := by
  have h0 := tk_nn (s := s) (k := j + 1) (m := 4) (by decide)
  have h2 := tk_lt (s := s) (k := j + 1) (m := 4) (by decide)
  refine (er_lc (its := irange 0 (tk s (j + 1) 4).toNat) (M1 := [(pd, cDraw K s (j + 1))]) ?_ (fun i acc M' => ∃ (r : Rows) (j' : Int), acc = ((rk r).map encPr).map dat ∧ r.length = i ∧ M' = [(pd, cDraw K s j')]) ⟨[], j + 1, rfl, rfl, rfl⟩ ?_ ?_ ?_).imp ?_
  · refine ei_rng1 (ea_cons (ev_call (ds := [val (.ref pd), dat (.int 4)]) (M1 := [(pd, cDraw K s j)]) (ea_cons (ev_var h1) (ea_cons ev_int ea_nil)) rfl (take_ev .here (by decide))) ea_nil) (by omega)
  · rw [show (irange 0 (tk s (j + 1) 4).toNat).length = (tk s (j + 1) 4).toNat by simp [irange]]
    omega
  · rintro i acc M' ⟨r, j', rfl, rfl, rfl⟩
    simp
  · rintro i d acc M' hi ⟨r, j', rfl, hr, rfl⟩
    have hi4 : i < 4 := by
      have := (List.getElem?_eq_some_iff.mp hi).1
      rw [show (irange 0 (tk s (j + 1) 4).toNat).length = (tk s (j + 1) 4).toNat by simp [irange]] at this
      omega
    have hd : d = dat (.int (i : Int)) := by
      unfold irange at hi
      rw [List.getElem?_map] at hi
      cases h : (List.range (tk s (j + 1) 4).toNat)[i]? with
      | none => rw [h] at hi; cases hi
      | some a =>
        rw [h] at hi
        have e := List.getElem?_eq_some_iff.mp h
        obtain ⟨e1, e2⟩ := e
        rw [List.getElem_range] at e2
        subst e2
        have := Option.some.inj hi
        rw [← this]
        show dat (.int (0 + (i : Int))) = _
        rw [Int.zero_add]
    subst hd
    obtain ⟨ρ', g1, g2, g3⟩ := hρ (dat (.int (i : Int)))
    refine ⟨ρ', [13], true, [(pd, cDraw K s j')], tg_name g1, fun _ h => h, et_yes, fun _ => ?_, fun h => Bool.noConfusion h⟩
    refine Ev.er (x := dat (.tuple [.str (nm i), .int (1 + tk s (j' + 1) 9)])) (M' := [(pd, cDraw K s (j' + 1))]) (ev_tupD (ed_cons (ev_nm (ev_var g3) hi4) (ed_cons (ev_op ev_int (ev_call (ds := [val (.ref pd), dat (.int 9)]) (M1 := [(pd, cDraw K s j')]) (ea_cons (ev_var g2) (ea_cons ev_int ea_nil)) rfl (take_ev .here (by decide))) rv_addI) ed_nil)) (by show 2 ≤ 16777216; decide)) ⟨r ++ [(nm i, 1 + tk s (j' + 1) 9)], j' + 1, ?_, len_snoc hr, rfl⟩
    simp [encPr, kD]
  · rintro x M' ⟨acc, rfl, r, j', rfl, _, rfl⟩
    exact ⟨r, j', rfl, rfl⟩
end
theorem law_body {K : PySem.W.Frag} {mg : Str → Option Value} (T : Tx K mg) : ∀ Q ds M P Φ, ds.length = 1 → S_law K T ds M P → RtQ Q Φ P → Cont (rd_law_0 K T (fnD Q)) Φ (entry ["_law_script", "_law_draw", "_law_lists", "_law_mast", "_law_rows", "_law_number_here", "_law_turn", "_law_kind", "_law_late", "_law_call", "_law_epoch", "_law_frame", "_law_own", "_law_at"] ds) M := by
  rintro Q ds M P Φ - ⟨s, rfl, rfl, hs63, hP⟩ hQ
  have hC := T.F_Mast
  show Cont _ _ [some (vscr K s), none, none, none, none, none, none, none, none, none, none, none, none, none] _
  walk_at "seq"
  refine c_asgR (er_lstC (ds := [vscr K s, dat (.int 0)]) (by walk_at "sx") (by walk_at "side")) ?_
  rintro y M1 ⟨pd, rfl, rfl⟩
  apply asgR_k <;> (first | walk_at "sx" | skip)
  walk_at "seq"
  refine c_asgR (P := fun y N => ∃ (ls : List (Int × Rows)) (j : Int), y = lsV ls ∧ ls.length = 6 ∧ N = [(pd, cDraw K s j)]) ?_ ?_
  · refine (er_lc (its := irange 0 6) (M1 := [(pd, cDraw K s 0)]) (ei_rng1 (ea_cons ev_int ea_nil) (by decide)) (fun i acc M' => ∃ (ls : List (Int × Rows)) (j' : Int), acc = ls.map (fun l => vtup [dat (.int l.1), zr l.2]) ∧ ls.length = i ∧ M' = [(pd, cDraw K s j')]) ⟨[], 0, rfl, rfl, rfl⟩ (by decide) ?_ ?_).imp ?_
    · rintro i acc M' ⟨r, j', rfl, rfl, rfl⟩
      rw [List.length_map]
      exact Nat.le_refl _
    · rintro i d acc M' hi ⟨ls, j', rfl, hr, rfl⟩
      obtain ⟨n, rfl⟩ : ∃ n : Int, d = dat (.int n) := by
        unfold irange at hi
        rw [List.getElem?_map] at hi
        cases h : (List.range 6)[i]? with
        | none => rw [h] at hi; cases hi
        | some a => rw [h] at hi; exact ⟨_, (Option.some.inj hi).symm⟩
      refine ⟨[some (vscr K s), some (val (.ref pd)), none, none, none, some (dat (.int n)), none, none, none, none, none, none, none, none], [5], true, [(pd, cDraw K s j')], tg_name (.there (.there (.there (.there (.there .here))))), fun _ h => h, et_yes, fun _ => ?_, fun h => Bool.noConfusion h⟩
      refine er_tupV (ear_cons (Pa := fun y N => y = dat (.int (n + 1)) ∧ N = [(pd, cDraw K s j')]) (Ev.er (x := dat (.int (n + 1))) (M' := [(pd, cDraw K s j')]) (by walk_at "sx") ⟨rfl, rfl⟩) ?_)
      rintro x M1 ⟨rfl, rfl⟩
      refine ear_cons (Pa := fun y N => ∃ r j, y = zr r ∧ N = [(pd, cDraw K s j)]) (er_cb (ear_cons (pairs13 (x13 := none) (fun d => ⟨[some (vscr K s), some (val (.ref pd)), none, none, none, some (dat (.int n)), none, none, none, none, none, none, none, some d], ?_, .there .here, ?_⟩) (.there .here)) ?_)) ?_
      · show SetAt d [some (vscr K s), some (val (.ref pd)), none, none, none, some (dat (.int n)), none, none, none, none, none, none, none, none] 13 _
        walk_at "sx"
      · walk_at "sx"
      · rintro x M1 ⟨r, j, rfl, rfl⟩
        exact ear_nil ⟨zr r, [(pd, cDraw K s j)], rc_tupZv, r, j, rfl, rfl⟩
      · rintro x M1 ⟨r, j, rfl, rfl⟩
        refine ear_nil ⟨by show 2 ≤ 16777216; decide, ls ++ [(n + 1, r)], j, ?_, len_snoc hr, rfl⟩
        rw [List.map_append]
        rfl
    · rintro x M' ⟨acc, rfl, ls, j', rfl, hl, rfl⟩
      exact ⟨ls, j', rfl, hl, rfl⟩
  rintro y M1 ⟨ls, j, rfl, hl, rfl⟩
  apply asgR_k <;> (first | walk_at "sx" | skip)
  show Cont (rd_law_2 K T (fnD Q)) Φ [some (vscr K s), some (val (.ref pd)), some (lsV ls), none, none, none, none, none, none, none, none, none, none, none] _
  walk_at "seq"
  refine c_par3R (P := fun xs N => ∃ p, xs = [val (.ref p), zr [], dat (.int 0)] ∧ N = [(p, mI T.C_Mast 0 []), (pd, cDraw K s j)]) ?_ ?_
  · refine ear_cons (er_make (P := fun y N => ∃ p, y = val (.ref p) ∧ N = [(p, mI T.C_Mast 0 []), (pd, cDraw K s j)]) (ds := [dat (.str "m0")]) (by walk_at "sx") rfl fun p => ⟨p, _, rfl, rfl, rfl, p, rfl, rfl⟩) ?_
    rintro x M1 ⟨p, rfl, rfl⟩
    refine EvAR.of (ds := [zr [], dat (.int 0)]) (M1 := [(p, mI T.C_Mast 0 []), (pd, cDraw K s j)]) (ea_cons (ev_tupZ ed_nil (by decide)) (ea_cons ev_int ea_nil)) ⟨p, rfl, rfl⟩
  rintro xs M1 ⟨p, rfl, rfl⟩
  refine ⟨_, _, _, _, _, _, rfl, .there (.there (.there .here)), .there (.there (.there (.there .here))), .there (.there (.there (.there (.there .here)))), ?_⟩
  with_reducible apply c_perm (M' := M13 K T.C_Mast s pd p 0 [] j)
  · walk_at "perm"
  show Cont (rd_law_3 K T (fnD Q)) Φ _ _
  walk_at "cut"
  with_reducible apply c_for (its := irange 0 25) (M1 := M13 K T.C_Mast s pd p 0 [] j) (I := fun _ => J13 K T.C_Mast s pd p ls)
  case h => exact ei_rng1 (ea_cons ev_int ea_nil) (by decide)
  case h0 => exact ⟨_, _, _, rfl, rfl⟩
  case hd =>
    rintro ρ' M' ⟨n, r, j, rfl, rfl⟩
    show Cont (rd_law_26 K T (fnD Q)) Φ _ _
    exact c_ret (D := fnD Q) ev_bl hQ (hP _) (Le.refl _)
  case hs =>
    rintro Ψ hΨ i d ρ' M' hi ⟨n, r, j, rfl, rfl⟩
    obtain ⟨t, rfl⟩ : ∃ t : Int, d = dat (.int t) := by
      unfold irange at hi
      rw [List.getElem?_map] at hi
      cases h : (List.range 25)[i]? with
      | none => rw [h] at hi; cases hi
      | some a => rw [h] at hi; exact ⟨_, (Option.some.inj hi).symm⟩
    apply for_k <;> (first | walk_at "sx" | skip)
    exact turn13 (by omega) rfl

end Lw


set_option Elab.async false
set_option linter.all false
set_option maxRecDepth 100000
set_option maxHeartbeats 4000000
namespace Lw
open PySem L2 Sx
/-! ### steps -/
local macro_rules | `(tactic| walk_at "shp") => `(tactic| first
  | exact shp_int
  | exact shp_none
  | exact shp_bool
  | exact shp_oi _
  | (apply shp_str; first | decide +kernel | assumption)
  | (apply shp_list; walk_at "shpA")
  | (apply shp_tuple; walk_at "shpA")
  | assumption)
local macro_rules | `(tactic| walk_at "shpA") => `(tactic| first
  | exact shpA_nil
  | (apply shpA_cons; (· walk_at "shp"); walk_at "shpA")
  | (apply shpA_map; intro _ _; walk_at "shp"))
/-- what is left beside: closed, or left -/
local macro_rules | `(tactic| walk_at "side") => `(tactic| first
  | (with_reducible show Shp _ _); walk_at "shp"
  | (with_reducible show _ ≤ sizeLine); first | decide | (show _ ≤ 16777216; omega) | (show _ ≤ 16777216; simp only [List.length_map, List.length_append, List.length_cons, List.length_nil]; omega)
  | (with_reducible show _ < sizeLine); first | decide | (show _ < 16777216; omega) | (show _ < 16777216; simp only [List.length_map, List.length_append, List.length_cons, List.length_nil]; omega)
  | (with_reducible show CMul _ _); first | exact Or.inr ⟨by decide, by decide⟩ | exact Or.inl ⟨by decide, by decide⟩ | exact Or.inl ⟨by omega, by omega⟩ | exact Or.inr ⟨by omega, by omega⟩
  | (with_reducible show CPow _ _); exact ⟨by decide, by decide, by decide⟩
  | (with_reducible show CDiv _ _); first | exact ⟨by decide, by decide⟩ | exact ⟨by omega, by omega⟩
  | (with_reducible show Le _ _); first | with_reducible exact Le.refl _ | with_reducible assumption
  | (with_reducible show L2.atI _ _ = _); first | with_reducible assumption | exact rfl | exact atI_nat rfl
  | (with_reducible show _ < _); first | with_reducible assumption | decide | omega
  | (with_reducible show _ ≤ _); first | with_reducible assumption | decide | omega
  | (with_reducible show _ ∧ _); omega
  | (with_reducible show ∀ i, i ∈ _ → i ∈ _); decide
  | (with_reducible show (_ : Nat) = _); first | exact rfl | omega)
local macro_rules | `(tactic| walk_at "rm") => `(tactic| first
  | exact Rm.here
  | (apply Rm.there; walk_at "rm"))
local macro_rules | `(tactic| walk_at "perm") => `(tactic| first
  | with_reducible exact List.Perm.refl _
  | (apply perm_step; (· walk_at "rm"); walk_at "perm")
  | exact List.Perm.refl _)
local macro_rules | `(tactic| walk_at "pk") => `(tactic| first
  | with_reducible exact Pk.here
  | ((with_reducible apply Pk.there); walk_at "pk"))
/-- a part of a reading: what it gives. One word for all kinds -/
local macro_rules | `(tactic| walk_at "sx") => `(tactic| first
  -- an expression
  | with_reducible exact ev_int
  | with_reducible exact ev_bl
  | with_reducible exact ev_str
  | with_reducible exact ev_non
  | (with_reducible apply ev_var) <;> walk_at "sx"
  | (with_reducible apply ev_op) <;> walk_at "sx"
  | (with_reducible apply ev_fld) <;> walk_at "sx"
  | (with_reducible apply ev_cb) <;> walk_at "sx"
  | (with_reducible apply ev_tupD) <;> walk_at "sx"
  | (with_reducible apply ev_lstD) <;> walk_at "sx"
  | (with_reducible apply ev_tupV) <;> walk_at "sx"
  | (with_reducible apply ev_lstV) <;> walk_at "sx"
  | (with_reducible apply ev_slL) <;> walk_at "sx"
  | (with_reducible apply ev_slT1) <;> walk_at "sx"
  | (with_reducible apply ev_slT) <;> walk_at "sx"
  | (with_reducible apply ev_un) <;> walk_at "sx"
  | (with_reducible apply ev_chain) <;> walk_at "sx"
  | (with_reducible apply ev_andV) <;> walk_at "sx"
  | (with_reducible apply ev_orV) <;> walk_at "sx"
  | (with_reducible apply ev_notV) <;> walk_at "sx"
  | (with_reducible apply ev_lcY) <;> walk_at "sx"
  | (with_reducible apply ev_lc) <;> walk_at "sx"
  | ((with_reducible show ∀ a, a ∈ _ → ∃ ρ'' js, _); intro a ha; dsimp only [wipeE, List.set]; (first | with_reducible apply lcY_k | with_reducible apply lcF_k) <;> walk_at "sx")
  | (with_reducible apply ev_call) <;> walk_at "sx"
  | (with_reducible apply ev_meth) <;> walk_at "sx"
  | (with_reducible apply ev_bm) <;> walk_at "sx"
  | (with_reducible show Ev _ _ _ _ _); walk_at "own"
  -- a test
  | with_reducible exact et_yes
  | (with_reducible apply et_test) <;> walk_at "sx"
  | (with_reducible apply et_B) <;> walk_at "sx"
  | (with_reducible apply et_not) <;> walk_at "sx"
  | (with_reducible apply et_and) <;> walk_at "sx"
  | (with_reducible apply et_or) <;> walk_at "sx"
  -- arguments
  | with_reducible exact ea_nil
  | (with_reducible apply ea_cons) <;> walk_at "sx"
  | with_reducible exact ed_nil
  | (with_reducible apply ed_cons) <;> walk_at "sx"
  | with_reducible exact eo_none
  | (with_reducible apply eo_some) <;> walk_at "sx"
  -- what an operation gives
  | with_reducible exact rv_addI
  | with_reducible exact rv_int0
  | with_reducible exact rv_bl0
  | with_reducible exact rv_eqI
  | with_reducible exact rv_neI
  | with_reducible exact rv_eqS
  | with_reducible exact rv_neS
  | with_reducible exact rv_isN
  | with_reducible exact rv_notN
  | (with_reducible apply rv_intC) <;> walk_at "sx"
  | (with_reducible apply rv_addS) <;> walk_at "sx"
  | (with_reducible apply rv_ixL isl_dat) <;> walk_at "sx"
  | (with_reducible apply rv_ixT ist_dat) <;> walk_at "sx"
  | (with_reducible apply rv_ixL) <;> walk_at "sx"
  | (with_reducible apply rv_ixLV) <;> walk_at "sx"
  | (apply rv_ixT ist_dat) <;> walk_at "sx"
  | (with_reducible apply rv_ixTV istv_vtup) <;> walk_at "sx"
  | (with_reducible apply rv_ixScr) <;> walk_at "sx"
  | (apply rv_ixL isl_dat) <;> walk_at "sx"
  | (with_reducible apply rv_ixL) <;> walk_at "sx"
  | (apply rv_cat) <;> walk_at "sx"
  | (with_reducible apply rv_eqD) <;> walk_at "sx"
  | (with_reducible apply rv_neD) <;> walk_at "sx"
  | with_reducible exact ru_neg
  | with_reducible exact rc_int
  | with_reducible exact rc_abs
  | with_reducible exact rc_max2
  | with_reducible exact rc_min2
  | with_reducible exact rc_lenScr
  | with_reducible exact rc_lenM isl_dat
  | ((with_reducible apply rc_lenM); (with_reducible apply isl_cell) <;> walk_at "sx")
  | with_reducible exact rc_lenMT
  | (with_reducible apply rc_lenL) <;> walk_at "sx"
  | (apply rc_lenT ist_dat)
  | (with_reducible apply rc_tupL) <;> walk_at "sx"
  | (apply rc_tupT)
  | (with_reducible apply rc_lstL) <;> walk_at "sx"
  | (apply rc_lstT ist_dat)
  | with_reducible exact rc_anyM
  | with_reducible exact rc_allM
  | ((with_reducible apply rm_append) <;> walk_at "sx")
  -- lists, tuples, data
  | with_reducible exact isl_dat
  | with_reducible exact isd_dat
  | with_reducible exact isd_scr
  | (with_reducible apply isl_cell) <;> walk_at "sx"
  | (with_reducible apply islv_cell) <;> walk_at "sx"
  | with_reducible exact islv_vlst
  | (with_reducible apply isd_cell) <;> walk_at "sx"
  | (with_reducible apply isd_vtup) <;> walk_at "sx"
  | (with_reducible apply isd_vlst) <;> walk_at "sx"
  | with_reducible exact isds_nil
  | (with_reducible apply isds_cons) <;> walk_at "sx"
  | with_reducible exact fzl_dat
  | with_reducible exact fzl_v
  | with_reducible exact fzt_dat
  | with_reducible exact fzt_v
  | (with_reducible apply ity_l) <;> walk_at "sx"
  | with_reducible exact ity_s
  | (with_reducible apply IsLst.v) <;> walk_at "sx"
  -- places
  | with_reducible exact At.here
  | (with_reducible apply At.there) <;> walk_at "sx"
  | with_reducible exact SetAt.here
  | (with_reducible apply SetAt.there) <;> walk_at "sx"
  | with_reducible exact List.mem_cons_self
  | (with_reducible apply List.mem_cons_of_mem) <;> walk_at "sx"
  | ((with_reducible show (_ : Addr × CD) ∈ _); with_reducible assumption)
  | with_reducible exact Put.here
  | (with_reducible apply Put.there) <;> walk_at "sx"
  | ((with_reducible show Put _ _ _ _ _); with_reducible assumption)
  | ((with_reducible show Sw _ _ _ _); with_reducible assumption)
  | with_reducible exact sw_nil
  | ((with_reducible apply sw_pick); (· walk_at "pk"); walk_at "sx")
  | ((with_reducible apply sw_skip); walk_at "sx")
  | with_reducible exact FGet.here
  | ((with_reducible apply FGet.there); (· decide +kernel); walk_at "sx")
  | with_reducible exact FPut.here
  | with_reducible exact FPut.new
  | ((with_reducible apply FPut.there); (· decide +kernel); walk_at "sx")
  | (with_reducible show ClsF _ _ _); with_reducible assumption
  | (with_reducible show RtQ _ _ _); assumption
  | (with_reducible show (_ : Str) ∈ _); decide +kernel
  | (with_reducible show ¬ (_ : Str) ∈ _); decide +kernel
  -- what is walked, targets
  | (with_reducible apply ei_rng1) <;> walk_at "sx"
  | (with_reducible apply ei_rng2) <;> walk_at "sx"
  | (with_reducible apply ei_enumD) <;> walk_at "sx"
  | (with_reducible apply ei_enum) <;> walk_at "sx"
  | (with_reducible apply ei_zip) <;> walk_at "sx"
  | (with_reducible apply ei_seqLM) <;> walk_at "sx"
  | (with_reducible apply ei_seqTM) <;> walk_at "sx"
  | (with_reducible apply ei_seqL) <;> walk_at "sx"
  | (with_reducible apply ei_seqT) <;> walk_at "sx"
  | (with_reducible apply tg_name) <;> walk_at "sx"
  | (with_reducible apply tg_tup istv_vtup) <;> walk_at "sx"
  | (with_reducible apply td_tup) <;> walk_at "sx"
  | with_reducible exact td_nil
  | (with_reducible apply td_cons) <;> walk_at "sx"
  | with_reducible exact tgs_nil
  | (with_reducible apply tgs_cons) <;> walk_at "sx"
  -- beside
  | walk_at "spec"
  | walk_at "side"
  | walk_at "leave")
/-- a question of another kind is left -/
local macro_rules | `(tactic| walk_at "leave") => `(tactic| first
  | with_reducible show Cont _ _ _ _
  | with_reducible show Shp _ _
  | with_reducible show _ ≤ _
  | with_reducible show _ < _
  | with_reducible show CMul _ _
  | with_reducible show CDiv _ _
  | with_reducible show CPow _ _
  | with_reducible show _ = _
  | with_reducible show Le _ _
  | ((with_reducible show _ = true → _); with_reducible assumption)
  | ((with_reducible show _ = true → _); intro _; walk_at "sx")
  | ((with_reducible show _ = false → _); intro _; walk_at "sx"))
/-- a plain statement -/
local macro_rules | `(tactic| walk_at "st") => `(tactic| first
  | (with_reducible apply c_seq); walk_at "st"
  | (with_reducible apply c_asg) <;> (first | walk_at "sx" | skip)
  | (with_reducible apply c_asgG) <;> (first | walk_at "sx" | skip)
  | (with_reducible apply c_par) <;> (first | walk_at "sx" | skip)
  | (with_reducible apply c_par3) <;> (first | walk_at "sx" | skip)
  | (with_reducible apply c_aug) <;> (first | walk_at "sx" | skip)
  | (with_reducible apply c_augS) <;> (first | walk_at "sx" | skip)
  | (with_reducible apply c_fld) <;> (first | walk_at "sx" | skip)
  | (with_reducible apply c_drop) <;> (first | walk_at "sx" | skip)
  | with_reducible apply c_next
  | with_reducible apply c_break
  | with_reducible apply c_cont)
/-- a value is handed back; a word is met again -/
local macro_rules | `(tactic| walk_at "ret") => `(tactic| (with_reducible apply c_ret) <;> (first | walk_at "sx" | skip))
local macro_rules | `(tactic| walk_at "inv") => `(tactic| (with_reducible apply c_inv) <;> (first | walk_at "side" | skip))
local macro_rules | `(tactic| walk_at "seq") => `(tactic| with_reducible apply c_seq)
local macro_rules | `(tactic| walk_at "cut") => `(tactic| with_reducible apply c_cut)
local macro_rules | `(tactic| walk_at "if") => `(tactic| ((with_reducible apply c_if); (case' h => first | walk_at "sx" | skip)))
local macro_rules | `(tactic| walk_at "fgt") => `(tactic| first
  | exact Fgt.nil
  | (with_reducible apply Fgt.keep; walk_at "fgt")
  | (with_reducible apply Fgt.drop; walk_at "fgt"))

/-! ### more steps: stars, dicts, tuples -/
local macro_rules | `(tactic| walk_at "sx") => `(tactic| first
  | (with_reducible apply ed_starT) <;> walk_at "sx"
  | (with_reducible apply ev_dgetS) <;> walk_at "sx"
  | with_reducible exact isdi_v
  | (with_reducible apply isdi_c) <;> walk_at "sx"
  | (with_reducible apply rv_catTd) <;> walk_at "sx"
  | with_reducible exact ist_dat
  | ((with_reducible show ¬ (_ : Int) < _); with_reducible assumption)
  | ((with_reducible show valG _ _ = _); walk_at "get")
  | ((with_reducible show putG _ _ _ = _); walk_at "get"))

theorem ok_law_number {w : World} {K : PySem.W.Frag} {mg : Str → Option Value} {base : Heap} (T : Tx K mg)
    (R : ∀ Q ds M P Φ, ds.length = 2 → S_law_number K T ds M P → RtQ Q Φ P → Cont (rd_law_number_0 K T (fnD Q)) Φ (entry ["_law_script", "_law_index", "_law_cell", "_law_blend"] ds) M) :
    FnOk T.Pg w K mg base CX0 1 T.f_law_number T.fd_law_number ["_law_script", "_law_index"] (spF 2 (S_law_number K T)) := by
  refine T.F_law_number.ok sc_law_number (fun vs H Q E h => spF_len h) fun cdv A outer s H vs Q E hr h => ⟨(rd_law_number_0 K T), ?_, fn_start h (R Q)⟩
  exact (Evl.pss_cut (ps_if (pt_cmpR (op_eqU hr.units) (pv 0) (pe_lst pa_nil) (nomark _))
      (pss_one (ps_ret (pe_callTy call_int1' (by rfl) T.no_int (by decide +kernel) (pa_cons (pe_op op_mod (pe_op op_addU (pe_op op_mul (pv 1) pe_int) pe_int) pe_int) pa_nil))))
      pss_nil)
      (pss_cons (ps_set (i := 2) sc_law_number.nd rfl (by first | exact Or.inl rfl | exact Or.inr rfl) (pe_ix ix_seq (pv 0) (pe_op op_mod (pv 1) (pe_callB call_lenU (by rfl) T.no_len PySem.boot_len (pa_cons (pv 0) pa_nil))) (fun _ _ => rfl)))
      (Evl.pss_cut (ps_if (pt_cmpR op_ge (pe_callB call_abs' (by rfl) T.no_abs (by decide +kernel) (pa_cons (pv 2) pa_nil)) (pe_op op_pow pe_int pe_int) (nomark _))
      (pss_one (ps_set (i := 2) sc_law_number.nd rfl (by first | exact Or.inl rfl | exact Or.inr rfl) (pe_op op_mod (pv 2) (pe_op op_pow pe_int pe_int))))
      pss_nil)
      (pss_cons (ps_set (i := 3) sc_law_number.nd rfl (by first | exact Or.inl rfl | exact Or.inr rfl) (pe_op op_mod (pe_op op_addU (pe_op op_mul (pe_op op_addU (pv 2) (pe_op op_mul pe_int (pv 1))) pe_int) (pe_op op_mul pe_int (pe_callB call_lenU (by rfl) T.no_len PySem.boot_len (pa_cons (pv 0) pa_nil)))) pe_int))
      (pss_one (ps_ret (pe_callTy call_int1' (by rfl) T.no_int (by decide +kernel) (pa_cons (pe_op op_mod (pe_op op_addU (pe_op op_mul (pe_op op_mod (pe_op op_mul (pv 3) pe_int) pe_int) pe_int) (pv 1)) pe_int) pa_nil))))))))
theorem ok_law_take {w : World} {K : PySem.W.Frag} {mg : Str → Option Value} {base : Heap} (T : Tx K mg)
    (G_law_number : FnOk T.Pg w K mg base CX0 1 T.f_law_number T.fd_law_number ["_law_script", "_law_index"] (spF 2 (S_law_number K T)))
    (R : ∀ Q ds M P Φ, ds.length = 2 → S_law_take K T ds M P → RtQ Q Φ P → Cont (rd_law_take_0 K T (fnD Q)) Φ (entry ["_law_draw", "_law_many"] ds) M) :
    FnOk T.Pg w K mg base CX0 2 T.f_law_take T.fd_law_take ["_law_draw", "_law_many"] (spF 2 (S_law_take K T)) := by
  refine T.F_law_take.ok sc_law_take (fun vs H Q E h => spF_len h) fun cdv A outer s H vs Q E hr h => ⟨(rd_law_take_0 K T), ?_, fn_start h (R Q)⟩
  exact (pss_cons (ps_augS (pv 0) pe_int get_list pe_int ip_add set_list)
      (pss_one (ps_ret (pe_op op_mod (pe_callTy call_int1' (by rfl) T.no_int (by decide +kernel) (pa_cons (pe_call (G_law_number) (hr.mono (by decide)) rfl T.mg_law_number T.k_law_number T.b_law_number .nil pass0 (pa_cons (pe_ix ix_seq (pv 0) pe_int (fun _ _ => rfl)) (pa_cons (pe_callTy call_int1' (by rfl) T.no_int (by decide +kernel) (pa_cons (pe_ix ix_seq (pv 0) pe_int (fun _ _ => rfl)) pa_nil)) pa_nil))) pa_nil)) (pv 1)))))
theorem ok_law_pick {w : World} {K : PySem.W.Frag} {mg : Str → Option Value} {base : Heap} (T : Tx K mg)
    (G_law_take : FnOk T.Pg w K mg base CX0 2 T.f_law_take T.fd_law_take ["_law_draw", "_law_many"] (spF 2 (S_law_take K T)))
    (R : ∀ Q ds M P Φ, ds.length = 2 → S_law_pick K T ds M P → RtQ Q Φ P → Cont (rd_law_pick_0 K T (fnD Q)) Φ (entry ["_law_draw", "_law_items"] ds) M) :
    FnOk T.Pg w K mg base CX0 3 T.f_law_pick T.fd_law_pick ["_law_draw", "_law_items"] (spF 2 (S_law_pick K T)) := by
  refine T.F_law_pick.ok sc_law_pick (fun vs H Q E h => spF_len h) fun cdv A outer s H vs Q E hr h => ⟨(rd_law_pick_0 K T), ?_, fn_start h (R Q)⟩
  exact (pss_one (ps_ret (pe_ix ix_seq (pv 1) (pe_call (G_law_take) (hr.mono (by decide)) rfl T.mg_law_take T.k_law_take T.b_law_take .nil pass0 (pa_cons (pv 0) (pa_cons (pe_callB call_lenU (by rfl) T.no_len PySem.boot_len (pa_cons (pv 1) pa_nil)) pa_nil))) (fun _ _ => rfl))))
theorem ok_Mast_init {w : World} {K : PySem.W.Frag} {mg : Str → Option Value} {base : Heap} (T : Tx K mg)
    (R : ∀ Q ds M P Φ, ds.length = 2 → S_Mast_init K T ds M P → RtQ Q Φ P → Cont (rd_Mast_init_0 K T (fnD Q)) Φ (entry ["self", "name"] ds) M) :
    FnOk T.Pg w K mg base CX0 1 T.f_Mast_init T.fd_Mast_init ["self", "name"] (spF 2 (S_Mast_init K T)) := by
  refine T.F_Mast_init.ok sc_Mast_init (fun vs H Q E h => spF_len h) fun cdv A outer s H vs Q E hr h => ⟨(rd_Mast_init_0 K T), ?_, fn_start h (R Q)⟩
  exact (pss_cons (ps_fld (pv 0) (pv 1) rfl)
      (pss_cons (ps_fld (pv 0) pe_int rfl)
      (pss_one (ps_fld (pv 0) pe_dnewK rfl))))
theorem ok_Mast_take {w : World} {K : PySem.W.Frag} {mg : Str → Option Value} {base : Heap} (T : Tx K mg)
    (R : ∀ Q ds M P Φ, ds.length = 3 → S_Mast_take K T ds M P → RtQ Q Φ P → Cont (rd_Mast_take_0 K T (fnD Q)) Φ (entry ["self", "number", "rows"] ds) M) :
    FnOk T.Pg w K mg base CX0 1 T.f_Mast_take T.fd_Mast_take ["self", "number", "rows"] (spF 3 (S_Mast_take K T)) := by
  refine T.F_Mast_take.ok sc_Mast_take (fun vs H Q E h => spF_len h) fun cdv A outer s H vs Q E hr h => ⟨(rd_Mast_take_0 K T), ?_, fn_start h (R Q)⟩
  exact (pss_one (ps_if (pt_cmpR op_ge (pv 1) (pe_fld (pv 0) rfl) (nomark _))
      (pss_cons (ps_fld (pv 0) (pv 1) rfl)
      (pss_one (ps_fld (pv 0) (pe_callTy (call_dictP' rfl) (by rfl) T.no_dict (by decide +kernel) (pa_cons (pe_callTy call_list_of' (by rfl) T.no_list (by decide +kernel) (pa_cons (pv 2) pa_nil)) pa_nil)) rfl)))
      pss_nil))
theorem ok_Mast_fall {w : World} {K : PySem.W.Frag} {mg : Str → Option Value} {base : Heap} (T : Tx K mg)
    (R : ∀ Q ds M P Φ, ds.length = 1 → S_Mast_fall K T ds M P → RtQ Q Φ P → Cont (rd_Mast_fall_0 K T (fnD Q)) Φ (entry ["self"] ds) M) :
    FnOk T.Pg w K mg base CX0 1 T.f_Mast_fall T.fd_Mast_fall ["self"] (spF 1 (S_Mast_fall K T)) := by
  refine T.F_Mast_fall.ok sc_Mast_fall (fun vs H Q E h => spF_len h) fun cdv A outer s H vs Q E hr h => ⟨(rd_Mast_fall_0 K T), ?_, fn_start h (R Q)⟩
  exact (pss_one (ps_fld (pv 0) pe_dnewK rfl))
theorem ok_Mast_lead_up {w : World} {K : PySem.W.Frag} {mg : Str → Option Value} {base : Heap} (T : Tx K mg)
    (R : ∀ Q ds M P Φ, ds.length = 3 → S_Mast_lead_up K T ds M P → RtQ Q Φ P → Cont (rd_Mast_lead_up_0 K T (fnD Q)) Φ (entry ["self", "call", "frame"] ds) M) :
    FnOk T.Pg w K mg base CX0 1 T.f_Mast_lead_up T.fd_Mast_lead_up ["self", "call", "frame"] (spF 3 (S_Mast_lead_up K T)) := by
  refine T.F_Mast_lead_up.ok sc_Mast_lead_up (fun vs H Q E h => spF_len h) fun cdv A outer s H vs Q E hr h => ⟨(rd_Mast_lead_up_0 K T), ?_, fn_start h (R Q)⟩
  exact (Evl.pss_cut (ps_if (pt_cmp (pc_dnotin (hu_of hr) (pv 1) (pe_fld (pv 0) rfl)))
      (pss_one (ps_ret pe_non))
      pss_nil)
      (pss_one (ps_ret (pe_tup (pa_cons pe_str (pa_cons (pv 1) (pa_cons (pe_dget (hu_of hr) (pe_fld (pv 0) rfl) (pv 1) (fun _ _ => rfl)) (pa_cons (pv 2) pa_nil))))))))
theorem ok_Mast_lead_down {w : World} {K : PySem.W.Frag} {mg : Str → Option Value} {base : Heap} (T : Tx K mg)
    (R : ∀ Q ds M P Φ, ds.length = 4 → S_Mast_lead_down K T ds M P → RtQ Q Φ P → Cont (rd_Mast_lead_down_0 K T (fnD Q)) Φ (entry ["self", "call", "epoch", "frame"] ds) M) :
    FnOk T.Pg w K mg base CX0 1 T.f_Mast_lead_down T.fd_Mast_lead_down ["self", "call", "epoch", "frame"] (spF 4 (S_Mast_lead_down K T)) := by
  refine T.F_Mast_lead_down.ok sc_Mast_lead_down (fun vs H Q E h => spF_len h) fun cdv A outer s H vs Q E hr h => ⟨(rd_Mast_lead_down_0 K T), ?_, fn_start h (R Q)⟩
  exact (Evl.pss_cut (ps_if (pt_cmpR (op_neU hr.units) (pe_dget1 (hu_of hr) (pe_fld (pv 0) rfl) (pv 1) ⟨rfl, rfl, rfl, rfl⟩) (pv 2) (nomark _))
      (pss_one (ps_ret pe_non))
      pss_nil)
      (pss_one (ps_ret (pe_tup (pa_cons pe_str (pa_cons (pv 1) (pa_cons (pv 2) (pa_cons (pv 3) pa_nil))))))))
theorem ok_law {w : World} {K : PySem.W.Frag} {mg : Str → Option Value} {base : Heap} (T : Tx K mg)
    (G_Mast_fall : FnOk T.Pg w K mg base CX0 1 T.f_Mast_fall T.fd_Mast_fall ["self"] (spF 1 (S_Mast_fall K T)))
    (G_Mast_init : FnOk T.Pg w K mg base CX0 1 T.f_Mast_init T.fd_Mast_init ["self", "name"] (spF 2 (S_Mast_init K T)))
    (G_Mast_lead_down : FnOk T.Pg w K mg base CX0 1 T.f_Mast_lead_down T.fd_Mast_lead_down ["self", "call", "epoch", "frame"] (spF 4 (S_Mast_lead_down K T)))
    (G_Mast_lead_up : FnOk T.Pg w K mg base CX0 1 T.f_Mast_lead_up T.fd_Mast_lead_up ["self", "call", "frame"] (spF 3 (S_Mast_lead_up K T)))
    (G_Mast_take : FnOk T.Pg w K mg base CX0 1 T.f_Mast_take T.fd_Mast_take ["self", "number", "rows"] (spF 3 (S_Mast_take K T)))
    (G_law_pick : FnOk T.Pg w K mg base CX0 3 T.f_law_pick T.fd_law_pick ["_law_draw", "_law_items"] (spF 2 (S_law_pick K T)))
    (G_law_take : FnOk T.Pg w K mg base CX0 2 T.f_law_take T.fd_law_take ["_law_draw", "_law_many"] (spF 2 (S_law_take K T)))
    (R : ∀ Q ds M P Φ, ds.length = 1 → S_law K T ds M P → RtQ Q Φ P → Cont (rd_law_0 K T (fnD Q)) Φ (entry ["_law_script", "_law_draw", "_law_lists", "_law_mast", "_law_rows", "_law_number_here", "_law_turn", "_law_kind", "_law_late", "_law_call", "_law_epoch", "_law_frame", "_law_own", "_law_at"] ds) M) :
    FnOk T.Pg w K mg base CX0 4 T.f_law T.fd_law ["_law_script"] (spF 1 (S_law K T)) := by
  refine T.F_law.ok sc_law (fun vs H Q E h => spF_len h) fun cdv A outer s H vs Q E hr h => ⟨(rd_law_0 K T), ?_, fn_start h (R Q)⟩
  exact (pss_cons (ps_set (i := 1) sc_law.nd rfl (by first | exact Or.inl rfl | exact Or.inr rfl) (pe_lst (pa_cons (pv 0) (pa_cons pe_int pa_nil))))
      (pss_cons (ps_setLc (i := 2) (own := [("_law_number_here", 5)]) (g := (gName 5)) (tt := tYes) rfl sc_law.nd rfl rfl (sw_true rfl rfl rfl (by decide +kernel)) (pi_range1 rfl T.no_range (pa_cons pe_int pa_nil)) (blkOk_by (own := [("_law_number_here", 5)]) (N := ["_law_script", "_law_draw", "_law_lists", "_law_mast", "_law_rows", "_law_number_here", "_law_turn", "_law_kind", "_law_late", "_law_call", "_law_epoch", "_law_frame", "_law_own", "_law_at"]) (sc := defScope s_law) (by decide +kernel)) (fun _ _ _ _ _ => (pg_name (i := 5) sc_law.nd rfl (by first | exact Or.inl rfl | exact Or.inr rfl))) (fun _ _ _ _ _ => pts_nil) (fun _ _ _ _ _ => (pe_tup (pa_cons (pe_op op_addU (pv 5) pe_int) (pa_cons (pe_callTy call_tupZ (by rfl) T.no_tuple (by decide +kernel) (pa_cons (pe_lc (own := [("_law_at", 13)]) (g := (gName 13)) (tt := tYes) rfl sc_law.nd (pi_range1 rfl T.no_range (pa_cons (pe_call (G_law_take) (hr.mono (by decide)) rfl T.mg_law_take T.k_law_take T.b_law_take .nil pass0 (pa_cons (pv 1) (pa_cons pe_int pa_nil))) pa_nil)) (by show BlkOk ["_law_script", "_law_draw", "_law_lists", "_law_mast", "_law_rows", "_law_number_here", "_law_turn", "_law_kind", "_law_late", "_law_call", "_law_epoch", "_law_frame", "_law_own", "_law_at"] (relS _ (defScope s_law)) _ [("_law_at", 13)]; exact blkOk_by (by decide +kernel)) (fun _ _ _ _ _ => (pg_name (i := 13) sc_law.nd rfl (by first | exact Or.inl rfl | exact Or.inr rfl))) (fun _ _ _ _ _ => pts_nil) (fun _ _ _ _ _ => (pe_tup (pa_cons (pe_op op_addU pe_str (pe_callTy call_str_int' (by rfl) T.no_str (by decide +kernel) (pa_cons (pv 13) pa_nil))) (pa_cons (pe_op op_addU pe_int (pe_call (G_law_take) (hr.mono (by decide)) rfl T.mg_law_take T.k_law_take T.b_law_take .nil pass0 (pa_cons (pv 1) (pa_cons pe_int pa_nil)))) pa_nil))))) pa_nil)) pa_nil)))))
      (pss_cons (ps_par3 (i := 3) (j := 4) (l := 5) (by rfl) sc_law.nd rfl rfl rfl (by decide) (by decide) (by decide) rfl rfl rfl (pa_cons (pe_make T.M_Mast (G_Mast_init) (hr.mono (by decide)) rfl T.mg_Mast T.b_Mast_init .nil pass0 (pa_cons pe_str pa_nil)) (pa_cons (pe_tupZ pa_nil) (pa_cons pe_int pa_nil))) (by rfl))
      (Evl.pss_cut (ps_for PassesOwn.never rfl (pi_range1 rfl T.no_range (pa_cons pe_int pa_nil)) (pg_name (i := 6) sc_law.nd rfl (by first | exact Or.inl rfl | exact Or.inr rfl))
      (pss_cons (ps_set (i := 7) sc_law.nd rfl (by first | exact Or.inl rfl | exact Or.inr rfl) (pe_call (G_law_take) (hr.mono (by decide)) rfl T.mg_law_take T.k_law_take T.b_law_take .nil pass0 (pa_cons (pv 1) (pa_cons pe_int pa_nil))))
      (Evl.pss_cut (ps_if (pt_cmpR op_lt (pv 7) pe_int (nomark _))
      (pss_cons (ps_set (i := 8) sc_law.nd rfl (by first | exact Or.inl rfl | exact Or.inr rfl) (pe_call (G_law_pick) (hr.mono (by decide)) rfl T.mg_law_pick T.k_law_pick T.b_law_pick .nil pass0 (pa_cons (pv 1) (pa_cons (pv 2) pa_nil))))
      (pss_cons (ps_expr (pe_meth (pv 3) T.F_Mast.cl T.m_Mast_take (G_Mast_take) (hr.mono (by decide)) T.b_Mast_take .nil pass0 (pa_cons (pe_ix ix_seq (pv 8) pe_int (fun _ _ => rfl)) (pa_cons (pe_ix ix_seq (pv 8) pe_int (fun _ _ => rfl)) pa_nil))))
      (pss_one (ps_if (pt_cmpR op_ge (pe_ix ix_seq (pv 8) pe_int (fun _ _ => rfl)) (pv 5) (nomark _))
      (pss_one (ps_asg (pv 8) (pg_tup rfl (pgs_cons (pg_name (i := 5) sc_law.nd rfl (by first | exact Or.inl rfl | exact Or.inr rfl)) (pgs_cons (pg_name (i := 4) sc_law.nd rfl (by first | exact Or.inl rfl | exact Or.inr rfl)) pgs_nil)))))
      pss_nil))))
      (pss_one (ps_if (PW.pt (pw_and (pt_cmpR (op_eqU hr.units) (pv 7) pe_int (nomark _)) (pw_and1 (pt_cmpR (op_eqU hr.units) (pe_call (G_law_take) (hr.mono (by decide)) rfl T.mg_law_take T.k_law_take T.b_law_take .nil pass0 (pa_cons (pv 1) (pa_cons pe_int pa_nil))) pe_int (nomark _)))))
      (pss_cons (ps_expr (pe_meth0 (pv 3) T.F_Mast.cl T.m_Mast_fall (G_Mast_fall) (hr.mono (by decide)) T.b_Mast_fall .nil pass0))
      (pss_one (ps_set (i := 4) sc_law.nd rfl (by first | exact Or.inl rfl | exact Or.inr rfl) (pe_tupZ pa_nil))))
      pss_nil)))
      (pss_cons (ps_par3 (i := 9) (j := 10) (l := 11) (by rfl) sc_law.nd rfl rfl rfl (by decide) (by decide) (by decide) rfl rfl rfl (pa_cons (pe_op op_addU pe_str (pe_callTy call_str_int' (by rfl) T.no_str (by decide +kernel) (pa_cons (pe_call (G_law_take) (hr.mono (by decide)) rfl T.mg_law_take T.k_law_take T.b_law_take .nil pass0 (pa_cons (pv 1) (pa_cons pe_int pa_nil))) pa_nil))) (pa_cons (pe_op op_addU pe_int (pe_call (G_law_take) (hr.mono (by decide)) rfl T.mg_law_take T.k_law_take T.b_law_take .nil pass0 (pa_cons (pv 1) (pa_cons pe_int pa_nil)))) (pa_cons (pe_tup (pa_cons pe_str (pa_cons (pv 6) (pa_cons pe_int (pa_cons pe_int pa_nil))))) pa_nil))) (by rfl))
      (pss_cons (ps_set (i := 12) sc_law.nd rfl (by first | exact Or.inl rfl | exact Or.inr rfl) (pe_dget1 (hu_of hr) (pe_callTy (call_dictP' rfl) (by rfl) T.no_dict (by decide +kernel) (pa_cons (pv 4) pa_nil)) (pv 9) ⟨rfl, rfl, rfl, rfl⟩))
      (Evl.pss_cut (ps_if (pt_cmpR (op_neU hr.units) (pe_meth (pv 3) T.F_Mast.cl T.m_Mast_lead_up (G_Mast_lead_up) (hr.mono (by decide)) T.b_Mast_lead_up .nil pass0 (pa_cons (pv 9) (pa_cons (pv 11) pa_nil))) (pe_ifExp (pt_cmpR op_notN' (pv 12) pe_non (nomark _)) (pe_tup (pa_cons pe_str (pa_cons (pv 9) (pa_cons (pv 12) (pa_cons (pv 11) pa_nil))))) pe_non) (nomark _))
      (pss_one (ps_ret pe_bl))
      pss_nil)
      (Evl.pss_cut (ps_if (pt_cmpR (op_neU hr.units) (pe_meth (pv 3) T.F_Mast.cl T.m_Mast_lead_down (G_Mast_lead_down) (hr.mono (by decide)) T.b_Mast_lead_down .nil pass0 (pa_cons (pv 9) (pa_cons (pv 10) (pa_cons (pv 11) pa_nil)))) (pe_ifExp (pt_cmpR (op_eqU hr.units) (pv 12) (pv 10) (nomark _)) (pe_tup (pa_cons pe_str (pa_cons (pv 9) (pa_cons (pv 10) (pa_cons (pv 11) pa_nil))))) pe_non) (nomark _))
      (pss_one (ps_ret pe_bl))
      pss_nil)
      (pss_one (ps_if (PW.pt (pw_or (pt_cmpR (op_neU hr.units) (pe_fld (pv 3) rfl) (pv 5) (nomark _)) (pw_or (pt_cmpR (op_neW hr.units) (pe_fld (pv 3) rfl) (pe_callTy (call_dictP' rfl) (by rfl) T.no_dict (by decide +kernel) (pa_cons (pv 4) pa_nil)) (nomark _)) (pw_or1 (pt_cmpR (op_neU hr.units) (pe_fld (pv 3) rfl) pe_str (nomark _))))))
      (pss_one (ps_ret pe_bl))
      pss_nil)))))))))
      (pss_one (ps_ret pe_bl))))))
def spLaw (K : PySem.W.Frag) : Sp := spF 1 (SLaw K)
theorem spLaw_intro {K : PySem.W.Frag} {H : Hp} {a : Addr} {ns : List Int} (hl : ns.length ≤ 63) (hS : SqL K H a (ns.map V.int)) : spLaw K [.ref a] H (fun v _ => v = .bl true) fun _ _ _ => False :=
  ⟨Fr.top, [], [], [vscr K ns], [], fun x _ => x = dat (.bool true), ⟨H, fun _ _ h => h, ⟨trivial, .cons ⟨a, rfl, hS⟩ .nil⟩, ⟨rfl, fun i x h => nomatch h⟩, List.nodup_nil, fun c hc => nomatch hc⟩, rfl, ⟨ns, rfl, rfl, hl, fun _ => rfl⟩, fun x M' v H' hx ⟨F, s⟩ => by
    subst hx
    cases s.fr.2
    rfl⟩
theorem law_ok {w : World} {K : PySem.W.Frag} {mg : Str → Option Value} {base : Heap} (T : Tx K mg) : FnOk T.Pg w K mg base CX0 4 T.f_law T.fd_law ["_law_script"] (spLaw K) := by
  have H_Mast_init := ok_Mast_init (w := w) (base := base) T (R := Mast_init_body T)
  have H_Mast_take := ok_Mast_take (w := w) (base := base) T (R := Mast_take_body T)
  have H_Mast_fall := ok_Mast_fall (w := w) (base := base) T (R := Mast_fall_body T)
  have H_Mast_lead_up := ok_Mast_lead_up (w := w) (base := base) T (R := Mast_lead_up_body T)
  have H_Mast_lead_down := ok_Mast_lead_down (w := w) (base := base) T (R := Mast_lead_down_body T)
  have H_law_number := ok_law_number (w := w) (base := base) T (R := law_number_body T)
  have H_law_take := ok_law_take (w := w) (base := base) T (G_law_number := H_law_number) (R := law_take_body T)
  have H_law_pick := ok_law_pick (w := w) (base := base) T (G_law_take := H_law_take) (R := law_pick_body T)
  have H_law := ok_law (w := w) (base := base) T (G_Mast_fall := H_Mast_fall) (G_Mast_init := H_Mast_init) (G_Mast_lead_down := H_Mast_lead_down) (G_Mast_lead_up := H_Mast_lead_up) (G_Mast_take := H_Mast_take) (G_law_pick := H_law_pick) (G_law_take := H_law_take) (R := law_body T)
  exact H_law
theorem all_mk {l : PySem.W.OpenLaw} {w : World} {K : PySem.W.Frag} {h : Heap} {mg : Str → Option Value} {fa C_Mast f_Mast_init f_Mast_take f_Mast_fall f_Mast_lead_up f_Mast_lead_down f_law_number f_law_take f_law_pick f_law : Addr} (X : K.In h) (G : h.Ns mainGlobals mg) (hfa : mg "law" = some (.ref fa))
    {od_Mast_init an_Mast_init od_Mast_take an_Mast_take od_Mast_fall an_Mast_fall od_Mast_lead_up an_Mast_lead_up od_Mast_lead_down an_Mast_lead_down od_law_number an_law_number od_law_take an_law_take od_law_pick an_law_pick od_law an_law : Option Addr} {sl_Mast_init sl_Mast_take sl_Mast_fall sl_Mast_lead_up sl_Mast_lead_down sl_law_number sl_law_take sl_law_pick sl_law : Array (Option Value)} {oc_Mast_init kV_Mast_init dc_Mast_init pm_Mast_init cd_Mast_init ct_Mast_init oc_Mast_take kV_Mast_take dc_Mast_take pm_Mast_take cd_Mast_take ct_Mast_take oc_Mast_fall kV_Mast_fall dc_Mast_fall pm_Mast_fall cd_Mast_fall ct_Mast_fall oc_Mast_lead_up kV_Mast_lead_up dc_Mast_lead_up pm_Mast_lead_up cd_Mast_lead_up ct_Mast_lead_up oc_Mast_lead_down kV_Mast_lead_down dc_Mast_lead_down pm_Mast_lead_down cd_Mast_lead_down ct_Mast_lead_down oc_law_number kV_law_number dc_law_number pm_law_number cd_law_number ct_law_number oc_law_take kV_law_take dc_law_take pm_law_take cd_law_take ct_law_take oc_law_pick kV_law_pick dc_law_pick pm_law_pick cd_law_pick ct_law_pick oc_law kV_law dc_law pm_law cd_law ct_law : Value}
    (aC_Mast : PySem.W.nsIn K mainGlobals "Mast" = some (some (.ref C_Mast)))
    (pg_Mast : PySem.W.plainGet K C_Mast Str.empty = true)
    (hd_Mast : PySem.W.hasDictIn K C_Mast = true)
    (po_Mast : PySem.W.plainOver K C_Mast = true)
    (sa_Mast : PySem.W.findIn K (.ref C_Mast) "__setattr__" = some (some (.builtin "object.__setattr__")))
    (mk_Mast : PySem.W.makesIn K C_Mast = true)
    (kc_Mast : PySem.W.keepIn K (.ref C_Mast) = true)
    (na_Mast_0 : PySem.W.findIn K (.ref C_Mast) "name" = some none)
    (na_Mast_1 : PySem.W.findIn K (.ref C_Mast) "number" = some none)
    (na_Mast_2 : PySem.W.findIn K (.ref C_Mast) "rows" = some none)
    (a_Mast_init : PySem.W.findIn K (.ref C_Mast) "__init__" = some (some (.ref f_Mast_init)))
    (i_Mast_init : PySem.W.isFn K (.ref f_Mast_init) = true)
    (l_Mast_init : K.lookup f_Mast_init = some ⟨oc_Mast_init, od_Mast_init, .func (PySem.W.fnOf "__init__" "Mast.__init__" (defArgs s_Mast_init) (defBody s_Mast_init) (defScope s_Mast_init) .none kV_Mast_init dc_Mast_init pm_Mast_init an_Mast_init cd_Mast_init ct_Mast_init), sl_Mast_init⟩)
    (c_Mast_init : PySem.W.codeIn K cd_Mast_init "Mast.__init__" = true)
    (k_Mast_init : PySem.W.keepIn K (.ref f_Mast_init) = true)
    (a_Mast_take : PySem.W.findIn K (.ref C_Mast) "take" = some (some (.ref f_Mast_take)))
    (i_Mast_take : PySem.W.isFn K (.ref f_Mast_take) = true)
    (l_Mast_take : K.lookup f_Mast_take = some ⟨oc_Mast_take, od_Mast_take, .func (PySem.W.fnOf "take" "Mast.take" (defArgs s_Mast_take) (defBody s_Mast_take) (defScope s_Mast_take) .none kV_Mast_take dc_Mast_take pm_Mast_take an_Mast_take cd_Mast_take ct_Mast_take), sl_Mast_take⟩)
    (c_Mast_take : PySem.W.codeIn K cd_Mast_take "Mast.take" = true)
    (k_Mast_take : PySem.W.keepIn K (.ref f_Mast_take) = true)
    (a_Mast_fall : PySem.W.findIn K (.ref C_Mast) "fall" = some (some (.ref f_Mast_fall)))
    (i_Mast_fall : PySem.W.isFn K (.ref f_Mast_fall) = true)
    (l_Mast_fall : K.lookup f_Mast_fall = some ⟨oc_Mast_fall, od_Mast_fall, .func (PySem.W.fnOf "fall" "Mast.fall" (defArgs s_Mast_fall) (defBody s_Mast_fall) (defScope s_Mast_fall) .none kV_Mast_fall dc_Mast_fall pm_Mast_fall an_Mast_fall cd_Mast_fall ct_Mast_fall), sl_Mast_fall⟩)
    (c_Mast_fall : PySem.W.codeIn K cd_Mast_fall "Mast.fall" = true)
    (k_Mast_fall : PySem.W.keepIn K (.ref f_Mast_fall) = true)
    (a_Mast_lead_up : PySem.W.findIn K (.ref C_Mast) "lead_up" = some (some (.ref f_Mast_lead_up)))
    (i_Mast_lead_up : PySem.W.isFn K (.ref f_Mast_lead_up) = true)
    (l_Mast_lead_up : K.lookup f_Mast_lead_up = some ⟨oc_Mast_lead_up, od_Mast_lead_up, .func (PySem.W.fnOf "lead_up" "Mast.lead_up" (defArgs s_Mast_lead_up) (defBody s_Mast_lead_up) (defScope s_Mast_lead_up) .none kV_Mast_lead_up dc_Mast_lead_up pm_Mast_lead_up an_Mast_lead_up cd_Mast_lead_up ct_Mast_lead_up), sl_Mast_lead_up⟩)
    (c_Mast_lead_up : PySem.W.codeIn K cd_Mast_lead_up "Mast.lead_up" = true)
    (k_Mast_lead_up : PySem.W.keepIn K (.ref f_Mast_lead_up) = true)
    (a_Mast_lead_down : PySem.W.findIn K (.ref C_Mast) "lead_down" = some (some (.ref f_Mast_lead_down)))
    (i_Mast_lead_down : PySem.W.isFn K (.ref f_Mast_lead_down) = true)
    (l_Mast_lead_down : K.lookup f_Mast_lead_down = some ⟨oc_Mast_lead_down, od_Mast_lead_down, .func (PySem.W.fnOf "lead_down" "Mast.lead_down" (defArgs s_Mast_lead_down) (defBody s_Mast_lead_down) (defScope s_Mast_lead_down) .none kV_Mast_lead_down dc_Mast_lead_down pm_Mast_lead_down an_Mast_lead_down cd_Mast_lead_down ct_Mast_lead_down), sl_Mast_lead_down⟩)
    (c_Mast_lead_down : PySem.W.codeIn K cd_Mast_lead_down "Mast.lead_down" = true)
    (k_Mast_lead_down : PySem.W.keepIn K (.ref f_Mast_lead_down) = true)
    (a_law_number : PySem.W.nsIn K mainGlobals "_law_number" = some (some (.ref f_law_number)))
    (i_law_number : PySem.W.isFn K (.ref f_law_number) = true)
    (l_law_number : K.lookup f_law_number = some ⟨oc_law_number, od_law_number, .func (PySem.W.fnOf "_law_number" "_law_number" (defArgs s_law_number) (defBody s_law_number) (defScope s_law_number) .none kV_law_number dc_law_number pm_law_number an_law_number cd_law_number ct_law_number), sl_law_number⟩)
    (c_law_number : PySem.W.codeIn K cd_law_number "_law_number" = true)
    (k_law_number : PySem.W.keepIn K (.ref f_law_number) = true)
    (a_law_take : PySem.W.nsIn K mainGlobals "_law_take" = some (some (.ref f_law_take)))
    (i_law_take : PySem.W.isFn K (.ref f_law_take) = true)
    (l_law_take : K.lookup f_law_take = some ⟨oc_law_take, od_law_take, .func (PySem.W.fnOf "_law_take" "_law_take" (defArgs s_law_take) (defBody s_law_take) (defScope s_law_take) .none kV_law_take dc_law_take pm_law_take an_law_take cd_law_take ct_law_take), sl_law_take⟩)
    (c_law_take : PySem.W.codeIn K cd_law_take "_law_take" = true)
    (k_law_take : PySem.W.keepIn K (.ref f_law_take) = true)
    (a_law_pick : PySem.W.nsIn K mainGlobals "_law_pick" = some (some (.ref f_law_pick)))
    (i_law_pick : PySem.W.isFn K (.ref f_law_pick) = true)
    (l_law_pick : K.lookup f_law_pick = some ⟨oc_law_pick, od_law_pick, .func (PySem.W.fnOf "_law_pick" "_law_pick" (defArgs s_law_pick) (defBody s_law_pick) (defScope s_law_pick) .none kV_law_pick dc_law_pick pm_law_pick an_law_pick cd_law_pick ct_law_pick), sl_law_pick⟩)
    (c_law_pick : PySem.W.codeIn K cd_law_pick "_law_pick" = true)
    (k_law_pick : PySem.W.keepIn K (.ref f_law_pick) = true)
    (a_law : PySem.W.nsIn K mainGlobals "law" = some (some (.ref f_law)))
    (i_law : PySem.W.isFn K (.ref f_law) = true)
    (l_law : K.lookup f_law = some ⟨oc_law, od_law, .func (PySem.W.fnOf "law" "law" (defArgs s_law) (defBody s_law) (defScope s_law) .none kV_law dc_law pm_law an_law cd_law ct_law), sl_law⟩)
    (c_law : PySem.W.codeIn K cd_law "law" = true)
    (k_law : PySem.W.keepIn K (.ref f_law) = true)
    (z_abs : PySem.W.nsIn K mainGlobals "abs" = some none)
    (z_dict : PySem.W.nsIn K mainGlobals "dict" = some none)
    (z_int : PySem.W.nsIn K mainGlobals "int" = some none)
    (z_len : PySem.W.nsIn K mainGlobals "len" = some none)
    (z_list : PySem.W.nsIn K mainGlobals "list" = some none)
    (z_range : PySem.W.nsIn K mainGlobals "range" = some none)
    (z_str : PySem.W.nsIn K mainGlobals "str" = some none)
    (z_tuple : PySem.W.nsIn K mainGlobals "tuple" = some none)
    : ∃ fd : FuncData, (∀ (s : Shared) (v : Value), BindsTo s fd ⟨[v], []⟩ [("_law_script", v)]) ∧ ∀ base : Heap, K.In base → base.Ns mainGlobals mg → FnOk l.prog w K mg base CX0 4 fa fd ["_law_script"] (spLaw K) := by
  have e := hfa.symm.trans (PySem.W.mg_of X G a_law)
  obtain rfl : f_law = fa := by cases e; rfl
  let T : Tx K mg := {
    Pg := l.prog
    C_Mast := C_Mast
    f_Mast_init := f_Mast_init
    fd_Mast_init := PySem.W.fnOf "__init__" "Mast.__init__" (defArgs s_Mast_init) (defBody s_Mast_init) (defScope s_Mast_init) .none kV_Mast_init dc_Mast_init pm_Mast_init an_Mast_init cd_Mast_init ct_Mast_init
    f_Mast_take := f_Mast_take
    fd_Mast_take := PySem.W.fnOf "take" "Mast.take" (defArgs s_Mast_take) (defBody s_Mast_take) (defScope s_Mast_take) .none kV_Mast_take dc_Mast_take pm_Mast_take an_Mast_take cd_Mast_take ct_Mast_take
    f_Mast_fall := f_Mast_fall
    fd_Mast_fall := PySem.W.fnOf "fall" "Mast.fall" (defArgs s_Mast_fall) (defBody s_Mast_fall) (defScope s_Mast_fall) .none kV_Mast_fall dc_Mast_fall pm_Mast_fall an_Mast_fall cd_Mast_fall ct_Mast_fall
    f_Mast_lead_up := f_Mast_lead_up
    fd_Mast_lead_up := PySem.W.fnOf "lead_up" "Mast.lead_up" (defArgs s_Mast_lead_up) (defBody s_Mast_lead_up) (defScope s_Mast_lead_up) .none kV_Mast_lead_up dc_Mast_lead_up pm_Mast_lead_up an_Mast_lead_up cd_Mast_lead_up ct_Mast_lead_up
    f_Mast_lead_down := f_Mast_lead_down
    fd_Mast_lead_down := PySem.W.fnOf "lead_down" "Mast.lead_down" (defArgs s_Mast_lead_down) (defBody s_Mast_lead_down) (defScope s_Mast_lead_down) .none kV_Mast_lead_down dc_Mast_lead_down pm_Mast_lead_down an_Mast_lead_down cd_Mast_lead_down ct_Mast_lead_down
    f_law_number := f_law_number
    fd_law_number := PySem.W.fnOf "_law_number" "_law_number" (defArgs s_law_number) (defBody s_law_number) (defScope s_law_number) .none kV_law_number dc_law_number pm_law_number an_law_number cd_law_number ct_law_number
    f_law_take := f_law_take
    fd_law_take := PySem.W.fnOf "_law_take" "_law_take" (defArgs s_law_take) (defBody s_law_take) (defScope s_law_take) .none kV_law_take dc_law_take pm_law_take an_law_take cd_law_take ct_law_take
    f_law_pick := f_law_pick
    fd_law_pick := PySem.W.fnOf "_law_pick" "_law_pick" (defArgs s_law_pick) (defBody s_law_pick) (defScope s_law_pick) .none kV_law_pick dc_law_pick pm_law_pick an_law_pick cd_law_pick ct_law_pick
    f_law := f_law
    fd_law := PySem.W.fnOf "law" "law" (defArgs s_law) (defBody s_law) (defScope s_law) .none kV_law dc_law pm_law an_law cd_law ct_law
    F_Mast := ⟨⟨pg_Mast, hd_Mast, po_Mast, sa_Mast⟩, fun f hf => by
      simp only [List.mem_cons, List.not_mem_nil, or_false] at hf
      rcases hf with rfl | rfl | rfl
      all_goals assumption⟩
    mg_Mast := PySem.W.mg_of X G aC_Mast
    M_Mast := ⟨mk_Mast, a_Mast_init, i_Mast_init, kc_Mast⟩
    F_Mast_init := fun_mk (st := s_Mast_init) l_Mast_init c_Mast_init k_Mast_init
    k_Mast_init := k_Mast_init
    b_Mast_init := (fun_mk (st := s_Mast_init) l_Mast_init c_Mast_init k_Mast_init).binds (ps := ["self", "name"]) fun _ _ _ _ _ _ us hl => match us, hl with | [_, _], _ => rfl
    F_Mast_take := fun_mk (st := s_Mast_take) l_Mast_take c_Mast_take k_Mast_take
    k_Mast_take := k_Mast_take
    b_Mast_take := (fun_mk (st := s_Mast_take) l_Mast_take c_Mast_take k_Mast_take).binds (ps := ["self", "number", "rows"]) fun _ _ _ _ _ _ us hl => match us, hl with | [_, _, _], _ => rfl
    m_Mast_take := ⟨a_Mast_take, i_Mast_take, k_Mast_take⟩
    F_Mast_fall := fun_mk (st := s_Mast_fall) l_Mast_fall c_Mast_fall k_Mast_fall
    k_Mast_fall := k_Mast_fall
    b_Mast_fall := (fun_mk (st := s_Mast_fall) l_Mast_fall c_Mast_fall k_Mast_fall).binds (ps := ["self"]) fun _ _ _ _ _ _ us hl => match us, hl with | [_], _ => rfl
    m_Mast_fall := ⟨a_Mast_fall, i_Mast_fall, k_Mast_fall⟩
    F_Mast_lead_up := fun_mk (st := s_Mast_lead_up) l_Mast_lead_up c_Mast_lead_up k_Mast_lead_up
    k_Mast_lead_up := k_Mast_lead_up
    b_Mast_lead_up := (fun_mk (st := s_Mast_lead_up) l_Mast_lead_up c_Mast_lead_up k_Mast_lead_up).binds (ps := ["self", "call", "frame"]) fun _ _ _ _ _ _ us hl => match us, hl with | [_, _, _], _ => rfl
    m_Mast_lead_up := ⟨a_Mast_lead_up, i_Mast_lead_up, k_Mast_lead_up⟩
    F_Mast_lead_down := fun_mk (st := s_Mast_lead_down) l_Mast_lead_down c_Mast_lead_down k_Mast_lead_down
    k_Mast_lead_down := k_Mast_lead_down
    b_Mast_lead_down := (fun_mk (st := s_Mast_lead_down) l_Mast_lead_down c_Mast_lead_down k_Mast_lead_down).binds (ps := ["self", "call", "epoch", "frame"]) fun _ _ _ _ _ _ us hl => match us, hl with | [_, _, _, _], _ => rfl
    m_Mast_lead_down := ⟨a_Mast_lead_down, i_Mast_lead_down, k_Mast_lead_down⟩
    F_law_number := fun_mk (st := s_law_number) l_law_number c_law_number k_law_number
    k_law_number := k_law_number
    b_law_number := (fun_mk (st := s_law_number) l_law_number c_law_number k_law_number).binds (ps := ["_law_script", "_law_index"]) fun _ _ _ _ _ _ us hl => match us, hl with | [_, _], _ => rfl
    mg_law_number := PySem.W.mg_of X G a_law_number
    F_law_take := fun_mk (st := s_law_take) l_law_take c_law_take k_law_take
    k_law_take := k_law_take
    b_law_take := (fun_mk (st := s_law_take) l_law_take c_law_take k_law_take).binds (ps := ["_law_draw", "_law_many"]) fun _ _ _ _ _ _ us hl => match us, hl with | [_, _], _ => rfl
    mg_law_take := PySem.W.mg_of X G a_law_take
    F_law_pick := fun_mk (st := s_law_pick) l_law_pick c_law_pick k_law_pick
    k_law_pick := k_law_pick
    b_law_pick := (fun_mk (st := s_law_pick) l_law_pick c_law_pick k_law_pick).binds (ps := ["_law_draw", "_law_items"]) fun _ _ _ _ _ _ us hl => match us, hl with | [_, _], _ => rfl
    mg_law_pick := PySem.W.mg_of X G a_law_pick
    F_law := fun_mk (st := s_law) l_law c_law k_law
    k_law := k_law
    b_law := (fun_mk (st := s_law) l_law c_law k_law).binds (ps := ["_law_script"]) fun _ _ _ _ _ _ us hl => match us, hl with | [_], _ => rfl
    mg_law := PySem.W.mg_of X G a_law
    no_abs := PySem.W.mg_none_of X G z_abs
    no_dict := PySem.W.mg_none_of X G z_dict
    no_int := PySem.W.mg_none_of X G z_int
    no_len := PySem.W.mg_none_of X G z_len
    no_list := PySem.W.mg_none_of X G z_list
    no_range := PySem.W.mg_none_of X G z_range
    no_str := PySem.W.mg_none_of X G z_str
    no_tuple := PySem.W.mg_none_of X G z_tuple }
  exact ⟨T.fd_law, fun s v => .of_eq rfl, fun base _ _ => law_ok T⟩
theorem walk {l : PySem.W.OpenLaw} {q : Program} {loose : List Str} {XP : (Str → Option Value) → Heap → Prop} {YP : World → Heap → Prop} {d : DefRec} {K : Params → PySem.W.Frag} (hn : l.most = some 63) (hdf : d.params.defaults = [])
    (hY : ∀ (w : World) (h : Heap), YP w h → (K w.params).In h)
    (F : ∀ (w : World) (mg : Str → Option Value) (fa : Addr) (h : Heap), (K w.params).In h → h.Ns mainGlobals mg → mg d.name = some (.ref fa) →
      ∃ fd : FuncData, (∀ (s : Shared) (u : Value), BindsTo s fd ⟨[u], []⟩ [("_law_script", u)]) ∧ ∀ base : Heap, (K w.params).In base → base.Ns mainGlobals mg → FnOk l.prog w (K w.params) mg base CX0 4 fa fd ["_law_script"] (spLaw (K w.params))) :
    PySem.W.WalkO q loose XP YP l.row.toRowW d [] (fun f vs => PySem.call f vs) :=
  L2.walk_of (n := 63) (k := 4) (x := "_law_script") (CX := fun _ => CX0) (sp := fun w => spLaw (K w.params)) hn (by decide) hdf ⟨rfl, by decide, by decide⟩ hY F (fun _ H a ns hl _ hS => spLaw_intro hl hS) fun _ _ _ _ _ z => z
end Lw
open PySem PySem.W PyProof.Rows
set_option maxRecDepth 100000 in
set_option maxHeartbeats 0 in
theorem PySem.Challenge.cw_mastcalls_k13_whole_lists_holds : PySem.Challenge.rw_mastcalls_k13_whole_lists.Holds := by
  w_on; o_law; k_head; (case hw => w_witness2)
  k_fill
  refine Lw.walk (l := PySem.Challenge.rw_mastcalls_k13_whole_lists) rfl rfl (fun w h Y => PySem.W.kIn_of Y) ?F
  case F =>
    intro w mg fa h KX G hmg
    refine' Lw.all_mk KX G hmg ?aC_Mast ?pg_Mast ?hd_Mast ?po_Mast ?sa_Mast ?mk_Mast ?kc_Mast ?na_Mast_0 ?na_Mast_1 ?na_Mast_2 ?a_Mast_init ?i_Mast_init ?l_Mast_init ?c_Mast_init ?k_Mast_init ?a_Mast_take ?i_Mast_take ?l_Mast_take ?c_Mast_take ?k_Mast_take ?a_Mast_fall ?i_Mast_fall ?l_Mast_fall ?c_Mast_fall ?k_Mast_fall ?a_Mast_lead_up ?i_Mast_lead_up ?l_Mast_lead_up ?c_Mast_lead_up ?k_Mast_lead_up ?a_Mast_lead_down ?i_Mast_lead_down ?l_Mast_lead_down ?c_Mast_lead_down ?k_Mast_lead_down ?a_law_number ?i_law_number ?l_law_number ?c_law_number ?k_law_number ?a_law_take ?i_law_take ?l_law_take ?c_law_take ?k_law_take ?a_law_pick ?i_law_pick ?l_law_pick ?c_law_pick ?k_law_pick ?a_law ?i_law ?l_law ?c_law ?k_law ?z_abs ?z_dict ?z_int ?z_len ?z_list ?z_range ?z_str ?z_tuple
    (case aC_Mast => k_is)
    (case pg_Mast => k_is)
    (case hd_Mast => k_is)
    (case po_Mast => k_is)
    (case sa_Mast => k_is)
    (case mk_Mast => k_is)
    (case kc_Mast => k_is)
    (case na_Mast_0 => k_is)
    (case na_Mast_1 => k_is)
    (case na_Mast_2 => k_is)
    (case a_Mast_init => k_is)
    (case i_Mast_init => k_is)
    (case l_Mast_init => k_is)
    (case c_Mast_init => k_is)
    (case k_Mast_init => k_is)
    (case a_Mast_take => k_is)
    (case i_Mast_take => k_is)
    (case l_Mast_take => k_is)
    (case c_Mast_take => k_is)
    (case k_Mast_take => k_is)
    (case a_Mast_fall => k_is)
    (case i_Mast_fall => k_is)
    (case l_Mast_fall => k_is)
    (case c_Mast_fall => k_is)
    (case k_Mast_fall => k_is)
    (case a_Mast_lead_up => k_is)
    (case i_Mast_lead_up => k_is)
    (case l_Mast_lead_up => k_is)
    (case c_Mast_lead_up => k_is)
    (case k_Mast_lead_up => k_is)
    (case a_Mast_lead_down => k_is)
    (case i_Mast_lead_down => k_is)
    (case l_Mast_lead_down => k_is)
    (case c_Mast_lead_down => k_is)
    (case k_Mast_lead_down => k_is)
    (case a_law_number => k_is)
    (case i_law_number => k_is)
    (case l_law_number => k_is)
    (case c_law_number => k_is)
    (case k_law_number => k_is)
    (case a_law_take => k_is)
    (case i_law_take => k_is)
    (case l_law_take => k_is)
    (case c_law_take => k_is)
    (case k_law_take => k_is)
    (case a_law_pick => k_is)
    (case i_law_pick => k_is)
    (case l_law_pick => k_is)
    (case c_law_pick => k_is)
    (case k_law_pick => k_is)
    (case a_law => k_is)
    (case i_law => k_is)
    (case l_law => k_is)
    (case c_law => k_is)
    (case k_law => k_is)
    (case z_abs => k_is)
    (case z_dict => k_is)
    (case z_int => k_is)
    (case z_len => k_is)
    (case z_list => k_is)
    (case z_range => k_is)
    (case z_str => k_is)
    (case z_tuple => k_is)
