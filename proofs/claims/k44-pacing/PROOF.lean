import PyProof.Rows.All
import Wide.All
import OpenK.AllK
import Wide.FinOn
import HandS.ForMost
import HandS.Walk
import HandS.Flow
import HandS.Style
import HandS.TupAny
import HandS.Evl
import HandS.Deep
import HandS.Dict
import HandS.DictComp
import KE.KExcSuper
import HandS.ExcSuper
import HandS.ExcField
import HandS.ExcCtx
import HandS.WordsExc
import HandS.IsInst
import HandS.Star
import HandS.DictEq
import HandS.DeepEq
import KE.KEqDict
import KE.KDictPairs
import KE.DatumOrd
import PySem.Challenge.RW_mastcalls_k44_whole_pacing
set_option Elab.async false
set_option linter.all false
set_option maxRecDepth 100000
set_option maxHeartbeats 2000000
/-! Sx: a state by descriptions: frozen data, owned cells; what an expression evaluates to; statements. -/
namespace Sx
open PySem L2 Evl

/-! ### the frozen part may grow, dicts in it may be locked and unlocked -/
def plainHO (_ : HO) : Bool := true
structure Fx (F F' : Hp) : Prop where
  pl : ∀ a u, F a = some u → plainHO u = true → F' a = some u
theorem Fx.refl (F : Hp) : Fx F F := ⟨fun _ _ h _ => h⟩
theorem Fx.trans {F F1 F2 : Hp} (a : Fx F F1) (b : Fx F1 F2) : Fx F F2 := ⟨fun x u h p => b.pl x u (a.pl x u h p) p⟩
theorem Fx.of {F F' : Hp} (h : Ex F F') : Fx F F' := ⟨fun a u e _ => h a u e⟩

structure VD where
  P : Hp → V → Prop
  mono : ∀ {F F' : Hp} {v : V}, Fx F F' → P F v → P F' v
structure CD where
  P : Hp → Addr → HO → Prop
  mono : ∀ {F F' : Hp} {p : Addr} {o : HO}, Fx F F' → F' p = F p → P F p o → P F' p o
abbrev Env := List (Option VD)
abbrev Cells := List (Addr × CD)
/-- what stands besides: of the frozen part, and more cells -/
structure Fr where
  N : Cells
  P : Hp → Prop
  mono : ∀ {F F' : Hp}, Fx F F' → P F → P F'

/-! ### data -/
mutual
inductive Rp (F : Hp) : V → PyData → Prop
  | non : Rp F .non .none
  | bl (b : Bool) : Rp F (.bl b) (.bool b)
  | int (i : Int) : Rp F (.int i) (.int i)
  | str (x : Str) : Rp F (.str x) (.str x)
  | lst {a : Addr} {xs : List V} {ds : List PyData} : F a = some (.lst xs) → RpL F xs ds → Rp F (.ref a) (.list ds)
  | tup {a : Addr} {xs : List V} {ds : List PyData} : F a = some (.tup xs) → RpL F xs ds → Rp F (.ref a) (.tuple ds)
inductive RpL (F : Hp) : List V → List PyData → Prop
  | nil : RpL F [] []
  | cons {v : V} {vs : List V} {d : PyData} {ds : List PyData} : Rp F v d → RpL F vs ds → RpL F (v :: vs) (d :: ds)
end
mutual
theorem Rp.mono {F F' : Hp} (e : Fx F F') : ∀ (d : PyData) {v : V}, Rp F v d → Rp F' v d
  | .none, _, h => by cases h; exact .non
  | .bool b, _, h => by cases h; exact .bl b
  | .int i, _, h => by cases h; exact .int i
  | .str x, _, h => by cases h; exact .str x
  | .list ds, _, h => by
    cases h with
    | lst h1 h2 => exact .lst (e.pl _ _ h1 rfl) (RpL.mono e ds h2)
  | .tuple ds, _, h => by
    cases h with
    | tup h1 h2 => exact .tup (e.pl _ _ h1 rfl) (RpL.mono e ds h2)
  | .dict _, _, h => by cases h
theorem RpL.mono {F F' : Hp} (e : Fx F F') : ∀ (ds : List PyData) {vs : List V}, RpL F vs ds → RpL F' vs ds
  | [], _, h => by cases h; exact .nil
  | d :: ds, _, h => by
    cases h with
    | cons h1 h2 => exact .cons (Rp.mono e d h1) (RpL.mono e ds h2)
end
mutual
theorem Rp.dp {K : PySem.W.Frag} {F H : Hp} (e : Ex F H) : ∀ (d : PyData) {v : V}, Rp F v d → Dp K H v d
  | .none, _, h => by cases h; exact .non
  | .bool b, _, h => by cases h; exact .bl b
  | .int i, _, h => by cases h; exact .int i
  | .str x, _, h => by cases h; exact .str x
  | .list ds, _, h => by
    cases h with
    | lst h1 h2 => exact .lst (.inl (.inl (e _ _ h1))) (RpL.dp e ds h2)
  | .tuple ds, _, h => by
    cases h with
    | tup h1 h2 => exact .tup (.inl (.inl (e _ _ h1))) (RpL.dp e ds h2)
  | .dict _, _, h => by cases h
theorem RpL.dp {K : PySem.W.Frag} {F H : Hp} (e : Ex F H) : ∀ (ds : List PyData) {vs : List V}, RpL F vs ds → DpAll K H vs ds
  | [], _, h => by cases h; exact .nil
  | d :: ds, _, h => by
    cases h with
    | cons h1 h2 => exact .cons (Rp.dp e d h1) (RpL.dp e ds h2)
end
theorem RpL.length {F : Hp} : ∀ {vs : List V} {ds : List PyData}, RpL F vs ds → vs.length = ds.length
  | _, _, .nil => rfl
  | _, _, .cons _ h => by simp [RpL.length h]
theorem RpL.get {F : Hp} : ∀ {vs : List V} {ds : List PyData} {i : Nat} {d : PyData}, RpL F vs ds → ds[i]? = some d → ∃ v, vs[i]? = some v ∧ Rp F v d
  | _, _, _, _, .nil, e => by simp at e
  | _, _, 0, _, .cons h _, e => by simp at e; subst e; exact ⟨_, rfl, h⟩
  | _, _, i + 1, d, .cons _ t, e => by
    obtain ⟨v, h1, h2⟩ := RpL.get (i := i) (d := d) t (by simpa using e)
    exact ⟨v, by simpa using h1, h2⟩
theorem RpL.getV {F : Hp} : ∀ {vs : List V} {ds : List PyData} {i : Nat} {v : V}, RpL F vs ds → vs[i]? = some v → ∃ d, ds[i]? = some d ∧ Rp F v d
  | _, _, _, _, .nil, e => by simp at e
  | _, _, 0, _, .cons h _, e => by simp at e; subst e; exact ⟨_, rfl, h⟩
  | _, _, i + 1, d, .cons _ t, e => by
    obtain ⟨v, h1, h2⟩ := RpL.getV (i := i) (v := d) t (by simpa using e)
    exact ⟨v, by simpa using h1, h2⟩
theorem RpL.append {F : Hp} : ∀ {vs ws : List V} {ds es : List PyData}, RpL F vs ds → RpL F ws es → RpL F (vs ++ ws) (ds ++ es)
  | _, _, _, _, .nil, s => s
  | _, _, _, _, .cons r t, s => .cons r (RpL.append t s)
theorem RpL.take {F : Hp} : ∀ {vs : List V} {ds : List PyData} (n : Nat), RpL F vs ds → RpL F (vs.take n) (ds.take n)
  | _, _, 0, _ => .nil
  | _, _, _ + 1, .nil => .nil
  | _, _, n + 1, .cons r t => .cons r (RpL.take n t)
theorem RpL.drop {F : Hp} : ∀ {vs : List V} {ds : List PyData} (n : Nat), RpL F vs ds → RpL F (vs.drop n) (ds.drop n)
  | _, _, 0, r => r
  | _, _, _ + 1, .nil => .nil
  | _, _, n + 1, .cons _ t => RpL.drop n t
theorem RpL.set {F : Hp} {v : V} {d : PyData} (r : Rp F v d) : ∀ {vs : List V} {ds : List PyData} (i : Nat), RpL F vs ds → RpL F (vs.set i v) (ds.set i d)
  | _, _, _, .nil => .nil
  | _, _, 0, .cons _ t => .cons r t
  | _, _, i + 1, .cons q t => .cons q (RpL.set r i t)
theorem RpL.reverse {F : Hp} : ∀ {vs : List V} {ds : List PyData}, RpL F vs ds → RpL F vs.reverse ds.reverse
  | _, _, .nil => .nil
  | _, _, .cons r t => by
    rw [List.reverse_cons, List.reverse_cons]
    exact RpL.append (RpL.reverse t) (.cons r .nil)
theorem RpL.ints {F : Hp} : ∀ {vs : List V} {ns : List Int}, RpL F vs (ns.map PyData.int) → vs = ns.map V.int
  | _, [], h => by cases h; rfl
  | _, n :: ns, h => by
    cases h with
    | cons h1 h2 =>
      cases h1
      rw [RpL.ints h2]
      rfl
theorem RpL.bls {F : Hp} : ∀ {vs : List V} {ns : List Bool}, RpL F vs (ns.map PyData.bool) → vs = ns.map V.bl
  | _, [], h => by cases h; rfl
  | _, n :: ns, h => by
    cases h with
    | cons h1 h2 =>
      cases h1
      rw [RpL.bls h2]
      rfl
theorem RpL.strs {F : Hp} : ∀ {vs : List V} {ns : List Str}, RpL F vs (ns.map PyData.str) → vs = ns.map V.str
  | _, [], h => by cases h; rfl
  | _, n :: ns, h => by
    cases h with
    | cons h1 h2 =>
      cases h1
      rw [RpL.strs h2]
      rfl

abbrev DA (F : Hp) (ds : List VD) (vs : List V) : Prop := Paired (fun (x : VD) (v : V) => x.P F v) ds vs
theorem DA.mono {F F' : Hp} (e : Fx F F') {ds : List VD} {vs : List V} (h : DA F ds vs) : DA F' ds vs := Paired.mapP h fun x _ q => x.mono e q
theorem DA.get {F : Hp} : ∀ {ds : List VD} {vs : List V} {i : Nat} {d : VD}, DA F ds vs → ds[i]? = some d → ∃ v, vs[i]? = some v ∧ d.P F v
  | _, _, _, _, .nil, e => by simp at e
  | _, _, 0, _, .cons h _, e => by simp at e; subst e; exact ⟨_, rfl, h⟩
  | _, _, i + 1, d, .cons _ t, e => by
    obtain ⟨v, h1, h2⟩ := DA.get (i := i) (d := d) t (by simpa using e)
    exact ⟨v, by simpa using h1, h2⟩
theorem DA.append {F : Hp} : ∀ {vs ws : List V} {ds es : List VD}, DA F ds vs → DA F es ws → DA F (ds ++ es) (vs ++ ws)
  | _, _, _, _, .nil, s => s
  | _, _, _, _, .cons r t, s => .cons r (DA.append t s)
theorem DA.set {F : Hp} {v : V} {d : VD} (r : d.P F v) : ∀ {vs : List V} {ds : List VD} (i : Nat), DA F ds vs → DA F (ds.set i d) (vs.set i v)
  | _, _, _, .nil => .nil
  | _, _, 0, .cons _ t => .cons r t
  | _, _, i + 1, .cons q t => .cons q (DA.set r i t)

/-! ### descriptions of values -/
def dat (d : PyData) : VD := ⟨fun F v => Rp F v d, fun e h => h.mono e⟩
def val (v0 : V) : VD := ⟨fun _ v => v = v0, fun _ h => h⟩
def vtup (xs : List VD) : VD := ⟨fun F v => ∃ a vs, v = .ref a ∧ F a = some (.tup vs) ∧ DA F xs vs, fun e ⟨a, vs, h1, h2, h3⟩ => ⟨a, vs, h1, e.pl _ _ h2 rfl, h3.mono e⟩⟩
def vlst (xs : List VD) : VD := ⟨fun F v => ∃ a vs, v = .ref a ∧ F a = some (.lst vs) ∧ DA F xs vs, fun e ⟨a, vs, h1, h2, h3⟩ => ⟨a, vs, h1, e.pl _ _ h2 rfl, h3.mono e⟩⟩
/-- a list of ints that is only read: the script -/
def vscr (K : PySem.W.Frag) (ns : List Int) : VD := ⟨fun F v => ∃ a, v = .ref a ∧ SqL K F a (ns.map V.int), fun {F F' v} e ⟨a, h1, h2⟩ => ⟨a, h1, by
  rcases h2 with (h | ⟨o, h⟩) | h
  · exact .inl (.inl (e.pl _ _ h rfl))
  · exact .inl (.inr ⟨o, e.pl _ _ h rfl⟩)
  · exact .inr h⟩⟩
abbrev vi (i : Int) : VD := dat (.int i)
abbrev vb (b : Bool) : VD := dat (.bool b)
abbrev vt (x : Str) : VD := dat (.str x)
abbrev vn : VD := dat .none
theorem DA.of_dat {F : Hp} : ∀ {ds : List PyData} {vs : List V}, DA F (ds.map dat) vs ↔ RpL F vs ds
  | [], vs => by
    constructor
    · intro h; cases h; exact .nil
    · intro h; cases h; exact .nil
  | d :: ds, vs => by
    constructor
    · intro h
      cases h with
      | cons h1 h2 => exact .cons h1 (DA.of_dat.mp h2)
    · intro h
      cases h with
      | cons h1 h2 => exact .cons h1 (DA.of_dat.mpr h2)
theorem vtup_dat {F : Hp} {v : V} {ds : List PyData} : (vtup (ds.map dat)).P F v ↔ (dat (.tuple ds)).P F v := by
  constructor
  · rintro ⟨a, ws, rfl, h1, h2⟩
    exact .tup h1 (DA.of_dat.mp h2)
  · intro h
    cases h with
    | tup h1 h2 => exact ⟨_, _, rfl, h1, DA.of_dat.mpr h2⟩
theorem vlst_dat {F : Hp} {v : V} {ds : List PyData} : (vlst (ds.map dat)).P F v ↔ (dat (.list ds)).P F v := by
  constructor
  · rintro ⟨a, ws, rfl, h1, h2⟩
    exact .lst h1 (DA.of_dat.mp h2)
  · intro h
    cases h with
    | lst h1 h2 => exact ⟨_, _, rfl, h1, DA.of_dat.mpr h2⟩

/-! ### descriptions of cells -/
def cL (xs : List VD) : CD := ⟨fun F p o => F p = none ∧ ∃ vs, o = .lst vs ∧ DA F xs vs, fun e q ⟨h0, vs, h1, h2⟩ => ⟨q.trans h0, vs, h1, h2.mono e⟩⟩
/-- a list of data -/
def cLd (ds : List PyData) : CD := ⟨fun F p o => F p = none ∧ ∃ vs, o = .lst vs ∧ RpL F vs ds, fun e q ⟨h0, vs, h1, h2⟩ => ⟨q.trans h0, vs, h1, h2.mono e⟩⟩
def FA (F : Hp) (ns : List Str) (xs : List VD) (fs : List (Str × V)) : Prop := fs.map (·.1) = ns ∧ DA F xs (fs.map (·.2))
def cI (C : Addr) (ns : List Str) (xs : List VD) : CD := ⟨fun F p o => F p = none ∧ ∃ dx fs, o = .ins C dx fs ∧ FA F ns xs fs, fun e q ⟨h0, dx, fs, h1, h2, h3⟩ => ⟨q.trans h0, dx, fs, h1, h2, h3.mono e⟩⟩

/-! ### frames, states -/
def Fr.and (Φ : Fr) (x : VD) (v : V) : Fr := ⟨Φ.N, fun F => Φ.P F ∧ x.P F v, fun e ⟨h1, h2⟩ => ⟨Φ.mono e h1, x.mono e h2⟩⟩
def Fr.andA (Φ : Fr) (ds : List VD) (vs : List V) : Fr := ⟨Φ.N, fun F => Φ.P F ∧ DA F ds vs, fun e ⟨h1, h2⟩ => ⟨Φ.mono e h1, h2.mono e⟩⟩
def Fr.top : Fr := ⟨[], fun _ => True, fun _ h => h⟩
def Slots (F : Hp) (σ : L2.St) (ρ : Env) : Prop := σ.length = ρ.length ∧ ∀ (i : Nat) (x : VD), ρ[i]? = some (some x) → ∃ v : V, σ[i]? = some (some v) ∧ x.P F v
theorem Slots.mono {F F' : Hp} {σ : L2.St} {ρ : Env} (e : Fx F F') (h : Slots F σ ρ) : Slots F' σ ρ := ⟨h.1, fun i x q => let ⟨v, h1, h2⟩ := h.2 i x q; ⟨v, h1, x.mono e h2⟩⟩
def Fr.slots (Φ : Fr) (σ : L2.St) (ρ : Env) : Fr := ⟨Φ.N, fun F => Φ.P F ∧ Slots F σ ρ, fun e ⟨h1, h2⟩ => ⟨Φ.mono e h1, h2.mono e⟩⟩
/-- more cells besides -/
def Fr.more (Φ : Fr) (c : Addr × CD) : Fr := ⟨c :: Φ.N, Φ.P, Φ.mono⟩
structure Le (Φ Ψ : Fr) : Prop where
  n : Ψ.N.Sublist Φ.N
  p : ∀ F, Φ.P F → Ψ.P F
theorem Le.refl (Φ : Fr) : Le Φ Φ := ⟨List.Sublist.refl _, fun _ h => h⟩
theorem Le.trans {Φ Ψ Χ : Fr} (a : Le Φ Ψ) (b : Le Ψ Χ) : Le Φ Χ := ⟨b.n.trans a.n, fun F h => b.p F (a.p F h)⟩
theorem Le.of {Φ Ψ : Fr} (e : Φ.N = Ψ.N) (h : ∀ F, Φ.P F → Ψ.P F) : Le Φ Ψ := ⟨by rw [e]; exact List.Sublist.refl _, h⟩
theorem Le.and {Φ : Fr} {x : VD} {v : V} : Le (Φ.and x v) Φ := .of rfl fun _ h => h.1
theorem Le.andA {Φ : Fr} {x : List VD} {v : List V} : Le (Φ.andA x v) Φ := .of rfl fun _ h => h.1
theorem Le.slots {Φ : Fr} {x : Env} {v : L2.St} : Le (Φ.slots v x) Φ := .of rfl fun _ h => h.1
theorem Le.more {Φ : Fr} {c : Addr × CD} : Le (Φ.more c) Φ := ⟨List.sublist_cons_self _ _, fun _ h => h⟩

structure SatF (F : Hp) (Φ : Fr) (ρ : Env) (M : Cells) (σ : L2.St) (H : Hp) : Prop where
  ex : Ex F H
  fr : Φ.P F
  sl : Slots F σ ρ
  nd : ((M ++ Φ.N).map (·.1)).Nodup
  ce : ∀ c ∈ M ++ Φ.N, ∃ o, H c.1 = some o ∧ c.2.P F c.1 o
def Sat (Φ : Fr) (ρ : Env) (M : Cells) (σ : L2.St) (H : Hp) : Prop := ∃ F, SatF F Φ ρ M σ H
theorem Sat.weak {Φ Ψ : Fr} {ρ : Env} {M : Cells} {σ : L2.St} {H : Hp} (h : Sat Φ ρ M σ H) (l : Le Φ Ψ) : Sat Ψ ρ M σ H :=
  let ⟨F, s⟩ := h; ⟨F, s.ex, l.p F s.fr, s.sl, List.Pairwise.sublist ((List.Sublist.append (List.Sublist.refl M) l.n).map _) s.nd, fun c hc => s.ce c ((List.Sublist.append (List.Sublist.refl M) l.n).subset hc)⟩
theorem Sat.weak1 {Φ : Fr} {x : VD} {v : V} {ρ : Env} {M : Cells} {σ : L2.St} {H : Hp} (h : Sat (Φ.and x v) ρ M σ H) : Sat Φ ρ M σ H := h.weak Le.and
/-- a new plain object -/
theorem SatF.new {F : Hp} {Φ : Fr} {ρ : Env} {M : Cells} {σ : L2.St} {H : Hp} {p : Addr} {o : HO} (s : SatF F Φ ρ M σ H) (hp : H p = none) : SatF (upd F p o) Φ ρ M σ (upd H p o) ∧ Fx F (upd F p o) := by
  have hF : F p = none := fresh_back s.ex hp
  have fx : Fx F (upd F p o) := Fx.of (Ex.new hF)
  refine ⟨⟨fun a u e => ?_, Φ.mono fx s.fr, s.sl.mono fx, s.nd, fun c hc => ?_⟩, fx⟩
  · by_cases h : a = p
    · subst h; rw [upd_same] at e ⊢; exact e
    · rw [upd_ne h] at e ⊢; exact s.ex a u e
  · obtain ⟨u, h1, h2⟩ := s.ce c hc
    have hne : c.1 ≠ p := ne_of_none h1 hp
    exact ⟨u, by rw [upd_ne hne]; exact h1, c.2.mono fx (upd_ne hne) h2⟩
/-- the heap alone grows -/
theorem SatF.newH {F : Hp} {Φ : Fr} {ρ : Env} {M : Cells} {σ : L2.St} {H : Hp} {p : Addr} {o : HO} (s : SatF F Φ ρ M σ H) (hp : H p = none) : SatF F Φ ρ M σ (upd H p o) := by
  refine ⟨fun a u e => ?_, s.fr, s.sl, s.nd, fun c hc => ?_⟩
  · rw [upd_ne (ne_of_none (s.ex a u e) hp)]; exact s.ex a u e
  · obtain ⟨u, h1, h2⟩ := s.ce c hc
    exact ⟨u, by rw [upd_ne (ne_of_none h1 hp)]; exact h1, h2⟩
/-- a new object, owned -/
theorem SatF.newC {F : Hp} {Φ : Fr} {ρ : Env} {M : Cells} {σ : L2.St} {H : Hp} {p : Addr} {o : HO} {c : CD} (s : SatF F Φ ρ M σ H) (hp : H p = none) (hc : F p = none → c.P F p o) : SatF F Φ ρ ((p, c) :: M) σ (upd H p o) := by
  have s' := s.newH (o := o) hp
  refine ⟨s'.ex, s'.fr, s'.sl, ?_, fun d hd => ?_⟩
  · rw [List.cons_append, List.map_cons, List.nodup_cons]
    refine ⟨fun hm => ?_, s.nd⟩
    obtain ⟨d, hd, e⟩ := List.mem_map.mp hm
    obtain ⟨u, h1, _⟩ := s.ce d hd
    rw [e, hp] at h1
    cases h1
  · rcases List.mem_cons.mp hd with rfl | hd
    · exact ⟨o, upd_same, hc (fresh_back s.ex hp)⟩
    · exact s'.ce d hd

/-! ### cells: one is found; one is put in another's place -/
inductive Put (p : Addr) (c c' : CD) : Cells → Cells → Prop
  | here {l : Cells} : Put p c c' ((p, c) :: l) ((p, c') :: l)
  | there {x : Addr × CD} {l l' : Cells} : Put p c c' l l' → Put p c c' (x :: l) (x :: l')
theorem Put.mem {p : Addr} {c c' : CD} {M M' : Cells} (h : Put p c c' M M') : (p, c) ∈ M := by
  induction h with
  | here => exact List.mem_cons_self
  | there _ ih => exact List.mem_cons_of_mem _ ih
theorem Put.addrs {p : Addr} {c c' : CD} {M M' : Cells} (h : Put p c c' M M') : M'.map (·.1) = M.map (·.1) := by
  induction h with
  | here => rfl
  | there _ ih => simp [ih]
theorem Put.mem' {p : Addr} {c c' : CD} {M M' : Cells} (h : Put p c c' M M') : ∀ d ∈ M', d = (p, c') ∨ d ∈ M := by
  induction h with
  | here =>
    intro d hd
    rcases List.mem_cons.mp hd with e | hd
    · exact .inl e
    · exact .inr (List.mem_cons_of_mem _ hd)
  | there _ ih =>
    intro d hd
    rcases List.mem_cons.mp hd with e | hd
    · exact .inr (by rw [e]; exact List.mem_cons_self)
    · exact (ih d hd).imp_right (List.mem_cons_of_mem _)
theorem Put.uniq {p : Addr} {c c' : CD} {M M' : Cells} (h : Put p c c' M M') (nd : (M.map (·.1)).Nodup) : ∀ d ∈ M', d ≠ (p, c') → d.1 ≠ p := by
  induction h with
  | @here l =>
    intro d hd hne e
    rcases List.mem_cons.mp hd with q | hd
    · exact hne q
    · have := (List.nodup_cons.mp nd).1
      exact this (List.mem_map.mpr ⟨d, hd, e⟩)
  | @there x l l' hp ih =>
    intro d hd hne e
    rcases List.mem_cons.mp hd with q | hd
    · subst q
      have := (List.nodup_cons.mp nd).1
      exact this (List.mem_map.mpr ⟨(p, c), hp.mem, e.symm⟩)
    · exact ih (List.nodup_cons.mp nd).2 d hd hne e
theorem Put.app {p : Addr} {c c' : CD} {M M' : Cells} (h : Put p c c' M M') (N : Cells) : Put p c c' (M ++ N) (M' ++ N) := by
  induction h with
  | here => exact .here
  | there _ ih => exact .there ih
theorem Put.behind {p : Addr} {c c' : CD} {N N' : Cells} (h : Put p c c' N N') : ∀ M : Cells, Put p c c' (M ++ N) (M ++ N')
  | [] => h
  | _ :: M => .there (Put.behind h M)
/-- an owned cell is written -/
theorem SatF.put {F : Hp} {Φ Φ' : Fr} {ρ : Env} {M M' : Cells} {σ : L2.St} {H : Hp} {p : Addr} {o : HO} {c c' : CD} (s : SatF F Φ ρ M σ H) (h : Put p c c' (M ++ Φ.N) (M' ++ Φ'.N)) (hΦ : Φ'.P F) (hF : F p = none) (hc : c'.P F p o) : SatF F Φ' ρ M' σ (upd H p o) := by
  refine ⟨fun a u e => ?_, hΦ, s.sl, by rw [h.addrs]; exact s.nd, fun d hd => ?_⟩
  · have : a ≠ p := ne_of_none e hF
    rw [upd_ne this]; exact s.ex a u e
  · rcases Classical.em (d = (p, c')) with e | e
    · subst e; exact ⟨o, upd_same, hc⟩
    · have hne := h.uniq s.nd d hd e
      obtain ⟨u, h1, h2⟩ := s.ce d ((h.mem' d hd).resolve_left e)
      exact ⟨u, by rw [upd_ne hne]; exact h1, h2⟩
theorem SatF.put1 {F : Hp} {Φ : Fr} {ρ : Env} {M M' : Cells} {σ : L2.St} {H : Hp} {p : Addr} {o : HO} {c c' : CD} (s : SatF F Φ ρ M σ H) (h : Put p c c' M M') (hF : F p = none) (hc : c'.P F p o) : SatF F Φ ρ M' σ (upd H p o) := s.put (h.app _) s.fr hF hc
theorem SatF.at {F : Hp} {Φ : Fr} {ρ : Env} {M : Cells} {σ : L2.St} {H : Hp} {p : Addr} {c : CD} (s : SatF F Φ ρ M σ H) (h : (p, c) ∈ M) : ∃ o, H p = some o ∧ c.P F p o := s.ce _ (List.mem_append_left _ h)
theorem Put.same {p : Addr} {c : CD} : ∀ {M : Cells}, (p, c) ∈ M → Put p c c M M
  | [], h => by cases h
  | x :: l, h => by
    by_cases e : (p, c) = x
    · subst e; exact .here
    · exact .there (Put.same ((List.mem_cons.mp h).resolve_left e))

/-! ### slots -/
inductive SetAt (x : VD) : Env → Nat → Env → Prop
  | here {a : Option VD} {l : Env} : SetAt x (a :: l) 0 (some x :: l)
  | there {a : Option VD} {l l' : Env} {i : Nat} : SetAt x l i l' → SetAt x (a :: l) (i + 1) (a :: l')
theorem SetAt.eq {x : VD} {ρ ρ' : Env} {i : Nat} (h : SetAt x ρ i ρ') : ρ' = ρ.set i (some x) := by
  induction h with
  | here => rfl
  | there _ ih => simp [ih]
theorem Slots.set {F : Hp} {σ : L2.St} {ρ : Env} (h : Slots F σ ρ) {i : Nat} {x : VD} {v : V} (hv : x.P F v) : Slots F (σ.set i (some v)) (ρ.set i (some x)) := by
  refine ⟨by simp [h.1], fun j y e => ?_⟩
  by_cases q : i = j
  · subst q
    by_cases hl : i < ρ.length
    · rw [List.getElem?_set_self hl] at e
      cases e
      exact ⟨v, by rw [List.getElem?_set_self (by rw [h.1]; exact hl)], hv⟩
    · rw [List.getElem?_eq_none (by simp; omega)] at e
      cases e
  · rw [List.getElem?_set_ne q] at e
    obtain ⟨w, h1, h2⟩ := h.2 j y e
    exact ⟨w, by rw [List.getElem?_set_ne q]; exact h1, h2⟩
theorem Slots.wipe {F : Hp} {σ : L2.St} {ρ : Env} (h : Slots F σ ρ) (i : Nat) : Slots F (σ.set i none) (ρ.set i none) := by
  refine ⟨by simp [h.1], fun j y e => ?_⟩
  by_cases q : i = j
  · subst q
    by_cases hl : i < ρ.length
    · rw [List.getElem?_set_self hl] at e
      cases e
    · rw [List.getElem?_eq_none (by simp; omega)] at e
      cases e
  · rw [List.getElem?_set_ne q] at e
    obtain ⟨w, h1, h2⟩ := h.2 j y e
    exact ⟨w, by rw [List.getElem?_set_ne q]; exact h1, h2⟩
inductive At (x : VD) : Env → Nat → Prop
  | here {l : Env} : At x (some x :: l) 0
  | there {a : Option VD} {l : Env} {i : Nat} : At x l i → At x (a :: l) (i + 1)
theorem At.get {x : VD} {ρ : Env} {i : Nat} (h : At x ρ i) : ρ[i]? = some (some x) := by
  induction h with
  | here => rfl
  | there _ ih => simpa using ih

/-! ### what evaluates to what -/
def Ev (te : TE) (ρ : Env) (M : Cells) (x : VD) (M' : Cells) : Prop := ∀ (Φ : Fr) (σ : L2.St) (H : Hp) (Q : VK), Sat Φ ρ M σ H → (∀ v H', Sat (Φ.and x v) ρ M' σ H' → Q v H') → te σ H Q
def EvA (ta : TA) (ρ : Env) (M : Cells) (ds : List VD) (M' : Cells) : Prop := ∀ (Φ : Fr) (σ : L2.St) (H : Hp) (Q : List V → Hp → Prop), Sat Φ ρ M σ H → (∀ v H', Sat (Φ.andA ds v) ρ M' σ H' → Q v H') → ta σ H Q
/-- .. all of them data -/
def EvD (ta : TA) (ρ : Env) (M : Cells) (ds : List PyData) (M' : Cells) : Prop := EvA ta ρ M (ds.map dat) M'
def EvT (tt : TT) (ρ : Env) (M : Cells) (b : Bool) (M' : Cells) : Prop := ∀ (Φ : Fr) (σ : L2.St) (H : Hp) (Q : Bool → Hp → Prop), Sat Φ ρ M σ H → (∀ H', Sat Φ ρ M' σ H' → Q b H') → tt σ H Q
def EvO (to : TO) (ρ : Env) (M : Cells) (o : Option Int) (M' : Cells) : Prop := ∀ (Φ : Fr) (σ : L2.St) (H : Hp) (Q : Option Int → Hp → Prop), Sat Φ ρ M σ H → (∀ H', Sat Φ ρ M' σ H' → Q o H') → to σ H Q
def RV (r : R2) (x y : VD) (M : Cells) (z : VD) (M' : Cells) : Prop := ∀ (Φ : Fr) (ρ : Env) (σ : L2.St) (v w : V) (H : Hp) (Q : VK), Sat ((Φ.and x v).and y w) ρ M σ H → (∀ u H', Sat (Φ.and z u) ρ M' σ H' → Q u H') → r v w H Q
def RU (r : V → Hp → VK → Prop) (x : VD) (M : Cells) (z : VD) (M' : Cells) : Prop := ∀ (Φ : Fr) (ρ : Env) (σ : L2.St) (v : V) (H : Hp) (Q : VK), Sat (Φ.and x v) ρ M σ H → (∀ u H', Sat (Φ.and z u) ρ M' σ H' → Q u H') → r v H Q
def RC (r : List V → Hp → VK → Prop) (ds : List VD) (M : Cells) (z : VD) (M' : Cells) : Prop := ∀ (Φ : Fr) (ρ : Env) (σ : L2.St) (vs : List V) (H : Hp) (Q : VK), Sat (Φ.andA ds vs) ρ M σ H → (∀ u H', Sat (Φ.and z u) ρ M' σ H' → Q u H') → r vs H Q
def RM (r : V → List V → Hp → VK → Prop) (x : VD) (ds : List VD) (M : Cells) (z : VD) (M' : Cells) : Prop := ∀ (Φ : Fr) (ρ : Env) (σ : L2.St) (v : V) (vs : List V) (H : Hp) (Q : VK), Sat ((Φ.and x v).andA ds vs) ρ M σ H → (∀ u H', Sat (Φ.and z u) ρ M' σ H' → Q u H') → r v vs H Q

section
variable {ρ : Env} {M M1 M2 M3 M' : Cells} {ta tb te : TE} {x y z : VD}
theorem Ev.imp {w : VD} (h : Ev te ρ M x M') (k : ∀ F v, x.P F v → w.P F v) : Ev te ρ M w M' := fun Φ σ H Q s q => h Φ σ H Q s fun v H' s' => q v H' (s'.weak (.of rfl fun F p => ⟨p.1, k F v p.2⟩))
theorem Ev.eq {w : VD} (h : Ev te ρ M x M') (k : x = w) : Ev te ρ M w M' := k ▸ h
theorem ev_var {i : Nat} (h : At x ρ i) : Ev (tVar i) ρ M x M := fun Φ σ H Q ⟨F, s⟩ q => by
  obtain ⟨v, h1, h2⟩ := s.sl.2 i x h.get
  exact ⟨v, h1, q v H ⟨F, s.ex, ⟨s.fr, h2⟩, s.sl, s.nd, s.ce⟩⟩
theorem ev_c {v : V} {d : PyData} (h : ∀ F, Rp F v d) : Ev (tC v) ρ M (dat d) M := fun Φ σ H Q ⟨F, s⟩ q => q v H ⟨F, s.ex, ⟨s.fr, h F⟩, s.sl, s.nd, s.ce⟩
theorem ev_int {i : Int} : Ev (tC (.int i)) ρ M (dat (.int i)) M := ev_c fun _ => .int i
theorem ev_bl {i : Bool} : Ev (tC (.bl i)) ρ M (dat (.bool i)) M := ev_c fun _ => .bl i
theorem ev_str {i : Str} : Ev (tC (.str i)) ρ M (dat (.str i)) M := ev_c fun _ => .str i
theorem ev_non : Ev (tC .non) ρ M (dat .none) M := ev_c fun _ => .non
theorem ev_val {v : V} : Ev (tC v) ρ M (val v) M := fun Φ σ H Q ⟨F, s⟩ q => q v H ⟨F, s.ex, ⟨s.fr, rfl⟩, s.sl, s.nd, s.ce⟩
theorem ev_op {r : R2} (ha : Ev ta ρ M x M1) (hb : Ev tb ρ M1 y M2) (hr : RV r x y M2 z M3) : Ev (tOp r ta tb) ρ M z M3 := fun Φ σ H Q s q =>
  ha Φ σ H _ s fun v H1 s1 => hb _ σ H1 _ s1 fun w H2 s2 => hr Φ ρ σ v w H2 Q s2 q
theorem ev_un {r : V → Hp → VK → Prop} (ha : Ev ta ρ M x M1) (hr : RU r x M1 z M2) : Ev (tUn r ta) ρ M z M2 := fun Φ σ H Q s q =>
  ha Φ σ H _ s fun v H1 s1 => hr Φ ρ σ v H1 Q s1 q
theorem ea_nil : EvA tNil ρ M [] M := fun Φ σ H Q ⟨F, s⟩ q => q [] H ⟨F, s.ex, ⟨s.fr, .nil⟩, s.sl, s.nd, s.ce⟩
theorem ea_cons {tr : TA} {ds : List VD} (ha : Ev ta ρ M x M1) (hr : EvA tr ρ M1 ds M2) : EvA (tCons ta tr) ρ M (x :: ds) M2 := fun Φ σ H Q s q =>
  ha Φ σ H _ s fun v H1 s1 => hr _ σ H1 _ s1 fun vs H2 s2 => q (v :: vs) H2 (s2.weak (.of rfl fun F p => ⟨p.1.1, .cons p.1.2 p.2⟩))
theorem ed_nil : EvD tNil ρ M [] M := ea_nil
theorem ed_cons {tr : TA} {d : PyData} {ds : List PyData} (ha : Ev ta ρ M (dat d) M1) (hr : EvD tr ρ M1 ds M2) : EvD (tCons ta tr) ρ M (d :: ds) M2 := ea_cons ha hr
theorem ev_tupD {t : TA} {ds : List PyData} (h : EvD t ρ M ds M') (hl : ds.length ≤ sizeLine) : Ev (tTup t) ρ M (dat (.tuple ds)) M' := fun Φ σ H Q s q =>
  h Φ σ H _ s fun vs H1 ⟨F, s1⟩ => by
    have hr := DA.of_dat.mp s1.fr.2
    refine ⟨by rw [hr.length]; exact hl, fun p hp => ?_⟩
    obtain ⟨s2, fx⟩ := s1.new (o := .tup vs) hp
    exact q _ _ ⟨_, s2.ex, ⟨s2.fr.1, .tup upd_same (hr.mono fx)⟩, s2.sl, s2.nd, s2.ce⟩
theorem ev_lstD {t : TA} {ds : List PyData} (h : EvD t ρ M ds M') (hl : ds.length ≤ sizeLine) : Ev (tLst t) ρ M (dat (.list ds)) M' := fun Φ σ H Q s q =>
  h Φ σ H _ s fun vs H1 ⟨F, s1⟩ => by
    have hr := DA.of_dat.mp s1.fr.2
    refine ⟨by rw [hr.length]; exact hl, fun p hp => ?_⟩
    obtain ⟨s2, fx⟩ := s1.new (o := .lst vs) hp
    exact q _ _ ⟨_, s2.ex, ⟨s2.fr.1, .lst upd_same (hr.mono fx)⟩, s2.sl, s2.nd, s2.ce⟩
theorem ev_tupV {t : TA} {ds : List VD} (h : EvA t ρ M ds M') (hl : ds.length ≤ sizeLine) : Ev (tTup t) ρ M (vtup ds) M' := fun Φ σ H Q s q =>
  h Φ σ H _ s fun vs H1 ⟨F, s1⟩ => by
    have hr := s1.fr.2
    refine ⟨by rw [← Paired.length hr]; exact hl, fun p hp => ?_⟩
    obtain ⟨s2, fx⟩ := s1.new (o := .tup vs) hp
    exact q _ _ ⟨_, s2.ex, ⟨s2.fr.1, ⟨p, vs, rfl, upd_same, hr.mono fx⟩⟩, s2.sl, s2.nd, s2.ce⟩
theorem ev_lstV {t : TA} {ds : List VD} (h : EvA t ρ M ds M') (hl : ds.length ≤ sizeLine) : Ev (tLst t) ρ M (vlst ds) M' := fun Φ σ H Q s q =>
  h Φ σ H _ s fun vs H1 ⟨F, s1⟩ => by
    have hr := s1.fr.2
    refine ⟨by rw [← Paired.length hr]; exact hl, fun p hp => ?_⟩
    obtain ⟨s2, fx⟩ := s1.new (o := .lst vs) hp
    exact q _ _ ⟨_, s2.ex, ⟨s2.fr.1, ⟨p, vs, rfl, upd_same, hr.mono fx⟩⟩, s2.sl, s2.nd, s2.ce⟩
theorem ev_if {t : TT} {b : Bool} (h : EvT t ρ M b M1) (h1 : b = true → Ev ta ρ M1 x M2) (h2 : b = false → Ev tb ρ M1 x M2) : Ev (tIf t ta tb) ρ M x M2 := fun Φ σ H Q s q =>
  h Φ σ H _ s fun H1 s1 => by
    cases b with
    | true =>
      rw [if_pos rfl]
      exact h1 rfl Φ σ H1 Q s1 q
    | false =>
      rw [if_neg Bool.false_ne_true]
      exact h2 rfl Φ σ H1 Q s1 q
end
end Sx

set_option Elab.async false
set_option linter.all false
set_option maxRecDepth 100000
set_option maxHeartbeats 2000000
/-! Sx2: operators, by descriptions. -/
namespace Sx
open PySem L2 Evl

/-! ### what stands as a list, a tuple -/
def IsLst (x : VD) (M : Cells) (ds : List PyData) : Prop := ∀ {F Φ ρ σ H v}, SatF F Φ ρ M σ H → x.P F v → ∃ a ws, v = .ref a ∧ H a = some (.lst ws) ∧ RpL F ws ds
def IsTup (x : VD) (M : Cells) (ds : List PyData) : Prop := ∀ {F Φ ρ σ H v}, SatF F Φ ρ M σ H → x.P F v → ∃ a ws, v = .ref a ∧ H a = some (.tup ws) ∧ RpL F ws ds
def IsLstV (x : VD) (M : Cells) (ds : List VD) : Prop := ∀ {F Φ ρ σ H v}, SatF F Φ ρ M σ H → x.P F v → ∃ a ws, v = .ref a ∧ H a = some (.lst ws) ∧ DA F ds ws
def IsTupV (x : VD) (M : Cells) (ds : List VD) : Prop := ∀ {F Φ ρ σ H v}, SatF F Φ ρ M σ H → x.P F v → ∃ a ws, v = .ref a ∧ H a = some (.tup ws) ∧ DA F ds ws
theorem isl_dat {M : Cells} {ds : List PyData} : IsLst (dat (.list ds)) M ds := fun s h => by
  cases h with
  | lst h1 h2 => exact ⟨_, _, rfl, s.ex _ _ h1, h2⟩
theorem ist_dat {M : Cells} {ds : List PyData} : IsTup (dat (.tuple ds)) M ds := fun s h => by
  cases h with
  | tup h1 h2 => exact ⟨_, _, rfl, s.ex _ _ h1, h2⟩
theorem isl_cell {M : Cells} {ds : List PyData} {p : Addr} (m : (p, cLd ds) ∈ M) : IsLst (val (.ref p)) M ds := fun s h => by
  obtain ⟨o, h1, h2, ws, h3, h4⟩ := s.at m
  exact ⟨p, ws, h, by rw [h1, h3], h4⟩
theorem islv_cell {M : Cells} {ds : List VD} {p : Addr} (m : (p, cL ds) ∈ M) : IsLstV (val (.ref p)) M ds := fun s h => by
  obtain ⟨o, h1, h2, ws, h3, h4⟩ := s.at m
  exact ⟨p, ws, h, by rw [h1, h3], h4⟩
theorem islv_vlst {M : Cells} {ds : List VD} : IsLstV (vlst ds) M ds := fun s ⟨a, ws, h1, h2, h3⟩ => ⟨a, ws, h1, s.ex _ _ h2, h3⟩
theorem istv_vtup {M : Cells} {ds : List VD} : IsTupV (vtup ds) M ds := fun s ⟨a, ws, h1, h2, h3⟩ => ⟨a, ws, h1, s.ex _ _ h2, h3⟩
theorem IsLst.v {x : VD} {M : Cells} {ds : List PyData} (h : IsLst x M ds) : IsLstV x M (ds.map dat) := fun s q => by
  obtain ⟨a, ws, h1, h2, h3⟩ := h s q
  exact ⟨a, ws, h1, h2, DA.of_dat.mpr h3⟩
theorem IsTup.v {x : VD} {M : Cells} {ds : List PyData} (h : IsTup x M ds) : IsTupV x M (ds.map dat) := fun s q => by
  obtain ⟨a, ws, h1, h2, h3⟩ := h s q
  exact ⟨a, ws, h1, h2, DA.of_dat.mpr h3⟩
/-- either -/
def IsSeq (K : PySem.W.Frag) (x : VD) (M : Cells) (ds : List VD) : Prop := ∀ {F Φ ρ σ H v}, SatF F Φ ρ M σ H → x.P F v → ∃ a ws, v = .ref a ∧ (SqL K H a ws ∨ SqT K H a ws) ∧ DA F ds ws
theorem iss_l {K : PySem.W.Frag} {x : VD} {M : Cells} {ds : List VD} (h : IsLstV x M ds) : IsSeq K x M ds := fun s q => by
  obtain ⟨a, ws, h1, h2, h3⟩ := h s q
  exact ⟨a, ws, h1, .inl (sq_of h2), h3⟩
theorem iss_t {K : PySem.W.Frag} {x : VD} {M : Cells} {ds : List VD} (h : IsTupV x M ds) : IsSeq K x M ds := fun s q => by
  obtain ⟨a, ws, h1, h2, h3⟩ := h s q
  exact ⟨a, ws, h1, .inr (st_of h2), h3⟩

/-- the state behind a value that was just made; data said of it -/
theorem Sat.ret {F : Hp} {Φ : Fr} {ρ : Env} {M : Cells} {σ : L2.St} {H : Hp} {x : VD} {v : V} (s : SatF F Φ ρ M σ H) (h : x.P F v) : Sat (Φ.and x v) ρ M σ H := ⟨F, s.ex, ⟨s.fr, h⟩, s.sl, s.nd, s.ce⟩
theorem SatF.weak {F : Hp} {Φ Ψ : Fr} {ρ : Env} {M : Cells} {σ : L2.St} {H : Hp} (s : SatF F Φ ρ M σ H) (l : Le Φ Ψ) : SatF F Ψ ρ M σ H := ⟨s.ex, l.p F s.fr, s.sl, List.Pairwise.sublist ((List.Sublist.append (List.Sublist.refl M) l.n).map _) s.nd, fun c hc => s.ce c ((List.Sublist.append (List.Sublist.refl M) l.n).subset hc)⟩
theorem SatF.base {F : Hp} {Φ : Fr} {ρ : Env} {M : Cells} {σ : L2.St} {H : Hp} {x y : VD} {v w : V} (s : SatF F ((Φ.and x v).and y w) ρ M σ H) : SatF F Φ ρ M σ H := s.weak (.of rfl fun _ h => h.1.1)
theorem Sat.retNew {F : Hp} {Φ : Fr} {ρ : Env} {M : Cells} {σ : L2.St} {H : Hp} {x : VD} {v : V} {p : Addr} {o : HO} (s : SatF F Φ ρ M σ H) (hp : H p = none) (h : ∀ F', Fx F F' → F' p = some o → x.P F' v) : Sat (Φ.and x v) ρ M σ (upd H p o) := by
  obtain ⟨s2, fx⟩ := s.new (o := o) hp
  exact ⟨_, s2.ex, ⟨s2.fr, h _ fx upd_same⟩, s2.sl, s2.nd, s2.ce⟩

/-! ### + -/
def rAddS : R2 := fun x y H Q => ∃ i j, x = .str i ∧ y = .str j ∧ i.length + j.length ≤ sizeLine ∧ Q (.str (i ++ j)) H
def rAddU (K : PySem.W.Frag) : R2 := fun x y H Q => rI0 (fun i j => .int (i + j)) x y H Q ∨ (rAddS x y H Q ∨ (rCat x y H Q ∨ rCatA K x y H Q))
theorem op_addU {X : Cx} : OpR X (binaryOp .Add) (rAddU X.K) := op_add.or (op_add_str.or (op_cat.or op_catA))
section
variable {K : PySem.W.Frag} {ρ : Env} {M M' : Cells} {x y z : VD}
theorem rv_addI {i j : Int} : RV (rAddU K) (dat (.int i)) (dat (.int j)) M (dat (.int (i + j))) M := fun Φ ρ σ v w H Q ⟨F, s⟩ q => by
  cases s.fr.1.2; cases s.fr.2
  exact .inl ⟨i, j, rfl, rfl, q _ _ (Sat.ret s.base (.int _))⟩
theorem rv_addS {i j : Str} (hl : i.length + j.length ≤ sizeLine) : RV (rAddU K) (dat (.str i)) (dat (.str j)) M (dat (.str (i ++ j))) M := fun Φ ρ σ v w H Q ⟨F, s⟩ q => by
  cases s.fr.1.2; cases s.fr.2
  exact .inr (.inl ⟨i, j, rfl, rfl, hl, q _ _ (Sat.ret s.base (.str _))⟩)
theorem rv_cat {as bs : List PyData} (hx : IsLst x M as) (hy : IsLst y M bs) (hl : as.length + bs.length ≤ sizeLine) : RV (rAddU K) x y M (dat (.list (as ++ bs))) M := fun Φ ρ σ v w H Q ⟨F, s⟩ q => by
  obtain ⟨a, vs1, rfl, h1, h2⟩ := hx s s.fr.1.2
  obtain ⟨b, vs2, rfl, h3, h4⟩ := hy s s.fr.2
  refine .inr (.inr (.inl ⟨a, b, vs1, vs2, rfl, rfl, h1, h3, by rw [h2.length, h4.length]; exact hl, fun p hp => q _ _ (Sat.retNew s.base hp fun F' fx e => .lst e ((h2.append h4).mono fx))⟩))
theorem rv_catV {as bs : List VD} (hx : IsLstV x M as) (hy : IsLstV y M bs) (hl : as.length + bs.length ≤ sizeLine) : RV (rAddU K) x y M (vlst (as ++ bs)) M := fun Φ ρ σ v w H Q ⟨F, s⟩ q => by
  obtain ⟨a, vs1, rfl, h1, h2⟩ := hx s s.fr.1.2
  obtain ⟨b, vs2, rfl, h3, h4⟩ := hy s s.fr.2
  refine .inr (.inr (.inl ⟨a, b, vs1, vs2, rfl, rfl, h1, h3, by rw [← Paired.length h2, ← Paired.length h4]; exact hl, fun p hp => q _ _ (Sat.retNew s.base hp fun F' fx e => ⟨p, _, rfl, e, (h2.append h4).mono fx⟩)⟩))
theorem rv_catT {as bs : List PyData} (hx : IsTup x M as) (hy : IsTup y M bs) (hfx : ∀ F v, x.P F v → (dat (.tuple as)).P F v) (hfy : ∀ F v, y.P F v → (dat (.tuple bs)).P F v) (hl : as.length + bs.length ≤ sizeLine) : RV (rAddU K) x y M (dat (.tuple (as ++ bs))) M := fun Φ ρ σ v w H Q ⟨F, s⟩ q => by
  have e1 := hfx F _ s.fr.1.2
  have e2 := hfy F _ s.fr.2
  obtain ⟨a, vs1, rfl, h1, h2⟩ := hx s s.fr.1.2
  obtain ⟨b, vs2, rfl, h3, h4⟩ := hy s s.fr.2
  refine .inr (.inr (.inr ⟨a, b, vs1, vs2, rfl, rfl, st_of h1, st_of h3, by rw [h2.length, h4.length]; exact hl, fun he => ?_, fun _ he => ?_, fun _ _ p hp => q _ _ (Sat.retNew s.base hp fun F' fx e => .tup e ((h2.append h4).mono fx))⟩))
  · subst he
    have : as = [] := List.eq_nil_of_length_eq_zero h2.length.symm
    subst this
    exact q _ _ (Sat.ret s.base e2)
  · subst he
    have : bs = [] := List.eq_nil_of_length_eq_zero h4.length.symm
    subst this
    exact q _ _ (Sat.ret s.base (by rw [List.append_nil]; exact e1))
theorem rv_catTd {as bs : List PyData} (hl : as.length + bs.length ≤ sizeLine) : RV (rAddU K) (dat (.tuple as)) (dat (.tuple bs)) M (dat (.tuple (as ++ bs))) M := rv_catT ist_dat ist_dat (fun _ _ h => h) (fun _ _ h => h) hl

/-! ### the other operators on ints -/
theorem rv_I0 {g : Int → Int → V} {d : Int → Int → PyData} {i j : Int} (h : ∀ F, Rp F (g i j) (d i j)) : RV (rI0 g) (dat (.int i)) (dat (.int j)) M (dat (d i j)) M := fun Φ ρ σ v w H Q ⟨F, s⟩ q => by
  cases s.fr.1.2; cases s.fr.2
  exact ⟨i, j, rfl, rfl, q _ _ (Sat.ret s.base (h F))⟩
theorem rv_int0 {g : Int → Int → Int} {i j : Int} : RV (rI0 fun i j => .int (g i j)) (dat (.int i)) (dat (.int j)) M (dat (.int (g i j))) M := rv_I0 (d := fun i j => .int (g i j)) fun _ => .int _
theorem rv_bl0 {g : Int → Int → Bool} {i j : Int} : RV (rI0 fun i j => .bl (g i j)) (dat (.int i)) (dat (.int j)) M (dat (.bool (g i j))) M := rv_I0 (d := fun i j => .bool (g i j)) fun _ => .bl _
theorem rv_intC {C : Int → Int → Prop} {g : Int → Int → Int} {i j : Int} (hc : C i j) : RV (rI C fun i j => .int (g i j)) (dat (.int i)) (dat (.int j)) M (dat (.int (g i j))) M := fun Φ ρ σ v w H Q ⟨F, s⟩ q => by
  cases s.fr.1.2; cases s.fr.2
  exact ⟨i, j, rfl, rfl, hc, q _ _ (Sat.ret s.base (.int _))⟩
theorem ru_neg {i : Int} : RU (rU fun i => .int (-i)) (dat (.int i)) M (dat (.int (-i))) M := fun Φ ρ σ v H Q ⟨F, s⟩ q => by
  cases s.fr.2
  exact ⟨i, rfl, q _ _ (Sat.ret (s.weak Le.and) (.int _))⟩

/-! ### == -/
/-- data as it stands, its own list cells too -/
def IsDat (K : PySem.W.Frag) (x : VD) (M : Cells) (d : PyData) : Prop := ∀ {F Φ ρ σ H v}, SatF F Φ ρ M σ H → x.P F v → Dp K H v d
def IsDats (K : PySem.W.Frag) (xs : List VD) (M : Cells) (ds : List PyData) : Prop := ∀ {F Φ ρ σ H vs}, SatF F Φ ρ M σ H → DA F xs vs → DpAll K H vs ds
theorem isd_dat {d : PyData} : IsDat K (dat d) M d := fun s h => Rp.dp s.ex d h
theorem isd_cell {ds : List PyData} {p : Addr} (m : (p, cLd ds) ∈ M) : IsDat K (val (.ref p)) M (.list ds) := fun s h => by
  obtain ⟨a, ws, rfl, h1, h2⟩ := isl_cell m s h
  exact .lst (sq_of h1) (RpL.dp s.ex ds h2)
theorem isds_nil : IsDats K [] M [] := fun s h => by cases h; exact .nil
theorem isds_cons {d : PyData} {xs : List VD} {ds : List PyData} (h1 : IsDat K x M d) (h2 : IsDats K xs M ds) : IsDats K (x :: xs) M (d :: ds) := fun s h => by
  cases h with
  | cons q1 q2 => exact .cons (h1 s q1) (h2 s q2)
theorem isd_vtup {xs : List VD} {ds : List PyData} (h : IsDats K xs M ds) : IsDat K (vtup xs) M (.tuple ds) := fun s ⟨a, ws, e, h1, h2⟩ => by
  subst e
  exact .tup (st_of (s.ex _ _ h1)) (h s h2)
theorem isd_vlst {xs : List VD} {ds : List PyData} (h : IsDats K xs M ds) : IsDat K (vlst xs) M (.list ds) := fun s ⟨a, ws, e, h1, h2⟩ => by
  subst e
  exact .lst (sq_of (s.ex _ _ h1)) (h s h2)
/-- of such a depth, its texts of our kind -/
def Shp (n : Nat) (d : PyData) : Prop := d.canLay0 = true ∧ d.depth ≤ n
theorem Shp.ok {n : Nat} {d : PyData} (h : Shp n d) (hn : n ≤ 64) : SeqAt.shaped d = true := by
  unfold SeqAt.shaped
  rw [h.1, decide_eq_true (Nat.le_trans h.2 hn)]
  rfl
theorem shp_int {n : Nat} {i : Int} : Shp n (.int i) := ⟨rfl, Nat.zero_le _⟩
theorem shp_none {n : Nat} : Shp n .none := ⟨rfl, Nat.zero_le _⟩
theorem shp_bool {n : Nat} {i : Bool} : Shp n (.bool i) := ⟨rfl, Nat.zero_le _⟩
theorem shp_str {n : Nat} {x : Str} (h : PyData.strOk x = true) : Shp n (.str x) := ⟨by rw [PyData.canLay0]; exact h, Nat.zero_le _⟩
def ShpA (n : Nat) (ds : List PyData) : Prop := PyData.canLayAll0 ds = true ∧ PyData.depthAll ds ≤ n
theorem shpA_nil {n : Nat} : ShpA n [] := ⟨rfl, Nat.zero_le _⟩
theorem shpA_cons {n : Nat} {d : PyData} {ds : List PyData} (h : Shp n d) (t : ShpA n ds) : ShpA n (d :: ds) := ⟨by rw [PyData.canLayAll0, h.1, t.1]; rfl, by rw [PyData.depthAll]; exact Nat.max_le.mpr ⟨h.2, t.2⟩⟩
theorem shpA_of {n : Nat} : ∀ {ds : List PyData}, (∀ d ∈ ds, Shp n d) → ShpA n ds
  | [], _ => shpA_nil
  | d :: ds, h => shpA_cons (h d List.mem_cons_self) (shpA_of fun e he => h e (List.mem_cons_of_mem _ he))
theorem shp_list {n : Nat} {ds : List PyData} (h : ShpA n ds) : Shp (n + 1) (.list ds) := ⟨by rw [PyData.canLay0]; exact h.1, by rw [PyData.depth]; exact Nat.succ_le_succ h.2⟩
theorem shp_tuple {n : Nat} {ds : List PyData} (h : ShpA n ds) : Shp (n + 1) (.tuple ds) := ⟨by rw [PyData.canLay0]; exact h.1, by rw [PyData.depth]; exact Nat.succ_le_succ h.2⟩
theorem shpA_map {α : Type} {n : Nat} {f : α → PyData} {xs : List α} (h : ∀ x ∈ xs, Shp n (f x)) : ShpA n (xs.map f) := shpA_of fun d hd => by
  obtain ⟨x, hx, rfl⟩ := List.mem_map.mp hd
  exact h x hx
/-- equal as data just if equal -/
def EqOk {α : Type} (f : α → PyData) : Prop := ∀ x y, PyData.eqv (f x) (f y) = true ↔ x = y
theorem eqvAll_map {α : Type} {f : α → PyData} (h : EqOk f) : ∀ xs ys : List α, PyData.eqvAll (xs.map f) (ys.map f) = true ↔ xs = ys
  | [], [] => by simp [PyData.eqvAll]
  | x :: xs, [] => by simp [PyData.eqvAll]
  | [], y :: ys => by simp [PyData.eqvAll]
  | x :: xs, y :: ys => by
    rw [List.map_cons, List.map_cons, PyData.eqvAll, Bool.and_eq_true, h x y, eqvAll_map h xs ys, List.cons.injEq]
theorem eqok_list {α : Type} {f : α → PyData} (h : EqOk f) : EqOk fun xs : List α => .list (xs.map f) := fun xs ys => by
  show PyData.eqv (.list (xs.map f)) (.list (ys.map f)) = true ↔ _
  rw [PyData.eqv]; exact eqvAll_map h xs ys
theorem eqok_tuple {α : Type} {f : α → PyData} (h : EqOk f) : EqOk fun xs : List α => .tuple (xs.map f) := fun xs ys => by
  show PyData.eqv (.tuple (xs.map f)) (.tuple (ys.map f)) = true ↔ _
  rw [PyData.eqv]; exact eqvAll_map h xs ys
theorem eqok_int : EqOk PyData.int := fun x y => by simp [PyData.eqv]
theorem eqok_str : EqOk PyData.str := fun x y => by simp [PyData.eqv]
theorem eqok_bool : EqOk PyData.bool := fun x y => by simp [PyData.eqv]
theorem EqOk.dec {α : Type} [DecidableEq α] {f : α → PyData} (h : EqOk f) (x y : α) : PyData.eqv (f x) (f y) = decide (x = y) := by
  rw [Bool.eq_iff_iff, h x y, decide_eq_true_iff]
def rEqU (K : PySem.W.Frag) : R2 := fun x y H Q => rEqD K x y H Q ∨ rEq x y H Q
def rNeU (K : PySem.W.Frag) : R2 := fun x y H Q => rNeD K x y H Q ∨ rNe x y H Q
theorem op_eqU {X : Cx} (hu : X.A.units + 64 < cLine) : OpR X (compareOp .Eq) (rEqU X.K) := (op_eqD hu).or op_eq
theorem op_neU {X : Cx} (hu : X.A.units + 64 < cLine) : OpR X (compareOp .NotEq) (rNeU X.K) := (op_neD hu).or op_ne
theorem rv_eqD {d e : PyData} (hx : IsDat K x M d) (hy : IsDat K y M e) (sd : Shp 64 d) (se : Shp 64 e) : RV (rEqU K) x y M (dat (.bool (PyData.eqv d e))) M := fun Φ ρ σ v w H Q ⟨F, s⟩ q =>
  .inl ⟨d, e, hx s s.fr.1.2, hy s s.fr.2, sd.ok (Nat.le_refl _), se.ok (Nat.le_refl _), q _ _ (Sat.ret s.base (.bl _))⟩
theorem rv_neD {d e : PyData} (hx : IsDat K x M d) (hy : IsDat K y M e) (sd : Shp 64 d) (se : Shp 64 e) : RV (rNeU K) x y M (dat (.bool (!PyData.eqv d e))) M := fun Φ ρ σ v w H Q ⟨F, s⟩ q =>
  .inl ⟨d, e, hx s s.fr.1.2, hy s s.fr.2, sd.ok (Nat.le_refl _), se.ok (Nat.le_refl _), q _ _ (Sat.ret s.base (.bl _))⟩
theorem eqv_int {i j : Int} : PyData.eqv (.int i) (.int j) = decide (i = j) := by simp [PyData.eqv, Bool.beq_eq_decide_eq]
theorem eqv_str {i j : Str} : PyData.eqv (.str i) (.str j) = decide (i = j) := by simp [PyData.eqv, Bool.beq_eq_decide_eq]
theorem eqv_bool {i j : Bool} : PyData.eqv (.bool i) (.bool j) = decide (i = j) := by simp [PyData.eqv, Bool.beq_eq_decide_eq]
theorem rv_eqI {i j : Int} : RV (rEqU K) (dat (.int i)) (dat (.int j)) M (dat (.bool (decide (i = j)))) M := by
  have h := rv_eqD (K := K) (M := M) (isd_dat (d := .int i)) (isd_dat (d := .int j)) shp_int shp_int
  rw [eqv_int] at h; exact h
theorem rv_neI {i j : Int} : RV (rNeU K) (dat (.int i)) (dat (.int j)) M (dat (.bool (!decide (i = j)))) M := by
  have h := rv_neD (K := K) (M := M) (isd_dat (d := .int i)) (isd_dat (d := .int j)) shp_int shp_int
  rw [eqv_int] at h; exact h
theorem rv_eqS {i j : Str} : RV (rEqU K) (dat (.str i)) (dat (.str j)) M (dat (.bool (decide (i = j)))) M := fun Φ ρ σ v w H Q ⟨F, s⟩ q => by
  cases s.fr.1.2; cases s.fr.2
  refine .inr ⟨rfl, ?_⟩
  have e : decide (V.str i = V.str j) = decide (i = j) := by simp
  rw [e]
  exact q _ _ (Sat.ret s.base (.bl _))
theorem rv_neS {i j : Str} : RV (rNeU K) (dat (.str i)) (dat (.str j)) M (dat (.bool (!decide (i = j)))) M := fun Φ ρ σ v w H Q ⟨F, s⟩ q => by
  cases s.fr.1.2; cases s.fr.2
  refine .inr ⟨rfl, ?_⟩
  have e : decide (V.str i = V.str j) = decide (i = j) := by simp
  rw [e]
  exact q _ _ (Sat.ret s.base (.bl _))
/-! ### is None -/
def rIsN : R2 := fun x y H Q => y = .non ∧ Q (.bl (decide (x = .non))) H
def rNotN : R2 := fun x y H Q => y = .non ∧ Q (.bl (!decide (x = .non))) H
theorem op_isN' {X : Cx} : OpR X (compareOp .Is) rIsN := op_isN
theorem op_notN' {X : Cx} : OpR X (compareOp .IsNot) rNotN := op_notN
def isNoneD : PyData → Bool
  | .none => true
  | _ => false
theorem rp_none {F : Hp} {v : V} {d : PyData} (h : Rp F v d) : decide (v = .non) = isNoneD d := by
  cases h <;> rfl
theorem rv_isN {d : PyData} : RV rIsN (dat d) (dat .none) M (dat (.bool (isNoneD d))) M := fun Φ ρ σ v w H Q ⟨F, s⟩ q => by
  have h := rp_none s.fr.1.2
  cases s.fr.2
  exact ⟨rfl, by rw [h]; exact q _ _ (Sat.ret s.base (.bl _))⟩
theorem rv_notN {d : PyData} : RV rNotN (dat d) (dat .none) M (dat (.bool (!isNoneD d))) M := fun Φ ρ σ v w H Q ⟨F, s⟩ q => by
  have h := rp_none s.fr.1.2
  cases s.fr.2
  exact ⟨rfl, by rw [h]; exact q _ _ (Sat.ret s.base (.bl _))⟩

/-! ### subscripts, slices -/
theorem rpl_atI {F : Hp} {ws : List V} {ds : List PyData} {i : Int} {d : PyData} (h : RpL F ws ds) (e : atI ds i = some d) : ∃ v, atI ws i = some v ∧ Rp F v d := by
  unfold atI at e ⊢
  rw [h.length]
  cases q : ixN ds.length i with
  | none => rw [q] at e; cases e
  | some j =>
    rw [q] at e
    exact h.get e
theorem da_atI {F : Hp} {ws : List V} {ds : List VD} {i : Int} {d : VD} (h : DA F ds ws) (e : atI ds i = some d) : ∃ v, atI ws i = some v ∧ d.P F v := by
  unfold atI at e ⊢
  rw [← Paired.length h]
  cases q : ixN ds.length i with
  | none => rw [q] at e; cases e
  | some j =>
    rw [q] at e
    exact h.get e
theorem rv_ixL {ds : List PyData} {i : Int} {d : PyData} (hx : IsLst x M ds) (e : atI ds i = some d) : RV (rIx K) x (dat (.int i)) M (dat d) M := fun Φ ρ σ v w H Q ⟨F, s⟩ q => by
  obtain ⟨a, ws, rfl, h1, h2⟩ := hx s s.fr.1.2
  cases s.fr.2
  obtain ⟨v, h3, h4⟩ := rpl_atI h2 e
  exact .inl ⟨a, ws, i, v, rfl, rfl, sq_of h1, h3, q _ _ (Sat.ret s.base h4)⟩
theorem rv_ixT {ds : List PyData} {i : Int} {d : PyData} (hx : IsTup x M ds) (e : atI ds i = some d) : RV (rIx K) x (dat (.int i)) M (dat d) M := fun Φ ρ σ v w H Q ⟨F, s⟩ q => by
  obtain ⟨a, ws, rfl, h1, h2⟩ := hx s s.fr.1.2
  cases s.fr.2
  obtain ⟨v, h3, h4⟩ := rpl_atI h2 e
  exact .inr (.inl ⟨a, ws, i, v, rfl, rfl, st_of h1, h3, q _ _ (Sat.ret s.base h4)⟩)
theorem rv_ixLV {ds : List VD} {i : Int} {d : VD} (hx : IsLstV x M ds) (e : atI ds i = some d) : RV (rIx K) x (dat (.int i)) M d M := fun Φ ρ σ v w H Q ⟨F, s⟩ q => by
  obtain ⟨a, ws, rfl, h1, h2⟩ := hx s s.fr.1.2
  cases s.fr.2
  obtain ⟨v, h3, h4⟩ := da_atI h2 e
  exact .inl ⟨a, ws, i, v, rfl, rfl, sq_of h1, h3, q _ _ (Sat.ret s.base h4)⟩
theorem rv_ixTV {ds : List VD} {i : Int} {d : VD} (hx : IsTupV x M ds) (e : atI ds i = some d) : RV (rIx K) x (dat (.int i)) M d M := fun Φ ρ σ v w H Q ⟨F, s⟩ q => by
  obtain ⟨a, ws, rfl, h1, h2⟩ := hx s s.fr.1.2
  cases s.fr.2
  obtain ⟨v, h3, h4⟩ := da_atI h2 e
  exact .inr (.inl ⟨a, ws, i, v, rfl, rfl, st_of h1, h3, q _ _ (Sat.ret s.base h4)⟩)
theorem rv_ixScr {ns : List Int} {i : Int} {n : Int} (e : atI ns i = some n) : RV (rIx K) (vscr K ns) (dat (.int i)) M (dat (.int n)) M := fun Φ ρ σ v w H Q ⟨F, s⟩ q => by
  obtain ⟨a, rfl, h1⟩ := s.fr.1.2
  cases s.fr.2
  refine .inl ⟨a, ns.map V.int, i, .int n, rfl, rfl, ex_l s.ex h1, ?_, q _ _ (Sat.ret s.base (.int _))⟩
  unfold atI at e ⊢
  rw [List.length_map]
  cases q : ixN ns.length i with
  | none => rw [q] at e; cases e
  | some j =>
    rw [q] at e
    show (ns.map V.int)[j]? = _
    have e' : ns[j]? = some n := e
    rw [List.getElem?_map, e']
    rfl
def cutD {α : Type} (xs : List α) (lo hi : Option Int) : List α := (xs.drop (HT.sIx xs.length 0 lo)).take (HT.sIx xs.length xs.length hi - HT.sIx xs.length 0 lo)
theorem rpl_cut {F : Hp} {ws : List V} {ds : List PyData} (h : RpL F ws ds) (lo hi : Option Int) : RpL F (cutV ws lo hi) (cutD ds lo hi) := by
  unfold cutV cutD
  rw [h.length]
  exact (h.drop _).take _
/-- a slice of a list, a tuple, a text -/
def rSlU (K : PySem.W.Frag) : V → Option Int → Option Int → Hp → VK → Prop := fun x lo hi H Q => rSlL K x lo hi H Q ∨ rSlA K x lo hi H Q
theorem sl_U {X : Cx} : SlR X (rSlU X.K) := sl_list.or sl_tupA
theorem eo_none : EvO tNoPart ρ M none M := fun Φ σ H Q s q => q H s
theorem eo_some {te : TE} {i : Int} (h : Ev te ρ M (dat (.int i)) M') : EvO (tPart te) ρ M (some i) M' := fun Φ σ H Q s q => h Φ σ H _ s fun v H1 ⟨F, s1⟩ => by
  cases s1.fr.2
  exact ⟨i, rfl, q H1 ⟨F, s1.weak Le.and⟩⟩
theorem ev_slL {te : TE} {tl th : TO} {M1 M2 M3 : Cells} {lo hi : Option Int} {ds : List PyData} (h : Ev te ρ M x M1) (h1 : EvO tl ρ M1 lo M2) (h2 : EvO th ρ M2 hi M3) (hx : IsLst x M3 ds) : Ev (tSl (rSlU K) te tl th) ρ M (dat (.list (cutD ds lo hi))) M3 := fun Φ σ H Q s q =>
  h Φ σ H _ s fun v H1 s1 => h1 _ σ H1 _ s1 fun H2 s2 => h2 _ σ H2 _ s2 fun H3 ⟨F, s3⟩ => by
    obtain ⟨a, ws, rfl, h1, h2⟩ := hx s3 s3.fr.2
    exact .inl ⟨a, ws, rfl, sq_of h1, fun p hp => q _ _ (Sat.retNew (s3.weak Le.and) hp fun F' fx e => .lst e ((rpl_cut h2 lo hi).mono fx))⟩
theorem cut_whole {ds : List PyData} {lo hi : Option Int} (h1 : HT.sIx ds.length 0 lo = 0) (h2 : HT.sIx ds.length ds.length hi = ds.length) : cutD ds lo hi = ds := by
  unfold cutD
  rw [h1, h2]
  simp
theorem ev_slT {te : TE} {tl th : TO} {M1 M2 M3 : Cells} {lo hi : Option Int} {ds : List PyData} (h : Ev te ρ M (dat (.tuple ds)) M1) (h1 : EvO tl ρ M1 lo M2) (h2 : EvO th ρ M2 hi M3) : Ev (tSl (rSlU K) te tl th) ρ M (dat (.tuple (cutD ds lo hi))) M3 := fun Φ σ H Q s q =>
  h Φ σ H _ s fun v H1 s1 => h1 _ σ H1 _ s1 fun H2 s2 => h2 _ σ H2 _ s2 fun H3 ⟨F, s3⟩ => by
    have e0 := s3.fr.2
    obtain ⟨a, ws, rfl, h1, h2⟩ := ist_dat s3 s3.fr.2
    refine .inr ⟨a, ws, rfl, st_of h1, fun hw => q _ _ (Sat.ret (s3.weak Le.and) ?_), fun hw p hp => q _ _ (Sat.retNew (s3.weak Le.and) hp fun F' fx e => .tup e ((rpl_cut h2 lo hi).mono fx))⟩
    rw [h2.length] at hw
    rw [cut_whole hw.1 hw.2]
    exact e0
end

/-! ### tests -/
section
variable {K : PySem.W.Frag} {ρ : Env} {M M1 M2 M' : Cells} {x y z : VD} {te ta tb : TE} {t u : TT}
theorem et_test {b : Bool} (h : Ev te ρ M (dat (.bool b)) M') : EvT (tTest te) ρ M b M' := fun Φ σ H Q s q => h Φ σ H _ s fun v H1 s1 => by
  have ⟨F, s2⟩ := s1
  cases s2.fr.2
  exact ⟨b, rfl, q H1 s1.weak1⟩
theorem et_B {b : Bool} (h : Ev te ρ M (dat (.bool b)) M') : EvT (tB te) ρ M b M' := fun Φ σ H Q s q => h Φ σ H _ s fun v H1 s1 => by
  have ⟨F, s2⟩ := s1
  cases s2.fr.2
  exact ⟨b, rfl, q H1 s1.weak1⟩
theorem et_yes : EvT tYes ρ M true M := fun Φ σ H Q s q => q H s
/-- the second one is asked where the first one lets -/
theorem et_and {a b : Bool} (h1 : EvT t ρ M a M1) (h2 : a = true → EvT u ρ M1 b M1) : EvT (tAnd t u) ρ M (a && b) M1 := fun Φ σ H Q s q => h1 Φ σ H _ s fun H1 s1 => by
  cases a with
  | true => rw [if_pos rfl]; exact h2 rfl Φ σ H1 Q s1 q
  | false => rw [if_neg Bool.false_ne_true]; exact q H1 s1
theorem et_or {a b : Bool} (h1 : EvT t ρ M a M1) (h2 : a = false → EvT u ρ M1 b M1) : EvT (tOr t u) ρ M (a || b) M1 := fun Φ σ H Q s q => h1 Φ σ H _ s fun H1 s1 => by
  cases a with
  | true => rw [if_pos rfl]; exact q H1 s1
  | false => rw [if_neg Bool.false_ne_true]; exact h2 rfl Φ σ H1 Q s1 q
theorem et_andT {b : Bool} (h1 : EvT t ρ M true M1) (h2 : EvT u ρ M1 b M2) : EvT (tAnd t u) ρ M b M2 := fun Φ σ H Q s q => h1 Φ σ H _ s fun H1 s1 => by
  rw [if_pos rfl]; exact h2 Φ σ H1 Q s1 q
theorem et_andF (h1 : EvT t ρ M false M1) : EvT (tAnd t u) ρ M false M1 := fun Φ σ H Q s q => h1 Φ σ H _ s fun H1 s1 => by
  rw [if_neg Bool.false_ne_true]; exact q H1 s1
theorem et_orF {b : Bool} (h1 : EvT t ρ M false M1) (h2 : EvT u ρ M1 b M2) : EvT (tOr t u) ρ M b M2 := fun Φ σ H Q s q => h1 Φ σ H _ s fun H1 s1 => by
  rw [if_neg Bool.false_ne_true]; exact h2 Φ σ H1 Q s1 q
theorem et_orT (h1 : EvT t ρ M true M1) : EvT (tOr t u) ρ M true M1 := fun Φ σ H Q s q => h1 Φ σ H _ s fun H1 s1 => by
  rw [if_pos rfl]; exact q H1 s1
theorem et_not {a : Bool} (h1 : EvT t ρ M a M') : EvT (tNot t) ρ M (!a) M' := fun Φ σ H Q s q => h1 Φ σ H _ s q
theorem EvT.eq {a b : Bool} (h : EvT t ρ M a M') (e : a = b) : EvT t ρ M b M' := e ▸ h
theorem ev_andV {a b : Bool} (h1 : Ev ta ρ M (dat (.bool a)) M1) (h2 : a = true → Ev tb ρ M1 (dat (.bool b)) M1) : Ev (tAndV ta tb) ρ M (dat (.bool (a && b))) M1 := fun Φ σ H Q s q => h1 Φ σ H _ s fun v H1 s1 => by
  have ⟨F, s2⟩ := s1
  cases s2.fr.2
  refine ⟨a, rfl, ?_⟩
  cases a with
  | true => rw [if_pos rfl]; exact h2 rfl Φ σ H1 Q s1.weak1 q
  | false => rw [if_neg Bool.false_ne_true]; exact q _ H1 s1
theorem ev_orV {a b : Bool} (h1 : Ev ta ρ M (dat (.bool a)) M1) (h2 : a = false → Ev tb ρ M1 (dat (.bool b)) M1) : Ev (tOrV ta tb) ρ M (dat (.bool (a || b))) M1 := fun Φ σ H Q s q => h1 Φ σ H _ s fun v H1 s1 => by
  have ⟨F, s2⟩ := s1
  cases s2.fr.2
  refine ⟨a, rfl, ?_⟩
  cases a with
  | true => rw [if_pos rfl]; exact q _ H1 s1
  | false => rw [if_neg Bool.false_ne_true]; exact h2 rfl Φ σ H1 Q s1.weak1 q
theorem ev_notV {a : Bool} (h1 : Ev ta ρ M (dat (.bool a)) M') : Ev (tNotV ta) ρ M (dat (.bool (!a))) M' := fun Φ σ H Q s q => h1 Φ σ H _ s fun v H1 s1 => by
  have ⟨F, s2⟩ := s1
  cases s2.fr.2
  exact ⟨a, rfl, q _ H1 ⟨F, s2.ex, ⟨s2.fr.1, .bl _⟩, s2.sl, s2.nd, s2.ce⟩⟩
/-- a < b < c -/
theorem ev_chain {r r' : R2} {tc : TE} {a b : Bool} (h1 : Ev ta ρ M x M) (h2 : Ev tb ρ M y M) (hr : RV r x y M (dat (.bool a)) M) (h3 : a = true → Ev tc ρ M z M) (hr' : a = true → RV r' y z M (dat (.bool b)) M) : Ev (tChain r r' ta tb tc) ρ M (dat (.bool (a && b))) M := fun Φ σ H Q s q =>
  h1 Φ σ H _ s fun v H1 s1 => h2 _ σ H1 _ s1 fun w H2 s2 => by
    refine hr (Φ.and y w) ρ σ v w H2 _ (s2.weak (.of rfl fun F p => ⟨⟨⟨p.1.1, p.2⟩, p.1.2⟩, p.2⟩)) fun u H3 s3 => ?_
    have ⟨F, s4⟩ := s3
    cases s4.fr.2
    refine ⟨a, rfl, ?_⟩
    cases a with
    | false =>
      rw [if_neg Bool.false_ne_true]
      exact q _ H3 (s3.weak (.of rfl fun F p => ⟨p.1.1, p.2⟩))
    | true =>
      rw [if_pos rfl]
      refine h3 rfl _ σ H3 _ (s3.weak Le.and) fun c H4 s5 => ?_
      exact hr' rfl Φ ρ σ w c H4 Q s5 q
end
end Sx

set_option Elab.async false
set_option linter.all false
set_option maxRecDepth 100000
set_option maxHeartbeats 2000000
/-! Sx3: attributes, calls, statements, loops, comprehensions, by descriptions. -/
namespace Sx
open PySem L2 Evl

/-! ### attributes -/
inductive FGet (f : Str) (x : VD) : List Str → List VD → Prop
  | here {ns : List Str} {xs : List VD} : FGet f x (f :: ns) (x :: xs)
  | there {g : Str} {y : VD} {ns : List Str} {xs : List VD} : ¬ f = g → FGet f x ns xs → FGet f x (g :: ns) (y :: xs)
inductive FPut (f : Str) (y : VD) : List Str → List VD → List Str → List VD → Prop
  | here {z : VD} {ns : List Str} {xs : List VD} : FPut f y (f :: ns) (z :: xs) (f :: ns) (y :: xs)
  | there {g : Str} {z : VD} {ns ns' : List Str} {xs xs' : List VD} : ¬ g = f → FPut f y ns xs ns' xs' → FPut f y (g :: ns) (z :: xs) (g :: ns') (z :: xs')
  | new : FPut f y [] [] [f] [y]
theorem FA.cons_inv {F : Hp} {n : Str} {ns : List Str} {x : VD} {xs : List VD} {fs : List (Str × V)} (h : FA F (n :: ns) (x :: xs) fs) : ∃ v r, fs = (n, v) :: r ∧ x.P F v ∧ FA F ns xs r := by
  obtain ⟨h1, h2⟩ := h
  cases fs with
  | nil => simp at h1
  | cons a r =>
    obtain ⟨k, v⟩ := a
    simp only [List.map_cons, List.cons.injEq] at h1
    obtain ⟨rfl, h1⟩ := h1
    cases h2 with
    | cons q1 q2 => exact ⟨v, r, rfl, q1, h1, q2⟩
theorem FGet.look {f : Str} {x : VD} {F : Hp} {ns : List Str} {xs : List VD} (h : FGet f x ns xs) : ∀ {fs : List (Str × V)}, FA F ns xs fs → ∃ v, fs.lookup f = some v ∧ x.P F v := by
  induction h with
  | here =>
    intro fs a
    obtain ⟨v, r, rfl, q1, q2⟩ := a.cons_inv
    exact ⟨v, by simp [List.lookup], q1⟩
  | there hne _ ih =>
    intro fs a
    obtain ⟨v, r, rfl, q1, q2⟩ := a.cons_inv
    obtain ⟨w, h1, h2⟩ := ih q2
    refine ⟨w, ?_, h2⟩
    have hb : (f == _) = false := beq_eq_false_iff_ne.mpr hne
    simp only [List.lookup, hb]
    exact h1
theorem FPut.put {f : Str} {y : VD} {F : Hp} {v : V} (hv : y.P F v) {ns ns' : List Str} {xs xs' : List VD} (h : FPut f y ns xs ns' xs') : ∀ {fs : List (Str × V)}, FA F ns xs fs → FA F ns' xs' (putF f v fs) := by
  induction h with
  | here =>
    intro fs a
    obtain ⟨w, r, rfl, q1, q2⟩ := a.cons_inv
    rw [putF, if_pos rfl]
    exact ⟨by simp [q2.1], .cons hv q2.2⟩
  | there hne _ ih =>
    intro fs a
    obtain ⟨w, r, rfl, q1, q2⟩ := a.cons_inv
    rw [putF, if_neg hne]
    have := ih q2
    exact ⟨by simp [this.1], .cons q1 this.2⟩
  | new =>
    intro fs a
    obtain ⟨h1, h2⟩ := a
    cases fs with
    | nil => exact ⟨rfl, .cons hv .nil⟩
    | cons _ _ => simp at h1
theorem FA.lookup_none {F : Hp} {m : Str} : ∀ {ns : List Str} {xs : List VD} {fs : List (Str × V)}, FA F ns xs fs → m ∉ ns → fs.lookup m = none
  | [], xs, fs, h, _ => by
    cases fs with
    | nil => rfl
    | cons _ _ => simp [FA] at h
  | n :: ns, xs, fs, h, hm => by
    have hl := Paired.length h.2
    cases xs with
    | nil =>
      have := congrArg List.length h.1
      simp at this hl
      omega
    | cons x xs =>
      obtain ⟨v, r, rfl, q1, q2⟩ := h.cons_inv
      have hne : ¬ m = n := fun e => hm (e ▸ List.mem_cons_self)
      have hb : (m == n) = false := beq_eq_false_iff_ne.mpr hne
      simp only [List.lookup, hb]
      exact FA.lookup_none q2 fun z => hm (List.mem_cons_of_mem _ z)
theorem FA.len {F : Hp} {ns : List Str} {xs : List VD} {fs : List (Str × V)} (h : FA F ns xs fs) : fs.length = ns.length := by rw [← h.1, List.length_map]

section
variable {K : PySem.W.Frag} {ρ ρ' : Env} {M M1 M2 M3 M' : Cells} {x y z : VD} {te ta tb tv : TE} {t u : TS} {C p : Addr} {f : Str} {ns ns' : List Str} {xs xs' : List VD} {Φ : Fr} {D : Ends}
/-- what the text must have of a class: it is plain, none of the names is its own -/
structure ClsF (K : PySem.W.Frag) (C : Addr) (ns : List Str) : Prop where
  cl : Cls K C
  no : ∀ f ∈ ns, NoAttr K C f
theorem ev_fld (h : Ev ta ρ M (val (.ref p)) M1) (m : (p, cI C ns xs) ∈ M1) (c : ClsF K C ns') (hf : f ∈ ns') (g : FGet f x ns xs) : Ev (tFld K ta f) ρ M x M1 := fun Φ σ H Q s q => h Φ σ H _ s fun v H1 s1 => by
  have ⟨F, s2⟩ := s1
  have e : v = .ref p := s2.fr.2
  obtain ⟨o, h1, h0, dx, fs, rfl, h3⟩ := s2.at m
  obtain ⟨w, h4, h5⟩ := g.look h3
  exact ⟨p, C, dx, fs, w, e, h1, c.cl, c.no f hf, h4, q w H1 ⟨F, s2.ex, ⟨s2.fr.1, h5⟩, s2.sl, s2.nd, s2.ce⟩⟩

/-! ### calls -/
abbrev FSpec := List VD → Cells → (VD → Cells → Prop) → Prop
/-- one outcome alone -/
def Det (x : VD) (M : Cells) : VD → Cells → Prop := fun y N => y = x ∧ N = M
/-- a def's promise -/
def spF (n : Nat) (S : FSpec) : Sp := fun vs H Q _ => ∃ (Φ : Fr) (ρ : Env) (σ : L2.St) (ds : List VD) (M : Cells) (P : VD → Cells → Prop), Sat (Φ.andA ds vs) ρ M σ H ∧ vs.length = n ∧ S ds M P ∧
  ∀ x M' v H', P x M' → Sat (Φ.and x v) ρ M' σ H' → Q v H'
theorem spF_len {n : Nat} {S : FSpec} {vs : List V} {H : Hp} {Q : VK} {E : XK} (h : spF n S vs H Q E) : vs.length = n := let ⟨_, _, _, _, _, _, _, e, _⟩ := h; e
/-- several outcomes -/
def EvR (te : TE) (ρ : Env) (M : Cells) (P : VD → Cells → Prop) : Prop := ∀ (Φ : Fr) (σ : L2.St) (H : Hp) (Q : VK), Sat Φ ρ M σ H → (∀ x M' v H', P x M' → Sat (Φ.and x v) ρ M' σ H' → Q v H') → te σ H Q
theorem EvR.of (h : Ev te ρ M x M') : EvR te ρ M (Det x M') := fun Φ σ H Q s q => h Φ σ H Q s fun v H' s' => q x M' v H' ⟨rfl, rfl⟩ s'
theorem EvR.ev (h : EvR te ρ M (Det x M')) : Ev te ρ M x M' := fun Φ σ H Q s q => h Φ σ H Q s fun x1 M1 v H' ⟨e1, e2⟩ s' => by
  subst e1; subst e2
  exact q v H' s'
theorem EvR.imp {P P' : VD → Cells → Prop} (h : EvR te ρ M P) (k : ∀ x M', P x M' → P' x M') : EvR te ρ M P' := fun Φ σ H Q s q => h Φ σ H Q s fun x M' v H' p s' => q x M' v H' (k x M' p) s'
theorem er_call {n : Nat} {S : FSpec} {P : VD → Cells → Prop} {E : XK} {ta : TA} {ds : List VD} (h : EvA ta ρ M ds M1) (hn : ds.length = n) (hS : S ds M1 P) : EvR (tCall (spF n S) [] E ta) ρ M P := fun Φ σ H Q s q =>
  h Φ σ H _ s fun vs H1 s1 => by
    have ⟨F, s2⟩ := s1
    have hl := Paired.length s2.fr.2
    rw [List.append_nil]
    exact ⟨Φ, ρ, σ, ds, M1, P, s1, by rw [← hl]; exact hn, hS, fun x M' v H' p s' => q x M' v H' p s'⟩
theorem ev_call {n : Nat} {S : FSpec} {E : XK} {ta : TA} {ds : List VD} (h : EvA ta ρ M ds M1) (hn : ds.length = n) (hS : S ds M1 (Det x M2)) : Ev (tCall (spF n S) [] E ta) ρ M x M2 := (er_call h hn hS).ev
theorem er_meth {n : Nat} {S : FSpec} {P : VD → Cells → Prop} {E : XK} {m : Str} {t : TA} {ds : List VD} (ho : Ev ta ρ M (val (.ref p)) M1) (hm : (p, cI C ns xs) ∈ M1) (hf : m ∉ ns) (h : EvA t ρ M1 ds M2) (hn : ds.length + 1 = n) (hS : S (val (.ref p) :: ds) M2 P) : EvR (tMeth C m (spF n S) [] E ta t) ρ M P := fun Φ σ H Q s q =>
  ho Φ σ H _ s fun v H1 s1 => by
    have ⟨F, s2⟩ := s1
    have e : v = .ref p := s2.fr.2
    obtain ⟨o, h1, h0, dx, fs, rfl, h3⟩ := s2.at hm
    refine ⟨p, dx, fs, e, h1, h3.lookup_none hf, h _ σ H1 _ s1 fun vs H2 s3 => ?_⟩
    have ⟨F', s4⟩ := s3
    have hl := Paired.length s4.fr.2
    rw [List.append_nil]
    exact ⟨Φ, ρ, σ, val (.ref p) :: ds, M2, P, s3.weak (.of rfl fun F h => ⟨h.1.1, .cons h.1.2 h.2⟩), by rw [List.length_cons, ← hl]; exact hn, hS, fun x M' v H' p s' => q x M' v H' p s'⟩
theorem ev_meth {n : Nat} {S : FSpec} {E : XK} {m : Str} {t : TA} {ds : List VD} (ho : Ev ta ρ M (val (.ref p)) M1) (hm : (p, cI C ns xs) ∈ M1) (hf : m ∉ ns) (h : EvA t ρ M1 ds M2) (hn : ds.length + 1 = n) (hS : S (val (.ref p) :: ds) M2 (Det x M3)) : Ev (tMeth C m (spF n S) [] E ta t) ρ M x M3 := (er_meth ho hm hf h hn hS).ev
/-- C(..): the new instance anywhere -/
theorem er_make {n : Nat} {S : FSpec} {P : VD → Cells → Prop} {E : XK} {t : TA} {ds : List VD} (h : EvA t ρ M ds M1) (hn : ds.length + 1 = n) (hS : ∀ p, S (val (.ref p) :: ds) ((p, cI C [] []) :: M1) fun y M' => y = vn ∧ P (val (.ref p)) M') : EvR (tMake C (spF n S) [] E t) ρ M P := fun Φ σ H Q s q =>
  h Φ σ H _ s fun vs H1 s1 => fun x dx hx hdx hne => by
    have ⟨F, s2⟩ := s1
    have hl := Paired.length s2.fr.2
    rw [List.append_nil]
    have s3 := (s2.newH (o := .own x) hdx).newC (c := cI C [] []) (o := .ins C dx []) (p := x) (by rw [upd_ne hne.symm]; exact hx) fun e => ⟨e, dx, [], rfl, rfl, .nil⟩
    refine ⟨Φ, ρ, σ, val (.ref x) :: ds, (x, cI C [] []) :: M1, fun y M' => y = vn ∧ P (val (.ref x)) M', ⟨F, s3.weak (.of rfl fun F h => ⟨h.1, .cons rfl h.2⟩)⟩, by rw [List.length_cons, ← hl]; exact hn, hS x, fun y M' v H' hp s' => ?_⟩
    obtain ⟨rfl, hp⟩ := hp
    have ⟨F', s5⟩ := s'
    refine ⟨?_, q (val (.ref x)) M' (.ref x) H' hp ⟨F', s5.ex, ⟨s5.fr.1, rfl⟩, s5.sl, s5.nd, s5.ce⟩⟩
    have e : Rp F' v .none := s5.fr.2
    cases e
    rfl

/-! ### built-in calls, methods of built-in types -/
theorem ev_cb {r : List V → Hp → VK → Prop} {ta : TA} {ds : List VD} (h : EvA ta ρ M ds M1) (hr : RC r ds M1 z M2) : Ev (tCB r ta) ρ M z M2 := fun Φ σ H Q s q => h Φ σ H _ s fun vs H1 s1 => hr Φ ρ σ vs H1 Q s1 q
def IsTy (K : PySem.W.Frag) (T : String) (x : VD) (M : Cells) : Prop := ∀ {F Φ ρ σ H v}, SatF F Φ ρ M σ H → x.P F v → tyV K T v H
theorem ity_l {ds : List VD} (h : IsLstV x M ds) : IsTy K "list" x M := fun s q => by
  obtain ⟨a, ws, rfl, h1, _⟩ := h s q
  exact .inl ⟨rfl, ws, sq_of h1⟩
theorem ity_s {i : Str} : IsTy K "str" (dat (.str i)) M := fun s q => by cases q; exact rfl
theorem ev_bm {T : String} {r : V → List V → Hp → VK → Prop} {ta : TA} {ds : List VD} (ho : Ev tb ρ M x M1) (ty : IsTy K T x M1) (h : EvA ta ρ M1 ds M2) (hr : RM r x ds M2 z M3) : Ev (tBM K T r tb ta) ρ M z M3 := fun Φ σ H Q s q =>
  ho Φ σ H _ s fun v H1 ⟨F, s1⟩ => ⟨ty s1 s1.fr.2, h _ σ H1 _ ⟨F, s1⟩ fun vs H2 s2 => hr Φ ρ σ v vs H2 Q s2 q⟩
theorem ev_bm0 {T : String} {r : V → List V → Hp → VK → Prop} (ho : Ev tb ρ M x M1) (ty : IsTy K T x M1) (hr : RM r x [] M1 z M2) : Ev (tBM0 K T r tb) ρ M z M2 := fun Φ σ H Q s q =>
  ho Φ σ H _ s fun v H1 ⟨F, s1⟩ => ⟨ty s1 s1.fr.2, hr Φ ρ σ v [] H1 Q ⟨F, s1.ex, ⟨s1.fr, .nil⟩, s1.sl, s1.nd, s1.ce⟩ q⟩
/-- xs.append(e) -/
theorem rm_append {ds : List PyData} {d : PyData} (h : Put p (cLd ds) (cLd (ds ++ [d])) M M') (hl : ds.length < sizeLine) : RM rAppend (val (.ref p)) [dat d] M vn M' := fun Φ ρ σ v vs H Q ⟨F, s⟩ q => by
  have e : v = .ref p := s.fr.1.2
  cases s.fr.2 with
  | cons q1 q2 =>
    cases q2
    obtain ⟨o, h1, h0, ws, rfl, h3⟩ := s.at h.mem
    refine ⟨p, ws, _, e, rfl, h1, by rw [h3.length]; exact hl, q .non _ ⟨F, ?_⟩⟩
    have s' := s.put1 (o := .lst (ws ++ [_])) h h0 ⟨h0, _, rfl, h3.append (.cons q1 .nil)⟩
    exact ⟨s'.ex, ⟨s'.fr.1.1, .non⟩, s'.sl, s'.nd, s'.ce⟩
theorem rm_appendV {ds : List VD} {d : VD} (h : Put p (cL ds) (cL (ds ++ [d])) M M') (hl : ds.length < sizeLine) : RM rAppend (val (.ref p)) [d] M vn M' := fun Φ ρ σ v vs H Q ⟨F, s⟩ q => by
  have e : v = .ref p := s.fr.1.2
  cases s.fr.2 with
  | cons q1 q2 =>
    cases q2
    obtain ⟨o, h1, h0, ws, rfl, h3⟩ := s.at h.mem
    refine ⟨p, ws, _, e, rfl, h1, by rw [← Paired.length h3]; exact hl, q .non _ ⟨F, ?_⟩⟩
    have s' := s.put1 (o := .lst (ws ++ [_])) h h0 ⟨h0, _, rfl, h3.append (.cons q1 .nil)⟩
    exact ⟨s'.ex, ⟨s'.fr.1.1, .non⟩, s'.sl, s'.nd, s'.ce⟩
/-- len -/
def rLen (K : PySem.W.Frag) : List V → Hp → VK → Prop := fun xs H Q => ∃ x n, xs = [x] ∧ LenV K x H n ∧ Q (.int n) H
theorem call_len' {X : Cx} : CallR X (.builtin "len") (rLen X.K) := call_len
def rLenD : List V → Hp → VK → Prop := fun xs H Q => ∃ a kvs, xs = [V.ref a] ∧ H a = some (.dK kvs) ∧ Q (.int kvs.length) H
def rLenU (K : PySem.W.Frag) : List V → Hp → VK → Prop := fun xs H Q => rLen K xs H Q ∨ rLenD xs H Q
theorem call_lenU {X : Cx} : CallR X (.builtin "len") (rLenU X.K) := call_len'.or call_lenD
theorem rc1 {ds : List VD} {F : Hp} {vs : List V} (h : DA F [x] vs) : ∃ v, vs = [v] ∧ x.P F v := by
  cases h with
  | cons q1 q2 => cases q2; exact ⟨_, rfl, q1⟩
theorem rc2 {F : Hp} {vs : List V} (h : DA F [x, y] vs) : ∃ v w, vs = [v, w] ∧ x.P F v ∧ y.P F w := by
  cases h with
  | cons q1 q2 =>
    cases q2 with
    | cons q3 q4 => cases q4; exact ⟨_, _, rfl, q1, q3⟩
theorem SatF.base1 {F : Hp} {σ : L2.St} {H : Hp} {ds : List VD} {vs : List V} (s : SatF F (Φ.andA ds vs) ρ M σ H) : SatF F Φ ρ M σ H := s.weak Le.andA
theorem rc_len {ds : List VD} (hx : IsSeq K x M ds) : RC (rLenU K) [x] M (dat (.int ds.length)) M := fun Φ ρ σ vs H Q ⟨F, s⟩ q => by
  obtain ⟨v, rfl, h1⟩ := rc1 (ds := []) s.fr.2
  obtain ⟨a, ws, rfl, h2, h3⟩ := hx s h1
  have hl := Paired.length h3
  refine .inl ⟨_, ws.length, rfl, ?_, q _ _ (Sat.ret s.base1 (by rw [← hl]; exact .int _))⟩
  rcases h2 with h2 | h2
  · exact .inl ⟨ws, h2, rfl⟩
  · exact .inr ⟨ws, h2, rfl⟩
theorem rc_lenL {ds : List PyData} (hx : IsLst x M ds) : RC (rLenU K) [x] M (dat (.int ds.length)) M := by
  have h := rc_len (K := K) (iss_l (K := K) hx.v)
  rw [List.length_map] at h; exact h
theorem rc_lenT {ds : List PyData} (hx : IsTup x M ds) : RC (rLenU K) [x] M (dat (.int ds.length)) M := by
  have h := rc_len (K := K) (iss_t (K := K) hx.v)
  rw [List.length_map] at h; exact h
theorem rc_lenScr {is : List Int} : RC (rLenU K) [vscr K is] M (dat (.int is.length)) M := fun Φ ρ σ vs H Q ⟨F, s⟩ q => by
  obtain ⟨v, rfl, a, rfl, h1⟩ := rc1 (ds := []) s.fr.2
  refine .inl ⟨_, (is.map V.int).length, rfl, .inl ⟨_, ex_l s.ex h1, rfl⟩, q _ _ (Sat.ret s.base1 (by rw [List.length_map]; exact .int _))⟩
theorem rc_lenS {i : Str} (h : i.length ≤ sizeLine) : RC (rLenU K) [dat (.str i)] M (dat (.int i.length)) M := fun Φ ρ σ vs H Q ⟨F, s⟩ q => by
  obtain ⟨v, rfl, h1⟩ := rc1 (ds := []) s.fr.2
  cases h1
  exact .inl ⟨_, i.length, rfl, ⟨h, rfl⟩, q _ _ (Sat.ret s.base1 (.int _))⟩
/-- tuple(xs), list(xs) -/
def rTupOf (K : PySem.W.Frag) : List V → Hp → VK → Prop := fun xs H Q => ∃ p ys, xs = [.ref p] ∧ ((SqL K H p ys ∧ ∀ l, H l = none → Q (.ref l) (upd H l (.tup ys))) ∨ (SqT K H p ys ∧ Q (.ref p) H))
theorem call_tuple_of' {X : Cx} : CallR X (.type "tuple") (rTupOf X.K) := call_tuple_of
def rLstOf (K : PySem.W.Frag) : List V → Hp → VK → Prop := fun xs H Q => ∃ p ys, xs = [.ref p] ∧ (SqL K H p ys ∨ SqT K H p ys) ∧ ∀ l, H l = none → Q (.ref l) (upd H l (.lst ys))
theorem call_list_of' {X : Cx} : CallR X (.type "list") (rLstOf X.K) := call_list_of
theorem rc_tupL {ds : List PyData} (hx : IsLst x M ds) : RC (rTupOf K) [x] M (dat (.tuple ds)) M := fun Φ ρ σ vs H Q ⟨F, s⟩ q => by
  obtain ⟨v, rfl, h1⟩ := rc1 (ds := []) s.fr.2
  obtain ⟨a, ws, rfl, h2, h3⟩ := hx s h1
  exact ⟨a, ws, rfl, .inl ⟨sq_of h2, fun l hl => q _ _ (Sat.retNew s.base1 hl fun F' fx e => .tup e (h3.mono fx))⟩⟩
theorem rc_tupT {ds : List PyData} : RC (rTupOf K) [dat (.tuple ds)] M (dat (.tuple ds)) M := fun Φ ρ σ vs H Q ⟨F, s⟩ q => by
  obtain ⟨v, rfl, h1⟩ := rc1 (ds := []) s.fr.2
  have h1' := h1
  obtain ⟨a, ws, rfl, h2, h3⟩ := ist_dat s h1
  exact ⟨a, ws, rfl, .inr ⟨st_of h2, q _ _ (Sat.ret s.base1 h1')⟩⟩
theorem rc_lstL {ds : List PyData} (hx : IsLst x M ds) : RC (rLstOf K) [x] M (dat (.list ds)) M := fun Φ ρ σ vs H Q ⟨F, s⟩ q => by
  obtain ⟨v, rfl, h1⟩ := rc1 (ds := []) s.fr.2
  obtain ⟨a, ws, rfl, h2, h3⟩ := hx s h1
  exact ⟨a, ws, rfl, .inl (sq_of h2), fun l hl => q _ _ (Sat.retNew s.base1 hl fun F' fx e => .lst e (h3.mono fx))⟩
theorem rc_lstT {ds : List PyData} (hx : IsTup x M ds) : RC (rLstOf K) [x] M (dat (.list ds)) M := fun Φ ρ σ vs H Q ⟨F, s⟩ q => by
  obtain ⟨v, rfl, h1⟩ := rc1 (ds := []) s.fr.2
  obtain ⟨a, ws, rfl, h2, h3⟩ := hx s h1
  exact ⟨a, ws, rfl, .inr (st_of h2), fun l hl => q _ _ (Sat.retNew s.base1 hl fun F' fx e => .lst e (h3.mono fx))⟩
/-- any, all of a list of truth values -/
theorem rc_any {bs : List Bool} (hx : IsLst x M (bs.map PyData.bool)) : RC (rAny K) [x] M (dat (.bool (bs.any id))) M := fun Φ ρ σ vs H Q ⟨F, s⟩ q => by
  obtain ⟨v, rfl, h1⟩ := rc1 (ds := []) s.fr.2
  obtain ⟨a, ws, rfl, h2, h3⟩ := hx s h1
  cases h3.bls
  exact ⟨a, bs, rfl, sq_of h2, q _ _ (Sat.ret s.base1 (.bl _))⟩
theorem rc_all {bs : List Bool} (hx : IsLst x M (bs.map PyData.bool)) : RC (rAll K) [x] M (dat (.bool (bs.all id))) M := fun Φ ρ σ vs H Q ⟨F, s⟩ q => by
  obtain ⟨v, rfl, h1⟩ := rc1 (ds := []) s.fr.2
  obtain ⟨a, ws, rfl, h2, h3⟩ := hx s h1
  cases h3.bls
  exact ⟨a, bs, rfl, sq_of h2, q _ _ (Sat.ret s.base1 (.bl _))⟩
/-- max, min of two ints; abs; int -/
def rMax2 : List V → Hp → VK → Prop := fun xs H Q => ∃ i j, xs = [.int i, .int j] ∧ Q (.int (if j > i then j else i)) H
def rMin2 : List V → Hp → VK → Prop := fun xs H Q => ∃ i j, xs = [.int i, .int j] ∧ Q (.int (if j < i then j else i)) H
def rAbs : List V → Hp → VK → Prop := fun xs H Q => ∃ i, xs = [.int i] ∧ Q (.int (if i < 0 then -i else i)) H
def rInt1 : List V → Hp → VK → Prop := fun xs H Q => (∃ i, xs = [.int i] ∧ Q (.int i) H) ∨ ∃ k, xs = [.bl k] ∧ Q (.int (if k then 1 else 0)) H
theorem call_max2' {X : Cx} (hc : X.calm = true) : CallR X (.builtin "max") rMax2 := call_max2 hc
theorem call_min2' {X : Cx} (hc : X.calm = true) : CallR X (.builtin "min") rMin2 := call_min2 hc
theorem call_abs' {X : Cx} : CallR X (.builtin "abs") rAbs := call_abs
theorem call_int1' {X : Cx} : CallR X (.type "int") rInt1 := call_int1
theorem rc_max2 {i j : Int} : RC rMax2 [dat (.int i), dat (.int j)] M (dat (.int (max i j))) M := fun Φ ρ σ vs H Q ⟨F, s⟩ q => by
  obtain ⟨v, w, rfl, h1, h2⟩ := rc2 s.fr.2
  cases h1; cases h2
  have e : (if j > i then j else i) = max i j := by split <;> omega
  exact ⟨i, j, rfl, by rw [e]; exact q _ _ (Sat.ret s.base1 (.int _))⟩
theorem rc_min2 {i j : Int} : RC rMin2 [dat (.int i), dat (.int j)] M (dat (.int (min i j))) M := fun Φ ρ σ vs H Q ⟨F, s⟩ q => by
  obtain ⟨v, w, rfl, h1, h2⟩ := rc2 s.fr.2
  cases h1; cases h2
  have e : (if j < i then j else i) = min i j := by split <;> omega
  exact ⟨i, j, rfl, by rw [e]; exact q _ _ (Sat.ret s.base1 (.int _))⟩
theorem rc_abs {i : Int} : RC rAbs [dat (.int i)] M (dat (.int (if i < 0 then -i else i))) M := fun Φ ρ σ vs H Q ⟨F, s⟩ q => by
  obtain ⟨v, rfl, h1⟩ := rc1 (ds := []) s.fr.2
  cases h1
  exact ⟨i, rfl, q _ _ (Sat.ret s.base1 (.int _))⟩
theorem rc_int {i : Int} : RC rInt1 [dat (.int i)] M (dat (.int i)) M := fun Φ ρ σ vs H Q ⟨F, s⟩ q => by
  obtain ⟨v, rfl, h1⟩ := rc1 (ds := []) s.fr.2
  cases h1
  exact .inl ⟨i, rfl, q _ _ (Sat.ret s.base1 (.int _))⟩
end

/-! ### statements -/
def Cont (k : L2.St → Hp → Prop) (Φ : Fr) (ρ : Env) (M : Cells) : Prop := ∀ σ H, Sat Φ ρ M σ H → k σ H
/-- a word between -/
def InvK (Φ : Fr) (J : Env → Cells → Prop) : L2.St → Hp → Prop := fun σ H => ∃ ρ M, J ρ M ∧ Sat Φ ρ M σ H
/-- what is wanted of what is handed back -/
def RtQ (Q : VK) (Φ : Fr) (P : VD → Cells → Prop) : Prop := ∀ Φ' ρ σ x M v H, Le Φ' Φ → P x M → Sat (Φ'.and x v) ρ M σ H → Q v H
abbrev fnD (Q : VK) : Ends := { nx := fun _ H' => Q .non H', rt := Q }
section
variable {K : PySem.W.Frag} {ρ ρ' ρ1 : Env} {M M1 M2 M3 M' : Cells} {x y z : VD} {te ta tb tv : TE} {t u : TS} {tc : TT} {C p : Addr} {f : Str} {ns ns' nn : List Str} {xs xs' : List VD} {Φ Ψ : Fr} {D : Ends} {Q : VK} {P : VD → Cells → Prop} {J : Env → Cells → Prop}
theorem c_seq (h : Cont (t { D with nx := u D }) Φ ρ M) : Cont (tSeq t u D) Φ ρ M := h
theorem c_cut (h : Cont (t { D with nx := u D }) Φ ρ M) : Cont (tCut t u D) Φ ρ M := fun σ H s => ⟨u D, h σ H s, fun _ _ h => h⟩
/-- .. by a word -/
theorem c_cutW (J : Env → Cells → Prop) (h : Cont (t { D with nx := InvK Φ J }) Φ ρ M) (k : ∀ ρ' M', J ρ' M' → Cont (u D) Φ ρ' M') : Cont (tCut t u D) Φ ρ M := fun σ H s => ⟨InvK Φ J, h σ H s, fun σ' H' ⟨ρ', M', j, s'⟩ => k ρ' M' j σ' H' s'⟩
theorem c_inv (j : J ρ M) (l : Le Ψ Φ) : Cont (InvK Φ J) Ψ ρ M := fun σ H s => ⟨ρ, M, j, s.weak l⟩
theorem c_ret (h : Ev te ρ M x M1) (hQ : RtQ D.rt Φ P) (hP : P x M1) (l : Le Ψ Φ) : Cont (tRet te D) Ψ ρ M := fun σ H s => h Ψ σ H _ s fun v H1 s1 => hQ Ψ ρ σ x M1 v H1 l hP s1
theorem c_retR {P' : VD → Cells → Prop} (h : EvR te ρ M P') (hQ : RtQ D.rt Φ P) (hP : ∀ x M1, P' x M1 → P x M1) (l : Le Ψ Φ) : Cont (tRet te D) Ψ ρ M := fun σ H s => h Ψ σ H _ s fun x M1 v H1 p s1 => hQ Ψ ρ σ x M1 v H1 l (hP x M1 p) s1
theorem Sat.non (s : Sat Φ ρ M σ H) : Sat (Φ.and vn .non) ρ M σ H := let ⟨F, s⟩ := s; ⟨F, s.ex, ⟨s.fr, .non⟩, s.sl, s.nd, s.ce⟩
theorem c_retN (hQ : RtQ D.rt Φ P) (hP : P vn M) (l : Le Ψ Φ) : Cont (tRetN D) Ψ ρ M := fun σ H s => hQ Ψ ρ σ vn M .non H l hP s.non
theorem c_end (hQ : RtQ Q Φ P) (hP : P vn M) (l : Le Ψ Φ) : Cont (fun _ H' => Q .non H') Ψ ρ M := fun σ H s => hQ Ψ ρ σ vn M .non H l hP s.non
theorem c_next (h : Cont D.nx Φ ρ M) : Cont (tNext D) Φ ρ M := h
theorem c_break (h : Cont D.bk Φ ρ M) : Cont (tBreak D) Φ ρ M := h
theorem c_cont (h : Cont D.ct Φ ρ M) : Cont (tCont D) Φ ρ M := h
theorem Sat.asg {v : V} {σ : L2.St} {H : Hp} {i : Nat} (s : Sat (Φ.and x v) ρ M σ H) (h : SetAt x ρ i ρ') : Sat Φ ρ' M (σ.set i (some v)) H := by
  obtain ⟨F, s⟩ := s
  rw [h.eq]
  exact ⟨F, s.ex, s.fr.1, s.sl.set s.fr.2, s.nd, s.ce⟩
theorem c_asg {i : Nat} (h : Ev te ρ M x M1) (hs : SetAt x ρ i ρ') (k : Cont D.nx Φ ρ' M1) : Cont (tAsg te (gName i) D) Φ ρ M := fun σ H s => h Φ σ H _ s fun v H1 s1 => k _ _ (s1.asg hs)
theorem c_asgR {i : Nat} (h : EvR te ρ M P) (k : ∀ x M1, P x M1 → ∃ ρ', SetAt x ρ i ρ' ∧ Cont D.nx Φ ρ' M1) : Cont (tAsg te (gName i) D) Φ ρ M := fun σ H s => h Φ σ H _ s fun x M1 v H1 p s1 => by
  obtain ⟨ρ', hs, k⟩ := k x M1 p
  exact k _ _ (s1.asg hs)
theorem c_drop (h : Ev te ρ M x M1) (k : Cont D.nx Φ ρ M1) : Cont (tDrop te D) Φ ρ M := fun σ H s => h Φ σ H _ s fun v H1 s1 => k σ H1 s1.weak1
theorem c_dropR (h : EvR te ρ M P) (k : ∀ x M1, P x M1 → Cont D.nx Φ ρ M1) : Cont (tDrop te D) Φ ρ M := fun σ H s => h Φ σ H _ s fun x M1 v H1 p s1 => k x M1 p σ H1 s1.weak1
theorem c_if {b : Bool} (h : EvT tc ρ M b M1) (h1 : b = true → Cont (t D) Φ ρ M1) (h2 : b = false → Cont (u D) Φ ρ M1) : Cont (tIfS tc t u D) Φ ρ M := fun σ H s => h Φ σ H _ s fun H1 s1 => by
  cases b with
  | true => rw [if_pos rfl]; exact h1 rfl σ H1 s1
  | false => rw [if_neg Bool.false_ne_true]; exact h2 rfl σ H1 s1
theorem c_aug {i : Nat} {g : Int → Int → Int} {a b : Int} (h0 : At (dat (.int a)) ρ i) (h : Ev te ρ M (dat (.int b)) M1) (hs : SetAt (dat (.int (g a b))) ρ i ρ') (k : Cont D.nx Φ ρ' M1) : Cont (tAug i te (ipI g) D) Φ ρ M := fun σ H s => by
  have ⟨F, s0⟩ := s
  obtain ⟨v, h1, h2⟩ := s0.sl.2 i _ h0.get
  cases h2
  refine ⟨_, h1, h Φ σ H _ s fun w H1 s1 => ?_⟩
  have ⟨F1, s2⟩ := s1
  cases s2.fr.2
  refine ⟨a, b, rfl, rfl, k _ _ ?_⟩
  rw [hs.eq]
  exact ⟨F1, s2.ex, s2.fr.1, s2.sl.set (.int _), s2.nd, s2.ce⟩
theorem c_fld (hv : Ev tv ρ M y M1) (ho : Ev ta ρ M1 (val (.ref p)) M2) (h : Put p (cI C ns xs) (cI C ns' xs') M2 M3) (g : FPut f y ns xs ns' xs') (c : ClsF K C nn) (hf : f ∈ nn) (hl : ns.length < 1000) (k : Cont D.nx Φ ρ M3) : Cont (sFld K ta tv f D) Φ ρ M := fun σ H s =>
  hv Φ σ H _ s fun v H1 s1 => ho _ σ H1 _ s1 fun w H2 ⟨F, s2⟩ => by
    have e : w = .ref p := s2.fr.2
    obtain ⟨o, h1, h0, dx, fs, rfl, h3⟩ := s2.at h.mem
    refine ⟨p, C, dx, fs, e, h1, c.cl, c.no f hf, by rw [h3.len]; exact hl, k σ _ ⟨F, ?_⟩⟩
    exact (s2.put1 (o := .ins C dx (putF f v fs)) h h0 ⟨h0, dx, _, rfl, g.put s2.fr.1.2 h3⟩).weak (.of rfl fun F h => h.1.1)
end
end Sx

set_option Elab.async false
set_option linter.all false
set_option maxRecDepth 100000
set_option maxHeartbeats 2000000
/-! Sx4: targets, loops, comprehensions, by descriptions; a def's body. -/
namespace Sx
open PySem L2 Evl
section
variable {K : PySem.W.Frag} {ρ ρ' ρ1 ρ2 : Env} {M M1 M2 M3 M' : Cells} {x y z : VD} {te ta tb tv : TE} {t u : TS} {tt : TT} {C p : Addr} {Φ Ψ : Fr} {D : Ends} {P : VD → Cells → Prop} {J : Env → Cells → Prop}
/-! ### targets: what they store, where -/
def Tgt (g : TG) (js : List Nat) (x : VD) (ρ : Env) (ρ' : Env) : Prop := ∀ (Φ : Fr) (M : Cells) (v : V) (σ : L2.St) (H : Hp) (k : L2.St → Hp → Prop), Sat (Φ.and x v) ρ M σ H →
  (∀ σ', (∀ i, i ∉ js → σ'[i]? = σ[i]?) → σ'.length = σ.length → Sat Φ ρ' M σ' H → k σ' H) → g v σ H k
def Tgts (g : TGs) (js : List Nat) (xs : List VD) (ρ : Env) (ρ' : Env) : Prop := ∀ (Φ : Fr) (M : Cells) (vs : List V) (σ : L2.St) (H : Hp) (k : L2.St → Hp → Prop), Sat (Φ.andA xs vs) ρ M σ H →
  (∀ σ', (∀ i, i ∉ js → σ'[i]? = σ[i]?) → σ'.length = σ.length → Sat Φ ρ' M σ' H → k σ' H) → g vs σ H k
theorem tg_name {i : Nat} (h : SetAt x ρ i ρ') : Tgt (gName i) [i] x ρ ρ' := fun Φ M v σ H k s q => q _ (fun j hj => List.getElem?_set_ne (by simpa using Ne.symm (by simpa using hj))) (by simp) (s.asg h)
theorem tgs_nil : Tgts gNil [] [] ρ ρ := fun Φ M vs σ H k ⟨F, s⟩ q => by
  have e := s.fr.2
  cases e
  exact ⟨rfl, q σ (fun _ _ => rfl) rfl ⟨F, s.base1⟩⟩
theorem tgs_cons {g : TG} {gs : TGs} {js ks : List Nat} {xs : List VD} (h : Tgt g js x ρ ρ1) (hs : Tgts gs ks xs ρ1 ρ2) : Tgts (gCons g gs) (js ++ ks) (x :: xs) ρ ρ2 := fun Φ M vs σ H k s q => by
  have ⟨F, s0⟩ := s
  have e := s0.fr.2
  cases vs with
  | nil => cases e
  | cons v r =>
    refine ⟨v, r, rfl, h (Φ.andA xs r) M v σ H _ (s.weak (.of rfl fun F h => by
      cases h.2 with
      | cons q1 q2 => exact ⟨⟨h.1, q2⟩, q1⟩)) fun σ1 hj hl s1 => ?_⟩
    exact hs Φ M r σ1 H k s1 fun σ2 hk hl2 s2 => q σ2 (fun i hi => (hk i (fun z => hi (List.mem_append_right _ z))).trans (hj i fun z => hi (List.mem_append_left _ z))) (hl2.trans hl) s2
theorem tg_tup {gs : TGs} {js : List Nat} {n : Nat} {xs : List VD} (hx : ∀ {M}, IsTupV x M xs) (hs : Tgts gs js xs ρ ρ') (hn : xs.length = n) : Tgt (gTup K n gs) js x ρ ρ' := fun Φ M v σ H k ⟨F, s⟩ q => by
  obtain ⟨a, ws, rfl, h1, h2⟩ := hx s s.fr.2
  exact ⟨a, ws, rfl, st_of h1, by rw [← Paired.length h2]; exact hn, hs Φ M ws σ H k ⟨F, s.ex, ⟨s.fr.1, h2⟩, s.sl, s.nd, s.ce⟩ q⟩
theorem tg_tupD {gs : TGs} {js : List Nat} {n : Nat} {ds : List PyData} (hs : Tgts gs js (ds.map dat) ρ ρ') (hn : ds.length = n) : Tgt (gTup K n gs) js (dat (.tuple ds)) ρ ρ' := tg_tup ist_dat.v hs (by rw [List.length_map]; exact hn)
theorem c_asgG {g : TG} {js : List Nat} (h : Ev te ρ M x M1) (hg : Tgt g js x ρ ρ') (k : Cont D.nx Φ ρ' M1) : Cont (tAsg te g D) Φ ρ M := fun σ H s => h Φ σ H _ s fun v H1 s1 => hg Φ M1 v σ H1 _ s1 fun σ' _ _ s' => k σ' H1 s'
/-- a, b = e1, e2 -/
theorem c_par {i j : Nat} {ta : TA} (h : EvA ta ρ M [x, y] M1) (h1 : SetAt x ρ i ρ1) (h2 : SetAt y ρ1 j ρ2) (k : Cont D.nx Φ ρ2 M1) : Cont (tPar i j ta D) Φ ρ M := fun σ H s => h Φ σ H _ s fun vs H1 s1 => by
  have ⟨F, s0⟩ := s1
  obtain ⟨v, w, rfl, q1, q2⟩ := rc2 s0.fr.2
  refine ⟨v, w, rfl, k _ _ ?_⟩
  have s2 : Sat ((Φ.and y w).and x v) ρ M1 σ H1 := s1.weak (.of rfl fun F h => by
    obtain ⟨v', w', e, q1, q2⟩ := rc2 h.2
    cases e
    exact ⟨⟨h.1, q2⟩, q1⟩)
  exact (s2.asg h1).asg h2
theorem c_par3 {i j l : Nat} {ta : TA} {ρ3 : Env} (h : EvA ta ρ M [x, y, z] M1) (h1 : SetAt x ρ i ρ1) (h2 : SetAt y ρ1 j ρ2) (h3 : SetAt z ρ2 l ρ3) (k : Cont D.nx Φ ρ3 M1) : Cont (tPar3 i j l ta D) Φ ρ M := fun σ H s => h Φ σ H _ s fun vs H1 s1 => by
  have ⟨F, s0⟩ := s1
  obtain ⟨v, w, u', rfl⟩ : ∃ a b c, vs = [a, b, c] := by
    have e := Paired.length s0.fr.2
    match vs, e with
    | [a, b, c], _ => exact ⟨a, b, c, rfl⟩
  refine ⟨v, w, u', rfl, k _ _ ?_⟩
  have s2 : Sat (((Φ.and z u').and y w).and x v) ρ M1 σ H1 := s1.weak (.of rfl fun F h => by
    cases h.2 with
    | cons q1 q2 =>
      cases q2 with
      | cons q3 q4 =>
        cases q4 with
        | cons q5 q6 => exact ⟨⟨⟨h.1, q5⟩, q3⟩, q1⟩)
  exact ((s2.asg h1).asg h2).asg h3

/-! ### what is walked -/
def Walks (J : It) (Ψ : Fr) (its : List VD) : Prop := ∃ (G : Hp → Prop) (Y : Nat → Hp → V → Hp → Prop), Walk J its.length G Y ∧ (∀ Φ ρ M σ H, Le Φ Ψ → Sat Φ ρ M σ H → G H) ∧
  ∀ (i : Nat) (d : VD) (x : V) (H H' : Hp) (Φ : Fr) (ρ : Env) (M : Cells) (σ : L2.St), its[i]? = some d → Le Φ Ψ → Sat Φ ρ M σ H → Y i H x H' → Sat (Φ.and d x) ρ M σ H'
def EvI (wi : TI) (ρ : Env) (M : Cells) (its : List VD) (M' : Cells) : Prop := ∀ (Φ : Fr) (σ : L2.St) (H : Hp) (R : It → Hp → Prop), Sat Φ ρ M σ H → (∀ J H' Ψ, Le Ψ Φ → Sat Ψ ρ M' σ H' → Walks J Ψ its → R J H') → wi σ H R
theorem ei_vec {K : PySem.W.Frag} {ds : List VD} {a : Addr} {ws : List V} (hl : ws.length = ds.length) (hq : ∀ Φ ρ M σ H, Le Φ Ψ → Sat Φ ρ M σ H → SqL K H a ws ∧ ∃ F, SatF F Φ ρ M σ H ∧ DA F ds ws) : Walks (Itl K a) Ψ ds := by
  refine ⟨fun H => SqL K H a ws, YAt ws, hl ▸ walk_list, fun Φ ρ M σ H l s => (hq Φ ρ M σ H l s).1, fun i d x H H' Φ ρ M σ hi l s y => ?_⟩
  obtain ⟨rfl, hx⟩ := y
  obtain ⟨_, F, s0, hd⟩ := hq Φ ρ M σ H' l s
  obtain ⟨v, h1, h2⟩ := hd.get hi
  rw [hx] at h1
  cases h1
  exact ⟨F, s0.ex, ⟨s0.fr, h2⟩, s0.sl, s0.nd, s0.ce⟩
theorem ei_vecT {K : PySem.W.Frag} {ds : List VD} {a : Addr} {ws : List V} (hl : ws.length = ds.length) (hq : ∀ Φ ρ M σ H, Le Φ Ψ → Sat Φ ρ M σ H → SqT K H a ws ∧ ∃ F, SatF F Φ ρ M σ H ∧ DA F ds ws) : Walks (Itt K a) Ψ ds := by
  refine ⟨fun H => SqT K H a ws, YAt ws, hl ▸ walk_tup, fun Φ ρ M σ H l s => (hq Φ ρ M σ H l s).1, fun i d x H H' Φ ρ M σ hi l s y => ?_⟩
  obtain ⟨rfl, hx⟩ := y
  obtain ⟨_, F, s0, hd⟩ := hq Φ ρ M σ H' l s
  obtain ⟨v, h1, h2⟩ := hd.get hi
  rw [hx] at h1
  cases h1
  exact ⟨F, s0.ex, ⟨s0.fr, h2⟩, s0.sl, s0.nd, s0.ce⟩
/-- a fact of the frozen part, kept -/
def Fr.also (Φ : Fr) (G : Hp → Prop) (h : ∀ {F F'}, Fx F F' → G F → G F') : Fr := ⟨Φ.N, fun F => Φ.P F ∧ G F, fun e ⟨h1, h2⟩ => ⟨Φ.mono e h1, h e h2⟩⟩
/-- the description is of a frozen list (tuple) of such items -/
def FzL (x : VD) (ds : List VD) : Prop := ∀ F v, x.P F v → (vlst ds).P F v
def FzT (x : VD) (ds : List VD) : Prop := ∀ F v, x.P F v → (vtup ds).P F v
theorem fzl_dat {ds : List PyData} : FzL (dat (.list ds)) (ds.map dat) := fun F v h => vlst_dat.mpr h
theorem fzl_v {ds : List VD} : FzL (vlst ds) ds := fun F v h => h
theorem fzt_dat {ds : List PyData} : FzT (dat (.tuple ds)) (ds.map dat) := fun F v h => vtup_dat.mpr h
theorem fzt_v {ds : List VD} : FzT (vtup ds) ds := fun F v h => h
theorem fz_walkL {ds : List VD} {v : V} {σ : L2.St} {H : Hp} (s : Sat (Φ.and x v) ρ M σ H) (hx : FzL x ds) : ∃ a ws Ψ, v = .ref a ∧ SqL K H a ws ∧ Le Ψ Φ ∧ Sat Ψ ρ M σ H ∧ Walks (Itl K a) Ψ ds := by
  have ⟨F, s0⟩ := s
  obtain ⟨a, ws, rfl, h1, h2⟩ := hx F v s0.fr.2
  refine ⟨a, ws, Φ.also (fun F => F a = some (.lst ws) ∧ DA F ds ws) fun e h => ⟨e.pl _ _ h.1 rfl, h.2.mono e⟩, rfl, sq_of (s0.ex _ _ h1), .of rfl fun F h => h.1, ⟨F, s0.ex, ⟨s0.fr.1, h1, h2⟩, s0.sl, s0.nd, s0.ce⟩, ?_⟩
  refine ei_vec (ws := ws) (Paired.length h2).symm fun Φ' ρ' M' σ' H' l ⟨F', s'⟩ => ?_
  have := l.p F' s'.fr
  exact ⟨sq_of (s'.ex _ _ this.2.1), F', s', this.2.2⟩
theorem fz_walkT {ds : List VD} {v : V} {σ : L2.St} {H : Hp} (s : Sat (Φ.and x v) ρ M σ H) (hx : FzT x ds) : ∃ a ws Ψ, v = .ref a ∧ SqT K H a ws ∧ Le Ψ Φ ∧ Sat Ψ ρ M σ H ∧ Walks (Itt K a) Ψ ds := by
  have ⟨F, s0⟩ := s
  obtain ⟨a, ws, rfl, h1, h2⟩ := hx F v s0.fr.2
  refine ⟨a, ws, Φ.also (fun F => F a = some (.tup ws) ∧ DA F ds ws) fun e h => ⟨e.pl _ _ h.1 rfl, h.2.mono e⟩, rfl, st_of (s0.ex _ _ h1), .of rfl fun F h => h.1, ⟨F, s0.ex, ⟨s0.fr.1, h1, h2⟩, s0.sl, s0.nd, s0.ce⟩, ?_⟩
  refine ei_vecT (ws := ws) (Paired.length h2).symm fun Φ' ρ' M' σ' H' l ⟨F', s'⟩ => ?_
  have := l.p F' s'.fr
  exact ⟨st_of (s'.ex _ _ this.2.1), F', s', this.2.2⟩
/-- a list or a tuple -/
def iSeq (K : PySem.W.Frag) (tl : TE) : TI := fun σ H R => tl σ H fun x H1 => (∃ a, x = .ref a ∧ (∃ xs, SqL K H1 a xs) ∧ R (Itl K a) H1) ∨ ∃ a, x = .ref a ∧ (∃ xs, SqT K H1 a xs) ∧ R (Itt K a) H1
theorem iter_at {X : Cx} {tg : Expr} {pins : List (Addr × Obj)} {σ : L2.St} {H : Hp} {s1 : Shared} {R : It → Hp → Prop} {a : Addr} {xs : List V} (I1 : Inv X pins σ H s1) (hq : SqL X.K H a xs) (q : R (Itl X.K a) H) :
    wpAny (model X.prog X.w) X.A (pyIter (.ref a)) (PIE X pins σ tg R) X.xe s1 := by
  obtain ⟨its, rv, pl, hz⟩ := I1.list hq
  refine PySem.wpAny_pyIter_list pl.isList ?_
  refine ⟨_, [s1.heap.objs.size], _, _, H, rfl, I1.kept (t' := s1.toks) (fun b o => Heap.get?_push_of_some _), turn_list a _, ⟨_, Heap.get?_push_size _ rfl, rfl, rfl⟩, ?_, q⟩
  intro b hb
  cases List.mem_singleton.mp hb
  exact I1.fpOk (Nat.le_refl _) (I1.hok.fresh (Nat.le_refl _))
theorem iter_at_t {X : Cx} {tg : Expr} {pins : List (Addr × Obj)} {σ : L2.St} {H : Hp} {s1 : Shared} {R : It → Hp → Prop} {a : Addr} {xs : List V} (I1 : Inv X pins σ H s1) (hq : SqT X.K H a xs) (q : R (Itt X.K a) H) :
    wpAny (model X.prog X.w) X.A (pyIter (.ref a)) (PIE X pins σ tg R) X.xe s1 := by
  obtain ⟨its, rv, pl, hz⟩ := I1.tuple hq
  refine PySem.wpAny_pyIter_tuple (show s1.heap.IsTuple a its.toArray from pl) ?_
  refine ⟨_, [s1.heap.objs.size], _, _, H, rfl, I1.kept (t' := s1.toks) (fun b o => Heap.get?_push_of_some _), turn_tuple a _, ⟨_, Heap.get?_push_size _ rfl, rfl, rfl⟩, ?_, q⟩
  intro b hb
  cases List.mem_singleton.mp hb
  exact I1.fpOk (Nat.le_refl _) (I1.hok.fresh (Nat.le_refl _))
theorem pi_seq {X : Cx} {tg l : Expr} {tl : TE} (hl : PE X l tl) : PI X tg l (iSeq X.K tl) := by
  refine ⟨fun pins s σ H R I h => ?_⟩
  refine wpAny_mono (hl.run pins s σ H _ I h) (fun v s1 ⟨x, H1, I1, r1, q1⟩ => ?_) fun _ _ z => z
  rcases q1 with ⟨a, e, ⟨xs, hq⟩, q⟩ | ⟨a, e, ⟨xs, hq⟩, q⟩
  · subst e
    cases r1
    exact iter_at I1 hq q
  · subst e
    cases r1
    exact iter_at_t I1 hq q
theorem ei_seqL {tl : TE} {ds : List VD} (h : Ev tl ρ M x M') (hx : FzL x ds) : EvI (iSeq K tl) ρ M ds M' := fun Φ σ H R s q => h Φ σ H _ s fun v H1 s1 => by
  obtain ⟨a, ws, Ψ, e, h1, h2, h3, h4⟩ := fz_walkL (K := K) s1 hx
  exact .inl ⟨a, e, ⟨ws, h1⟩, q _ _ Ψ h2 h3 h4⟩
theorem ei_seqT {tl : TE} {ds : List VD} (h : Ev tl ρ M x M') (hx : FzT x ds) : EvI (iSeq K tl) ρ M ds M' := fun Φ σ H R s q => h Φ σ H _ s fun v H1 s1 => by
  obtain ⟨a, ws, Ψ, e, h1, h2, h3, h4⟩ := fz_walkT (K := K) s1 hx
  exact .inr ⟨a, e, ⟨ws, h1⟩, q _ _ Ψ h2 h3 h4⟩
def irange (lo : Int) (n : Nat) : List VD := (List.range n).map fun i => dat (.int (lo + (i : Nat)))
theorem ei_rng {lo : Int} {n : Nat} : Walks (Itr lo n) Ψ (irange lo n) := by
  refine ⟨fun _ => True, YFn fun i => .int (lo + i), ?_, fun _ _ _ _ _ _ _ => trivial, fun i d x H H' Φ ρ M σ hi l s y => ?_⟩
  · have : (irange lo n).length = n := by simp [irange]
    rw [this]
    exact walk_range
  · obtain ⟨rfl, rfl⟩ := y
    have ⟨F, s0⟩ := s
    have e : d = dat (.int (lo + (i : Nat))) := by
      unfold irange at hi
      rw [List.getElem?_map] at hi
      cases q : (List.range n)[i]? with
      | none => rw [q] at hi; cases hi
      | some j =>
        rw [q] at hi
        have := List.getElem?_eq_some_iff.mp q
        obtain ⟨h1, h2⟩ := this
        rw [List.getElem_range] at h2
        subst h2
        exact (Option.some.inj hi).symm
    subst e
    exact ⟨F, s0.ex, ⟨s0.fr, .int _⟩, s0.sl, s0.nd, s0.ce⟩
theorem ei_rng1 {ta : TA} {n : Int} (h : EvA ta ρ M [dat (.int n)] M') (hn : -(2 ^ 62) ≤ n ∧ n < 2 ^ 62) : EvI (iRng1 ta) ρ M (irange 0 n.toNat) M' := fun Φ σ H R s q => h Φ σ H _ s fun vs H1 s1 => by
  have ⟨F, s0⟩ := s1
  obtain ⟨v, rfl, h1⟩ := rc1 (ds := []) s0.fr.2
  cases h1
  exact ⟨n, rfl, hn.1, hn.2, q _ H1 Φ (.refl _) (s1.weak Le.andA) ei_rng⟩
theorem ei_rng2 {ta : TA} {m n : Int} (h : EvA ta ρ M [dat (.int m), dat (.int n)] M') (hn : -(2 ^ 62) ≤ m ∧ m < 2 ^ 62 ∧ -(2 ^ 62) ≤ n ∧ n < 2 ^ 62) : EvI (iRng2 ta) ρ M (irange m (n - m).toNat) M' := fun Φ σ H R s q => h Φ σ H _ s fun vs H1 s1 => by
  have ⟨F, s0⟩ := s1
  obtain ⟨v, w, rfl, h1, h2⟩ := rc2 s0.fr.2
  cases h1; cases h2
  exact ⟨m, n, rfl, hn, q _ H1 Φ (.refl _) (s1.weak Le.andA) ei_rng⟩
/-- pairs: a new tuple each -/
theorem ei_pair {G : Hp → Prop} {n : Nat} {J : It} {f g : Nat → Option V} {ds es : List VD} (hn : ds.length = n) (hn2 : es.length = n) (w : Walk J n G (YPair f g)) (hG : ∀ Φ ρ M σ H, Le Φ Ψ → Sat Φ ρ M σ H → G H)
    (h : ∀ Φ ρ M σ H, Le Φ Ψ → Sat Φ ρ M σ H → ∃ F, SatF F Φ ρ M σ H ∧ ∀ (i : Nat) d e v w, ds[i]? = some d → es[i]? = some e → f i = some v → g i = some w → d.P F v ∧ e.P F w) : Walks J Ψ ((ds.zip es).map fun p => vtup [p.1, p.2]) := by
  refine ⟨G, YPair f g, ?_, hG, fun i d x H H' Φ ρ M σ hi l s y => ?_⟩
  · have : ((ds.zip es).map fun p => vtup [p.1, p.2]).length = n := by simp [hn, hn2]
    rw [this]
    exact w
  · obtain ⟨T, v, u, rfl, hT, rfl, h1, h2⟩ := y
    obtain ⟨F, s0, hd⟩ := h Φ ρ M σ H l s
    rw [List.getElem?_map] at hi
    cases q : (ds.zip es)[i]? with
    | none => rw [q] at hi; cases hi
    | some p =>
      obtain ⟨d1, e1⟩ := p
      rw [q] at hi
      cases hi
      rw [List.getElem?_zip_eq_some] at q
      obtain ⟨k1, k2⟩ := hd i d1 e1 v u q.1 q.2 h1 h2
      exact Sat.retNew s0 hT fun F' fx e => ⟨T, [v, u], rfl, e, .cons (d1.mono fx k1) (.cons (e1.mono fx k2) .nil)⟩
theorem ei_enum {ta : TA} {ds : List VD} (h : EvA ta ρ M [x] M') (hx : FzL x ds) : EvI (iEnum K ta) ρ M (((irange 0 ds.length).zip ds).map fun p => vtup [p.1, p.2]) M' := fun Φ σ H R s q => h Φ σ H _ s fun vs H1 s1 => by
  have ⟨F, s0⟩ := s1
  obtain ⟨v, rfl, h1⟩ := rc1 (ds := []) s0.fr.2
  obtain ⟨a, ws, rfl, h1, h2⟩ := hx F v h1
  refine ⟨a, ws, rfl, sq_of (s0.ex _ _ h1), q _ H1 (Φ.also (fun F => F a = some (.lst ws) ∧ DA F ds ws) fun e h => ⟨e.pl _ _ h.1 rfl, h.2.mono e⟩) (.of rfl fun F h => h.1) ⟨F, s0.ex, ⟨s0.fr.1, h1, h2⟩, s0.sl, s0.nd, s0.ce⟩ ?_⟩
  have hl := Paired.length h2
  refine ei_pair (n := ws.length) (by simp [irange, hl]) hl (walk_enum (K := K) (a := a) (xs := ws)) (fun Φ' ρ' M' σ' H' l ⟨F', s'⟩ => sq_of (s'.ex _ _ (l.p F' s'.fr).2.1)) fun Φ' ρ' M' σ' H' l ⟨F', s'⟩ => ⟨F', s', fun i d e v w q1 q2 q3 q4 => ?_⟩
  obtain ⟨v', k1, k2⟩ := (l.p F' s'.fr).2.2.get q2
  rw [q4] at k1
  cases k1
  refine ⟨?_, k2⟩
  cases q3
  unfold irange at q1
  rw [List.getElem?_map] at q1
  cases q : (List.range ds.length)[i]? with
  | none => rw [q] at q1; cases q1
  | some j =>
    rw [q] at q1
    obtain ⟨z1, z2⟩ := List.getElem?_eq_some_iff.mp q
    rw [List.getElem_range] at z2
    subst z2
    cases q1
    show Rp F' (V.int (i : Int)) (PyData.int (0 + (i : Int)))
    rw [Int.zero_add]
    exact .int _
theorem ei_zip {ta : TA} {ds es : List VD} (h : EvA ta ρ M [x, y] M') (hx : FzL x ds) (hy : FzL y es) : EvI (iZip K ta) ρ M ((ds.zip es).map fun p => vtup [p.1, p.2]) M' := fun Φ σ H R s q => h Φ σ H _ s fun vs H1 s1 => by
  have ⟨F, s0⟩ := s1
  obtain ⟨v, w, rfl, h1, h2⟩ := rc2 s0.fr.2
  obtain ⟨a, ws, rfl, h1, h3⟩ := hx F v h1
  obtain ⟨b, us, rfl, h2, h4⟩ := hy F w h2
  refine ⟨a, b, ws, us, rfl, sq_of (s0.ex _ _ h1), sq_of (s0.ex _ _ h2), q _ H1 (Φ.also (fun F => (F a = some (.lst ws) ∧ DA F ds ws) ∧ F b = some (.lst us) ∧ DA F es us) fun e h => ⟨⟨e.pl _ _ h.1.1 rfl, h.1.2.mono e⟩, e.pl _ _ h.2.1 rfl, h.2.2.mono e⟩) (.of rfl fun F h => h.1) ⟨F, s0.ex, ⟨s0.fr.1, ⟨h1, h3⟩, h2, h4⟩, s0.sl, s0.nd, s0.ce⟩ ?_⟩
  have hl := Paired.length h3
  have hl2 := Paired.length h4
  have e1 : (ds.take (min ws.length us.length)).zip (es.take (min ws.length us.length)) = ds.zip es := by
    rw [List.zip_eq_zipWith, List.zip_eq_zipWith, ← List.take_zipWith, List.take_of_length_le (by rw [List.length_zipWith]; omega)]
  rw [← e1]
  refine ei_pair (n := min ws.length us.length) (by rw [List.length_take]; omega) (by rw [List.length_take]; omega) (walk_zip (K := K) (a := a) (b := b) (xs := ws) (ys := us) rfl) (fun Φ' ρ' M' σ' H' l ⟨F', s'⟩ => ⟨sq_of (s'.ex _ _ (l.p F' s'.fr).2.1.1), sq_of (s'.ex _ _ (l.p F' s'.fr).2.2.1)⟩) fun Φ' ρ' M' σ' H' l ⟨F', s'⟩ => ⟨F', s', fun i d e v w q1 q2 q3 q4 => ?_⟩
  have hi : i < min ws.length us.length := by
    have := (List.getElem?_eq_some_iff.mp q1).1
    rw [List.length_take] at this
    omega
  rw [List.getElem?_take_of_lt hi] at q1 q2
  obtain ⟨v', k1, k2⟩ := (l.p F' s'.fr).2.1.2.get q1
  obtain ⟨w', k3, k4⟩ := (l.p F' s'.fr).2.2.2.get q2
  rw [q3] at k1
  rw [q4] at k3
  cases k1; cases k3
  exact ⟨k2, k4⟩

/-! ### for -/
theorem c_for {wi : TI} {g : TG} {tb : TS} {its : List VD} (h : EvI wi ρ M its M1) (I : Nat → Env → Cells → Prop) (h0 : I 0 ρ M1)
    (hs : ∀ Ψ, Le Ψ Φ → ∀ (i : Nat) d ρ' M', its[i]? = some d → I i ρ' M' → ∃ ρ'' js, Tgt g js d ρ' ρ'' ∧ Cont (tb { D with nx := InvK Ψ (I (i + 1)), ct := InvK Ψ (I (i + 1)), bk := D.nx }) Ψ ρ'' M')
    (hd : ∀ ρ' M', I its.length ρ' M' → Cont D.nx Φ ρ' M') : Cont (tFor wi g tb D) Φ ρ M := fun σ H s => h Φ σ H _ s fun J H1 Ψ l s1 ⟨G, Y, w, hG, hY⟩ =>
  for_it w (fun i => InvK Ψ (I i)) ⟨ρ, M1, h0, s1⟩ (fun i σ' H' _ ⟨ρ', M', _, s'⟩ => hG Ψ ρ' M' σ' H' (.refl _) s') (fun i x σ' H' H2 hi ⟨ρ', M', j, s'⟩ y => by
    have hi' : its[i]? = some its[i] := by simp [hi]
    obtain ⟨ρ'', js, hg, k⟩ := hs Ψ l i its[i] ρ' M' hi' j
    exact hg Ψ M' x σ' H2 _ (hY i its[i] x H' H2 Ψ ρ' M' σ' hi' (.refl _) s' y) fun σ2 _ _ s2 => k σ2 H2 s2) fun σ' H' ⟨ρ', M', j, s'⟩ => hd ρ' M' j σ' H' (s'.weak l)

theorem for_k {g : TG} {tb : TS} {js : List Nat} {d : VD} {D' : Ends} (h : Tgt g js d ρ ρ') (k : Cont (tb D') Ψ ρ' M) : ∃ ρ'' js, Tgt g js d ρ ρ'' ∧ Cont (tb D') Ψ ρ'' M := ⟨ρ', js, h, k⟩

/-! ### while -/
theorem c_while {tc : TT} {tb : TS} (I : Nat → Env → Cells → Prop) (m0 : Nat) (h0 : I m0 ρ M)
    (hs : ∀ m ρ' M', I m ρ' M' → ∃ b M1, EvT tc ρ' M' b M1 ∧ (b = true → Cont (tb { D with nx := InvK Φ (fun ρ M => ∃ m', m' < m ∧ I m' ρ M), ct := InvK Φ (fun ρ M => ∃ m', m' < m ∧ I m' ρ M), bk := D.nx }) Φ ρ' M1) ∧ (b = false → Cont D.nx Φ ρ' M1)) :
    Cont (tWhile tc tb D) Φ ρ M := fun σ H s => by
  refine ⟨fun m => InvK Φ (I m), ⟨m0, ρ, M, h0, s⟩, ?_⟩
  rintro m σ' H' ⟨ρ', M', j, s'⟩
  obtain ⟨b, M1, hb, h1, h2⟩ := hs m ρ' M' j
  refine hb Φ σ' H' _ s' fun H1 s1 => ?_
  cases b with
  | true =>
    rw [if_pos rfl]
    exact ⟨_, fun σ2 H2 ⟨ρ2, M2, ⟨m', hm, j2⟩, s2⟩ => ⟨m', hm, ρ2, M2, j2, s2⟩, h1 rfl σ' H1 s1⟩
  | false =>
    rw [if_neg Bool.false_ne_true]
    exact h2 rfl σ' H1 s1

/-! ### comprehensions -/
def wipeE (ρ : Env) : List Nat → Env
  | [] => ρ
  | v :: vs => (wipeE ρ vs).set v none
theorem Slots.wipes {F : Hp} {σ : L2.St} {ρ : Env} (h : Slots F σ ρ) : ∀ vs : List Nat, Slots F (L2.wipe σ vs) (wipeE ρ vs)
  | [] => h
  | v :: vs => (Slots.wipes h vs).wipe v
theorem wipe_get (σ : L2.St) : ∀ (vs : List Nat) (i : Nat), (L2.wipe σ vs)[i]? = if i ∈ vs then (if i < σ.length then some none else none) else σ[i]?
  | [], i => by simp [L2.wipe]
  | v :: vs, i => by
    rw [L2.wipe, List.getElem?_set, wipe_length]
    by_cases h : v = i
    · subst h; simp
    · rw [if_neg h, wipe_get σ vs i]
      have : (i ∈ v :: vs) ↔ i ∈ vs := by
        rw [List.mem_cons]
        constructor
        · rintro (e | e)
          · exact absurd e.symm h
          · exact e
        · exact .inr
      simp only [this]
theorem wipe_eq {σ σ' : L2.St} {js vs : List Nat} (h : ∀ i, i ∉ js → σ'[i]? = (L2.wipe σ vs)[i]?) (hl : σ'.length = (L2.wipe σ vs).length) (hj : ∀ i ∈ js, i ∈ vs) : L2.wipe σ' vs = L2.wipe σ vs := by
  apply List.ext_getElem?
  intro i
  rw [wipe_length] at hl
  rw [wipe_get, wipe_get, hl]
  by_cases hi : i ∈ vs
  · rw [if_pos hi, if_pos hi]
  · rw [if_neg hi, if_neg hi, h i (fun z => hi (hj i z)), wipe_get, if_neg hi]
theorem SatF.wiped {F : Hp} {σ : L2.St} {H : Hp} (s : SatF F Φ ρ M σ H) (vs : List Nat) : SatF F Φ (wipeE ρ vs) M (L2.wipe σ vs) H := ⟨s.ex, s.fr, s.sl.wipes vs, s.nd, s.ce⟩
/-- an owned list of values is frozen -/
theorem SatF.freeze {F : Hp} {σ : L2.St} {H : Hp} {D : Addr} {acc : List VD} (s : SatF F (Φ.more (D, cL acc)) ρ M σ H) : Sat (Φ.and (vlst acc) (.ref D)) ρ M σ H := by
  obtain ⟨o, h1, h0, ws, rfl, h3⟩ := s.ce (D, cL acc) (List.mem_append_right _ List.mem_cons_self)
  have fx : Fx F (upd F D (.lst ws)) := Fx.of (Ex.new h0)
  have hsub : (M ++ Φ.N).Sublist (M ++ (Φ.more (D, cL acc)).N) := List.Sublist.append (List.Sublist.refl M) (List.sublist_cons_self _ _)
  refine ⟨upd F D (.lst ws), fun a u e => ?_, ⟨Φ.mono fx s.fr, D, ws, rfl, upd_same, h3.mono fx⟩, s.sl.mono fx, s.nd.sublist (hsub.map _), fun c hc => ?_⟩
  · by_cases h : a = D
    · subst h; rw [upd_same] at e; cases e; exact h1
    · rw [upd_ne h] at e; exact s.ex a u e
  · obtain ⟨u, k1, k2⟩ := s.ce c (hsub.subset hc)
    have hne : c.1 ≠ D := fun e => by
      have nd := s.nd
      have hmem : c ∈ M ++ Φ.N := hc
      have hp : (M ++ (Φ.more (D, cL acc)).N).Perm ((D, cL acc) :: (M ++ Φ.N)) := List.perm_middle
      have nd2 := (hp.map (·.1)).nodup_iff.mp nd
      rw [List.map_cons, List.nodup_cons] at nd2
      exact nd2.1 (List.mem_map.mpr ⟨c, hmem, e⟩)
    exact ⟨u, k1, c.2.mono fx (upd_ne hne) k2⟩
/-- the general one: I by the turn, what is made so far, the cells -/
theorem er_lc {wi : TI} {g : TG} {tt : TT} {vs : List Nat} {its : List VD} (h : EvI wi ρ M its M1) (I : Nat → List VD → Cells → Prop) (h0 : I 0 [] M1) (hl : its.length ≤ 16000000)
    (hI : ∀ i acc M', I i acc M' → acc.length ≤ i)
    (hs : ∀ (i : Nat) d acc M', its[i]? = some d → I i acc M' → ∃ ρ'' js b M2, Tgt g js d (wipeE ρ vs) ρ'' ∧ (∀ i ∈ js, i ∈ vs) ∧ EvT tt ρ'' M' b M2 ∧ (b = true → EvR te ρ'' M2 fun y M3 => I (i + 1) (acc ++ [y]) M3) ∧ (b = false → I (i + 1) acc M2)) :
    EvR (tLc wi g tt te vs) ρ M fun y M' => ∃ acc, y = vlst acc ∧ I its.length acc M' := fun Φ σ H Q s q => h Φ σ H _ s fun J H1 Ψ l s1 ⟨G, Y, w, hG, hY⟩ => fun Dl hD => by
  have ⟨F1, s2⟩ := s1
  have lm : ∀ c, Le (Ψ.more c) Ψ := fun c => Le.more
  -- the frame's slots are kept aside
  let Ψ0 : Fr := Ψ.slots σ ρ
  refine lc_it w (fun i H' => ∃ acc M', I i acc M' ∧ Sat (Ψ0.more (Dl, cL acc)) (wipeE ρ vs) M' (L2.wipe σ vs) H') ⟨[], M1, h0, ?_⟩ (fun i H' _ ⟨acc, M', _, s'⟩ => hG _ _ _ _ _ (Le.trans Le.more Le.slots) s') (fun i x H' H2 hi ⟨acc, M', j, s'⟩ y => ?_) (fun H' ⟨acc, M', j, s'⟩ => ?_)
  · have s3 := s2.newC (c := cL []) (o := .lst []) hD fun e => ⟨e, [], rfl, .nil⟩
    refine ⟨F1, s3.ex, ⟨s3.fr, s3.sl⟩, s3.sl.wipes vs, ?_, fun c hc => ?_⟩
    · have hp : (M1 ++ (Ψ0.more (Dl, cL [])).N).Perm ((Dl, cL []) :: M1 ++ Ψ.N) := List.perm_middle
      exact (hp.map (·.1)).nodup_iff.mpr s3.nd
    · have hp : (M1 ++ (Ψ0.more (Dl, cL [])).N).Perm ((Dl, cL []) :: M1 ++ Ψ.N) := List.perm_middle
      exact s3.ce c (hp.mem_iff.mp hc)
  · have hi' : its[i]? = some its[i] := by simp [hi]
    obtain ⟨ρ'', js, b, M2, hg, hj, ht, h1, h2⟩ := hs i its[i] acc M' hi' j
    have s3 := hY i its[i] x H' H2 _ _ _ _ hi' (Le.trans Le.more Le.slots) s' y
    refine hg _ M' x _ H2 _ s3 fun σ2 k1 k2 s4 => ⟨wipe_eq k1 k2 hj, ht _ σ2 H2 _ s4 fun H3 s5 => ?_⟩
    -- back to the wiped slots
    have back : ∀ {Φ' : Fr} {acc' : List VD} {M' : Cells} {H' : Hp} {σ3 : L2.St} {ρ3 : Env}, Sat (Ψ0.more (Dl, cL acc')) ρ3 M' σ3 H' → Sat (Ψ0.more (Dl, cL acc')) (wipeE ρ vs) M' (L2.wipe σ vs) H' := fun {_ _ _ _ _ _} ⟨F, z⟩ => ⟨F, z.ex, z.fr, z.fr.2.wipes vs, z.nd, z.ce⟩
    cases b with
    | false =>
      rw [if_neg Bool.false_ne_true]
      exact ⟨acc, M2, h2 rfl, back (Φ' := Ψ) s5⟩
    | true =>
      rw [if_pos rfl]
      refine h1 rfl _ σ2 H3 _ s5 fun y M3 v H4 j4 s6 => ?_
      have ⟨F, s7⟩ := s6
      obtain ⟨o, e1, e0, ws, rfl, e3⟩ := s7.ce (Dl, cL acc) (List.mem_append_right _ List.mem_cons_self)
      refine ⟨ws, e1, ?_, acc ++ [y], M3, j4, back (Φ' := Ψ) (σ3 := σ2) (ρ3 := ρ'') ⟨F, ?_⟩⟩
      · rw [← Paired.length e3]
        have := hI i acc M' j
        have hz : sizeLine = 16777216 := sizeLine_eq
        omega
      · exact s7.put (Φ' := Ψ0.more (Dl, cL (acc ++ [y]))) (c := cL acc) (Put.behind .here M3) s7.fr.1 e0 ⟨e0, _, rfl, e3.append (.cons s7.fr.2 .nil)⟩
  · have ⟨F, s3⟩ := s'
    have s4 : SatF F (Ψ0.more (Dl, cL acc)) ρ M' σ H' := ⟨s3.ex, s3.fr, s3.fr.2, s3.nd, s3.ce⟩
    exact q (vlst acc) M' (.ref Dl) H' ⟨acc, rfl, j⟩ (s4.freeze.weak ⟨by show Φ.N.Sublist Ψ.N; exact l.n, fun F h => ⟨l.p F h.1.1, h.2⟩⟩)
theorem lc_k {g : TG} {tt : TT} {js vs : List Nat} {d : VD} {b : Bool} {Pe : Env → Prop} (h : Tgt g js d ρ ρ') (hj : ∀ i ∈ js, i ∈ vs) (ht : EvT tt ρ' M b M) (k : Pe ρ') :
    ∃ ρ'' js, Tgt g js d ρ ρ'' ∧ (∀ i ∈ js, i ∈ vs) ∧ EvT tt ρ'' M b M ∧ Pe ρ'' := ⟨ρ', js, h, hj, ht, k⟩
/-- data for each item that is let by, nothing else changes -/
theorem ev_lc {α : Type} {wi : TI} {g : TG} {tt : TT} {vs : List Nat} {e : α → VD} {xs : List α} {f : α → Bool} {r : α → PyData} (h : EvI wi ρ M (xs.map e) M1) (hl : xs.length ≤ 16000000)
    (hs : ∀ a, a ∈ xs → ∃ ρ'' js, Tgt g js (e a) (wipeE ρ vs) ρ'' ∧ (∀ i ∈ js, i ∈ vs) ∧ EvT tt ρ'' M1 (f a) M1 ∧ (f a = true → Ev te ρ'' M1 (dat (r a)) M1)) : Ev (tLc wi g tt te vs) ρ M (dat (.list ((xs.filter f).map r))) M1 := by
  refine Ev.imp (EvR.ev ((er_lc h (fun i acc M' => M' = M1 ∧ acc = (((xs.take i).filter f).map r).map dat) ⟨rfl, rfl⟩ (by rw [List.length_map]; exact hl) (fun i acc M' ⟨_, e⟩ => ?_) fun i d acc M' hi ⟨e1, e2⟩ => ?_).imp (P' := Det (vlst (((xs.filter f).map r).map dat)) M1) fun x M' ⟨acc, e, e1, e2⟩ => ?_)) fun F v h => vlst_dat.mp h
  · subst e
    rw [List.length_map, List.length_map]
    exact Nat.le_trans (List.length_filter_le _ _) (by rw [List.length_take]; omega)
  · subst e1; subst e2
    rw [List.getElem?_map] at hi
    cases q : xs[i]? with
    | none => rw [q] at hi; cases hi
    | some a =>
      rw [q] at hi
      cases hi
      have htk : xs.take (i + 1) = xs.take i ++ [a] := by rw [List.take_succ, q]; rfl
      obtain ⟨ρ'', js, h1, hj, h2, h3⟩ := hs a (List.mem_of_getElem? q)
      refine ⟨ρ'', js, f a, M', h1, hj, h2, fun hf => (EvR.of (h3 hf)).imp fun y M3 ⟨z1, z2⟩ => ?_, fun hf => ⟨rfl, ?_⟩⟩
      · subst z1; subst z2
        refine ⟨rfl, ?_⟩
        rw [htk, List.filter_append, List.map_append, List.map_append, List.filter_cons_of_pos hf]
        rfl
      · rw [htk, List.filter_append, List.map_append, List.map_append, List.filter_cons_of_neg (by rw [hf]; exact Bool.false_ne_true)]
        simp
  · subst e
    rw [List.length_map, List.take_length] at e2
    exact ⟨by rw [e2], e1⟩
end

/-! ### a def's body -/
def entry (N : List Str) (ds : List VD) : Env := ds.map some ++ List.replicate (N.length - ds.length) none
theorem slots_entry {F : Hp} {N : List Str} {ds : List VD} {vs : List V} (h : DA F ds vs) : Slots F (L2.start N vs) (entry N ds) := by
  have hl := Paired.length h
  refine ⟨by simp [L2.start, entry, hl], fun i x e => ?_⟩
  unfold entry at e
  by_cases hi : i < ds.length
  · rw [List.getElem?_append_left (by simpa using hi), List.getElem?_map] at e
    cases q : ds[i]? with
    | none => rw [q] at e; cases e
    | some d =>
      rw [q] at e
      cases e
      obtain ⟨v, h1, h2⟩ := h.get q
      refine ⟨v, ?_, h2⟩
      unfold L2.start
      rw [List.getElem?_append_left (by rw [List.length_map]; omega), List.getElem?_map, h1]
      rfl
  · rw [List.getElem?_append_right (by simpa using hi), List.getElem?_replicate] at e
    split at e <;> cases e
theorem fn_start {n : Nat} {S : FSpec} {vs : List V} {H : Hp} {Q : VK} {E : XK} {t : TS} {N : List Str} (h : spF n S vs H Q E)
    (k : ∀ ds M P Φ, ds.length = n → S ds M P → RtQ Q Φ P → Cont (t (fnD Q)) Φ (entry N ds) M) : t { nx := fun _ H' => Q .non H', rt := Q } (L2.start N vs) H := by
  obtain ⟨Φ, ρ, σ, ds, M, P, s, e, hS, hq⟩ := h
  have ⟨F, s0⟩ := s
  refine k ds M P (Φ.slots σ ρ) ((Paired.length s0.fr.2).trans e) hS (fun Φ' ρ' σ' x M' v H' l hp s' => ?_) _ _ ⟨F, s0.ex, ⟨s0.fr.1, s0.sl⟩, slots_entry s0.fr.2, s0.nd, s0.ce⟩
  have s2 := s'.weak (Ψ := (Φ.slots σ ρ).and x v) ⟨l.n, fun F h => ⟨l.p F h.1, h.2⟩⟩
  have ⟨F', s3⟩ := s2
  exact hq x M' v H' hp ⟨F', s3.ex, ⟨s3.fr.1.1, s3.fr.2⟩, s3.fr.1.2, s3.nd, s3.ce⟩
end Sx

set_option Elab.async false
set_option linter.all false
set_option maxRecDepth 100000
set_option maxHeartbeats 2000000
/-! Sx5: more rules; what all our laws have: the script's cells, drawn numbers. -/
namespace Sx
open PySem L2 Evl
/-- a list's item, by values -/
theorem get_list {X : Cx} : PGet X (rIxL X.K) := by
  intro pins s σ H o i ov iv Q I ro ri h
  obtain ⟨p, xs, j, z, rfl, rfl, hq, he, q⟩ := h
  cases ro
  obtain ⟨t, rfl⟩ := ri
  obtain ⟨its, r, pl, hz⟩ := I.list hq
  obtain ⟨k, h1, h2, h3, h4, h5⟩ := atI_get he
  obtain ⟨w, ew, rw'⟩ := r.get h2
  have hl := r.length
  have hn := line63
  by_cases h0 : 0 ≤ j
  · have hj : j.toNat = k := by
      rw [PySem.seqIndex_of h0 h5] at h1
      exact Option.some.inj h1
    exact PySem.wpAny_getItem_list pl.isList h0 (by omega) (by rw [hj]; simpa using ew) ⟨z, H, I, rw', q⟩
  · have hj : (j + (its.toArray.size : Int)).toNat = k := by
      rw [PySem.seqIndex_neg (by omega) h4] at h1
      rw [List.size_toArray, ← hl]
      exact Option.some.inj h1
    exact PySem.wpAny_getItem_list_neg pl.isList (by omega) (by rw [List.size_toArray] <;> omega) (by omega) (by rw [hj]; simpa using ew) ⟨z, H, I, rw', q⟩
section
variable {K : PySem.W.Frag} {ρ ρ' : Env} {M M1 M2 M3 M' : Cells} {x y z : VD} {te ta tb tv : TE} {t u : TS} {p : Addr} {Φ : Fr} {D : Ends}
theorem ixN_lt {n : Nat} {k : Int} {j : Nat} (h : ixN n k = some j) : j < n := (ixN_seq h).2.1
/-- xs[i] op= n, an owned list whose item is an int -/
theorem c_augS {g : Int → Int → Int} {xs : List VD} {k a b : Int} {j : Nat} (ho : Ev ta ρ M (val (.ref p)) M) (hi : Ev tb ρ M (dat (.int k)) M) (hj : ixN xs.length k = some j) (hx : xs[j]? = some (dat (.int a))) (hv : Ev tv ρ M (dat (.int b)) M) (hp : Put p (cL xs) (cL (xs.set j (dat (.int (g a b))))) M M') (kk : Cont D.nx Φ ρ M') :
    Cont (tAugS ta tb tv (rIxL K) (ipI g) rSetL D) Φ ρ M := fun σ H s => ho Φ σ H _ s fun v1 H1 s1 => hi _ σ H1 _ s1 fun v2 H2 s2 => by
  have ⟨F2, z2⟩ := s2
  have e1 : v1 = .ref p := z2.fr.1.2
  cases z2.fr.2
  subst e1
  obtain ⟨o, k1, k0, ws, rfl, k3⟩ := z2.at hp.mem
  obtain ⟨w, q1, q2⟩ := k3.get hx
  refine ⟨p, ws, k, w, rfl, rfl, sq_of k1, ?_, ?_⟩
  · unfold atI
    rw [← Paired.length k3, hj]
    exact q1
  · cases q2
    refine hv _ σ H2 _ s2 fun v3 H3 s3 => ?_
    have ⟨F3, z3⟩ := s3
    cases z3.fr.2
    refine ⟨a, b, rfl, rfl, ?_⟩
    obtain ⟨o, k1, k0, ws, rfl, k3⟩ := z3.at hp.mem
    refine ⟨p, ws, k, j, rfl, rfl, k1, by rw [← Paired.length k3]; exact hj, kk σ _ ⟨F3, ?_⟩⟩
    exact (z3.put1 (o := .lst (ws.set j (.int (g a b)))) hp k0 ⟨k0, _, rfl, DA.set (d := dat (.int (g a b))) (Rp.int _) j k3⟩).weak (.of rfl fun F h => h.1.1.1)
theorem dpAll_ints {H : Hp} : ∀ ns : List Int, DpAll K H (ns.map V.int) (ns.map PyData.int)
  | [] => .nil
  | n :: ns => .cons (.int n) (dpAll_ints ns)
/-- the script, as data -/
theorem isd_scr {ns : List Int} : IsDat K (vscr K ns) M (.list (ns.map .int)) := fun s ⟨a, e, h⟩ => by
  subst e
  exact .lst (ex_l s.ex h) (dpAll_ints ns)
/-- an owned list is made of a written one -/
theorem er_lstC {t : TA} {ds : List VD} (h : EvA t ρ M ds M1) (hl : ds.length ≤ sizeLine) : EvR (tLst t) ρ M fun y M' => ∃ p, y = val (.ref p) ∧ M' = (p, cL ds) :: M1 := fun Φ σ H Q s q =>
  h Φ σ H _ s fun vs H1 ⟨F, s1⟩ => by
    have hr := s1.fr.2
    refine ⟨by rw [← Paired.length hr]; exact hl, fun p hp => ?_⟩
    have s2 := s1.newC (c := cL ds) (o := .lst vs) hp fun e => ⟨e, vs, rfl, hr⟩
    exact q _ _ _ _ ⟨p, rfl, rfl⟩ ⟨F, s2.ex, ⟨s2.fr.1, rfl⟩, s2.sl, s2.nd, s2.ce⟩
theorem er_lstCd {t : TA} {ds : List PyData} (h : EvD t ρ M ds M1) (hl : ds.length ≤ sizeLine) : EvR (tLst t) ρ M fun y M' => ∃ p, y = val (.ref p) ∧ M' = (p, cLd ds) :: M1 := fun Φ σ H Q s q =>
  h Φ σ H _ s fun vs H1 ⟨F, s1⟩ => by
    have hr := DA.of_dat.mp s1.fr.2
    refine ⟨by rw [hr.length]; exact hl, fun p hp => ?_⟩
    have s2 := s1.newC (c := cLd ds) (o := .lst vs) hp fun e => ⟨e, vs, rfl, hr⟩
    exact q _ _ _ _ ⟨p, rfl, rfl⟩ ⟨F, s2.ex, ⟨s2.fr.1, rfl⟩, s2.sl, s2.nd, s2.ce⟩
/-- cells that are no longer needed -/
theorem Sat.drop {σ : L2.St} {H : Hp} (s : Sat Φ ρ M σ H) (h : M'.Sublist M) : Sat Φ ρ M' σ H :=
  let ⟨F, s⟩ := s
  let hs := List.Sublist.append h (List.Sublist.refl Φ.N)
  ⟨F, s.ex, s.fr, s.sl, s.nd.sublist (hs.map _), fun c hc => s.ce c (hs.subset hc)⟩
theorem c_dropC {k : L2.St → Hp → Prop} (h : M'.Sublist M) (c : Cont k Φ ρ M') : Cont k Φ ρ M := fun σ H s => c σ H (s.drop h)
/-- the order of the cells -/
theorem Sat.perm {σ : L2.St} {H : Hp} (s : Sat Φ ρ M σ H) (h : M.Perm M') : Sat Φ ρ M' σ H :=
  let ⟨F, s⟩ := s
  let hs := h.append_right Φ.N
  ⟨F, s.ex, s.fr, s.sl, (hs.map (·.1)).nodup_iff.mp s.nd, fun c hc => s.ce c (hs.mem_iff.mpr hc)⟩
theorem c_perm {k : L2.St → Hp → Prop} (h : M.Perm M') (c : Cont k Φ ρ M') : Cont k Φ ρ M := fun σ H s => c σ H (s.perm h)
/-- what is known of a slot may be said otherwise -/
theorem Sat.slots {σ : L2.St} {H : Hp} (s : Sat Φ ρ M σ H) (h : ∀ F, Slots F σ ρ → Slots F σ ρ') : Sat Φ ρ' M σ H := let ⟨F, s⟩ := s; ⟨F, s.ex, s.fr, h F s.sl, s.nd, s.ce⟩
/-- slots that are no longer needed: forgotten -/
inductive Fgt : Env → Env → Prop
  | nil : Fgt [] []
  | keep {a : Option VD} {l l' : Env} : Fgt l l' → Fgt (a :: l) (a :: l')
  | drop {a : Option VD} {l l' : Env} : Fgt l l' → Fgt (a :: l) (none :: l')
theorem Fgt.len {l l' : Env} (h : Fgt l l') : l'.length = l.length := by
  induction h with
  | nil => rfl
  | keep _ ih => simp [ih]
  | drop _ ih => simp [ih]
theorem Fgt.get {l l' : Env} (h : Fgt l l') : ∀ {i : Nat} {x : VD}, l'[i]? = some (some x) → l[i]? = some (some x) := by
  induction h with
  | nil => intro i x e; exact e
  | keep _ ih =>
    intro i x e
    cases i with
    | zero => exact e
    | succ i => simpa using ih (by simpa using e)
  | drop _ ih =>
    intro i x e
    cases i with
    | zero => simp at e
    | succ i => simpa using ih (by simpa using e)
theorem c_fgt {k : L2.St → Hp → Prop} (h : Fgt ρ ρ') (c : Cont k Φ ρ' M) : Cont k Φ ρ M := fun σ H s => c σ H (s.slots fun F q => ⟨q.1.trans h.len.symm, fun i x e => q.2 i x (h.get e)⟩)
end

/-! ### the numbers of our laws -/
def scrCell (s : List Int) (i : Int) : Int :=
  let c := s.getD (i % s.length).toNat 0
  if (if c < 0 then -c else c) ≥ 10 ^ 60 then c % 10 ^ 18 else c
def lawNum (s : List Int) (i : Int) : Int :=
  if s = [] then (i * 48271 + 12345) % 2147483647
  else (((scrCell s i + 977 * i) * 48271 + 31 * s.length) % 2147483647 * 69621 % 2147483629 * 16807 + i) % 2147483587
def tk (s : List Int) (k m : Int) : Int := lawNum s k % m
theorem tk_nn {s : List Int} {k m : Int} (h : 0 < m) : 0 ≤ tk s k m := Int.emod_nonneg _ (by omega)
theorem tk_lt {s : List Int} {k m : Int} (h : 0 < m) : tk s k m < m := Int.emod_lt_of_pos _ h
abbrev cDraw (K : PySem.W.Frag) (s : List Int) (k : Int) : CD := cL [vscr K s, dat (.int k)]
end Sx

set_option Elab.async false
set_option linter.all false
set_option maxRecDepth 100000
set_option maxHeartbeats 2000000
/-! Sx6: more rules, and small facts of lists. -/
namespace Sx
open PySem L2 Evl
section
variable {K : PySem.W.Frag} {ρ ρ' ρ1 : Env} {M M1 M2 M3 M' : Cells} {x y z : VD} {te ta tb tv : TE} {t u : TS} {p : Addr} {Φ : Fr} {D : Ends} {P : VD → Cells → Prop}
/-! ### several outcomes -/
def EvAR (ta : TA) (ρ : Env) (M : Cells) (P : List VD → Cells → Prop) : Prop := ∀ (Φ : Fr) (σ : L2.St) (H : Hp) (Q : List V → Hp → Prop), Sat Φ ρ M σ H → (∀ ds M' v H', P ds M' → Sat (Φ.andA ds v) ρ M' σ H' → Q v H') → ta σ H Q
theorem ear_nil {P : List VD → Cells → Prop} (h : P [] M) : EvAR tNil ρ M P := fun Φ σ H Q ⟨F, s⟩ q => q [] M [] H h ⟨F, s.ex, ⟨s.fr, .nil⟩, s.sl, s.nd, s.ce⟩
theorem ear_cons {tr : TA} {P : List VD → Cells → Prop} {Pa : VD → Cells → Prop} (ha : EvR ta ρ M Pa) (hr : ∀ x M1, Pa x M1 → EvAR tr ρ M1 fun ds M2 => P (x :: ds) M2) : EvAR (tCons ta tr) ρ M P := fun Φ σ H Q s q =>
  ha Φ σ H _ s fun x M1 v H1 hx s1 => hr x M1 hx _ σ H1 _ s1 fun ds M2 vs H2 hp s2 => q (x :: ds) M2 (v :: vs) H2 hp (s2.weak (.of rfl fun F p => ⟨p.1.1, .cons p.1.2 p.2⟩))
theorem EvAR.of {t : TA} {ds : List VD} {P : List VD → Cells → Prop} (h : EvA t ρ M ds M1) (hp : P ds M1) : EvAR t ρ M P := fun Φ σ H Q s q => h Φ σ H _ s fun vs H1 s1 => q ds M1 vs H1 hp s1
theorem er_tupV {t : TA} (h : EvAR t ρ M fun ds M' => ds.length ≤ sizeLine ∧ P (vtup ds) M') : EvR (tTup t) ρ M P := fun Φ σ H Q s q =>
  h Φ σ H _ s fun ds M1 vs H1 ⟨hl, hp⟩ ⟨F, s1⟩ => by
    have hr := s1.fr.2
    refine ⟨by rw [← Paired.length hr]; exact hl, fun p hp' => ?_⟩
    obtain ⟨s2, fx⟩ := s1.new (o := .tup vs) hp'
    exact q _ M1 _ _ hp ⟨_, s2.ex, ⟨s2.fr.1, ⟨p, vs, rfl, upd_same, hr.mono fx⟩⟩, s2.sl, s2.nd, s2.ce⟩
theorem er_lstV {t : TA} (h : EvAR t ρ M fun ds M' => ds.length ≤ sizeLine ∧ P (vlst ds) M') : EvR (tLst t) ρ M P := fun Φ σ H Q s q =>
  h Φ σ H _ s fun ds M1 vs H1 ⟨hl, hp⟩ ⟨F, s1⟩ => by
    have hr := s1.fr.2
    refine ⟨by rw [← Paired.length hr]; exact hl, fun p hp' => ?_⟩
    obtain ⟨s2, fx⟩ := s1.new (o := .lst vs) hp'
    exact q _ M1 _ _ hp ⟨_, s2.ex, ⟨s2.fr.1, ⟨p, vs, rfl, upd_same, hr.mono fx⟩⟩, s2.sl, s2.nd, s2.ce⟩
theorem c_asgGR {g : TG} (h : EvR te ρ M P) (k : ∀ x M1, P x M1 → ∃ ρ' js, Tgt g js x ρ ρ' ∧ Cont D.nx Φ ρ' M1) : Cont (tAsg te g D) Φ ρ M := fun σ H s => h Φ σ H _ s fun x M1 v H1 hp s1 => by
  obtain ⟨ρ', js, hg, kk⟩ := k x M1 hp
  exact hg Φ M1 v σ H1 _ s1 fun σ' _ _ s' => kk σ' H1 s'
/-- o.f = e, several outcomes -/
theorem c_fldR {C : Addr} {f : Str} {nn : List Str} (hv : EvR tv ρ M P) (k : ∀ y M1, P y M1 → ∃ p ns ns' xs xs' M2 M3, Ev ta ρ M1 (val (.ref p)) M2 ∧ Put p (cI C ns xs) (cI C ns' xs') M2 M3 ∧ FPut f y ns xs ns' xs' ∧ ns.length < 1000 ∧ Cont D.nx Φ ρ M3)
    (c : ClsF K C nn) (hf : f ∈ nn) : Cont (sFld K ta tv f D) Φ ρ M := fun σ H s =>
  hv Φ σ H _ s fun y M1 v H1 hp s1 => by
    obtain ⟨p, ns, ns', xs, xs', M2, M3, ho, h, g, hl, k⟩ := k y M1 hp
    refine ho _ σ H1 _ s1 fun w H2 ⟨F, s2⟩ => ?_
    have e : w = .ref p := s2.fr.2
    obtain ⟨o, h1, h0, dx, fs, rfl, h3⟩ := s2.at h.mem
    refine ⟨p, C, dx, fs, e, h1, c.cl, c.no f hf, by rw [h3.len]; exact hl, k σ _ ⟨F, ?_⟩⟩
    exact (s2.put1 (o := .ins C dx (putF f v fs)) h h0 ⟨h0, dx, _, rfl, g.put s2.fr.1.2 h3⟩).weak (.of rfl fun F h => h.1.1)
theorem fld_k {C : Addr} {f : Str} {ns ns' : List Str} {xs xs' : List VD} (ho : Ev ta ρ M1 (val (.ref p)) M2) (h : Put p (cI C ns xs) (cI C ns' xs') M2 M3) (g : FPut f y ns xs ns' xs') (hl : ns.length < 1000) (k : Cont D.nx Φ ρ M3) :
    ∃ p ns ns' xs xs' M2 M3, Ev ta ρ M1 (val (.ref p)) M2 ∧ Put p (cI C ns xs) (cI C ns' xs') M2 M3 ∧ FPut f y ns xs ns' xs' ∧ ns.length < 1000 ∧ Cont D.nx Φ ρ M3 := ⟨p, ns, ns', xs, xs', M2, M3, ho, h, g, hl, k⟩
/-- what is said of an empty list -/
theorem eqv_nil {ds : List PyData} : PyData.eqv (.list ds) (.list []) = ds.isEmpty := by
  cases ds <;> simp [PyData.eqv, PyData.eqvAll]
theorem eqv_nilT {ds : List PyData} : PyData.eqv (.tuple ds) (.tuple []) = ds.isEmpty := by
  cases ds <;> simp [PyData.eqv, PyData.eqvAll]
theorem c_asgP {i : Nat} (h : Ev te ρ M x M) (hs : SetAt x ρ i ρ') (k : Cont D.nx Φ ρ' M) : Cont (tAsg te (gName i) D) Φ ρ M := c_asg h hs k
theorem rc_lenM {α : Type} {f : α → PyData} {xs : List α} (hx : IsLst x M (xs.map f)) : RC (rLenU K) [x] M (dat (.int (xs.length : Int))) M := by
  have h := rc_lenL (K := K) hx
  rw [List.length_map] at h; exact h
theorem rc_lenMT {α : Type} {f : α → PyData} {xs : List α} : RC (rLenU K) [dat (.tuple (xs.map f))] M (dat (.int (xs.length : Int))) M := by
  have h := rc_lenT (K := K) (M := M) (ist_dat (ds := xs.map f))
  rw [List.length_map] at h; exact h
/-! ### slices -/
theorem cut_map {α β : Type} (f : α → β) (xs : List α) (lo hi : Option Int) : cutD (xs.map f) lo hi = (cutD xs lo hi).map f := by
  unfold cutD
  rw [List.length_map, List.map_take, List.map_drop]
theorem cut_nn {α : Type} (xs : List α) (a b : Nat) : cutD xs (some (a : Int)) (some (b : Int)) = (xs.drop a).take (b - a) := by
  unfold cutD
  rw [HT.sIx_nat, HT.sIx_nat]
  apply List.ext_getElem?
  intro i
  rw [List.getElem?_take, List.getElem?_take, List.getElem?_drop, List.getElem?_drop]
  by_cases h : i < b - a
  · rw [if_pos h]
    by_cases h2 : i < min b xs.length - min a xs.length
    · rw [if_pos h2]
      have : min a xs.length = a := by omega
      rw [this]
    · rw [if_neg h2, List.getElem?_eq_none (by omega)]
  · rw [if_neg h, if_neg (by omega)]
theorem cut_0n {α : Type} (xs : List α) (b : Nat) : cutD xs none (some (b : Int)) = xs.take b := by
  have := cut_nn xs 0 b
  unfold cutD at this ⊢
  rw [HT.sIx_none]
  rw [show ((0 : Nat) : Int) = 0 from rfl] at this
  have e : HT.sIx xs.length 0 (some 0) = 0 := by
    have := HT.sIx_nat xs.length 0 0
    simpa using this
  rw [e] at this
  simpa using this
theorem cut_n0 {α : Type} (xs : List α) (a : Nat) : cutD xs (some (a : Int)) none = xs.drop a := by
  unfold cutD
  rw [HT.sIx_nat, HT.sIx_none]
  apply List.ext_getElem?
  intro i
  rw [List.getElem?_take, List.getElem?_drop, List.getElem?_drop]
  by_cases h2 : i < xs.length - min a xs.length
  · rw [if_pos h2]
    have : min a xs.length = a := by omega
    rw [this]
  · rw [if_neg h2, List.getElem?_eq_none (by omega)]
theorem ev_slT1 {te : TE} {tl th : TO} {d : PyData} {ds : List PyData} (h : Ev te ρ M (dat (.tuple (d :: ds))) M1) (h1 : EvO tl ρ M1 (some 1) M2) (h2 : EvO th ρ M2 none M3) : Ev (tSl (rSlU K) te tl th) ρ M (dat (.tuple ds)) M3 := by
  have := ev_slT (K := K) h h1 h2
  have e : cutD (d :: ds) (some ((1 : Nat) : Int)) none = ds := by rw [cut_n0]; rfl
  rw [show (some (1 : Int)) = some ((1 : Nat) : Int) from rfl, e] at this
  exact this
theorem ei_seqTM {α : Type} {f : α → PyData} {xs : List α} {tl : TE} (h : Ev tl ρ M (dat (.tuple (xs.map f))) M') : EvI (iSeq K tl) ρ M (xs.map fun a => dat (f a)) M' := by
  have := ei_seqT (K := K) h fzt_dat
  rw [List.map_map] at this
  exact this
theorem ei_seqLM {α : Type} {f : α → PyData} {xs : List α} {tl : TE} (h : Ev tl ρ M (dat (.list (xs.map f))) M') : EvI (iSeq K tl) ρ M (xs.map fun a => dat (f a)) M' := by
  have := ei_seqL (K := K) h fzl_dat
  rw [List.map_map] at this
  exact this
theorem any_map_id {α : Type} (xs : List α) (g : α → Bool) : (xs.map g).any id = xs.any g := by
  induction xs with
  | nil => rfl
  | cons x xs ih => simp [ih]
theorem all_map_id {α : Type} (xs : List α) (g : α → Bool) : (xs.map g).all id = xs.all g := by
  induction xs with
  | nil => rfl
  | cons x xs ih => simp [ih]
theorem rc_anyM {α : Type} {g : α → Bool} {xs : List α} : RC (rAny K) [dat (.list (xs.map fun a => .bool (g a)))] M (dat (.bool (xs.any g))) M := by
  have := rc_any (K := K) (M := M) (bs := xs.map g) (x := dat (.list ((xs.map g).map PyData.bool))) isl_dat
  rw [any_map_id, List.map_map] at this
  exact this
theorem rc_allM {α : Type} {g : α → Bool} {xs : List α} : RC (rAll K) [dat (.list (xs.map fun a => .bool (g a)))] M (dat (.bool (xs.all g))) M := by
  have := rc_all (K := K) (M := M) (bs := xs.map g) (x := dat (.list ((xs.map g).map PyData.bool))) isl_dat
  rw [all_map_id, List.map_map] at this
  exact this
theorem c_invF {J : Env → Cells → Prop} {Φ Ψ : Fr} (j : J ρ' M) (h : Fgt ρ ρ') (l : Le Ψ Φ) : Cont (InvK Φ J) Ψ ρ M := c_fgt h (c_inv j l)
theorem asgR_k {k : L2.St → Hp → Prop} {Φ : Fr} {i : Nat} (h : SetAt x ρ i ρ') (c : Cont k Φ ρ' M) : ∃ ρ', SetAt x ρ i ρ' ∧ Cont k Φ ρ' M := ⟨ρ', h, c⟩
theorem asgGR_k {k : L2.St → Hp → Prop} {Φ : Fr} {g : TG} {js : List Nat} (h : Tgt g js x ρ ρ') (c : Cont k Φ ρ' M) : ∃ ρ' js, Tgt g js x ρ ρ' ∧ Cont k Φ ρ' M := ⟨ρ', js, h, c⟩
def TgtsD (gs : TGs) (js : List Nat) (ds : List PyData) (ρ ρ' : Env) : Prop := Tgts gs js (ds.map dat) ρ ρ'
theorem td_nil : TgtsD gNil [] [] ρ ρ := tgs_nil
theorem td_cons {ρ2 : Env} {g : TG} {gs : TGs} {js ks : List Nat} {d : PyData} {ds : List PyData} (h : Tgt g js (dat d) ρ ρ1) (hs : TgtsD gs ks ds ρ1 ρ2) : TgtsD (gCons g gs) (js ++ ks) (d :: ds) ρ ρ2 := tgs_cons h hs
theorem td_tup {gs : TGs} {js : List Nat} {n : Nat} {ds : List PyData} (hs : TgtsD gs js ds ρ ρ') (hn : ds.length = n) : Tgt (gTup K n gs) js (dat (.tuple ds)) ρ ρ' := tg_tupD hs hn
/-! ### enumerate, data -/
theorem ei_enumD {α : Type} {f : α → PyData} {xs : List α} {ta : TA} (h : EvA ta ρ M [x] M') (hx : FzL x ((xs.map f).map dat)) : EvI (iEnum K ta) ρ M (xs.zipIdx.map fun p => vtup [dat (.int (p.2 : Int)), dat (f p.1)]) M' := by
  have h := ei_enum (K := K) h hx
  have e : (((irange 0 ((xs.map f).map dat).length).zip ((xs.map f).map dat)).map fun p => vtup [p.1, p.2]) = xs.zipIdx.map fun p => vtup [dat (.int (p.2 : Int)), dat (f p.1)] := by
    apply List.ext_getElem?
    intro i
    rw [List.getElem?_map, List.getElem?_map, List.getElem?_zipIdx]
    by_cases hi : i < xs.length
    · have h1 : xs[i]? = some xs[i] := by simp [hi]
      have h2 : (irange 0 ((xs.map f).map dat).length)[i]? = some (dat (.int (i : Int))) := by
        unfold irange
        rw [List.getElem?_map, List.getElem?_range (by simpa using hi)]
        simp
      have h3 : ((xs.map f).map dat)[i]? = some (dat (f xs[i])) := by simp [hi]
      have h4 : ((irange 0 ((xs.map f).map dat).length).zip ((xs.map f).map dat))[i]? = some (dat (.int (i : Int)), dat (f xs[i])) := List.getElem?_zip_eq_some.mpr ⟨h2, h3⟩
      rw [h4, h1]
      simp
    · have h1 : xs[i]? = none := by simp; omega
      have h4 : ((irange 0 ((xs.map f).map dat).length).zip ((xs.map f).map dat))[i]? = none := by
        apply List.getElem?_eq_none
        rw [List.length_zip]
        simp
        omega
      rw [h4, h1]
      simp
  rw [e] at h
  exact h
theorem rng_map (lo : Int) (n : Nat) : irange lo n = (List.range n).map fun i => dat (.int (lo + (i : Nat))) := rfl
/-- each item gives one -/
theorem ev_lcY {α : Type} {wi : TI} {g : TG} {vs : List Nat} {e : α → VD} {xs : List α} {r : α → PyData} (h : EvI wi ρ M (xs.map e) M1) (hl : xs.length ≤ 16000000)
    (hs : ∀ a, a ∈ xs → ∃ ρ'' js, Tgt g js (e a) (wipeE ρ vs) ρ'' ∧ (∀ i ∈ js, i ∈ vs) ∧ Ev te ρ'' M1 (dat (r a)) M1) : Ev (tLc wi g tYes te vs) ρ M (dat (.list (xs.map r))) M1 := by
  have := ev_lc (tt := tYes) (f := fun _ => true) (r := r) h hl fun a ha => let ⟨ρ'', js, h1, hj, h2⟩ := hs a ha; ⟨ρ'', js, h1, hj, et_yes, fun _ => h2⟩
  have e : xs.filter (fun _ => true) = xs := by simp
  rw [e] at this
  exact this
theorem lcY_k {g : TG} {js vs : List Nat} {d : VD} (h : Tgt g js d ρ ρ') (hj : ∀ i ∈ js, i ∈ vs) (k : Ev te ρ' M x M) : ∃ ρ'' js, Tgt g js d ρ ρ'' ∧ (∀ i ∈ js, i ∈ vs) ∧ Ev te ρ'' M x M := ⟨ρ', js, h, hj, k⟩
theorem lcF_k {g : TG} {tt : TT} {js vs : List Nat} {d : VD} {b : Bool} (h : Tgt g js d ρ ρ') (hj : ∀ i ∈ js, i ∈ vs) (ht : EvT tt ρ' M b M) (k : b = true → Ev te ρ' M x M) : ∃ ρ'' js, Tgt g js d ρ ρ'' ∧ (∀ i ∈ js, i ∈ vs) ∧ EvT tt ρ'' M b M ∧ (b = true → Ev te ρ'' M x M) := ⟨ρ', js, h, hj, ht, k⟩
end
section
/-! ### some cells are changed, the others stay as they are -/
def Sw (cs cs' : Cells) (M M' : Cells) : Prop := ∃ L, M.Perm (cs ++ L) ∧ M'.Perm (cs' ++ L)
inductive Pk (p : Addr) (c c' : CD) : Cells → Cells → Cells → Cells → Prop
  | here {r r' : Cells} : Pk p c c' ((p, c) :: r) ((p, c') :: r') r r'
  | there {x x' : Addr × CD} {cs cs' r r' : Cells} : Pk p c c' cs cs' r r' → Pk p c c' (x :: cs) (x' :: cs') (x :: r) (x' :: r')
theorem Pk.perm {p : Addr} {c c' : CD} {cs cs' r r' : Cells} (h : Pk p c c' cs cs' r r') : cs.Perm ((p, c) :: r) ∧ cs'.Perm ((p, c') :: r') := by
  induction h with
  | here => exact ⟨.refl _, .refl _⟩
  | there _ ih => exact ⟨(ih.1.cons _).trans (.swap _ _ _), (ih.2.cons _).trans (.swap _ _ _)⟩
theorem sw_nil {M : Cells} : Sw [] [] M M := ⟨M, .refl _, .refl _⟩
theorem sw_pick {p : Addr} {c c' : CD} {cs cs' r r' M M' : Cells} (h : Pk p c c' cs cs' r r') (k : Sw r r' M M') : Sw cs cs' ((p, c) :: M) ((p, c') :: M') := by
  obtain ⟨L, h1, h2⟩ := k
  exact ⟨L, (h1.cons _).trans (h.perm.1.symm.append_right L), (h2.cons _).trans (h.perm.2.symm.append_right L)⟩
theorem sw_skip {x : Addr × CD} {cs cs' M M' : Cells} (k : Sw cs cs' M M') : Sw cs cs' (x :: M) (x :: M') := by
  obtain ⟨L, h1, h2⟩ := k
  exact ⟨x :: L, (h1.cons _).trans List.perm_middle.symm, (h2.cons _).trans List.perm_middle.symm⟩
inductive Rm (c : Addr × CD) : Cells → Cells → Prop
  | here {l : Cells} : Rm c (c :: l) l
  | there {x : Addr × CD} {l l' : Cells} : Rm c l l' → Rm c (x :: l) (x :: l')
theorem Rm.perm {c : Addr × CD} {l l' : Cells} (h : Rm c l l') : l.Perm (c :: l') := by
  induction h with
  | here => exact .refl _
  | there _ ih => exact (ih.cons _).trans (.swap _ _ _)
theorem perm_step {c : Addr × CD} {l l' r : Cells} (h : Rm c l l') (k : l'.Perm r) : l.Perm (c :: r) := h.perm.trans (k.cons c)
/-- behind a def: the order of the cells, and cells of its own -/
def Up (P : VD → Cells → Prop) : VD → Cells → Prop := fun x N => ∃ N1 N', N.Perm N1 ∧ N'.Sublist N1 ∧ P x N'
theorem RtQ.up {Q : VK} {Φ : Fr} {P : VD → Cells → Prop} (h : RtQ Q Φ P) : RtQ Q Φ (Up P) := fun Φ' ρ σ x M v H l ⟨N1, N', h1, h2, hp⟩ s => h Φ' ρ σ x N' v H l hp ((s.perm h1).drop h2)
theorem up_perm {P : VD → Cells → Prop} {x : VD} {N N' : Cells} (h : N.Perm N') (hp : P x N') : Up P x N := ⟨N', N', h, .refl _, hp⟩
theorem up_of {P : VD → Cells → Prop} {x : VD} {N : Cells} (hp : P x N) : Up P x N := ⟨N, N, .refl _, .refl _, hp⟩
theorem up_drop {P : VD → Cells → Prop} {x : VD} {N N' : Cells} (h : N'.Sublist N) (hp : P x N') : Up P x N := ⟨N, N', .refl _, h, hp⟩
end
/-- None or an int -/
def oi : Option Int → PyData
  | none => .none
  | some i => .int i
theorem isNone_oi (o : Option Int) : isNoneD (oi o) = o.isNone := by cases o <;> rfl
theorem eqok_oi : EqOk oi := fun x y => by cases x <;> cases y <;> simp [oi, PyData.eqv]
theorem shp_oi {n : Nat} (o : Option Int) : Shp n (oi o) := by
  cases o with
  | none => exact shp_none
  | some i => exact shp_int
end Sx

set_option Elab.async false
set_option linter.all false
set_option maxRecDepth 100000
set_option maxHeartbeats 2000000
/-! Sx7: dicts. A dict that never changes is a value (vdi); one that does, or is walked, is a cell (cD). -/
namespace Sx
open PySem L2 Evl
section
variable {α β : Type}
def valG (kvs : List (L2.Key × β)) (k : L2.Key) : Option β := (kvs.find? fun kv => decide (kv.1 = k)).map (·.2)
def putG (kvs : List (L2.Key × β)) (k : L2.Key) (v : β) : List (L2.Key × β) :=
  if (kvs.any fun kv => decide (kv.1 = k)) = true then kvs.map (fun kv => if kv.1 = k then (kv.1, v) else kv) else kvs ++ [(k, v)]
def mergeG (kvs more : List (L2.Key × β)) : List (L2.Key × β) := more.foldl (fun acc kv => putG acc kv.1 kv.2) kvs
theorem valG_cons (p : L2.Key × β) (r : List (L2.Key × β)) (k : L2.Key) : valG (p :: r) k = if p.1 = k then some p.2 else valG r k := by
  unfold valG
  rw [List.find?_cons]
  by_cases h : p.1 = k <;> simp [h]
theorem valG_map (f : α → β) (kvs : List (L2.Key × α)) (k : L2.Key) : valG (kvs.map fun p => (p.1, f p.2)) k = (valG kvs k).map f := by
  induction kvs with
  | nil => rfl
  | cons p r ih => rw [List.map_cons, valG_cons, valG_cons, ih]; by_cases h : p.1 = k <;> simp [h]
theorem valG_snoc (k j : L2.Key) (y : β) : ∀ kvs : List (L2.Key × β), valG kvs k = none → valG (kvs ++ [(k, y)]) j = if j = k then some y else valG kvs j
  | [], _ => by
    rw [List.nil_append, valG_cons]
    by_cases h : j = k
    · rw [if_pos h, if_pos h.symm]
    · rw [if_neg h, if_neg (fun e => h e.symm)]
  | p :: r, hn => by
    rw [valG_cons] at hn
    by_cases h : p.1 = k
    · rw [if_pos h] at hn; cases hn
    · rw [if_neg h] at hn
      rw [List.cons_append, valG_cons, valG_cons, valG_snoc k j y r hn]
      by_cases h2 : p.1 = j
      · rw [if_pos h2, if_pos h2, if_neg (fun e => h (h2.trans e))]
      · rw [if_neg h2, if_neg h2]
theorem valG_any (kvs : List (L2.Key × β)) (k : L2.Key) : (kvs.any fun kv => decide (kv.1 = k)) = (valG kvs k).isSome := by
  induction kvs with
  | nil => rfl
  | cons p r ih => rw [List.any_cons, valG_cons, ih]; by_cases h : p.1 = k <;> simp [h]
theorem valG_put (kvs : List (L2.Key × β)) (k j : L2.Key) (y : β) : valG (putG kvs k y) j = if j = k then some y else valG kvs j := by
  unfold putG
  rw [valG_any]
  cases h : valG kvs k with
  | none => rw [if_neg (by simp)]; exact valG_snoc k j y kvs h
  | some z =>
    rw [if_pos (by rfl)]
    have hz : ∀ kvs : List (L2.Key × β), valG (kvs.map fun kv => if kv.1 = k then (kv.1, y) else kv) j = (valG kvs j).map fun x => if j = k then y else x := by
      intro kvs
      induction kvs with
      | nil => rfl
      | cons p r ih =>
        rw [List.map_cons, valG_cons, valG_cons, ih]
        by_cases h1 : p.1 = k
        · simp only [if_pos h1]
          by_cases h2 : p.1 = j
          · rw [if_pos h2, if_pos h2, Option.map_some, if_pos (h2.symm.trans h1)]
          · rw [if_neg h2, if_neg h2]
        · simp only [if_neg h1]
          by_cases h2 : p.1 = j
          · rw [if_pos h2, if_pos h2, Option.map_some, if_neg (fun e => h1 (h2.trans e))]
          · rw [if_neg h2, if_neg h2]
    rw [hz]
    by_cases hj : j = k
    · subst hj; rw [h, Option.map_some, if_pos rfl, if_pos rfl]
    · rw [if_neg hj]
      simp [hj]
theorem length_putG (kvs : List (L2.Key × β)) (k : L2.Key) (v : β) : (putG kvs k v).length ≤ kvs.length + 1 := by
  unfold putG
  split
  · rw [List.length_map]; omega
  · rw [List.length_append, List.length_singleton]; omega
theorem putG_map (f : α → β) (kvs : List (L2.Key × α)) (k : L2.Key) (v : α) : putG (kvs.map fun p => (p.1, f p.2)) k (f v) = (putG kvs k v).map fun p => (p.1, f p.2) := by
  have e : ((kvs.map fun p => (p.1, f p.2)).any fun kv => decide (kv.1 = k)) = (kvs.any fun kv => decide (kv.1 = k)) := by rw [List.any_map]; rfl
  unfold putG
  rw [e]
  split
  · rw [List.map_map, List.map_map]
    apply List.map_congr_left
    intro p _
    simp only [Function.comp]
    by_cases h : p.1 = k <;> simp [h]
  · rw [List.map_append]; rfl
end
def kD : L2.Key → PyData
  | .inl i => .int i
  | .inr x => .str x
theorem kv_of {F : Hp} {k : L2.Key} {v : V} (h : Rp F v (kD k)) : v = kV k := by
  cases k <;> (cases h; rfl)
/-! ### pairs of keys and values -/
abbrev PrV (F : Hp) (p : L2.Key × VD) (q : L2.Key × V) : Prop := p.1 = q.1 ∧ p.2.P F q.2
abbrev DP (F : Hp) : List (L2.Key × VD) → List (L2.Key × V) → Prop := Paired (PrV F)
theorem DP.mono {F F' : Hp} (e : Fx F F') : ∀ {kvs : List (L2.Key × VD)} {vs : List (L2.Key × V)}, DP F kvs vs → DP F' kvs vs
  | _, _, .nil => .nil
  | _, _, .cons h t => .cons ⟨h.1, VD.mono _ e h.2⟩ (DP.mono e t)
inductive OptR (F : Hp) : Option VD → Option V → Prop
  | none : OptR F none none
  | some {x : VD} {v : V} : x.P F v → OptR F (some x) (some v)
theorem DP.val {F : Hp} (k : L2.Key) : ∀ {kvs : List (L2.Key × VD)} {vs : List (L2.Key × V)}, DP F kvs vs → OptR F (valG kvs k) (valV vs k)
  | _, _, .nil => .none
  | _, _, .cons (a := p) (b := q) h t => by
    rw [valG_cons]
    by_cases e : p.1 = k
    · rw [if_pos e, valV_pos (h.1.symm.trans e)]
      exact .some h.2
    · rw [if_neg e, valV_neg (fun z => e (h.1.trans z))]
      exact DP.val k t
theorem OptR.isSome {F : Hp} {o : Option VD} {u : Option V} (h : OptR F o u) : u.isSome = o.isSome := by cases h <;> rfl
theorem OptR.getD {F : Hp} {o : Option VD} {u : Option V} {x : VD} {v : V} (h : OptR F o u) (hx : x.P F v) : (o.getD x).P F (u.getD v) := by
  cases h with
  | none => exact hx
  | some h => exact h
theorem DP.put {F : Hp} (k : L2.Key) {x : VD} {v : V} (hx : x.P F v) {kvs : List (L2.Key × VD)} {vs : List (L2.Key × V)} (h : DP F kvs vs) : DP F (putG kvs k x) (putK vs k v) := by
  have e : (vs.any fun kv => decide (kv.1 = k)) = (kvs.any fun kv => decide (kv.1 = k)) := by
    rw [valG_any kvs, valV_any]; exact (h.val k).isSome
  unfold putG putK
  rw [e]
  split
  · have hz : ∀ {kvs : List (L2.Key × VD)} {vs : List (L2.Key × V)}, DP F kvs vs → DP F (kvs.map fun kv => if kv.1 = k then (kv.1, x) else kv) (vs.map fun kv => if kv.1 = k then (kv.1, v) else kv) := by
     intro kvs vs h
     induction h with
     | nil => exact .nil
     | @cons a b l1 l2 h t ih =>
      refine .cons ?_ ih
      show PrV F (if a.1 = k then (a.1, x) else a) (if b.1 = k then (b.1, v) else b)
      by_cases z : a.1 = k
      · rw [if_pos z, if_pos (h.1.symm.trans z)]; exact ⟨h.1, hx⟩
      · rw [if_neg z, if_neg (fun y => z (h.1.trans y))]; exact h
    exact hz h
  · have hz : ∀ {kvs : List (L2.Key × VD)} {vs : List (L2.Key × V)}, DP F kvs vs → DP F (kvs ++ [(k, x)]) (vs ++ [(k, v)]) := by
     intro kvs vs h
     induction h with
     | nil => exact .cons ⟨rfl, hx⟩ .nil
     | cons h t ih => exact .cons h ih
    exact hz h
theorem DP.merge {F : Hp} : ∀ {more : List (L2.Key × VD)} {ms : List (L2.Key × V)} {kvs : List (L2.Key × VD)} {vs : List (L2.Key × V)}, DP F more ms → DP F kvs vs → DP F (mergeG kvs more) (mergeK vs ms)
  | _, _, _, _, .nil, h => h
  | _, _, _, _, .cons (a := p) (b := q) h t, g => by
    show DP F (mergeG (putG _ p.1 p.2) _) (mergeK (putK _ q.1 q.2) _)
    rw [← h.1]
    exact DP.merge t (g.put p.1 h.2)
theorem DP.len {F : Hp} {kvs : List (L2.Key × VD)} {vs : List (L2.Key × V)} (h : DP F kvs vs) : kvs.length = vs.length := Paired.length h
/-- a dict that stays -/
def vdi (kvs : List (L2.Key × VD)) : VD := ⟨fun F v => ∃ a vs, v = .ref a ∧ F a = some (.dK vs) ∧ DP F kvs vs, fun e ⟨a, vs, h1, h2, h3⟩ => ⟨a, vs, h1, e.pl _ _ h2 rfl, h3.mono e⟩⟩
/-- a dict of one's own -/
def cD (kvs : List (L2.Key × VD)) : CD := ⟨fun F p o => F p = none ∧ ∃ vs, o = .dK vs ∧ DP F kvs vs, fun e q ⟨h0, vs, h1, h2⟩ => ⟨q.trans h0, vs, h1, h2.mono e⟩⟩
/-- .. while a loop walks it -/
def cDl (kvs : List (L2.Key × VD)) : CD := ⟨fun F p o => F p = none ∧ ∃ od vs, o = .frz od (.dK vs) ∧ DP F kvs vs, fun e q ⟨h0, od, vs, h1, h2⟩ => ⟨q.trans h0, od, vs, h1, h2.mono e⟩⟩
def IsDi (x : VD) (M : Cells) (kvs : List (L2.Key × VD)) : Prop := ∀ {F Φ ρ σ H v}, SatF F Φ ρ M σ H → x.P F v → ∃ a vs, v = .ref a ∧ Rd H a (.dK vs) ∧ DP F kvs vs
def IsDu (x : VD) (M : Cells) (kvs : List (L2.Key × VD)) : Prop := ∀ {F Φ ρ σ H v}, SatF F Φ ρ M σ H → x.P F v → ∃ a vs, v = .ref a ∧ H a = some (.dK vs) ∧ DP F kvs vs
section
variable {K : PySem.W.Frag} {ρ ρ' : Env} {M M1 M2 M3 M4 M' : Cells} {x y z : VD} {te td ty tv ta tb : TE} {p : Addr} {Φ : Fr} {D : Ends} {kvs ls : List (L2.Key × VD)} {k : L2.Key} {P : VD → Cells → Prop}
theorem isdu_v : IsDu (vdi kvs) M kvs := fun s ⟨a, vs, h1, h2, h3⟩ => ⟨a, vs, h1, s.ex _ _ h2, h3⟩
theorem isdu_c (m : (p, cD kvs) ∈ M) : IsDu (val (.ref p)) M kvs := fun s h => by
  obtain ⟨o, h1, h0, vs, rfl, h3⟩ := s.at m
  exact ⟨p, vs, h, h1, h3⟩
theorem IsDu.r (h : IsDu x M kvs) : IsDi x M kvs := fun s q => let ⟨a, vs, h1, h2, h3⟩ := h s q; ⟨a, vs, h1, .inl h2, h3⟩
theorem isdi_v : IsDi (vdi kvs) M kvs := IsDu.r isdu_v
theorem isdi_c (m : (p, cD kvs) ∈ M) : IsDi (val (.ref p)) M kvs := IsDu.r (isdu_c m)
theorem isdi_l (m : (p, cDl kvs) ∈ M) : IsDi (val (.ref p)) M kvs := fun s h => by
  obtain ⟨o, h1, h0, od, vs, rfl, h3⟩ := s.at m
  exact ⟨p, vs, h, .inr ⟨od, h1⟩, h3⟩
/-! ### made -/
theorem ev_dnewK : Ev tDNewK ρ M (vdi []) M := fun Φ σ H Q ⟨F, s⟩ q => fun p hp => q _ _ (Sat.retNew s hp fun F' fx e => ⟨p, [], rfl, e, .nil⟩)
theorem er_dnewC : EvR tDNewK ρ M fun y M' => ∃ p, y = val (.ref p) ∧ M' = (p, cD []) :: M := fun Φ σ H Q ⟨F, s⟩ q => fun p hp => by
  have s2 := s.newC (c := cD []) (o := .dK []) hp fun e => ⟨e, [], rfl, .nil⟩
  exact q _ _ _ _ ⟨p, rfl, rfl⟩ ⟨F, s2.ex, ⟨s2.fr, rfl⟩, s2.sl, s2.nd, s2.ce⟩
/-! ### read -/
theorem ev_dget1 (hd : Ev td ρ M x M1) (h1 : IsDi x M1 kvs) (hk : Ev ty ρ M1 (dat (kD k)) M2) (h2 : IsDi x M2 kvs) : Ev (tDGet1 td ty) ρ M ((valG kvs k).getD vn) M2 := fun Φ σ H Q s q => hd Φ σ H _ s fun v H1 s1 => by
  have ⟨F1, z1⟩ := s1
  obtain ⟨a, vs, rfl, e1, -⟩ := h1 z1 z1.fr.2
  refine ⟨a, rfl, .inl ⟨vs, e1⟩, hk _ σ H1 _ s1 fun w H2 s2 => ?_⟩
  have ⟨F2, z2⟩ := s2
  obtain ⟨a', vs2, e, e2, d2⟩ := h2 z2 z2.fr.1.2
  cases e
  cases kv_of z2.fr.2
  exact ⟨valV vs2 k, .inl ⟨vs2, k, e2, rfl, rfl⟩, q _ _ (Sat.ret z2.base ((d2.val k).getD .non))⟩
theorem ev_dget2 (hd : Ev td ρ M x M1) (h1 : IsDi x M1 kvs) (hk : Ev ty ρ M1 (dat (kD k)) M2) (hv : Ev tv ρ M2 y M3) (h2 : IsDi x M3 kvs) : Ev (tDGet2 td ty tv) ρ M ((valG kvs k).getD y) M3 := fun Φ σ H Q s q => hd Φ σ H _ s fun v H1 s1 => by
  have ⟨F1, z1⟩ := s1
  obtain ⟨a, vs, rfl, e1, -⟩ := h1 z1 z1.fr.2
  refine ⟨a, rfl, .inl ⟨vs, e1⟩, hk _ σ H1 _ s1 fun w H2 s2 => hv _ σ H2 _ s2 fun u H3 s3 => ?_⟩
  have ⟨F3, z3⟩ := s3
  obtain ⟨a', vs2, e, e2, d2⟩ := h2 z3 z3.fr.1.1.2
  cases e
  cases kv_of z3.fr.1.2
  exact ⟨valV vs2 k, .inl ⟨vs2, k, e2, rfl, rfl⟩, q _ _ (Sat.ret (z3.base.weak Le.and) ((d2.val k).getD z3.fr.2))⟩
theorem ev_dget (hd : Ev td ρ M x M1) (hk : Ev ty ρ M1 (dat (kD k)) M2) (h2 : IsDi x M2 kvs) (hv : valG kvs k = some y) : Ev (tDGet td ty) ρ M y M2 := fun Φ σ H Q s q => hd Φ σ H _ s fun v H1 s1 => hk _ σ H1 _ s1 fun w H2 s2 => by
  have ⟨F2, z2⟩ := s2
  obtain ⟨a', vs2, rfl, e2, d2⟩ := h2 z2 z2.fr.1.2
  cases kv_of z2.fr.2
  have r := d2.val k
  rw [hv] at r
  generalize hw : valV vs2 k = ow at r
  cases r with
  | some hr => exact ⟨a', _, rfl, .inl ⟨vs2, k, e2, rfl, hw.symm⟩, q _ _ (Sat.ret z2.base hr)⟩
theorem ev_din (hk : Ev ty ρ M (dat (kD k)) M1) (hd : Ev td ρ M1 x M2) (h2 : IsDi x M2 kvs) : Ev (tDIn ty td) ρ M (dat (.bool (valG kvs k).isSome)) M2 := fun Φ σ H Q s q => hk Φ σ H _ s fun w H1 s1 => hd _ σ H1 _ s1 fun v H2 s2 => by
  have ⟨F2, z2⟩ := s2
  obtain ⟨a', vs2, rfl, e2, d2⟩ := h2 z2 z2.fr.2
  cases kv_of z2.fr.1.2
  refine ⟨a', valV vs2 k, rfl, .inl ⟨vs2, k, e2, rfl, rfl⟩, ?_⟩
  rw [(d2.val k).isSome]
  exact q _ _ (Sat.ret z2.base (.bl _))
theorem ev_dnin (hk : Ev ty ρ M (dat (kD k)) M1) (hd : Ev td ρ M1 x M2) (h2 : IsDi x M2 kvs) : Ev (tDNotIn ty td) ρ M (dat (.bool (!(valG kvs k).isSome))) M2 := fun Φ σ H Q s q => hk Φ σ H _ s fun w H1 s1 => hd _ σ H1 _ s1 fun v H2 s2 => by
  have ⟨F2, z2⟩ := s2
  obtain ⟨a', vs2, rfl, e2, d2⟩ := h2 z2 z2.fr.2
  cases kv_of z2.fr.1.2
  refine ⟨a', valV vs2 k, rfl, .inl ⟨vs2, k, e2, rfl, rfl⟩, ?_⟩
  rw [(d2.val k).isSome]
  exact q _ _ (Sat.ret z2.base (.bl _))
/-! ### stored -/
theorem c_dput (hv : Ev tv ρ M x M1) (hd : Ev td ρ M1 (val (.ref p)) M2) (hk : Ev ty ρ M2 (dat (kD k)) M3) (hp : Put p (cD kvs) (cD (putG kvs k x)) M3 M4) (hl : kvs.length < sizeLine) (c : Cont D.nx Φ ρ M4) :
    Cont (sDPut td ty tv D) Φ ρ M := fun σ H s => hv Φ σ H _ s fun v H1 s1 => hd _ σ H1 _ s1 fun w H2 s2 => hk _ σ H2 _ s2 fun u H3 s3 => by
  have ⟨F3, z3⟩ := s3
  have ew : w = .ref p := z3.fr.1.2
  cases kv_of z3.fr.2
  subst ew
  obtain ⟨o, k1, k0, vs, rfl, k3⟩ := z3.at hp.mem
  refine ⟨p, _, rfl, .inl ⟨vs, k, k1, rfl, by rw [← k3.len]; exact hl, rfl⟩, c σ _ ⟨F3, ?_⟩⟩
  exact (z3.put1 (o := .dK (putK vs k v)) hp k0 ⟨k0, _, rfl, k3.put k z3.fr.1.1.2⟩).weak (.of rfl fun F h => h.1.1.1)
end
end Sx

set_option Elab.async false
set_option linter.all false
set_option maxRecDepth 100000
set_option maxHeartbeats 2000000
/-! SxEb: an attribute is stored on an exception whose class stands over a class of ours over Exception. -/
namespace PySem
namespace XeB
open Builtin Builtin.ObjectAttr PySem.ESX
section
variable {prog : Program} {w : World} {A : Around} {R : Result → Shared → Prop} {hp : Heap} {g : Array GenState} {dw : Drawn} {t : Nat} {os : OsState}
theorem has_it {C D : Addr} {b : Value} (hb : exTail.contains b = true) : (Value.ref C :: Value.ref D :: exTail).contains b = true := by
  rw [List.contains_cons, List.contains_cons, hb, Bool.or_true, Bool.or_true]
theorem mro2 {K : W.Frag} {C D : Addr} {cd : ClassData} (hcd : W.clsIn K C = some cd) (hm : cd.mro = .ref C :: .ref D :: exTail) {b : Value} (hb : (Value.ref C :: Value.ref D :: exTail).contains b = true) : W.mroIn K C b = some true := by
  unfold W.mroIn
  rw [hcd, Option.bind_some, hm, if_neg (show ¬ (List.isEmpty (Value.ref C :: Value.ref D :: exTail) = true) from Bool.false_ne_true), hb]
theorem put_new {K : W.Frag} {name : Str} {tk : Tok} {v : Value} {x C D : Addr} {fv : Array Value} {cd : ClassData}
    (X : K.In hp) (hx : hp.get? x = some { cls := .ref C, data := .fields fv }) (hcd : W.clsIn K C = some cd) (hm : cd.mro = .ref C :: .ref D :: exTail) (hh : cd.hasDict = true) (ha : W.findIn K (.ref C) name = some none)
    (fin : ∀ h' tk' dx, (∀ b o, b ≠ x → hp.get? b = some o → h'.get? b = some o) → hp.objs.size ≤ dx → dx ≠ x → h'.get? x = some { cls := .ref C, dict := some dx, data := .fields fv } →
      h'.Ns1 dx (fun y => if y = name then some v else none) → R (.ok (.ret .none)) ⟨h', g, dw, tk', os⟩) :
    codeAny (model prog w) A (.call (.builtin "object.__setattr__") ⟨[.ref x, .str name tk, v], []⟩) R ⟨hp, g, dw, t, os⟩ := by
  have J : W.InstAt hp x { cls := .ref C, data := .fields fv } C none := ⟨hx, rfl, rfl, trivial⟩
  have ne : x ≠ hp.objs.size := Nat.ne_of_lt (Heap.lt_size hx)
  have S0 := F.store_object
  have so : W.Looks (model prog w) hp (isInstance (.ref x) (.type "object")) true := J.type.andThen (W.looks_mroIn X (mro2 hcd hm (has_it (by decide +kernel))))
  have lm : W.Looks (model prog w) hp (mroOf (.ref C)) cd.mro := (W.looks_clsIn X hcd).andThen .now
  have l3 : W.Looks (model prog w) hp (storeTaker? none) none := .now
  have lc : W.Looks (model prog w) hp (classData C) cd := W.looks_clsIn X hcd
  have pass : refuseLoop (.ref x) "__setattr__" cd.mro = pure () := by
    rw [hm, refuseLoop_ref, refuseLoop_ref]
    exact F.store_Exception.passes _
  refine codeAny_call_builtin S0.slot.plain S0.entry (@W.check_slot (model prog w) _ _ ⟨hp, g, dw, t, os⟩ "object.__setattr__" "object" "__setattr__" (.ref x) [.str name tk, v] [] _ S0.kind S0.split so (S0.args (.ref x) (.str name tk) v) ?_)
  rw [W.osa_eq, refuse_eq]
  refine wpAny_bind (wpAny_bind (J.type.at (wpAny_bind (lm.at ?_)))); rw [pass]
  refine wpAny_pure (wpAny_bind (J.type.at (wpAny_bind ((W.looks_findIn X ha).at (wpAny_bind (l3.at ?_))))))
  obtain ⟨nm, bs, mro, ns, qn, hd, sn, sb, ab, col, del⟩ := cd
  dsimp only at hh
  subst hh
  unfold storeInOwnDict ownDictForStores
  repeat (first | with_reducible refine HandSPX.store_in_new ?_ ?_ | with_reducible refine wpAny_loadPart_at hx ?_ | with_reducible refine lc.at ?_ | wp_step)
  · exact ⟨_, #[], _, (Heap.get?_update_ne _ _ _ _ ne.symm).trans (Heap.get?_push_at rfl rfl), rfl, fun e he => absurd he (by simp), fun _ => rfl⟩
  · intro h' tk' hn' hs
    have hx1 : (hp.push { cls := .type "dict", data := .dict #[] }).get? x = some { cls := .ref C, data := .fields fv } := Heap.get?_push_of_some _ hx
    refine fin h' tk' hp.objs.size (fun b o hb ho => ?_) (Nat.le_refl _) ne.symm ((hs.2 x ne).trans (Heap.get?_update_self _ hx1 rfl)) hn'
    exact (hs.2 b (Nat.ne_of_lt (Heap.lt_size ho))).trans ((Heap.get?_update_ne _ _ _ _ hb).trans (Heap.get?_push_of_some _ ho))
theorem has_same {D : Addr} (Y : String) : (Value.ref D :: exTail).contains (.type Y) = exTail.contains (.type Y) := by
  rw [List.contains_cons]
  simp
theorem mod_keeps {K : W.Frag} {mg : Str → Option Value} {h h' : Heap} (M0 : L2.Mod K mg h) (k : ∀ b o, h.get? b = some o → h'.get? b = some o) : L2.Mod K mg h' :=
  let ⟨mb, h1, h2⟩ := M0.blt
  ⟨M0.kin.keeps k, M0.glob.keeps k, ⟨mb, h1.keeps k, h2⟩, M0.nolimit.keeps k⟩
theorem mod_at {X : L2.Cx} {pins : List (Addr × Obj)} {σ : L2.St} {H : L2.Hp} {s : Shared} (I : L2.Inv X pins σ H s) : L2.Mod X.K X.mg s.heap := mod_keeps I.mod I.bk
/-- a made exception with one field -/
structure OwnMade (h h' : Heap) (e C d : Addr) (f : Str) (v : Value) : Prop where
  keep : ∀ b o, h.get? b = some o → h'.get? b = some o
  new : h.objs.size ≤ e
  obj : ∃ oe vs, h'.get? e = some oe ∧ oe.cls = .ref C ∧ oe.dict = some d ∧ oe.data = .fields vs ∧ vs[1]? = some .none
  dbig : h.objs.size ≤ d
  dne : d ≠ e
  ns : h'.Ns1 d (fun y => if y = f then some v else none)
end
section
open L2 PySem.HandSPX
/-- C(e) -/
def tMk (C : Addr) (f : Str) (ta : TA) : St → Hp → XK → Prop := fun σ H Q => ta σ H fun vs H1 => ∃ v, vs = [v] ∧ ∀ d, H1 d = none → Q (.ref C) (some d) (upd H1 d (.xd [(f, v)]))
theorem relO_one {v : V} {v' : Value} (r : RelV v v') (f g : Str) : RelO (List.lookup g [(f, v)]) (if g = f then some v' else none) := by
  by_cases h : g = f
  · subst h
    rw [if_pos rfl]
    simp only [List.lookup, beq_self_eq_true]
    exact r
  · have q : (g == f) = false := by simpa using h
    rw [if_neg h]
    simp only [List.lookup, q]
    trivial
theorem mk_fin {X : Cx} {pins : List (Addr × Obj)} {σ : St} {H1 : Hp} {Q : XK} {s1 : Shared} {C : Addr} {f : Str} {v : V} {v' : Value} (I1 : Inv X pins σ H1 s1) (rv : RelV v v')
    (exC : W.subIn X.K (.ref C) (.type "BaseException") = some true) (tyC : W.typeIn X.K (.ref C) = some (.type "type")) (q1 : ∀ d, H1 d = none → Q (.ref C) (some d) (upd H1 d (.xd [(f, v)])))
    (mk : ∀ (R : Result → Shared → Prop), (∀ h' tk e d, OwnMade s1.heap h' e C d f v' → R (.ok (.ret (.ref e))) { s1 with heap := h', toks := tk }) → codeAny (model X.prog X.w) X.A (.call (.ref C) ⟨[v'], []⟩) R s1) :
    wpAny (model X.prog X.w) X.A (call (.ref C) [v']) (MkP X pins σ Q) X.xe s1 := by
  obtain ⟨hp, g, dr, tk, os⟩ := s1
  refine wpAny_call (mk _ fun h' tk' e d M => ?_)
  show MkP X pins σ Q (.ref e) ⟨h', g, dr, tk', os⟩
  obtain ⟨oe, fv, hoe, hc, hd, hdat, h1⟩ := M.obj
  obtain ⟨G', g1, g2⟩ := restrict h' fun b => decide (b ≠ e)
  have gk : ∀ b, b ≠ e → G'.get? b = h'.get? b := fun b hb => g1 b (decide_eq_true hb)
  have ge : G'.get? e = none := g2 e (by simp)
  have old : ∀ b o, hp.get? b = some o → G'.get? b = some o := fun b o q => (gk b (Nat.ne_of_lt (Nat.lt_of_lt_of_le (Heap.lt_size q) M.new))).trans (M.keep b o q)
  have ob : ObjOk X.prog X.w (upd H1 d (.xd [(f, v)])) G' d (.xd [(f, v)]) := ⟨_, M.ns.at (fun o q => (gk d M.dne).trans q), fun y => relO_one rv f y⟩
  have J : Inv X pins σ (upd H1 d (.xd [(f, v)])) ⟨G', g, dr, tk', os⟩ := I1.laid (t' := tk') old M.dbig ob
  refine ⟨e, oe, fv, ⟨G', g, dr, tk', os⟩, _, .ref C, some d, rfl, J, fun b o q => ?_, ge, hoe, ?_, hdat, h1, ?_, rfl, I1.bare, raises_own exC tyC, q1 d (I1.hok.fresh M.dbig)⟩
  · by_cases hb : b = e
    · have q' : G'.get? b = some o := q
      rw [hb, ge] at q'; cases q'
    · exact (gk b hb).symm.trans q
  · exact ⟨hc, hd⟩
  · rw [upd_ne (Ne.symm M.dne)]; exact I1.hok.fresh M.new
end
end XeB
end PySem

set_option Elab.async false
set_option linter.all false
set_option maxRecDepth 100000
set_option maxHeartbeats 2000000
/-! Sx8: defs that may raise; raise, try. -/
namespace Sx
open PySem L2 Evl PyProof.Rows
/-! ### calls within a try, or of a def that raises itself: the wish W of what leaves -/
section
variable {X : Cx} {CX : CXT} {k : Nat} {f C : Addr} {fd : FuncData} {ps : List Str} {sp : Sp} {E : L2.St → XK} {x m : Str} {p pos apos : Pos} {e o : Expr} {es : List Expr} {ta : TE} {t : TA}
theorem pe_callS0 (F : FnOk X.prog X.w X.K X.mg X.base CX k f fd ps sp) (hr : Room k X.A) (hg : Gl X x) (hm : X.mg x = some (.ref f)) (hk : PySem.W.keepIn X.K (.ref f) = true) (hb : Binds X.K fd ps []) (hx : ∀ σ, PassesAt CX X σ (E σ))
    (hdb : (x == ("__debug__" : Str)) = false := by decide) : PE X (.Call (.Name x p) [] [] pos) (tCallS sp E tNil) :=
  ⟨fun pins s σ H Q I h => wpAny_Call_Name_kw (ld_glob I hg hm (PySem.W.callWith_K0 I.kIn hk (run_fnS (us := []) F hr hb (hx σ) I .nil h)) hdb)⟩
def tMethS (C : Addr) (m : Str) (sp : Sp) (E : L2.St → XK) (ta : TE) (t : TA) : TE := fun σ H Q => ta σ H fun x H1 => ∃ a dx fs, x = .ref a ∧ H1 a = some (.ins C dx fs) ∧ fs.lookup m = none ∧
  t σ H1 fun vs H2 => sp (x :: vs) H2 Q (E σ)
theorem pe_methS {pl : Sem Bool} (he : PE X o ta) (c : Cls X.K C) (hm : Meth X.K C m f) (F : FnOk X.prog X.w X.K X.mg X.base CX k f fd ps sp) (hr : Room k X.A) (hb : Binds X.K fd ps []) (hx : ∀ σ, PassesAt CX X σ (E σ)) (ha : PA X (e :: es) t)
    (hst : starEach (e :: es) X.env = (false, eval e X.env) :: starEach es X.env := by rfl) (hpl : (backTo pos (starEach es X.env)).any (·.1) = false := by rfl)
    (ht : eval (.Call (.Attribute o m apos) (e :: es) [] pos) X.env = (do let ov ← eval o X.env; standAt apos.atName; let (f, first) ← holding [ov] (getMethod ov m pl); callWith pos f first (backTo pos (starEach (e :: es) X.env)) (backToKw pos (keywordEach [] X.env))) := by rfl) :
    PE X (.Call (.Attribute o m apos) (e :: es) [] pos) (tMethS C m sp E ta t) := ⟨fun pins s σ H Q I h => by
  refine PySem.W.methodCall_KW (pl := pl) (thn (he.run pins s σ H _ I h) fun u s1 ⟨y, H1, I1, ry, a, dx, fs, ey, ea, l, q⟩ => ?_) ht
  subst ey; obtain rfl : u = Value.ref a := ry
  refine getmeth_ok I1 ea c hm l (PySem.W.callWith_K (first := [.ref a]) (h₀ := X.base) I.ok.mod.kin hm.kp (thn (ha.run pos pins s1 σ H1 _ I1 q) fun us s2 ⟨vs, H2, I2, r, q2⟩ => ⟨I2.kIn, ?_⟩) hst hpl)
  exact run_fnS (us := .ref a :: us) (vs := .ref a :: vs) F hr hb (hx σ) I2 (.cons rfl r) q2⟩
theorem pe_methS0 {pl : Sem Bool} (he : PE X o ta) (c : Cls X.K C) (hm : Meth X.K C m f) (F : FnOk X.prog X.w X.K X.mg X.base CX k f fd ps sp) (hr : Room k X.A) (hb : Binds X.K fd ps []) (hx : ∀ σ, PassesAt CX X σ (E σ))
    (ht : eval (.Call (.Attribute o m apos) [] [] pos) X.env = (do let ov ← eval o X.env; standAt apos.atName; let (f, first) ← holding [ov] (getMethod ov m pl); callWith pos f first (backTo pos (starEach [] X.env)) (backToKw pos (keywordEach [] X.env))) := by rfl) :
    PE X (.Call (.Attribute o m apos) [] [] pos) (tMethS C m sp E ta tNil) := ⟨fun pins s σ H Q I h => by
  refine PySem.W.methodCall_KW (pl := pl) (thn (he.run pins s σ H _ I h) fun u s1 ⟨y, H1, I1, ry, a, dx, fs, ey, ea, l, q⟩ => ?_) ht
  subst ey; obtain rfl : u = Value.ref a := ry
  refine getmeth_ok I1 ea c hm l (PySem.W.callWith_K0 I1.kIn hm.kp ?_)
  exact run_fnS (us := [.ref a]) (vs := [.ref a]) F hr hb (hx σ) I1 (.cons rfl .nil) q⟩
def tMakeS (C : Addr) (sp : Sp) (E : L2.St → XK) (t : TA) : TE := fun σ H Q => t σ H fun vs H1 => ∀ x dx, H1 x = none → H1 dx = none → dx ≠ x →
  sp (.ref x :: vs) (upd (upd H1 dx (.own x)) x (.ins C dx [])) (fun v H2 => v = .non ∧ Q (.ref x) H2) (E σ)
theorem run_makeS {pins : List (Addr × Obj)} {σ : L2.St} {H : Hp} {s : Shared} {Q : VK} {us : List Value} {vs : List V} (M : Mk X.K C f) (F : FnOk X.prog X.w X.K X.mg X.base CX k f fd ps sp) (hr : Room (k + 1) X.A) (hb : Binds X.K fd ps [])
    (hx : PassesAt CX X σ (E σ)) (I : Inv X pins σ H s) (r : Vals vs us)
    (h : ∀ x dx, H x = none → H dx = none → dx ≠ x → sp (.ref x :: vs) (upd (upd H dx (.own x)) x (.ins C dx [])) (fun v H2 => v = .non ∧ Q (.ref x) H2) (E σ)) :
    wpAny (model X.prog X.w) X.A (call (.ref C) us) (EP X pins σ Q) X.xe s := by
  have z1 := Nat.le_succ s.heap.objs.size
  have hq := h (s.heap.objs.size + 1) s.heap.objs.size (I.hok.fresh z1) (I.hok.fresh (Nat.le_refl _)) (Nat.ne_of_lt (Nat.lt_succ_self _))
  have J := Inv.made (C := C) I
  have r2 : Vals (V.ref (s.heap.objs.size + 1) :: vs) (Value.ref (s.heap.objs.size + 1) :: us) := .cons rfl r
  have hl : (Value.ref (s.heap.objs.size + 1) :: us ++ []).length = ps.length := by
    rw [List.append_nil, ← r2.length]; exact F.len _ _ _ _ hq
  have b := hb _ (Value.ref (s.heap.objs.size + 1) :: us) J.kIn hl
  rw [List.append_nil] at b
  refine wpAny_call (make_map (f := f) I.kIn M.makes M.init (beq_iff_eq.mp M.fn) (codeAny_mono (F.run _ X.stack _ _ ⟨Value.ref (s.heap.objs.size + 1) :: us, []⟩ _ _ _ (E σ) (hr.make C us []) (J.env0.make C us []) b r2 hq) fun r s' hq' => ?_))
  match r, hq' with
  | .error e, hq' => exact hx pins _ _ e s' J hq'
  | .ok (.ret u), hq' =>
    obtain ⟨v, H', I3, rv, ev, q3⟩ := J.after hq'
    subst ev
    exact ⟨rv, ⟨V.ref (s.heap.objs.size + 1), H', I3, rfl, q3⟩⟩
  | .ok .next, hq' => exact False.elim hq'
  | .ok .brk, hq' => exact False.elim hq'
  | .ok .cont, hq' => exact False.elim hq'
theorem pe_makeS (M : Mk X.K C f) (F : FnOk X.prog X.w X.K X.mg X.base CX k f fd ps sp) (hr : Room (k + 1) X.A) (hg : Gl X x) (hm : X.mg x = some (.ref C)) (hb : Binds X.K fd ps []) (hx : ∀ σ, PassesAt CX X σ (E σ))
    (ha : PA X (e :: es) t) (hdb : (x == ("__debug__" : Str)) = false := by decide) (he : starEach (e :: es) X.env = (false, eval e X.env) :: starEach es X.env := by rfl) (hpl : (backTo pos (starEach es X.env)).any (·.1) = false := by rfl) :
    PE X (.Call (.Name x p) (e :: es) [] pos) (tMakeS C sp E t) :=
  ⟨fun pins s σ H Q I h => wpAny_Call_Name_kw (ld_glob I hg hm (PySem.W.callWith_K (h₀ := X.base) I.ok.mod.kin M.kp (thn (ha.run pos pins s σ H _ I h) fun us s1 ⟨vs, H1, I1, r, q⟩ => ⟨I1.kIn, run_makeS M F hr hb (hx σ) I1 r q⟩) he hpl) hdb)⟩
end
/-! ### the wish, told by descriptions -/
def cX (f : Str) (y : VD) : CD := ⟨fun F p o => F p = none ∧ ∃ v, o = .xd [(f, v)] ∧ y.P F v, fun e q ⟨h0, v, h1, h2⟩ => ⟨q.trans h0, v, h1, y.mono e h2⟩⟩
abbrev W0 : WX := fun _ _ _ _ => False
abbrev PXT := Env → Addr → Str → VD → Cells → Prop
/-- W is content with the exceptions that PE tells -/
def RtX (W : WX) (Φ : Fr) (PE : PXT) : Prop := ∀ Φ' ρ σ C f y dd M H, Le Φ' Φ → PE ρ C f y M → Sat Φ' ρ ((dd, cX f y) :: M) σ H → W (.ref C) (some dd) σ H
/-- an expression below a frame, several outcomes -/
def EvL (Φ0 : Fr) (te : TE) (ρ : Env) (M : Cells) (P : VD → Cells → Prop) : Prop := ∀ (Φ : Fr) (σ : L2.St) (H : Hp) (Q : VK), Le Φ Φ0 → Sat Φ ρ M σ H → (∀ x M' v H', P x M' → Sat (Φ.and x v) ρ M' σ H' → Q v H') → te σ H Q
/-- a def that may raise: its promise -/
abbrev XSpec := List VD → Cells → (VD → Cells → Prop) → (Addr → Str → VD → Cells → Prop) → Prop
def spX (n : Nat) (S : XSpec) : Sp := fun vs H Q E => ∃ (Φ : Fr) (ρ : Env) (σ : L2.St) (ds : List VD) (M : Cells) (P : VD → Cells → Prop) (PE : Addr → Str → VD → Cells → Prop), Sat (Φ.andA ds vs) ρ M σ H ∧ vs.length = n ∧ S ds M P PE ∧
  (∀ x M' v H', P x M' → Sat (Φ.and x v) ρ M' σ H' → Q v H') ∧ ∀ C f y dd M' H', PE C f y M' → Sat Φ ρ ((dd, cX f y) :: M') σ H' → E (.ref C) (some dd) H'
theorem spX_len {n : Nat} {S : XSpec} {vs : List V} {H : Hp} {Q : VK} {E : XK} (h : spX n S vs H Q E) : vs.length = n := let ⟨_, _, _, _, _, _, _, _, e, _⟩ := h; e
section
variable {K : PySem.W.Frag} {ρ ρ' ρ1 : Env} {M M1 M2 M' : Cells} {x y z : VD} {te ta tb : TE} {t : TA} {C p : Addr} {f : Str} {Φ Ψ : Fr} {D : Ends} {Q : VK} {P : VD → Cells → Prop} {PE : PXT} {W : WX} {n : Nat} {ds : List VD}
theorem EvR.l (h : EvR te ρ M P) : EvL Φ te ρ M P := fun Φ' σ H Q _ s q => h Φ' σ H Q s q
theorem Ev.l (h : Ev te ρ M x M') (hp : P x M') : EvL Φ te ρ M P := fun Φ' σ H Q _ s q => h Φ' σ H Q s fun v H' s' => q x M' v H' hp s'
theorem EvL.imp {P' : VD → Cells → Prop} (h : EvL Φ te ρ M P) (k : ∀ x M', P x M' → P' x M') : EvL Φ te ρ M P' := fun Φ' σ H Q l s q => h Φ' σ H Q l s fun x M' v H' hp s' => q x M' v H' (k x M' hp) s'
theorem EvL.le (h : EvL Φ te ρ M P) (l : Le Ψ Φ) : EvL Ψ te ρ M P := fun Φ' σ H Q l' s q => h Φ' σ H Q (l'.trans l) s q
theorem rtx0 : RtX W0 Φ (fun _ _ _ _ _ => False) := fun _ _ _ _ _ _ _ _ _ _ z _ => z.elim
theorem RtX.le (h : RtX W Φ PE) (l : Le Ψ Φ) : RtX W Ψ PE := fun Φ' ρ σ C f y dd M H l' hp s => h Φ' ρ σ C f y dd M H (l'.trans l) hp s
theorem evl_call {S : XSpec} {PE' : Addr → Str → VD → Cells → Prop} (ha : EvA t ρ M ds M1) (hn : ds.length = n) (hS : S ds M1 P PE') (hX : RtX W Φ PE) (hP : ∀ C f y M', PE' C f y M' → PE ρ C f y M') : EvL Φ (tCallS (spX n S) (WE W) t) ρ M P := fun Φ' σ H Q l s q =>
  ha Φ' σ H _ s fun vs H1 s1 => ⟨Φ', ρ, σ, ds, M1, P, PE', s1, let ⟨F, s2⟩ := s1; (Paired.length s2.fr.2).symm.trans hn, hS, fun x M' v H' hp s' => q x M' v H' hp s', fun C f y dd M' H' hp s' => hX Φ' ρ σ C f y dd M' H' l (hP C f y M' hp) s'⟩
theorem evl_meth {m : Str} {S : XSpec} {PE' : Addr → Str → VD → Cells → Prop} {ns : List Str} {xs : List VD} (ho : Ev ta ρ M (val (.ref p)) M1) (hc : (p, cI C ns xs) ∈ M1) (hno : ¬ m ∈ ns) (ha : EvA t ρ M1 ds M2) (hn : ds.length + 1 = n) (hS : S (val (.ref p) :: ds) M2 P PE') (hX : RtX W Φ PE) (hP : ∀ C f y M', PE' C f y M' → PE ρ C f y M') : EvL Φ (tMethS C m (spX n S) (WE W) ta t) ρ M P := fun Φ' σ H Q l s q =>
  ho Φ' σ H _ s fun v H1 s1 => by
    have ⟨F, z⟩ := s1
    have e : v = .ref p := z.fr.2
    subst e
    obtain ⟨o, h1, h0, dx, fs, rfl, h3⟩ := z.at hc
    refine ⟨p, dx, fs, rfl, h1, h3.lookup_none hno, ha _ σ H1 _ s1 fun vs H2 s2 => ?_⟩
    have s3 : Sat (Φ'.andA (val (.ref p) :: ds) (.ref p :: vs)) ρ M2 σ H2 := s2.weak (.of rfl fun F p => ⟨p.1.1, .cons p.1.2 p.2⟩)
    exact ⟨Φ', ρ, σ, _, M2, P, PE', s3, let ⟨F, s2⟩ := s3; (Paired.length s2.fr.2).symm.trans hn, hS, fun x M' v H' hp s' => q x M' v H' hp s', fun C f y dd M' H' hp s' => hX Φ' ρ σ C f y dd M' H' l (hP C f y M' hp) s'⟩
theorem evl_make {S : XSpec} {PE' : Addr → Str → VD → Cells → Prop} (h : EvA t ρ M ds M1) (hn : ds.length + 1 = n) (hS : ∀ p, S (val (.ref p) :: ds) ((p, cI C [] []) :: M1) (fun y M' => y = vn ∧ P (val (.ref p)) M') PE') (hX : RtX W Φ PE) (hP : ∀ C f y M', PE' C f y M' → PE ρ C f y M') : EvL Φ (tMakeS C (spX n S) (WE W) t) ρ M P := fun Φ' σ H Q l s q =>
  h Φ' σ H _ s fun vs H1 s1 => fun x dx hx hdx hne => by
    have ⟨F, s2⟩ := s1
    have hl := Paired.length s2.fr.2
    have s3 := (s2.newH (o := .own x) hdx).newC (c := cI C [] []) (o := .ins C dx []) (p := x) (by rw [upd_ne hne.symm]; exact hx) fun e => ⟨e, dx, [], rfl, rfl, .nil⟩
    refine ⟨Φ', ρ, σ, val (.ref x) :: ds, (x, cI C [] []) :: M1, fun y M' => y = vn ∧ P (val (.ref x)) M', PE', ⟨F, s3.weak (.of rfl fun F h => ⟨h.1, .cons rfl h.2⟩)⟩, by rw [List.length_cons, ← hl]; exact hn, hS x, fun y M' v H' hp s' => ?_, fun C f y dd M' H' hp s' => hX Φ' ρ σ C f y dd M' H' l (hP C f y M' hp) s'⟩
    obtain ⟨rfl, hp⟩ := hp
    have ⟨F', s5⟩ := s'
    refine ⟨?_, q (val (.ref x)) M' (.ref x) H' hp ⟨F', s5.ex, ⟨s5.fr.1, rfl⟩, s5.sl, s5.nd, s5.ce⟩⟩
    have e : Rp F' v .none := s5.fr.2
    cases e
    rfl
/-! ### statements -/
theorem c_asgL {i : Nat} (h : EvL Φ te ρ M P) (k : ∀ x M1, P x M1 → ∃ ρ', SetAt x ρ i ρ' ∧ Cont D.nx Φ ρ' M1) : Cont (tAsg te (gName i) D) Φ ρ M := fun σ H s => h Φ σ H _ (.refl _) s fun x M1 v H1 p s1 => by
  obtain ⟨ρ', hs, k⟩ := k x M1 p
  exact k _ _ (s1.asg hs)
theorem c_dropL (h : EvL Φ te ρ M P) (k : ∀ x M1, P x M1 → Cont D.nx Φ ρ M1) : Cont (tDrop te D) Φ ρ M := fun σ H s => h Φ σ H _ (.refl _) s fun x M1 v H1 p s1 => k x M1 p σ H1 s1.weak1
theorem c_retL {P' : VD → Cells → Prop} (h : EvL Ψ te ρ M P') (hQ : RtQ D.rt Φ P) (hP : ∀ x M1, P' x M1 → P x M1) (l : Le Ψ Φ) : Cont (tRet te D) Ψ ρ M := fun σ H s => h Ψ σ H _ (.refl _) s fun x M1 v H1 p s1 => hQ Ψ ρ σ x M1 v H1 l (hP x M1 p) s1
def tRaise (C : Addr) (f : Str) (W : WX) (t : TA) : TS := fun _ σ H => XeB.tMk C f t σ H fun cls d H' => W cls d σ H'
theorem c_raise (h : EvA t ρ M [y] M1) (hX : RtX W Φ PE) (hP : PE ρ C f y M1) (l : Le Ψ Φ) : Cont (tRaise C f W t D) Ψ ρ M := fun σ H s => h Ψ σ H _ s fun vs H1 s1 => by
  have ⟨F, z⟩ := s1
  obtain ⟨v, rfl, hv⟩ := rc1 (ds := []) z.fr.2
  refine ⟨v, rfl, fun d hd => ?_⟩
  have z2 := z.newC (c := cX f y) (o := .xd [(f, v)]) hd fun e => ⟨e, v, rfl, hv⟩
  exact hX Ψ ρ σ C f y d M1 _ l hP ⟨F, z2.ex, z2.fr.1, z2.sl, z2.nd, z2.ce⟩
theorem Sat.unset {σ : L2.St} {H : Hp} (s : Sat Φ ρ M σ H) (i : Nat) : Sat Φ (ρ.set i none) M (σ.set i none) H := let ⟨F, s⟩ := s
  ⟨F, s.ex, s.fr, ⟨by rw [List.length_set, List.length_set]; exact s.sl.1, fun j x e => by
    rw [List.getElem?_set] at e
    by_cases h : i = j
    · rw [if_pos h] at e
      split at e <;> cases e
    · rw [if_neg h] at e
      rw [List.getElem?_set, if_neg h]
      exact s.sl.2 j x e⟩, s.nd, s.ce⟩
theorem c_unset {k : L2.St → Hp → Prop} {i : Nat} (c : Cont k Φ (ρ.set i none) M) : Cont (fun σ' H' => k (σ'.set i none) H') Φ ρ M := fun σ H s => c _ H (s.unset i)
abbrev tTryAs (K : PySem.W.Frag) (c : Value) (i : Nat) (ts : Addr → Value → Option Addr → TS) (Wout : WX) (tb : WX → TS) : TS := fun D σ H => tb (wAs K c i ts Wout D) D σ H
abbrev sEnds (D : Ends) (i : Nat) : Ends := { nx := fun σ' H' => D.nx (σ'.set i none) H', rt := D.rt, bk := fun σ' H' => D.bk (σ'.set i none) H', ct := fun σ' H' => D.ct (σ'.set i none) H' }
theorem c_tryAs {i : Nat} {c : Value} {ts : Addr → Value → Option Addr → TS} {Wout : WX} {tb : WX → TS} (PE : PXT) (hb : ∀ W, RtX W Φ PE → Cont (tb W D) Φ ρ M)
    (hs : ∀ Ψ ρ' C f y M' dd, Le Ψ Φ → PE ρ' C f y M' → PySem.W.exmOne K (.ref C) c = some true ∧ ∀ a, Cont (ts a (.ref C) (some dd) (sEnds D i)) Ψ (ρ'.set i (some (val (.ref a)))) ((dd, cX f y) :: M')) : Cont (tTryAs K c i ts Wout tb D) Φ ρ M :=
  hb (wAs K c i ts Wout D) fun Ψ ρ' σ C f y dd M' H l hp s => by
    obtain ⟨h1, h2⟩ := hs Ψ ρ' C f y M' dd l hp
    refine ⟨true, h1, fun _ a _ => h2 a _ _ ?_, fun z => Bool.noConfusion z⟩
    have ⟨F, z⟩ := s
    exact ⟨F, z.ex, z.fr, z.sl.set (x := val (.ref a)) (v := .ref a) rfl, z.nd, z.ce⟩
/-- the caught one's field -/
theorem ev_xf {a dd : Addr} (h : Ev te ρ M (val (.ref a)) M1) (hm : (dd, cX f y) ∈ M1) : Ev (tXf a (.ref C) (some dd) C f te) ρ M y M1 := fun Φ σ H Q s q => h Φ σ H _ s fun v H1 s1 => by
  have ⟨F, z⟩ := s1
  obtain ⟨o, k1, k0, w, rfl, k3⟩ := z.at hm
  refine ⟨z.fr.2, rfl, dd, _, w, rfl, k1, ?_, q _ _ (Sat.ret (z.weak Le.and) k3)⟩
  simp [List.lookup]
theorem fn_startX {n : Nat} {S : XSpec} {vs : List V} {H : Hp} {Q : VK} {E : XK} {t : WX → TS} {N : List Str} (h : spX n S vs H Q E)
    (k : ∀ W ds M P PE Φ, ds.length = n → S ds M P PE → RtQ Q Φ P → RtX W Φ (fun _ => PE) → Cont (t W (fnD Q)) Φ (entry N ds) M) : t (fun cls d _ H => E cls d H) { nx := fun _ H' => Q .non H', rt := Q } (L2.start N vs) H := by
  obtain ⟨Φ, ρ, σ, ds, M, P, PE, s, e, hS, hq, hx⟩ := h
  have ⟨F, s0⟩ := s
  refine k _ ds M P PE (Φ.slots σ ρ) ((Paired.length s0.fr.2).trans e) hS (fun Φ' ρ' σ' x M' v H' l hp s' => ?_) (fun Φ' ρ' σ' C f y dd M' H' l hp s' => ?_) _ _ ⟨F, s0.ex, ⟨s0.fr.1, s0.sl⟩, slots_entry s0.fr.2, s0.nd, s0.ce⟩
  · have s2 := s'.weak (Ψ := (Φ.slots σ ρ).and x v) ⟨l.n, fun F h => ⟨l.p F h.1, h.2⟩⟩
    have ⟨F', s3⟩ := s2
    exact hq x M' v H' hp ⟨F', s3.ex, ⟨s3.fr.1.1, s3.fr.2⟩, s3.fr.1.2, s3.nd, s3.ce⟩
  · have s2 := s'.weak l
    have ⟨F', s3⟩ := s2
    exact hx C f y dd M' H' hp ⟨F', s3.ex, s3.fr.1, s3.fr.2, s3.nd, s3.ce⟩
end
end Sx

set_option Elab.async false
set_option linter.all false
set_option maxRecDepth 100000
set_option maxHeartbeats 2000000
/-! Sx9: isinstance, a star in a display, a list's place set, dict displays, str(n), dict(rows). -/
namespace Sx
open PySem L2 Evl StX
section
variable {K : PySem.W.Frag} {ρ ρ' ρ1 : Env} {M M1 M2 M3 M4 M' : Cells} {x y z : VD} {te ta tb ty tv : TE} {t : TA} {p : Addr} {Φ : Fr} {D : Ends} {P : VD → Cells → Prop} {ds es : List VD}
/-! ### isinstance of data -/
def tyD : PyData → String
  | .none => "NoneType"
  | .bool _ => "bool"
  | .int _ => "int"
  | .str _ => "str"
  | .list _ => "list"
  | .tuple _ => "tuple"
  | .dict _ => "dict"
theorem rc_isi {d : PyData} {c : String} {b : Bool} (h : kitB (tyD d) c = some b) : RC (rIsi K) [dat d, val (.ty c)] M (dat (.bool b)) M := fun Φ ρ σ vs H Q ⟨F, s⟩ q => by
  obtain ⟨v, w, rfl, h1, h2⟩ := rc2 s.fr.2
  have e2 : w = .ty c := h2
  subst e2
  refine ⟨v, _, .type (tyD d), .type c, b, rfl, .ty c, .base ?_, kit_ty h, q _ _ (Sat.ret (s.weak Le.andA) (.bl b))⟩
  cases h1 with
  | non => exact .non
  | bl b => exact .bl _
  | int i => exact .int _
  | str x => exact .str _
  | lst h1 h2 => exact .lst (s.ex _ _ h1)
  | tup h1 h2 => exact .tup (s.ex _ _ h1)
/-! ### (*xs, y) -/
theorem ea_starT {ds' : List PyData} (h : Ev te ρ M x M1) (hx : IsTup x M1 ds') (hr : EvA t ρ M1 es M2) : EvA (tStar K te t) ρ M (ds'.map dat ++ es) M2 := fun Φ σ H Q s q => h Φ σ H _ s fun v H1 s1 => by
  have ⟨F, z⟩ := s1
  obtain ⟨a, ws, rfl, h1, h2⟩ := hx z z.fr.2
  refine ⟨a, ws, rfl, .inl (st_of h1), ?_⟩
  have s2 : Sat (Φ.andA (ds'.map dat) ws) ρ M1 σ H1 := ⟨F, z.ex, ⟨z.fr.1, DA.of_dat.mpr h2⟩, z.sl, z.nd, z.ce⟩
  exact hr _ σ H1 _ s2 fun vs H2 s3 => q _ _ (s3.weak (.of rfl fun F p => ⟨p.1.1, DA.append p.1.2 p.2⟩))
/-! ### xs[i] = v -/
theorem c_setL {xs : List VD} {k : Int} {j : Nat} (hv : Ev te ρ M x M1) (ho : Ev ta ρ M1 (val (.ref p)) M2) (hi : Ev tb ρ M2 (dat (.int k)) M3) (hj : ixN xs.length k = some j) (hp : Put p (cL xs) (cL (xs.set j x)) M3 M4) (kk : Cont D.nx Φ ρ M4) :
    Cont (tAsg te (gSub ta tb rSetL) D) Φ ρ M := fun σ H s => hv Φ σ H _ s fun v H1 s1 => ho _ σ H1 _ s1 fun w H2 s2 => hi _ σ H2 _ s2 fun u H3 s3 => by
  have ⟨F, z⟩ := s3
  have e1 : w = .ref p := z.fr.1.2
  cases z.fr.2
  subst e1
  obtain ⟨o, k1, k0, ws, rfl, k3⟩ := z.at hp.mem
  refine ⟨p, ws, k, j, rfl, rfl, k1, by rw [← Paired.length k3]; exact hj, kk σ _ ⟨F, ?_⟩⟩
  exact (z.put1 (o := .lst (ws.set j v)) hp k0 ⟨k0, _, rfl, DA.set z.fr.1.1.2 j k3⟩).weak (.of rfl fun F h => h.1.1.1)
theorem c_setLd {xs : List PyData} {d : PyData} {k : Int} {j : Nat} (hv : Ev te ρ M (dat d) M1) (ho : Ev ta ρ M1 (val (.ref p)) M2) (hi : Ev tb ρ M2 (dat (.int k)) M3) (hj : ixN xs.length k = some j) (hp : Put p (cLd xs) (cLd (xs.set j d)) M3 M4) (kk : Cont D.nx Φ ρ M4) :
    Cont (tAsg te (gSub ta tb rSetL) D) Φ ρ M := fun σ H s => hv Φ σ H _ s fun v H1 s1 => ho _ σ H1 _ s1 fun w H2 s2 => hi _ σ H2 _ s2 fun u H3 s3 => by
  have ⟨F, z⟩ := s3
  have e1 : w = .ref p := z.fr.1.2
  cases z.fr.2
  subst e1
  obtain ⟨o, k1, k0, ws, rfl, k3⟩ := z.at hp.mem
  refine ⟨p, ws, k, j, rfl, rfl, k1, by rw [k3.length]; exact hj, kk σ _ ⟨F, ?_⟩⟩
  have r : RpL F (ws.set j v) (xs.set j d) := by
    have := DA.set (d := dat d) z.fr.1.1.2 j (DA.of_dat.mpr k3)
    rw [← List.map_set] at this
    exact DA.of_dat.mp this
  exact (z.put1 (o := .lst (ws.set j v)) hp k0 ⟨k0, _, rfl, r⟩).weak (.of rfl fun F h => h.1.1.1)
theorem ed_starT {ds' es' : List PyData} (h : Ev te ρ M x M1) (hx : IsTup x M1 ds') (hr : EvD t ρ M1 es' M2) : EvD (tStar K te t) ρ M (ds' ++ es') M2 := by
  have := ea_starT (K := K) h hx hr
  rw [← List.map_append] at this
  exact this
/-! ### a dict with texts as keys -/
theorem valG_here {β : Type} {k : L2.Key} {y : β} {l : List (L2.Key × β)} : valG ((k, y) :: l) k = some y := by rw [valG_cons, if_pos rfl]
theorem ev_dgetS {td : TE} {kvs : List (L2.Key × VD)} {k : Str} (hd : Ev td ρ M x M1) (hk : Ev ty ρ M1 (dat (.str k)) M2) (h2 : IsDi x M2 kvs) (hv : valG kvs (.inr k) = some y) : Ev (tDGet td ty) ρ M y M2 := ev_dget (k := .inr k) hd hk h2 hv
theorem c_dputS {td : TE} {kvs kvs' : List (L2.Key × VD)} {k : Str} (hv : Ev tv ρ M x M1) (hd : Ev td ρ M1 (val (.ref p)) M2) (hk : Ev ty ρ M2 (dat (.str k)) M3) (hp : Put p (cD kvs) (cD kvs') M3 M4) (he : putG kvs (.inr k) x = kvs') (hl : kvs.length < sizeLine) (c : Cont D.nx Φ ρ M4) :
    Cont (sDPut td ty tv D) Φ ρ M := c_dput (k := .inr k) hv hd hk (he ▸ hp) hl c
/-! ### dict displays -/
theorem SatF.inN {F : Hp} {σ : L2.St} {H : Hp} {c : Addr × CD} (s : SatF F Φ ρ (c :: M) σ H) : SatF F (Φ.more c) ρ M σ H := by
  have hp : (M ++ (Φ.more c).N).Perm (c :: (M ++ Φ.N)) := List.perm_middle
  exact ⟨s.ex, s.fr, s.sl, (hp.map (·.1)).nodup_iff.mpr s.nd, fun d hd => s.ce d (hp.mem_iff.mp hd)⟩
theorem SatF.outN {F : Hp} {σ : L2.St} {H : Hp} {c : Addr × CD} (s : SatF F (Φ.more c) ρ M σ H) : SatF F Φ ρ (c :: M) σ H := by
  have hp : (M ++ (Φ.more c).N).Perm (c :: (M ++ Φ.N)) := List.perm_middle
  exact ⟨s.ex, s.fr, s.sl, (hp.map (·.1)).nodup_iff.mp s.nd, fun d hd => s.ce d (hp.mem_iff.mpr hd)⟩
def Fr.andP (Φ : Fr) (kvs : List (L2.Key × VD)) (ps : List (V × V)) : Fr := ⟨Φ.N, fun F => Φ.P F ∧ ∃ vs : List (L2.Key × V), ps = vs.map (fun kv => (kV kv.1, kv.2)) ∧ DP F kvs vs, fun e ⟨h, vs, h1, h2⟩ => ⟨Φ.mono e h, vs, h1, h2.mono e⟩⟩
def EvPs (trs : List (TE × TE)) (ρ : Env) (M : Cells) (kvs : List (L2.Key × VD)) (M' : Cells) : Prop := ∀ (Φ : Fr) (σ : L2.St) (H : Hp) (Q : List (V × V) → Hp → Prop), Sat Φ ρ M σ H → (∀ ps H', Sat (Φ.andP kvs ps) ρ M' σ H' → Q ps H') → tPairs trs σ H Q
theorem ep_nil : EvPs [] ρ M [] M := fun Φ σ H Q ⟨F, s⟩ q => q [] H ⟨F, s.ex, ⟨s.fr, [], rfl, .nil⟩, s.sl, s.nd, s.ce⟩
theorem ep_cons {trs : List (TE × TE)} {k : L2.Key} {kvs : List (L2.Key × VD)} (hk : Ev ta ρ M (dat (kD k)) M1) (hv : Ev tb ρ M1 x M2) (hr : EvPs trs ρ M2 kvs M3) : EvPs ((ta, tb) :: trs) ρ M ((k, x) :: kvs) M3 := fun Φ σ H Q s q =>
  hk Φ σ H _ s fun v H1 s1 => hv _ σ H1 _ s1 fun w H2 s2 => hr _ σ H2 _ s2 fun ps H3 s3 => q _ H3 (by
    have e : v = kV k := let ⟨F, z⟩ := s3; kv_of z.fr.1.1.2
    subst e
    exact s3.weak (.of rfl fun F h => ⟨h.1.1.1, let ⟨vs, h1, h2⟩ := h.2; ⟨(k, w) :: vs, by rw [h1]; rfl, .cons ⟨rfl, h.1.2⟩ h2⟩⟩))
theorem er_disp {trs : List (TE × TE)} {kvs : List (L2.Key × VD)} (h : EvPs trs ρ M kvs M1) (hl : kvs.length ≤ 15) : EvR (tDisp trs) ρ M fun y M' => ∃ p, y = val (.ref p) ∧ M' = (p, cD (mergeG [] kvs)) :: M1 := fun Φ σ H Q ⟨F, s⟩ q => fun p hp =>
  h (Φ.more (p, cD [])) σ _ _ ⟨F, (s.newC (c := cD []) (o := .dK []) hp fun e => ⟨e, [], rfl, .nil⟩).inN⟩ fun ps H2 ⟨F2, z⟩ => by
    obtain ⟨vs, e1, e2⟩ := z.fr.2
    have z1 : SatF F2 (Φ.more (p, cD [])) ρ M1 σ H2 := ⟨z.ex, z.fr.1, z.sl, z.nd, z.ce⟩
    have z2 := z1.outN
    obtain ⟨o, k1, k0, ws, rfl, k3⟩ := z2.at List.mem_cons_self
    cases k3
    refine ⟨k1, vs, e1, by rw [← e2.len]; exact hl, ?_⟩
    have z3 := z2.put1 (o := .dK (mergeK [] vs)) (c' := cD (mergeG [] kvs)) .here k0 ⟨k0, _, rfl, DP.merge e2 .nil⟩
    exact q _ _ _ _ ⟨p, rfl, rfl⟩ ⟨F2, z3.ex, ⟨z3.fr, rfl⟩, z3.sl, z3.nd, z3.ce⟩
/-! ### str(n) -/
abbrev rStrInt : List V → Hp → VK → Prop := fun xs H Q => ∃ i, xs = [.int i] ∧ i.natAbs.log2 < 1920 ∧ Q (.str (toString i)) H
theorem call_str_int' {X : Cx} : CallR X (.type "str") rStrInt := call_str_int
theorem rc_strI {i : Int} (h : i.natAbs.log2 < 1920) : RC rStrInt [dat (.int i)] M (dat (.str (toString i))) M := fun Φ ρ σ vs H Q ⟨F, s⟩ q => by
  obtain ⟨v, rfl, h1⟩ := rc1 (ds := []) s.fr.2
  cases h1
  exact ⟨i, rfl, h, q _ _ (Sat.ret (s.weak Le.andA) (.str _))⟩
end
end Sx

set_option Elab.async false
set_option linter.all false
set_option maxRecDepth 100000
set_option maxHeartbeats 2000000
/-! Sx10: tuples known to their object; dict(x) of pairs; dicts compared. -/
namespace L2
open PySem PySem.Spec PyProof.Rows
section
variable {X : Cx}
/-- a tuple display, known to its object -/
def tTupZ (t : TA) : TE := fun σ H Q => t σ H fun xs H1 => xs.length ≤ sizeLine ∧ ∀ p o, H1 p = none → o.dict = none → Q (.ref p) (upd H1 p (.frz o (.tup xs)))
theorem pe_tupZ {es : List Expr} {t : TA} {x1} {pos : Pos} (h : PA X es t) : PE X (.Tuple es x1 pos) (tTupZ t) := by
  refine ⟨fun pins s σ H Q I hq => ?_⟩
  refine wpAny_Tuple_spliced (thn (h.run pos pins s σ H _ I hq) fun us s1 ⟨xs, H1, I1, r, z, q⟩ => ⟨by rw [← r.length]; exact z, ?_⟩)
  have fresh : H1 s1.heap.objs.size = none := I1.hok.fresh (Nat.le_refl _)
  refine ⟨.ref s1.heap.objs.size, upd H1 s1.heap.objs.size (.frz { cls := .type "tuple", data := .seq us.toArray } (.tup xs)), I1.laid (t' := s1.toks) (fun b u e => Heap.get?_push_of_some _ e) (Nat.le_refl _) ?_, rfl, q _ _ fresh rfl⟩
  exact ⟨Heap.get?_push_size _ rfl, z, us, r, ⟨_, Heap.get?_push_size _ rfl, rfl, _, rfl⟩⟩
/-- tuple(xs) of a list, known to its object -/
def rTupZ (K : PySem.W.Frag) : List V → Hp → VK → Prop := fun xs H Q => ∃ p ys, xs = [.ref p] ∧ SqL K H p ys ∧ ∀ l o, H l = none → o.dict = none → Q (.ref l) (upd H l (.frz o (.tup ys)))
theorem call_tupZ : CallR X (.type "tuple") (rTupZ X.K) := by
  intro pins s σ H xs us Q I r h
  obtain ⟨p, ys, rfl, hq, q⟩ := h
  obtain ⟨u, rfl, rx⟩ := vals1 r
  cases rx
  obtain ⟨its, r', pl, hz⟩ := I.list hq
  have many := r'.length
  refine call_tuple_list pl.isList (fun h' kp => ?_) (by simp only [List.size_toArray] <;> omega)
  have J1 : Inv X pins σ H { s with heap := h' } := I.kept (t' := s.toks) kp
  have J2 : Inv X pins σ (upd H h'.objs.size (.frz { cls := .type "tuple", data := .seq its.toArray } (.tup ys))) { s with heap := h'.push { cls := .type "tuple", data := .seq its.toArray } } :=
    J1.laid (t' := s.toks) (fun b o e => Heap.get?_push_of_some _ e) (Nat.le_refl _) ⟨Heap.get?_push_size _ rfl, hz, its, r', IsTup.new _ _⟩
  exact ⟨.ref h'.objs.size, _, J2, rfl, q _ _ (J1.hok.fresh (Nat.le_refl _)) rfl⟩
/-- pairs in tuples that are laid -/
theorem pairs_laid {pins : List (Addr × Obj)} {σ : St} {H : Hp} {s : Shared} (I : Inv X pins σ H s) : ∀ {ps : List Addr} {kvs : List (Key × V)}, Paired (fun p kv => SqT X.K H p [kV kv.1, kv.2]) ps kvs →
    ∃ (prs : List (Key × Value)) (pv : List (Value × Value)), KV kvs prs ∧ prs.length = ps.length ∧ pv.length = ps.length ∧ ∀ (j : Nat) (b : Addr), ps[j]? = some b → ∃ k u y, prs[j]? = some (k, y) ∧ pv[j]? = some (u, y) ∧ IsTup s.heap b #[u, y] ∧ (mixKind X.prog X.w).is k u = true
  | _, _, .nil => ⟨[], [], .nil, rfl, rfl, fun j b e => by simp at e⟩
  | _, _, .cons (a := p) (b := kv) h t => by
    obtain ⟨prs, pv, r, l1, l2, hp⟩ := pairs_laid I t
    obtain ⟨its, rv, ht, _⟩ := I.tuple h
    obtain ⟨u, y, ei, ru, ry⟩ := vals2 rv
    subst ei
    refine ⟨(kv.1, y) :: prs, (u, y) :: pv, .cons ⟨rfl, ry⟩ r, by rw [List.length_cons, List.length_cons, l1], by rw [List.length_cons, List.length_cons, l2], fun j b e => ?_⟩
    cases j with
    | zero =>
      have e' : p = b := Option.some.inj e
      subst e'
      exact ⟨kv.1, u, y, rfl, rfl, ht, kV_is ru⟩
    | succ j =>
      obtain ⟨k, u', y', e1, e2, e3⟩ := hp j b (by simpa using e)
      exact ⟨k, u', y', by simpa using e1, by simpa using e2, e3⟩
/-- dict(xs): xs a list of pairs, or a tuple of pairs that is known to its object -/
def rDictP (K : PySem.W.Frag) : List V → Hp → VK → Prop := fun xs H Q => ∃ (a : Addr) (ps : List Addr) (kvs : List (Key × V)), xs = [.ref a] ∧ (SqL K H a (ps.map V.ref) ∨ ∃ o, H a = some (.frz o (.tup (ps.map V.ref))) ∧ o.dict = none) ∧
  Paired (fun p kv => SqT K H p [kV kv.1, kv.2]) ps kvs ∧ ∀ p, H p = none → Q (.ref p) (upd H p (.dK (mergeK [] kvs)))
theorem call_dictP' (hcalm : X.calm = true) : CallR X (.type "dict") (rDictP X.K) := by
  intro pins s σ H xs us Q I r h
  obtain ⟨a, ps, kvs, ex, hq, hp, q⟩ := h
  rcases hq with hq | ⟨o, hq, hod⟩
  · exact call_dictP hcalm pins s σ H xs us Q I r ⟨a, ps, kvs, ex, hq, hp, q⟩
  subst ex
  obtain ⟨u, eu, rx⟩ := vals1 r
  subst eu
  cases rx
  obtain ⟨ho, hz, its, rv, o', ho', hc, n, hdat⟩ := (show ObjOk X.prog X.w H s.heap a (.frz o (.tup (ps.map V.ref))) from I.hok a _ hq)
  rw [ho] at ho'
  cases ho'
  have ei := refs_at rv
  subst ei
  rw [List.length_map] at hz
  obtain ⟨prs, pv, rel, l1, l2, hpr⟩ := pairs_laid I hp
  have P := PySem.PairArg.tuple (prog := X.prog) (w := X.w) a (ps.map Value.ref).toArray (fun j => ps.getD j 0) pv
  refine PySem.call_dict_pairs (knd := mixKind X.prog X.w) (kvs := prs) P (I.ok.hd hcalm) ⟨⟨o, n, ho, hc, hod, hdat⟩, by simp [l2], fun j k v e => ?_⟩ ⟨by rw [l1, l2], fun i key v e => ?_⟩ (by rw [l2]; exact hz) fun h' tk hd' k => ?_
  · have hj : j < ps.length := by rw [← l2]; exact (List.getElem?_eq_some_iff.mp e).1
    obtain ⟨k', u, y, e1, e2, e3, _⟩ := hpr j ps[j] (List.getElem?_eq_getElem hj)
    rw [e2] at e
    obtain ⟨rfl, rfl⟩ := Prod.mk.inj (Option.some.inj e)
    refine ⟨by simp [hj, List.getD], .inl ?_⟩
    show s.heap.IsTuple (ps.getD j 0) _
    rw [show ps.getD j 0 = ps[j] by simp [List.getD, hj]]
    exact e3
  · have hj : i < ps.length := by rw [← l2]; exact (List.getElem?_eq_some_iff.mp e).1
    obtain ⟨k', u, y, e1, e2, _, e4⟩ := hpr i ps[i] (List.getElem?_eq_getElem hj)
    have e : pv[i]? = some (key, v) := e
    rw [e2] at e
    obtain ⟨rfl, rfl⟩ := Prod.mk.inj (Option.some.inj e)
    exact ⟨k', e1, e4⟩
  · have hm : (s.heap.objs.size == sysModules) = false := beq_eq_false_iff_ne.mpr (Nat.ne_of_gt I.big)
    have few : (mergeK [] kvs).length ≤ sizeLine := by
      refine Nat.le_trans (length_mergeK kvs []) ?_
      rw [List.length_nil, Nat.zero_add, rel.length, l1]
      exact hz
    exact ⟨.ref s.heap.objs.size, upd H s.heap.objs.size (.dK (mergeK [] kvs)), I.laid (t' := tk) (fun b o e => k b o (fun z => nomatch z) e) (Nat.le_refl _) (show ObjOk X.prog X.w _ _ _ (.dK (mergeK [] kvs)) from ⟨few, hm, merged [] prs, KV.merge rel .nil, hd'⟩), rfl, q _ (I.hok.fresh (Nat.le_refl _))⟩
/-- a != b of two dicts that say the same -/
def rNeDi : R2 := fun x y H Q => ∃ a b ks, x = .ref a ∧ y = .ref b ∧ H a = some (.dK ks) ∧ H b = some (.dK ks) ∧ (∀ p ∈ ks, flatB p.2 = true) ∧ Q (.bl false) H
theorem hits_alike {A : Around} {s : Shared} {vb : List (Key × Value)} : ∀ {ks : List (Key × V)} {va vb' : List (Key × Value)}, KV ks va → KV ks vb' → (∀ q ∈ vb', valueAt vb q.1 = some q.2) → (∀ p ∈ ks, flatB p.2 = true) → PySem.W.KeqHits A s vb va true
  | _, _, _, .nil, .nil, _, _ => .nil
  | _, _, _, .cons (b := q1) h1 t1, .cons (b := q2) h2 t2, hv, hf => by
    obtain ⟨k, v⟩ := q1
    obtain ⟨k2, v2⟩ := q2
    have e : k = k2 := h1.1.symm.trans h2.1
    subst e
    exact PySem.W.KeqHits.hit (e := true) (b := true) (hv _ List.mem_cons_self) (eqAt_same h1.2 h2.2 (hf _ List.mem_cons_self)) (hits_alike t1 t2 (fun q m => hv q (List.mem_cons_of_mem _ m)) fun p m => hf p (List.mem_cons_of_mem _ m))
theorem val_once : ∀ {vb : List (Key × Value)}, (vb.map (·.1)).Nodup → ∀ q ∈ vb, valueAt vb q.1 = some q.2
  | [], _, _, h => nomatch h
  | p :: r, hn, q, h => by
    rw [List.map_cons, List.nodup_cons] at hn
    unfold valueAt
    rw [List.find?_cons]
    rcases List.mem_cons.mp h with rfl | h
    · simp
    · have hne : ¬ p.1 = q.1 := fun e => hn.1 (e ▸ List.mem_map_of_mem h)
      simp only [hne, decide_false]
      exact val_once hn.2 q h
theorem op_neDi (hu : X.A.units + 64 < cLine) : OpR X (compareOp .NotEq) rNeDi := by
  intro pins s σ H x y v u Q I rx ry h
  obtain ⟨a, b, ks, rfl, rfl, ha, hb, hf, q⟩ := h
  cases (show v = Value.ref a from rx)
  cases (show u = Value.ref b from ry)
  obtain ⟨_, ya, va, ra, da⟩ := dk_of I.hok ha
  obtain ⟨_, yb, vb, rb, db⟩ := dk_of I.hok hb
  have hn : (vb.map (·.1)).Nodup := let ⟨_, _, _, _, _, _, _, _, z⟩ := db; z
  refine PySem.W.keq_ne (knd := mixKind X.prog X.w) (r := true) ya yb da db (by omega) (fun _ => hits_alike ra rb (val_once hn) hf) ?_
  have e : va.length = vb.length := by rw [← ra.length, ← rb.length]
  rw [show (!(va.length == vb.length && true)) = false by simp [e]]
  exact ⟨.bl false, H, I, rfl, q⟩
end
end L2
namespace Sx
open PySem L2 Evl
/-- a tuple of data, known to its object: it has no dict of its own -/
def vzt (ds : List PyData) : VD := ⟨fun F v => ∃ a o vs, v = .ref a ∧ F a = some (.frz o (.tup vs)) ∧ o.dict = none ∧ RpL F vs ds, fun e ⟨a, o, vs, h1, h2, h3, h4⟩ => ⟨a, o, vs, h1, e.pl _ _ h2 rfl, h3, h4.mono e⟩⟩
def encPr (p : L2.Key × PyData) : PyData := .tuple [kD p.1, p.2]
abbrev dKs (l : List (L2.Key × PyData)) : List (L2.Key × VD) := l.map fun p => (p.1, dat p.2)
def rNeW (K : PySem.W.Frag) : R2 := fun x y H Q => rNeU K x y H Q ∨ rNeDi x y H Q
theorem op_neW {X : Cx} (hu : X.A.units + 64 < cLine) : OpR X (compareOp .NotEq) (rNeW X.K) := (op_neU hu).or (op_neDi hu)
theorem pairs_rp {K : PySem.W.Frag} {F H : Hp} (ex : ∀ a u, F a = some u → H a = some u) : ∀ {l : List (L2.Key × PyData)} {vs : List V}, RpL F vs (l.map encPr) → ∃ (ps : List Addr) (kvs : List (L2.Key × V)), vs = ps.map V.ref ∧ Paired (fun p kv => SqT K H p [kV kv.1, kv.2]) ps kvs ∧ DP F (dKs l) kvs
  | [], _, .nil => ⟨[], [], rfl, .nil, .nil⟩
  | (k, d) :: l, _, .cons h t => by
    obtain ⟨ps, kvs, rfl, hp, hd⟩ := pairs_rp ex t
    cases h with
    | @tup a xs _ h1 h2 =>
      cases h2 with
      | cons g1 g2 =>
        cases g2 with
        | cons g3 g4 =>
          cases g4
          cases kv_of g1
          exact ⟨a :: ps, (k, _) :: kvs, rfl, .cons (.inl (.inl (ex _ _ h1))) hp, .cons ⟨rfl, g3⟩ hd⟩
section
variable {K : PySem.W.Frag} {ρ ρ' : Env} {M M1 M2 M' : Cells} {x y : VD} {te ta tb : TE} {t : TA} {Φ : Fr} {l : List (L2.Key × PyData)}
theorem rc_dicL : RC (rDictP K) [dat (.list (l.map encPr))] M (vdi (mergeG [] (dKs l))) M := fun Φ ρ σ vs H Q ⟨F, s⟩ q => by
  obtain ⟨v, rfl, h1⟩ := rc1 (ds := []) s.fr.2
  cases h1 with
  | @lst a xs _ g1 g2 =>
    obtain ⟨ps, kvs, rfl, hp, hd⟩ := pairs_rp (K := K) s.ex g2
    exact ⟨a, ps, kvs, rfl, .inl (sq_of (s.ex _ _ g1)), hp, fun p hp' => q _ _ (Sat.retNew s.base1 hp' fun F' fx e => ⟨p, _, rfl, e, (hd.merge .nil).mono fx⟩)⟩
theorem rc_dicZ : RC (rDictP K) [vzt (l.map encPr)] M (vdi (mergeG [] (dKs l))) M := fun Φ ρ σ vs H Q ⟨F, s⟩ q => by
  obtain ⟨v, rfl, a, o, xs, rfl, g1, g3, g2⟩ := rc1 (ds := []) s.fr.2
  obtain ⟨ps, kvs, rfl, hp, hd⟩ := pairs_rp (K := K) s.ex g2
  exact ⟨a, ps, kvs, rfl, .inr ⟨o, s.ex _ _ g1, g3⟩, hp, fun p hp' => q _ _ (Sat.retNew s.base1 hp' fun F' fx e => ⟨p, _, rfl, e, (hd.merge .nil).mono fx⟩)⟩
theorem rc_lstZ {ds : List PyData} : RC (rLstOf K) [vzt ds] M (dat (.list ds)) M := fun Φ ρ σ vs H Q ⟨F, s⟩ q => by
  obtain ⟨v, rfl, a, o, xs, rfl, g1, g3, g2⟩ := rc1 (ds := []) s.fr.2
  exact ⟨a, xs, rfl, .inr (.inl (.inr ⟨o, s.ex _ _ g1⟩)), fun l hl => q _ _ (Sat.retNew s.base1 hl fun F' fx e => .lst e (g2.mono fx))⟩
theorem rc_tupZ {ds : List PyData} (hx : IsLst x M ds) : RC (rTupZ K) [x] M (vzt ds) M := fun Φ ρ σ vs H Q ⟨F, s⟩ q => by
  obtain ⟨v, rfl, h1⟩ := rc1 (ds := []) s.fr.2
  obtain ⟨a, ws, rfl, h2, h3⟩ := hx s h1
  exact ⟨a, ws, rfl, sq_of h2, fun l o hl ho => q _ _ (Sat.retNew s.base1 hl fun F' fx e => ⟨l, o, ws, rfl, e, ho, h3.mono fx⟩)⟩
theorem ev_tupZ {ds : List PyData} (h : EvD t ρ M ds M1) (hl : ds.length ≤ sizeLine) : Ev (tTupZ t) ρ M (vzt ds) M1 := fun Φ σ H Q s q => h Φ σ H _ s fun vs H1 ⟨F, s1⟩ => by
  have hr := DA.of_dat.mp s1.fr.2
  refine ⟨by rw [hr.length]; exact hl, fun p o hp ho => ?_⟩
  obtain ⟨s2, fx⟩ := s1.new (o := .frz o (.tup vs)) hp
  exact q _ _ ⟨_, s2.ex, ⟨s2.fr.1, p, o, vs, rfl, upd_same, ho, hr.mono fx⟩, s2.sl, s2.nd, s2.ce⟩
theorem rv_neDi {ks : List (L2.Key × Int)} : RV (rNeW K) (vdi (dKs (ks.map fun p => (p.1, .int p.2)))) (vdi (dKs (ks.map fun p => (p.1, .int p.2)))) M (dat (.bool false)) M := fun Φ ρ σ v w H Q ⟨F, s⟩ q => by
  obtain ⟨a, va, rfl, e1, d1⟩ := s.fr.1.2
  obtain ⟨b, vb, rfl, e2, d2⟩ := s.fr.2
  have hz : ∀ {ks : List (L2.Key × Int)} {va : List (L2.Key × V)}, DP F (dKs (ks.map fun p => (p.1, .int p.2))) va → va = ks.map fun p => (p.1, V.int p.2) := by
    intro ks
    induction ks with
    | nil => intro va h; cases h; rfl
    | cons p r ih =>
      intro va h
      cases h with
      | cons h t =>
        rename_i b l
        obtain ⟨k, v⟩ := b
        obtain ⟨g1, g2⟩ := h
        cases g1
        cases g2
        rw [ih t]
        rfl
  have q1 := hz d1
  have q2 := hz d2
  subst q1
  subst q2
  refine .inr ⟨a, b, _, rfl, rfl, s.ex _ _ e1, s.ex _ _ e2, fun p hp => ?_, q _ _ (Sat.ret s.base (.bl _))⟩
  obtain ⟨r, _, rfl⟩ := List.mem_map.mp hp
  rfl
theorem rc_tupZv {ds : List PyData} : RC (rTupZ K) [vlst (ds.map dat)] M (vzt ds) M := fun Φ ρ σ vs H Q s q => rc_tupZ (isl_dat (ds := ds)) Φ ρ σ vs H Q (s.weak (.of rfl fun F h => by
  obtain ⟨v, rfl, h1⟩ := rc1 (ds := []) h.2
  exact ⟨h.1, .cons (vlst_dat.mp h1) .nil⟩)) q
/-- an expression with one outcome, told with others -/
theorem Ev.er {P : VD → Cells → Prop} (h : Ev te ρ M x M') (hp : P x M') : EvR te ρ M P := fun Φ σ H Q s q => h Φ σ H Q s fun v H' s' => q x M' v H' hp s'
theorem er_cb {r : List V → Hp → VK → Prop} {P : VD → Cells → Prop} (h : EvAR t ρ M fun ds M1 => ∃ z M2, RC r ds M1 z M2 ∧ P z M2) : EvR (tCB r t) ρ M P := fun Φ σ H Q s q => h Φ σ H _ s fun ds M1 vs H1 ⟨z, M2, hr, hp⟩ s1 => hr Φ ρ σ vs H1 Q s1 fun w H2 s2 => q z M2 w H2 hp s2
theorem er_op {r : R2} {P Pa : VD → Cells → Prop} (ha : EvR ta ρ M Pa) (hb : ∀ x M1, Pa x M1 → EvR tb ρ M1 fun y M2 => ∃ z M3, RV r x y M2 z M3 ∧ P z M3) : EvR (tOp r ta tb) ρ M P := fun Φ σ H Q s q =>
  ha Φ σ H _ s fun x M1 v H1 hx s1 => hb x M1 hx _ σ H1 _ s1 fun y M2 w H2 ⟨z, M3, hr, hp⟩ s2 => hr Φ ρ σ v w H2 Q s2 fun u H3 s3 => q z M3 u H3 hp s3
/-- i, j = .., several outcomes -/
theorem c_parR {D : Ends} {P : List VD → Cells → Prop} {i j : Nat} (h : EvAR t ρ M P) (k : ∀ ds M1, P ds M1 → ∃ x y ρ1 ρ2, ds = [x, y] ∧ SetAt x ρ i ρ1 ∧ SetAt y ρ1 j ρ2 ∧ Cont D.nx Φ ρ2 M1) : Cont (tPar i j t D) Φ ρ M := fun σ H s => h Φ σ H _ s fun ds M1 vs H1 hp s1 => by
  obtain ⟨x, y, ρ1, ρ2, rfl, h1, h2, kk⟩ := k ds M1 hp
  have ⟨F, s0⟩ := s1
  obtain ⟨v, w, rfl, q1, q2⟩ := rc2 s0.fr.2
  refine ⟨v, w, rfl, kk _ _ ?_⟩
  have s2 : Sat ((Φ.and y w).and x v) ρ M1 σ H1 := s1.weak (.of rfl fun F h => by
    obtain ⟨v', w', e, q1, q2⟩ := rc2 h.2
    cases e
    exact ⟨⟨h.1, q2⟩, q1⟩)
  exact (s2.asg h1).asg h2
theorem c_par3R {D : Ends} {P : List VD → Cells → Prop} {i j l : Nat} (h : EvAR t ρ M P) (k : ∀ ds M1, P ds M1 → ∃ x y z ρ1 ρ2 ρ3, ds = [x, y, z] ∧ SetAt x ρ i ρ1 ∧ SetAt y ρ1 j ρ2 ∧ SetAt z ρ2 l ρ3 ∧ Cont D.nx Φ ρ3 M1) : Cont (tPar3 i j l t D) Φ ρ M := fun σ H s => h Φ σ H _ s fun ds M1 vs H1 hp s1 => by
  obtain ⟨x, y, z, ρ1, ρ2, ρ3, rfl, h1, h2, h3, kk⟩ := k ds M1 hp
  have ⟨F, s0⟩ := s1
  obtain ⟨v, w, u', rfl⟩ : ∃ a b c, vs = [a, b, c] := by
    have e := Paired.length s0.fr.2
    match vs, e with
    | [a, b, c], _ => exact ⟨a, b, c, rfl⟩
  refine ⟨v, w, u', rfl, kk _ _ ?_⟩
  have s2 : Sat (((Φ.and z u').and y w).and x v) ρ M1 σ H1 := s1.weak (.of rfl fun F h => by
    cases h.2 with
    | cons q1 q2 =>
      cases q2 with
      | cons q3 q4 =>
        cases q4 with
        | cons q5 q6 => exact ⟨⟨⟨h.1, q5⟩, q3⟩, q1⟩)
  exact ((s2.asg h1).asg h2).asg h3
end
end Sx

set_option Elab.async false
set_option linter.all false
set_option maxRecDepth 100000
set_option maxHeartbeats 2000000
/-! Sx11: cells told anew, frozen in a slot; comprehensions that give a list of one's own; max of a tuple. -/
namespace Sx
open PySem L2 Evl
section
variable {K : PySem.W.Frag} {ρ ρ' : Env} {M M1 M2 M' : Cells} {x y : VD} {te ta tb : TE} {t : TA} {Φ : Fr} {p : Addr}
theorem Sat.cell {c c' : CD} {σ : L2.St} {H : Hp} (h : ∀ F p o, c.P F p o → c'.P F p o) (s : Sat Φ ρ ((p, c) :: M) σ H) : Sat Φ ρ ((p, c') :: M) σ H := let ⟨F, s⟩ := s
  ⟨F, s.ex, s.fr, s.sl, s.nd, fun d hd => by
    rcases List.mem_cons.mp hd with rfl | hd
    · obtain ⟨o, h1, h2⟩ := s.ce (p, c) List.mem_cons_self
      exact ⟨o, h1, h _ _ _ h2⟩
    · exact s.ce d (List.mem_cons_of_mem _ hd)⟩
/-- a cell told in another way -/
theorem c_cell {k : L2.St → Hp → Prop} {c c' : CD} (h : ∀ F p o, c.P F p o → c'.P F p o) (kk : Cont k Φ ρ ((p, c') :: M)) : Cont k Φ ρ ((p, c) :: M) := fun σ H s => kk σ H (s.cell h)
theorem cLd_cL {ds : List PyData} : ∀ F p o, (cLd ds).P F p o → (cL (ds.map dat)).P F p o := fun F p o ⟨h0, vs, h1, h2⟩ => ⟨h0, vs, h1, DA.of_dat.mpr h2⟩
theorem cL_cLd {ds : List PyData} : ∀ F p o, (cL (ds.map dat)).P F p o → (cLd ds).P F p o := fun F p o ⟨h0, vs, h1, h2⟩ => ⟨h0, vs, h1, DA.of_dat.mp h2⟩
/-- a list of one's own that stands in a slot, and is not changed any more -/
theorem c_frz {k : L2.St → Hp → Prop} {i : Nat} {ds : List PyData} (hi : At (val (.ref p)) ρ i) (hs : SetAt (dat (.list ds)) ρ i ρ') (kk : Cont k Φ ρ' M) : Cont k Φ ρ ((p, cLd ds) :: M) := fun σ H s => by
  have ⟨F0, s0⟩ := s.cell (c' := cL (ds.map dat)) cLd_cL
  obtain ⟨F, z⟩ := SatF.freeze s0.inN
  have e : σ[i]? = some (some (.ref p)) := by
    obtain ⟨v, h1, h2⟩ := s0.sl.2 i _ hi.get
    rw [h1, show v = .ref p from h2]
  refine kk σ H ⟨F, z.ex, z.fr.1, ?_, z.nd, z.ce⟩
  have q := z.sl.set (i := i) (x := dat (.list ds)) (v := .ref p) (vlst_dat.mp z.fr.2)
  rw [← hs.eq] at q
  have hσ : σ.set i (some (.ref p)) = σ := by
    apply List.ext_getElem?
    intro j
    rw [List.getElem?_set]
    by_cases h : i = j
    · subst h
      rw [if_pos rfl, if_pos (List.getElem?_eq_some_iff.mp e).1, e]
    · rw [if_neg h]
  rw [hσ] at q
  exact q
/-- a comprehension that gives a list of one's own -/
theorem er_lcC {wi : TI} {g : TG} {tt : TT} {vs : List Nat} {its : List VD} (h : EvI wi ρ M its M1) (I : Nat → List VD → Cells → Prop) (h0 : I 0 [] M1) (hl : its.length ≤ 16000000)
    (hI : ∀ i acc M', I i acc M' → acc.length ≤ i)
    (hs : ∀ (i : Nat) d acc M', its[i]? = some d → I i acc M' → ∃ ρ'' js b M2, Tgt g js d (wipeE ρ vs) ρ'' ∧ (∀ i ∈ js, i ∈ vs) ∧ EvT tt ρ'' M' b M2 ∧ (b = true → EvR te ρ'' M2 fun y M3 => I (i + 1) (acc ++ [y]) M3) ∧ (b = false → I (i + 1) acc M2)) :
    EvR (tLc wi g tt te vs) ρ M fun y M' => ∃ acc D M'', y = val (.ref D) ∧ I its.length acc M'' ∧ M' = (D, cL acc) :: M'' := fun Φ σ H Q s q => h Φ σ H _ s fun J H1 Ψ l s1 ⟨G, Y, w, hG, hY⟩ => fun Dl hD => by
  have ⟨F1, s2⟩ := s1
  have lm : ∀ c, Le (Ψ.more c) Ψ := fun c => Le.more
  let Ψ0 : Fr := Ψ.slots σ ρ
  refine lc_it w (fun i H' => ∃ acc M', I i acc M' ∧ Sat (Ψ0.more (Dl, cL acc)) (wipeE ρ vs) M' (L2.wipe σ vs) H') ⟨[], M1, h0, ?_⟩ (fun i H' _ ⟨acc, M', _, s'⟩ => hG _ _ _ _ _ (Le.trans Le.more Le.slots) s') (fun i x H' H2 hi ⟨acc, M', j, s'⟩ y => ?_) (fun H' ⟨acc, M', j, s'⟩ => ?_)
  · have s3 := s2.newC (c := cL []) (o := .lst []) hD fun e => ⟨e, [], rfl, .nil⟩
    refine ⟨F1, s3.ex, ⟨s3.fr, s3.sl⟩, s3.sl.wipes vs, ?_, fun c hc => ?_⟩
    · have hp : (M1 ++ (Ψ0.more (Dl, cL [])).N).Perm ((Dl, cL []) :: M1 ++ Ψ.N) := List.perm_middle
      exact (hp.map (·.1)).nodup_iff.mpr s3.nd
    · have hp : (M1 ++ (Ψ0.more (Dl, cL [])).N).Perm ((Dl, cL []) :: M1 ++ Ψ.N) := List.perm_middle
      exact s3.ce c (hp.mem_iff.mp hc)
  · have hi' : its[i]? = some its[i] := by simp [hi]
    obtain ⟨ρ'', js, b, M2, hg, hj, ht, h1, h2⟩ := hs i its[i] acc M' hi' j
    have s3 := hY i its[i] x H' H2 _ _ _ _ hi' (Le.trans Le.more Le.slots) s' y
    refine hg _ M' x _ H2 _ s3 fun σ2 k1 k2 s4 => ⟨wipe_eq k1 k2 hj, ht _ σ2 H2 _ s4 fun H3 s5 => ?_⟩
    have back : ∀ {Φ' : Fr} {acc' : List VD} {M' : Cells} {H' : Hp} {σ3 : L2.St} {ρ3 : Env}, Sat (Ψ0.more (Dl, cL acc')) ρ3 M' σ3 H' → Sat (Ψ0.more (Dl, cL acc')) (wipeE ρ vs) M' (L2.wipe σ vs) H' := fun {_ _ _ _ _ _} ⟨F, z⟩ => ⟨F, z.ex, z.fr, z.fr.2.wipes vs, z.nd, z.ce⟩
    cases b with
    | false =>
      rw [if_neg Bool.false_ne_true]
      exact ⟨acc, M2, h2 rfl, back (Φ' := Ψ) s5⟩
    | true =>
      rw [if_pos rfl]
      refine h1 rfl _ σ2 H3 _ s5 fun y M3 v H4 j4 s6 => ?_
      have ⟨F, s7⟩ := s6
      obtain ⟨o, e1, e0, ws, rfl, e3⟩ := s7.ce (Dl, cL acc) (List.mem_append_right _ List.mem_cons_self)
      refine ⟨ws, e1, ?_, acc ++ [y], M3, j4, back (Φ' := Ψ) (σ3 := σ2) (ρ3 := ρ'') ⟨F, ?_⟩⟩
      · rw [← Paired.length e3]
        have := hI i acc M' j
        have hz : sizeLine = 16777216 := sizeLine_eq
        omega
      · exact s7.put (Φ' := Ψ0.more (Dl, cL (acc ++ [y]))) (c := cL acc) (Put.behind .here M3) s7.fr.1 e0 ⟨e0, _, rfl, e3.append (.cons s7.fr.2 .nil)⟩
  · have ⟨F, s3⟩ := s'
    have s4 : SatF F (Ψ0.more (Dl, cL acc)) ρ M' σ H' := ⟨s3.ex, s3.fr, s3.fr.2, s3.nd, s3.ce⟩
    refine q (val (.ref Dl)) _ (.ref Dl) H' ⟨acc, Dl, M', rfl, j, rfl⟩ ⟨F, ?_⟩
    exact s4.outN.weak ⟨by show Φ.N.Sublist Ψ.N; exact l.n, fun F h => ⟨l.p F h.1, rfl⟩⟩
/-- data for each item that is let by, nothing else changes: a list of one's own -/
theorem er_lcCd {α : Type} {wi : TI} {g : TG} {tt : TT} {vs : List Nat} {e : α → VD} {xs : List α} {f : α → Bool} {r : α → PyData} (h : EvI wi ρ M (xs.map e) M1) (hl : xs.length ≤ 16000000)
    (hs : ∀ a, a ∈ xs → ∃ ρ'' js, Tgt g js (e a) (wipeE ρ vs) ρ'' ∧ (∀ i ∈ js, i ∈ vs) ∧ EvT tt ρ'' M1 (f a) M1 ∧ (f a = true → Ev te ρ'' M1 (dat (r a)) M1)) : EvR (tLc wi g tt te vs) ρ M fun y M' => ∃ D, y = val (.ref D) ∧ M' = (D, cLd ((xs.filter f).map r)) :: M1 := by
  have z := er_lcC (te := te) (g := g) (tt := tt) (vs := vs) h (fun i acc M' => M' = M1 ∧ acc = (((xs.take i).filter f).map r).map dat) ⟨rfl, rfl⟩ (by rw [List.length_map]; exact hl) (fun i acc M' ⟨_, e⟩ => by
    subst e
    rw [List.length_map, List.length_map]
    exact Nat.le_trans (List.length_filter_le _ _) (by rw [List.length_take]; omega)) fun i d acc M' hi ⟨e1, e2⟩ => by
    subst e1; subst e2
    rw [List.getElem?_map] at hi
    cases q : xs[i]? with
    | none => rw [q] at hi; cases hi
    | some a =>
      rw [q] at hi
      cases hi
      have htk : xs.take (i + 1) = xs.take i ++ [a] := by rw [List.take_succ, q]; rfl
      obtain ⟨ρ'', js, h1, hj, h2, h3⟩ := hs a (List.mem_of_getElem? q)
      refine ⟨ρ'', js, f a, M', h1, hj, h2, fun hf => (EvR.of (h3 hf)).imp fun y M3 ⟨z1, z2⟩ => ?_, fun hf => ⟨rfl, ?_⟩⟩
      · subst z1; subst z2
        refine ⟨rfl, ?_⟩
        rw [htk, List.filter_append, List.map_append, List.map_append, List.filter_cons_of_pos hf]
        rfl
      · rw [htk, List.filter_append, List.map_append, List.map_append, List.filter_cons_of_neg (by rw [hf]; exact Bool.false_ne_true)]
        simp
  intro Φ σ H Q s q
  refine z Φ σ H Q s fun y M' v H' ⟨acc, D, M'', e0, ⟨e1, e2⟩, e3⟩ s' => ?_
  subst e0; subst e1; subst e3
  rw [List.length_map, List.take_length] at e2
  subst e2
  exact q _ _ v H' ⟨D, rfl, rfl⟩ (s'.cell cL_cLd)
end
end Sx

set_option Elab.async false
set_option linter.all false
set_option maxRecDepth 100000
set_option maxHeartbeats 2000000
/-! Sx12: o.f += int; a list of one's own frozen in a field; exceptions, the cells in another order; sequences of data let by a comprehension. -/
namespace L2
open PySem PySem.Spec PyProof.Rows
/-- max(t), a tuple of ints -/
def rMaxT (K : PySem.W.Frag) : List V → Hp → VK → Prop := fun xs H Q => ∃ (a : Addr) (n : Int) (ns : List Int), xs = [.ref a] ∧ SqT K H a ((n :: ns).map V.int) ∧ Q (.int (ns.foldl max n)) H
theorem maxOf_int (n : Int) (ns : List Int) : PySem.W.maxOf n ns = ns.foldl max n := by
  unfold PySem.W.maxOf
  congr 1
  funext a y
  show (if decide (a < y) = true then y else a) = max a y
  by_cases h : a < y
  · rw [if_pos (decide_eq_true h)]; omega
  · rw [if_neg (by simpa using h)]; omega
theorem cr_maxT {X : Cx} (hc : X.calm = true) (hu : X.A.units + 64 < cLine) : CallR X (.builtin "max") (rMaxT X.K) := by
  intro pins s σ H vs us Q I r h
  obtain ⟨a, n, ns, rfl, hs, q⟩ := h
  obtain ⟨its, rv, hl, _⟩ := I.tuple hs
  rw [Vals.ref1 r]
  obtain ⟨as, hr⟩ := Dp.readsAll I _ _ its (Sx.dpAll_ints (n :: ns)) rv
  refine PySem.W.max_tuple_datum (α := Int) (x := n) (xs := ns) (I.ok.hd hc) hl ⟨as, hr⟩ (by show X.A.units + 1 + 0 < cLine; omega) fun i v h' tk hi hh hk => ?_
  obtain ⟨bs, hb⟩ := hh
  rw [maxOf_int] at hb
  cases hb
  exact ⟨.int _, H, I.kept hk, ⟨_, rfl⟩, q⟩
end L2
namespace Sx
open PySem L2 Evl
section
variable {K : PySem.W.Frag} {ρ ρ' : Env} {M M1 M2 M' : Cells} {x y : VD} {te ta tb tv : TE} {t : TA} {Φ : Fr} {p q C : Addr} {f : Str} {ns nn : List Str} {xs xs' : List VD} {D : Ends}
/-- o.f += j -/
theorem c_fldAug {i j : Int} (ho : Ev ta ρ M (val (.ref p)) M) (hm : (p, cI C ns xs) ∈ M) (hg : FGet f (dat (.int i)) ns xs) (hv : Ev tv ρ M (dat (.int j)) M) (h : Put p (cI C ns xs) (cI C ns xs') M M') (g : FPut f (dat (.int (i + j))) ns xs ns xs') (c : ClsF K C nn) (hf : f ∈ nn) (hl : ns.length < 1000) (k : Cont D.nx Φ ρ M') :
    Cont (sFldAug K ta tv rAdd f D) Φ ρ M := fun σ H s => ho Φ σ H _ s fun w H1 s1 => by
  have ⟨F, z⟩ := s1
  have e : w = .ref p := z.fr.2
  subst e
  obtain ⟨o, h1, h0, dx, fs, rfl, h3⟩ := z.at hm
  obtain ⟨v, h4, h5⟩ := hg.look h3
  cases h5
  refine ⟨p, C, dx, fs, _, rfl, h1, c.cl, c.no f hf, h4, hv _ σ H1 _ s1 fun u H2 s2 => ?_⟩
  have ⟨F2, z2⟩ := s2
  cases z2.fr.2
  obtain ⟨o2, k1, k0, dx2, fs2, rfl, k3⟩ := z2.at h.mem
  refine ⟨i, j, rfl, rfl, dx2, fs2, k1, by rw [k3.len]; exact hl, k σ _ ⟨F2, ?_⟩⟩
  exact (z2.put1 (o := .ins C dx2 (putF f (.int (i + j)) fs2)) h k0 ⟨k0, dx2, _, rfl, g.put (y := dat (.int (i + j))) (Rp.int _) k3⟩).weak (.of rfl fun F h => h.1.1)
theorem DA.setL {F : Hp} {d : VD} {v : V} (hd : d.P F v) : ∀ {ds : List VD} {vs : List V} {i : Nat}, DA F ds vs → vs[i]? = some v → DA F (ds.set i d) vs
  | _, _, _, .nil, h => by simp at h
  | _, _, 0, .cons h t, e => by
    cases Option.some.inj e
    exact .cons hd t
  | _, _, i + 1, .cons h t, e => .cons h (DA.setL hd t (by simpa using e))
/-- a list of one's own that stands in a field, and is not changed any more -/
theorem c_frzI {k : L2.St → Hp → Prop} {i : Nat} {ds : List PyData} (hi : xs[i]? = some (val (.ref q))) (kk : Cont k Φ ρ ((p, cI C ns (xs.set i (dat (.list ds)))) :: M)) : Cont k Φ ρ ((q, cLd ds) :: (p, cI C ns xs) :: M) := fun σ H s => by
  have ⟨F0, s0⟩ := s.cell (c' := cL (ds.map dat)) cLd_cL
  obtain ⟨F, z⟩ := SatF.freeze s0.inN
  refine kk σ H ⟨F, z.ex, z.fr.1, z.sl, z.nd, fun c hc => ?_⟩
  rcases List.mem_cons.mp hc with rfl | hc
  · obtain ⟨o, h1, h0, dx, fs, rfl, h2, h3⟩ := z.ce (p, cI C ns xs) List.mem_cons_self
    refine ⟨_, h1, h0, dx, fs, rfl, h2, ?_⟩
    obtain ⟨v, k1, k2⟩ := h3.get hi
    have e : v = .ref q := k2
    subst e
    exact DA.setL (vlst_dat.mp z.fr.2) h3 k1
  · exact z.ce c (List.mem_cons_of_mem _ hc)
theorem RtX.up {W : WX} {PE : Addr → Str → VD → Cells → Prop} (h : RtX W Φ (fun _ => PE)) : RtX W Φ (fun _ C f y N => ∃ N', N.Perm N' ∧ PE C f y N') := fun Φ' ρ σ C f y dd M H l ⟨N', h1, h2⟩ s => h Φ' ρ σ C f y dd N' H l h2 (s.perm (h1.cons _))
theorem rc_maxT {i j : Int} : RC (rMaxT K) [dat (.tuple [.int i, .int j])] M (dat (.int (max i j))) M := fun Φ ρ σ vs H Q ⟨F, s⟩ q => by
  obtain ⟨v, rfl, h1⟩ := rc1 (ds := []) s.fr.2
  cases h1 with
  | @tup a xs _ g1 g2 =>
    cases g2 with
    | cons q1 q2 =>
      cases q1
      cases q2 with
      | cons q3 q4 =>
        cases q3
        cases q4
        exact ⟨a, i, [j], rfl, .inl (.inl (s.ex _ _ g1)), q _ _ (Sat.ret (s.weak Le.andA) (.int _))⟩
theorem ei_lcM {α : Type} {r : α → PyData} {xs : List α} {te : TE} (h : Ev te ρ M (dat (.list (xs.map r))) M1) : EvI (iSeq K te) ρ M (xs.map fun a => dat (r a)) M1 := ei_seqLM h
end
end Sx

set_option Elab.async false
set_option linter.all false
set_option maxRecDepth 100000
set_option maxHeartbeats 2000000
namespace PySem
/-! ### the own exception BadName: its __init__ says super().__init__(..) and keeps name -/
namespace XeBadName
open PySem.W PySem.Calls PyProof.Rows PySem.HandSPX PySem.ESX
def iA : Arguments := { posonlyargs := [], args := [{ arg := "self", annotation := none, pos := ⟨33, 17, 33, 21⟩ }, { arg := "name", annotation := none, pos := ⟨33, 23, 33, 27⟩ }], vararg := none, kwonlyargs := [], kw_defaults := [], kwarg := none, defaults := [] }
def iB : List Stmt := [.Expr (.Call (.Attribute (.Call (.Name "super" ⟨34, 8, 34, 13⟩) [] [] ⟨34, 8, 34, 15⟩) "__init__" ⟨34, 8, 34, 24⟩) [.Constant (.str "a bad name") 0 ⟨34, 25, 34, 37⟩] [] ⟨34, 8, 34, 38⟩) ⟨34, 8, 34, 38⟩, .Assign [.Attribute (.Name "self" ⟨35, 8, 35, 12⟩) "name" ⟨35, 8, 35, 17⟩] (.Name "name" ⟨35, 20, 35, 24⟩) ⟨35, 8, 35, 24⟩]
def iS : Scope := { kind := .function, names := [(PySem.Str.ofString "self", .local), (PySem.Str.ofString "name", .local), (PySem.Str.ofString "__class__", .free), (PySem.Str.ofString "super", .globalImplicit)], isGenerator := false, isCoroutine := false, more := [] }
/-- what the written part says of the class, at C (over the one at D), and of its __init__, at fI -/
structure Txt (P : Program) (K : Frag) (mg : Str → Option Value) (C D fI : Addr) : Prop where
  gC : mg "BadName" = some (.ref C)
  cls : ∃ nm q N bs sn sub ab col dd k0 k1 k2 k3 k5, K.lookup C = some (excClassObj nm q C N bs (.ref D :: exTail) true sn sub ab col dd k0 k1 k2 k3 k5 "Exception.__new__")
  sa : findIn K (.ref C) "__setattr__" = some (some (.builtin "object.__setattr__"))
  xf : L2.XfC K C
  noN : findIn K (.ref C) "name" = some none
  iC : findIn K (.ref C) "__init__" = some (some (.ref fI))
  tC : typeIn K (.ref fI) = some (.type "function")
  kC : keepIn K (.ref C) = true
  exC : subIn K (.ref C) (.type "BaseException") = some true
  tyC : typeIn K (.ref C) = some (.type "type")
  te : exmOne K (.ref C) (.ref C) = some true
  sup : mg "super" = none
  opq : nsIn K cStatics "thirdparty.any" = some none
  al : ks_superIn K C C "__init__" = some (some (.builtin "Exception.__init__"))
  top : (P.main.scope.names.lookup ("super" : Str)).isSome = false
  fn : ∃ (oc : Value) (od : Option Addr) (doc pm : Value) (an : Option Addr) (cda cc : Addr) (ct : Value) (osl : Array (Option Value)) (cl : Value) (cld : Option Addr) (csl : Array (Option Value)) (ccl : Value) (cdd : Option Addr) (vs : Array Value) (ccs : Array (Option Value)) (file : Str) (tf : Tok),
    K.lookup fI = some ⟨oc, od, .func (ksFn "__init__" "BadName.__init__" iA iB iS .none .none doc pm an (.ref cda) ct cc), osl⟩ ∧ codeIn K (.ref cda) "BadName.__init__" = true ∧
    K.lookup cc = some ⟨cl, cld, .cell (some (.ref C)), csl⟩ ∧ K.lookup cda = some ⟨ccl, cdd, .fields vs, ccs⟩ ∧ vs[2]? = some (.str file tf) ∧ ((P.main.file : Str) == file) = true
/-- what __init__ leaves of a fresh exception at x -/
structure InitEnd (h h' : Heap) (x C dx t1 : Addr) (v : Value) : Prop where
  keep : ∀ b o, b ≠ x → h.get? b = some o → h'.get? b = some o
  obj : h'.get? x = some { cls := .ref C, dict := some dx, data := .fields #[.ref t1, .none, .none, .none, .bool false, .none] }
  dbig : h.objs.size ≤ dx
  dne : dx ≠ x
  ns : h'.Ns1 dx (fun y => if y = "name" then some v else none)
section
variable {prog : Program} {w : World} {A : Around} {E : Value → Shared → Prop} {R : Result → Shared → Prop} {s : Shared} {K : Frag} {mg : Str → Option Value} {C D fI : Addr}
theorem own_init (T : Txt prog K mg C D fI) {x t0 : Addr} {v : Value} (M0 : L2.Mod K mg s.heap) (hx : s.heap.get? x = some (excO C t0)) (hnx : K.lookup x = none) (hroom : A.depth < recursionLimit)
    (hq : ∀ h' tk dx t1, InitEnd s.heap h' x C dx t1 v → R (.ok (.ret .none)) { s with heap := h', toks := tk }) :
    codeAny (model prog w) A (.call (.ref fI) ⟨[.ref x, v], []⟩) R s := by
  obtain ⟨oc, od, doc, pm, an, cda, cc, ct, osl, cl, cld, csl, ccl, cdd, vs, ccs, file, tf, ho, hcd, hcc, hcda, hvs, hfile⟩ := T.fn
  obtain ⟨nm, q, N, bs, sn, sub, ab, col, dd, k0, k1, k2, k3, k5, hC⟩ := T.cls
  have hcl : clsIn K C = some { name := nm, bases := bs, mro := .ref C :: .ref D :: exTail, ns := N, qualname := q, hasDict := true, slotNames := sn, subclasses := sub, abstract := ab, collection := col, hasDel := false } := by unfold clsIn; rw [hC] <;> rfl
  refine ks_codeAny_call_defAt (fd := ksFn "__init__" "BadName.__init__" iA iB iS .none .none doc pm an (.ref cda) ct cc) (body := iB) (binds := [("self", .ref x), ("name", v)]) hroom (M0.kin _ _ ho) rfl M0.nolimit (codeRec_of M0.kin hcd) rfl
    (BindsTo.of_eq (by first | rfl | with_unfolding_all rfl)) (show ∀ x ∈ iS.names, x.2 ≠ .cell by decide) (fun z hz => by
      rcases List.mem_cons.mp hz with rfl | hz
      · rfl
      · cases List.mem_singleton.mp hz; rfl) (fun h₁ hns k => ?_) rfl rfl rfl
  have X₁ : K.In h₁ := M0.kin.keeps k
  have hx₁ := k _ _ hx
  obtain ⟨mb, hmb, hbt⟩ := M0.blt
  obtain ⟨hp, gs, dr, tk0, os⟩ := s
  have hC1 := X₁ _ _ hC
  have Ix : InstAt h₁ x (excO C t0) C none := ⟨hx₁, rfl, rfl, trivial⟩
  have nxC : x ≠ C := ks_ne X₁ Ix hcl
  show wpAt _ _ _ (execs iB (ksEnv "BadName.__init__" iS hp.objs.size fI (.ref cda) cc)) _ _ _
  refine ks_wpAt_execs_cons (ks_wpAt_Expr_any (ks_wpAt_MethodCall ?_))
  refine ks_wpAt_super_base (env := ksEnv "BadName.__init__" iS hp.objs.size fI (.ref cda) cc) (by rfl) (by rfl) (by decide +kernel) rfl (X₁ _ _ ho) rfl (by rfl) rfl (X₁ _ _ hcda) rfl hvs hfile T.top ?_
  refine ks_loadName_global rfl (by rfl) (loadGlobal_builtin (env := ksEnv "BadName.__init__" iS hp.objs.size fI (.ref cda) cc) (M0.glob.keeps k) T.sup (hmb.keeps k) ((hbt "super" (by decide +kernel)).trans (by decide +kernel)) ⟨rfl, ?_⟩)
  refine wpAny_loadName_free rfl (by rfl) rfl ⟨_, X₁ _ _ hcc, rfl⟩ ?_
  refine wpAny_loadName_local rfl (by rfl) hns (v := .ref x) (by rfl) ?_
  refine ks_wpAny_isType_cls hC1 rfl ⟨rfl, ?_⟩
  refine ks_wpAny_call_super hC1 rfl hx₁ rfl (fun c e => by cases e) (looks_mroIn X₁ (XeB.mro2 hcl rfl (by rw [List.contains_cons]; simp))) (fun h₂ e₂ k₂ => ?_)
  have X₂ : K.In h₂ := X₁.keeps k₂
  have I2 : InstAt h₂ x (excO C t0) C none := ⟨k₂ _ _ hx₁, rfl, rfl, trivial⟩
  have al := T.al
  unfold ks_superIn at al
  rw [hcl, Option.bind_some] at al
  refine getMethod_super e₂ (looks_opaque X₂ T.opq) (l₀ := .ref C :: .ref D :: exTail) ((looks_clsIn X₂ hcl).andThen .now) rfl X₂ al nxC (by decide +kernel) (I2.type.andThen (looks_mroIn X₂ (XeB.mro2 hcl rfl (XeB.has_it (by decide +kernel))))) ?_
  have k₃ : ∀ b o, h₂.get? b = some o → (h₂.push (bw x)).get? b = some o := fun b o e => Heap.get?_push_of_some _ e
  have X₃ : K.In (h₂.push (bw x)) := X₂.keeps k₃
  refine callWith_bound (x := x) (spliced_more (Calls.Constant_str (spliced_none ?_)))
  refine ⟨Heap.get?_push_at rfl rfl, ?_⟩
  refine call_bw (X₃ _ _ hC) (k₃ _ _ (k₂ _ _ hx₁)) (Heap.get?_push_at rfl rfl) (by show 1 ≤ sizeLine; decide) (fun h₄ t1 k₄ hx₄ => ?_)
  have kk : ∀ b o, b ≠ x → h₁.get? b = some o → h₄.get? b = some o := fun b o hb e => k₄ b o hb (k₃ b o (k₂ b o e))
  have X₄ : K.In h₄ := fun a o e => kk a o (fun z => by rw [z, hnx] at e; cases e) (X₁ a o e)
  have hns₄ : h₄.Ns hp.objs.size (fun y => List.lookup y [(("self" : Str), Value.ref x), (("name" : Str), v)].reverse) := by
    obtain ⟨o, es, ep, h1, r⟩ := hns
    exact ⟨o, es, ep, kk _ _ (Nat.ne_of_gt (Heap.lt_size hx)) h1, r⟩
  refine ks_wpAt_execs_cons (wpAt_of_wpAny (plainObj_wpAny_Assign_Attribute ?_))
  refine ldL (v := v) hns₄ (by rfl) (ldL (v := .ref x) hns₄ (by rfl) ?_)
  refine set_plain X₄ (ox := excO C t1) (od := none) ⟨hx₄, rfl, rfl, trivial⟩ T.sa ?_
  refine XeB.put_new X₄ hx₄ hcl rfl rfl T.noN (fun h₅ tk₅ dx k₅ dn dne hx₅ hn₅ => ?_)
  refine wpAt_of_wpAny (wpAny_execs_nil (hq h₅ tk₅ dx t1 ⟨fun b o hb e => k₅ b o hb (kk b o hb (k b o e)), hx₅, Nat.le_of_lt (Nat.lt_of_lt_of_le hns₄.lt dn), dne, hn₅⟩))
theorem own_made (T : Txt prog K mg C D fI) {v : Value} (M0 : L2.Mod K mg s.heap) (hroom : A.depth + 1 < recursionLimit)
    (hq : ∀ h' tk e d, XeB.OwnMade s.heap h' e C d "name" v → R (.ok (.ret (.ref e))) { s with heap := h', toks := tk }) :
    codeAny (model prog w) A (.call (.ref C) ⟨[v], []⟩) R s := by
  obtain ⟨nm, q, N, bs, sn, sub, ab, col, dd, k0, k1, k2, k3, k5, hC⟩ := T.cls
  obtain ⟨hp, g, dr, tk, os⟩ := s
  have k : ∀ b o, hp.get? b = some o → ((hp.push (kdv_tup [v])).push (excO C hp.objs.size)).get? b = some o := fun b o e => Heap.get?_push_of_some _ (Heap.get?_push_of_some _ e)
  have at1 : ((hp.push (kdv_tup [v])).push (excO C hp.objs.size)).get? (hp.objs.size + 1) = some (excO C hp.objs.size) := by heap_get
  have no1 : K.lookup (hp.objs.size + 1) = none := by
    cases e : K.lookup (hp.objs.size + 1) with
    | none => rfl
    | some o => exact absurd (Nat.lt_of_succ_lt (Heap.lt_size (M0.kin _ _ e))) (Nat.lt_irrefl _)
  refine call_own F.excBase_Exception (fun Y => XeB.has_same Y) (M0.kin _ _ hC) (looks_findIn M0.kin T.iC) (fun self => bind_fn M0.kin self T.tC) (by show 1 ≤ sizeLine; decide) ?_
  refine own_init (s := ⟨(hp.push (kdv_tup [v])).push (excO C hp.objs.size), g, dr, tk, os⟩) T (XeB.mod_keeps M0 k) at1 no1 hroom fun h' tk' dx t1 i => ⟨rfl, hq h' tk' (hp.objs.size + 1) dx ⟨fun b o e => i.keep b o (Nat.ne_of_lt (Nat.lt_succ_of_lt (Heap.lt_size e))) (k b o e), Nat.le_succ _, ⟨_, _, i.obj, rfl, rfl, rfl, rfl⟩, ?_, i.dne, i.ns⟩⟩
  have z := i.dbig
  rw [Heap.size_push, Heap.size_push] at z
  exact Nat.le_trans (Nat.le_trans (Nat.le_succ _) (Nat.le_succ _)) z
end
section
open L2
variable {X : Cx} {C D fI : Addr}
theorem pmk {a : Expr} {ta : TA} {p pos : Pos} {k : Nat} (T : Txt X.prog X.K X.mg C D fI) (hr : Room k X.A) (ha : PA X [a] ta) (hg : Gl X "BadName" := by rfl)
    (he : starEach (a :: []) X.env = (false, eval a X.env) :: starEach [] X.env := by rfl) (hpl : (backTo pos (starEach [] X.env)).any (·.1) = false := by rfl) :
    PMk X (.Call (.Name "BadName" p) [a] [] pos) (XeB.tMk C "name" ta) := by
  intro pins s σ H Q I h
  refine wpAny_Call_Name_kw (ld_glob I hg T.gC ?_)
  refine PySem.W.callWith_K (h₀ := X.base) I.ok.mod.kin T.kC (thn (ha.run pos pins s σ H _ I h) fun us s1 hh => ?_) he hpl
  obtain ⟨vs, H1, I1, r1, v, ev, q1⟩ := hh
  subst ev
  refine ⟨I1.kIn, ?_⟩
  cases r1 with
  | cons rv rn =>
    cases rn
    exact XeB.mk_fin I1 rv T.exC T.tyC q1 fun R q => own_made T (XeB.mod_at I1) (by have := hr.dp; omega) q
end
end XeBadName

end PySem
namespace Lw
open PySem L2 Sx
/-! ### the data: words, ends, frames -/
inductive Wd where
  | i (n : Int)
  | a
  | b
deriving DecidableEq
def encW : Wd → PyData
  | .i n => .int n
  | .a => .str "a"
  | .b => .str "b"
def oW : Option Wd → PyData
  | none => .none
  | some w => encW w
theorem eqok_W : EqOk encW := fun x y => by
  cases x <;> cases y <;> simp [encW, PyData.eqv]
  all_goals (first | decide +kernel | trivial)
theorem shp_W {n : Nat} (w : Wd) : Shp n (encW w) := by
  cases w
  · exact shp_int
  · exact shp_str (by decide +kernel)
  · exact shp_str (by decide +kernel)
theorem shp_oW {n : Nat} (o : Option Wd) : Shp n (oW o) := by
  cases o
  · exact shp_none
  · exact shp_W _
structure EndS where
  out : List Wd
  ans : Nat
  told : List Wd
  ep : Int
structure Fm where
  num : Option Int
  word : Option Wd
  k : Nat
abbrev fN : List Str := ["out", "answered", "told", "epoch"]
abbrev tl (xs : List Wd) : CD := cLd (xs.map encW)
abbrev endI (C a b : Addr) (e : EndS) : CD := cI C fN [val (.ref a), dat (.int (e.ans : Int)), val (.ref b), dat (.int e.ep)]
abbrev encF (f : Fm) : PyData := .tuple [.str "frame", oi f.num, oW f.word, .int (f.k : Int)]
def rowsOf (e : EndS) : List Wd := (e.out.drop e.ans).take 3
def frF (e : EndS) (p : Wd × Nat) : Fm := ⟨some ((e.ans : Int) + (p.2 : Int)), some p.1, e.told.length⟩
def framesOf (e : EndS) : List Fm := if rowsOf e = [] then [⟨none, none, e.told.length⟩] else (rowsOf e).zipIdx.map (frF e)
def hearE (e : EndS) (ep : Int) (f : Fm) : EndS :=
  if ep < e.ep then e
  else ⟨e.out, if e.ans < f.k ∧ f.k ≤ e.out.length then f.k else e.ans, if f.num = some (e.told.length : Int) then e.told ++ [f.word.getD .a] else e.told, ep⟩
def e00 : EndS := ⟨[], 0, [], 0⟩
def putE (e : EndS) (w : Wd) : EndS := ⟨e.out ++ [w], e.ans, e.told, e.ep⟩
/-! ### the plain law -/
/-- r is told a beginning of what s spoke; s knows of no more -/
structure Dir (s r : EndS) : Prop where
  a : s.ans ≤ r.told.length
  l : r.told.length ≤ s.out.length
  t : r.told = s.out.take r.told.length
/-- a frame that s sent -/
structure FOk (s : EndS) (f : Fm) : Prop where
  n : (f.num = none ∧ f.word = none) ∨ ∃ (n : Nat) (w : Wd), f.num = some (n : Int) ∧ f.word = some w ∧ s.out[n]? = some w
  k : f.k ≤ s.told.length
theorem FOk.wf {s : EndS} {f : Fm} (h : FOk s f) : f.num.isSome = true → f.word.isSome = true := by
  rcases h.n with ⟨h1, h2⟩ | ⟨n, w, h1, h2, _⟩
  · rw [h1]; intro z; cases z
  · rw [h2]; intro _; rfl
theorem hear_out (r : EndS) (ep : Int) (f : Fm) : (hearE r ep f).out = r.out := by
  unfold hearE
  split <;> rfl
theorem hear_ans (r : EndS) (ep : Int) (f : Fm) : r.ans ≤ (hearE r ep f).ans := by
  unfold hearE
  split
  · exact Nat.le_refl _
  · show r.ans ≤ if _ then _ else _
    split <;> omega
theorem hear_told (r : EndS) (ep : Int) (f : Fm) : r.told.length ≤ (hearE r ep f).told.length ∧ (hearE r ep f).told.length ≤ r.told.length + 1 := by
  unfold hearE
  split
  · omega
  · show r.told.length ≤ (if _ then _ else _ : List Wd).length ∧ (if _ then _ else _ : List Wd).length ≤ _
    split
    · rw [List.length_append, List.length_singleton]; omega
    · omega
theorem hear_ep (r : EndS) (ep : Int) (f : Fm) : r.ep ≤ (hearE r ep f).ep ∧ ((hearE r ep f).ep = r.ep ∨ (hearE r ep f).ep = ep) := by
  unfold hearE
  split
  · exact ⟨by omega, .inl rfl⟩
  · exact ⟨by show r.ep ≤ ep; omega, .inr rfl⟩
theorem hear_old (r : EndS) (ep : Int) (f : Fm) (h : ep < r.ep) : hearE r ep f = r := by
  unfold hearE
  rw [if_pos h]
theorem hear_dir {s r : EndS} {ep : Int} {f : Fm} (h1 : Dir s r) (h2 : Dir r s) (h : FOk s f) : Dir s (hearE r ep f) ∧ Dir (hearE r ep f) s := by
  have ho := hear_out r ep f
  have ht := (hear_told r ep f).1
  by_cases he : ep < r.ep
  · rw [hear_old r ep f he]; exact ⟨h1, h2⟩
  have htd : (hearE r ep f).told = if f.num = some (r.told.length : Int) then r.told ++ [f.word.getD .a] else r.told := by unfold hearE; rw [if_neg he]
  have han : (hearE r ep f).ans = if r.ans < f.k ∧ f.k ≤ r.out.length then f.k else r.ans := by unfold hearE; rw [if_neg he]
  refine ⟨?_, ⟨?_, by rw [ho]; exact h2.l, by rw [ho]; exact h2.t⟩⟩
  · by_cases hn : f.num = some (r.told.length : Int)
    · rw [if_pos hn] at htd
      rcases h.n with ⟨q1, q2⟩ | ⟨n, w, q1, q2, q3⟩
      · rw [q1] at hn; cases hn
      · rw [q1] at hn
        have hn' : n = r.told.length := by
          have := Option.some.inj hn
          omega
        subst hn'
        have hlt := (List.getElem?_eq_some_iff.mp q3).1
        rw [q2] at htd
        have hl : (hearE r ep f).told.length = r.told.length + 1 := by rw [htd]; simp
        refine ⟨by have := h1.a; omega, by omega, ?_⟩
        rw [hl, List.take_succ, q3, ← h1.t, htd]
        rfl
    · rw [if_neg hn] at htd
      exact ⟨by rw [htd]; exact h1.a, by rw [htd]; exact h1.l, by rw [htd]; exact h1.t⟩
  · rw [han]
    split
    · exact h.k
    · exact h2.a
theorem FOk.hear {s : EndS} {ep : Int} {f g : Fm} (h : FOk s g) : FOk (hearE s ep f) g :=
  ⟨by rw [hear_out]; exact h.n, Nat.le_trans h.k (hear_told s ep f).1⟩
theorem FOk.put {s : EndS} {w : Wd} {g : Fm} (h : FOk s g) : FOk (putE s w) g := by
  refine ⟨?_, h.k⟩
  rcases h.n with q | ⟨n, v, q1, q2, q3⟩
  · exact .inl q
  · refine .inr ⟨n, v, q1, q2, ?_⟩
    show (s.out ++ [w])[n]? = some v
    rw [List.getElem?_append_left (List.getElem?_eq_some_iff.mp q3).1]
    exact q3
theorem put_dir {s r : EndS} {w : Wd} (h1 : Dir s r) (h2 : Dir r s) : Dir (putE s w) r ∧ Dir r (putE s w) := by
  refine ⟨⟨h1.a, ?_, ?_⟩, ⟨h2.a, h2.l, h2.t⟩⟩
  · show _ ≤ (s.out ++ [w]).length
    rw [List.length_append]
    have := h1.l
    omega
  · show r.told = (s.out ++ [w]).take _
    rw [List.take_append_of_le_length h1.l]
    exact h1.t
theorem rows_get {e : EndS} {i : Nat} {w : Wd} (h : (rowsOf e)[i]? = some w) : e.out[e.ans + i]? = some w := by
  unfold rowsOf at h
  rw [List.getElem?_take] at h
  split at h
  · rw [List.getElem?_drop] at h
    exact h
  · cases h
theorem frames_ok {e : EndS} : ∀ f ∈ framesOf e, FOk e f ∧ f.k = e.told.length := by
  intro f hf
  unfold framesOf at hf
  split at hf
  · cases List.mem_singleton.mp hf
    exact ⟨⟨.inl ⟨rfl, rfl⟩, Nat.le_refl _⟩, rfl⟩
  · obtain ⟨⟨w, i⟩, hp, rfl⟩ := List.mem_map.mp hf
    have h1 := List.mem_zipIdx_iff_getElem?.mp hp
    refine ⟨⟨.inr ⟨e.ans + i, w, ?_, rfl, rows_get h1⟩, Nat.le_refl _⟩, rfl⟩
    show some ((e.ans : Int) + (i : Int)) = _
    rw [Int.natCast_add]
/-- both ways, all epochs at most ep -/
structure Good (s r : EndS) (ep : Int) : Prop where
  d : Dir s r
  u : Dir r s
  e : r.ep ≤ ep
theorem fold_hear {s : EndS} {ep : Int} : ∀ (rows : List Wd) (i : Nat) (r : EndS), (∀ j w, rows[j]? = some w → s.out[s.ans + i + j]? = some w) → Good s r ep → s.ans + i ≤ r.told.length →
    Good s (((rows.zipIdx i).map (frF s)).foldl (fun r f => hearE r ep f) r) ep ∧ s.ans + i + rows.length ≤ (((rows.zipIdx i).map (frF s)).foldl (fun r f => hearE r ep f) r).told.length
  | [], i, r, _, g, h => ⟨g, by simpa using h⟩
  | w :: rows, i, r, hr, g, h => by
    have h0 : s.out[s.ans + i]? = some w := hr 0 w rfl
    have hf : FOk s (frF s (w, i)) := ⟨.inr ⟨s.ans + i, w, by show some ((s.ans : Int) + (i : Int)) = _; rw [Int.natCast_add], rfl, h0⟩, Nat.le_refl _⟩
    have hd := hear_dir (ep := ep) g.d g.u hf
    have hep := (hear_ep r ep (frF s (w, i))).2
    have g' : Good s (hearE r ep (frF s (w, i))) ep := ⟨hd.1, hd.2, by rcases hep with z | z <;> rw [z]; exact g.e; exact Int.le_refl _⟩
    have hlen : s.ans + (i + 1) ≤ (hearE r ep (frF s (w, i))).told.length := by
      have ht := (hear_told r ep (frF s (w, i))).1
      by_cases hq : r.told.length = s.ans + i
      · have htd : (hearE r ep (frF s (w, i))).told = r.told ++ [w] := by
          unfold hearE
          rw [if_neg (by have := g.e; omega)]
          show (if some ((s.ans : Int) + (i : Int)) = some (r.told.length : Int) then _ else _) = _
          rw [if_pos (by rw [hq, Int.natCast_add])]
          rfl
        rw [htd, List.length_append, List.length_singleton]
        omega
      · omega
    have ih := fold_hear rows (i + 1) (hearE r ep (frF s (w, i))) (fun j v hj => by
      have := hr (j + 1) v (by simpa using hj)
      rw [show s.ans + (i + 1) + j = s.ans + i + (j + 1) by omega]
      exact this) g' hlen
    rw [List.zipIdx_cons, List.map_cons, List.foldl_cons]
    refine ⟨ih.1, ?_⟩
    have := ih.2
    rw [List.length_cons]
    omega
theorem fold_out {ep : Int} : ∀ (fs : List Fm) (r : EndS), (fs.foldl (fun r f => hearE r ep f) r).out = r.out
  | [], _ => rfl
  | f :: fs, r => by rw [List.foldl_cons, fold_out fs, hear_out]
theorem fold_ep {ep : Int} : ∀ (fs : List Fm) (r : EndS), r.ep ≤ ep → (fs.foldl (fun r f => hearE r ep f) r).ep ≤ ep
  | [], _, h => h
  | f :: fs, r, h => by
    rw [List.foldl_cons]
    refine fold_ep fs _ ?_
    rcases (hear_ep r ep f).2 with z | z
    · rw [z]; exact h
    · rw [z]; exact Int.le_refl _
/-- behind frames that all tell k, which it has room for, it knows of k -/
theorem fold_ans {ep : Int} {k : Nat} : ∀ (fs : List Fm) (r : EndS), (∀ f ∈ fs, f.k = k) → r.ep ≤ ep → r.ans ≤ k → k ≤ r.out.length → fs ≠ [] → (fs.foldl (fun r f => hearE r ep f) r).ans = k
  | [], _, _, _, _, _, h => absurd rfl h
  | f :: fs, r, hk, he, ha, ho, _ => by
    rw [List.foldl_cons]
    have hf := hk f List.mem_cons_self
    have h1 : (hearE r ep f).ans = k := by
      unfold hearE
      rw [if_neg (by omega)]
      show (if r.ans < f.k ∧ f.k ≤ r.out.length then f.k else r.ans) = k
      rw [hf]
      split <;> omega
    by_cases hn : fs = []
    · subst hn; exact h1
    · exact fold_ans fs _ (fun g hg => hk g (List.mem_cons_of_mem _ hg)) (by rcases (hear_ep r ep f).2 with z | z <;> rw [z]; exact he; exact Int.le_refl _) (by omega) (by rw [hear_out]; exact ho) hn
theorem frames_ne (e : EndS) : framesOf e ≠ [] := by
  unfold framesOf
  split
  · intro z; cases z
  · rename_i h
    intro z
    rw [List.map_eq_nil_iff] at z
    exact h (by
      have := congrArg List.length z
      rw [List.length_zipIdx] at this
      exact List.eq_nil_of_length_eq_zero this)
theorem frames_le (e : EndS) : (framesOf e).length ≤ 3 := by
  unfold framesOf
  split
  · simp
  · rw [List.length_map, List.length_zipIdx]
    unfold rowsOf
    rw [List.length_take]
    omega
theorem fold_told {ep : Int} : ∀ (fs : List Fm) (r : EndS), r.told.length ≤ (fs.foldl (fun r f => hearE r ep f) r).told.length
  | [], _ => Nat.le_refl _
  | f :: fs, r => by
    rw [List.foldl_cons]
    exact Nat.le_trans (hear_told r ep f).1 (fold_told fs _)
/-- all frames of s come to r -/
def allHear (s r : EndS) (ep : Int) : EndS := (framesOf s).foldl (fun r f => hearE r ep f) r
theorem all_hear {s r : EndS} {ep : Int} (g : Good s r ep) : Good s (allHear s r ep) ep ∧ min s.out.length (s.ans + 3) ≤ (allHear s r ep).told.length ∧ (allHear s r ep).out = r.out ∧ (allHear s r ep).ans = s.told.length := by
  have hans : (allHear s r ep).ans = s.told.length := fold_ans (framesOf s) r (fun f hf => (frames_ok f hf).2) g.e g.u.a g.u.l (frames_ne s)
  by_cases h : rowsOf s = []
  · have hf : framesOf s = [⟨none, none, s.told.length⟩] := by unfold framesOf; rw [if_pos h]
    have hd := hear_dir (ep := ep) g.d g.u (f := ⟨none, none, s.told.length⟩) ⟨.inl ⟨rfl, rfl⟩, Nat.le_refl _⟩
    have hl : s.out.length ≤ s.ans := by
      unfold rowsOf at h
      have := congrArg List.length h
      rw [List.length_take, List.length_drop] at this
      simp at this
      omega
    have ht := fold_told (ep := ep) (framesOf s) r
    have ha := g.d.a
    refine ⟨?_, ?_, fold_out _ _, hans⟩
    · unfold allHear
      rw [hf]
      refine ⟨hd.1, hd.2, ?_⟩
      show (hearE r ep ⟨none, none, s.told.length⟩).ep ≤ ep
      rcases (hear_ep r ep ⟨none, none, s.told.length⟩).2 with z | z
      · rw [z]; exact g.e
      · rw [z]; exact Int.le_refl _
    · unfold allHear
      omega
  · have hf : framesOf s = (rowsOf s).zipIdx.map (frF s) := by unfold framesOf; rw [if_neg h]
    have hh := fold_hear (s := s) (ep := ep) (rowsOf s) 0 r (fun j w hj => by rw [Nat.add_zero]; exact rows_get hj) g (by have := g.d.a; omega)
    have hl : (rowsOf s).length = min 3 (s.out.length - s.ans) := by unfold rowsOf; rw [List.length_take, List.length_drop]
    have h2 := hh.2
    refine ⟨?_, ?_, fold_out _ _, hans⟩
    · unfold allHear
      rw [hf]
      exact hh.1
    · unfold allHear
      rw [hf]
      omega

/-! ### the plain law of pacing -/
structure Lt where
  arr : Nat
  g : Bool
  fs : List Fm
structure PS where
  D : Nat
  L : Nat
  e : Bool → EndS
  t : Nat
  lc : Bool → Nat
  ls : List Lt
abbrev Ws := Bool × Nat
def set2 {α : Type} (f : Bool → α) (b : Bool) (v : α) : Bool → α := fun c => if c = b then v else f c
theorem set2_same {α : Type} (f : Bool → α) (b : Bool) (v : α) : set2 f b v b = v := if_pos rfl
theorem set2_ne {α : Type} (f : Bool → α) {b c : Bool} (v : α) (h : ¬ c = b) : set2 f b v c = f c := if_neg h
def hears (x : EndS) (fs : List Fm) : EndS := fs.foldl (fun x f => hearE x 1 f) x
def sendP (S : PS) (b : Bool) (w : Ws) : PS := if w.1 = true ∧ S.lc b < S.L then { S with lc := set2 S.lc b (S.lc b + 1) } else { S with lc := set2 S.lc b 0, ls := S.ls ++ [⟨S.t + w.2, !b, framesOf (S.e b)⟩] }
def comeP (S : PS) (l : Lt) : PS := { S with e := set2 S.e l.g (hears (S.e l.g) l.fs) }
def dueP (S : PS) : List Lt := S.ls.filter fun l => decide (l.arr ≤ S.t)
def lateP (S : PS) : List Lt := S.ls.filter fun l => decide (S.t < l.arr)
def onP (S : PS) : PS := { S with t := S.t + 1 }
def tickP (S : PS) (w : Ws × Ws) : PS :=
  let S3 := onP (sendP (sendP S false w.1) true w.2)
  { (dueP S3).foldl comeP S3 with ls := lateP S3 }
def runP (S : PS) (ws : List (Ws × Ws)) : PS := ws.foldl tickP S
def okW (D : Nat) (w : Ws) : Prop := 1 ≤ w.2 ∧ w.2 ≤ D
/-- kept at all times -/
structure G44 (S : PS) : Prop where
  dir : ∀ b, Dir (S.e b) (S.e (!b))
  ep : ∀ b, (S.e b).ep ≤ 1
  let' : ∀ l ∈ S.ls, ∀ f ∈ l.fs, FOk (S.e (!l.g)) f
  fut : ∀ l ∈ S.ls, S.t < l.arr
  few : ∀ b, S.lc b ≤ S.L
/-! what hearing does -/
theorem hears_cons (x : EndS) (f : Fm) (fs : List Fm) : hears x (f :: fs) = hears (hearE x 1 f) fs := rfl
theorem hears_out (x : EndS) : ∀ fs : List Fm, (hears x fs).out = x.out := fun fs => fold_out fs x
theorem hears_ep {x : EndS} (fs : List Fm) (h : x.ep ≤ 1) : (hears x fs).ep ≤ 1 := fold_ep fs x h
theorem hears_told (x : EndS) (fs : List Fm) : x.told.length ≤ (hears x fs).told.length := fold_told fs x
theorem hears_ans : ∀ (fs : List Fm) (x : EndS), x.ans ≤ (hears x fs).ans
  | [], _ => Nat.le_refl _
  | f :: fs, x => Nat.le_trans (hear_ans x 1 f) (hears_ans fs _)
theorem hears_dir {s : EndS} : ∀ (fs : List Fm) (r : EndS), Dir s r → Dir r s → (∀ f ∈ fs, FOk s f) → Dir s (hears r fs) ∧ Dir (hears r fs) s
  | [], _, h1, h2, _ => ⟨h1, h2⟩
  | f :: fs, r, h1, h2, h => by
    obtain ⟨q1, q2⟩ := hear_dir (ep := 1) h1 h2 (h f List.mem_cons_self)
    exact hears_dir fs _ q1 q2 fun g hg => h g (List.mem_cons_of_mem _ hg)
theorem FOk.hears {s : EndS} {g : Fm} (h : FOk s g) : ∀ fs : List Fm, FOk (hears s fs) g := fun fs => ⟨by rw [hears_out]; exact h.n, Nat.le_trans h.k (hears_told s fs)⟩
/-- frames one behind the other are told one behind the other -/
theorem hears_row : ∀ (fs : List Fm) (b : Nat) (x : EndS), (∀ i f, fs[i]? = some f → f.num = some ((b + i : Nat) : Int)) → x.ep ≤ 1 → b ≤ x.told.length → b + fs.length ≤ (hears x fs).told.length
  | [], b, x, _, _, h => by simpa [hears] using h
  | f :: fs, b, x, hn, he, h => by
    rw [hears_cons]
    have h0 : f.num = some (b : Int) := hn 0 f rfl
    have he' : (hearE x 1 f).ep ≤ 1 := by rcases (hear_ep x 1 f).2 with z | z <;> rw [z]; exact he; exact Int.le_refl _
    have hl : b + 1 ≤ (hearE x 1 f).told.length := by
      by_cases hq : x.told.length = b
      · unfold hearE
        rw [if_neg (by omega)]
        show b + 1 ≤ (if f.num = some (x.told.length : Int) then _ else _ : List Wd).length
        rw [if_pos (by rw [h0, hq]), List.length_append, List.length_singleton]
        omega
      · have := (hear_told x 1 f).1
        omega
    have := hears_row fs (b + 1) _ (fun i g hg => by rw [hn (i + 1) g (by simpa using hg), show b + (i + 1) = b + 1 + i by omega]) he' hl
    rw [List.length_cons]
    omega
theorem frames_row {s : EndS} (h : ¬ rowsOf s = []) : ∀ i f, (framesOf s)[i]? = some f → f.num = some ((s.ans + i : Nat) : Int) := by
  intro i f hf
  unfold framesOf at hf
  rw [if_neg h, List.getElem?_map] at hf
  cases q : (rowsOf s).zipIdx[i]? with
  | none => rw [q] at hf; cases hf
  | some p =>
    rw [q] at hf
    cases hf
    rw [List.getElem?_zipIdx] at q
    cases q2 : (rowsOf s)[i]? with
    | none => rw [q2] at q; cases q
    | some w =>
      rw [q2] at q
      cases q
      show some ((s.ans : Int) + ((0 + i : Nat) : Int)) = _
      congr 1
      omega
/-- a letter of s brings what s knows to lack -/
theorem brings_told {s x : EndS} (ha : s.ans ≤ x.told.length) (he : x.ep ≤ 1) : min s.out.length (s.ans + 3) ≤ (hears x (framesOf s)).told.length := by
  by_cases h : rowsOf s = []
  · have hl : s.out.length ≤ s.ans := by
      unfold rowsOf at h
      have := congrArg List.length h
      rw [List.length_take, List.length_drop] at this
      simp at this
      omega
    have ht := hears_told x (framesOf s)
    omega
  · have hf : framesOf s = (rowsOf s).zipIdx.map (frF s) := by unfold framesOf; rw [if_neg h]
    have hl : (rowsOf s).length = min 3 (s.out.length - s.ans) := by unfold rowsOf; rw [List.length_take, List.length_drop]
    have hq := hears_row (framesOf s) s.ans x (frames_row h) he ha
    have hl2 : (framesOf s).length = (rowsOf s).length := by rw [hf, List.length_map, List.length_zipIdx]
    omega
theorem hears_ack : ∀ (fs : List Fm) (k : Nat) (x : EndS), fs ≠ [] → (∀ f ∈ fs, f.k = k) → x.ep ≤ 1 → k ≤ x.out.length → k ≤ (hears x fs).ans
  | [], _, _, h, _, _, _ => absurd rfl h
  | f :: fs, k, x, _, hk, he, ho => by
    rw [hears_cons]
    refine Nat.le_trans ?_ (hears_ans fs _)
    unfold hearE
    rw [if_neg (by omega)]
    show k ≤ if x.ans < f.k ∧ f.k ≤ x.out.length then f.k else x.ans
    have := hk f List.mem_cons_self
    split <;> omega
theorem brings_ack {s x : EndS} (hs : s.told.length ≤ x.out.length) (he : x.ep ≤ 1) : s.told.length ≤ (hears x (framesOf s)).ans :=
  hears_ack (framesOf s) _ x (frames_ne s) (fun f hf => (frames_ok f hf).2) he hs
/-! a tick -/
theorem come_e (S : PS) (l : Lt) (b : Bool) : (comeP S l).e b = if b = l.g then hears (S.e b) l.fs else S.e b := by
  unfold comeP set2
  dsimp only
  by_cases h : b = l.g
  · rw [if_pos h, if_pos h, h]
  · rw [if_neg h, if_neg h]
theorem come_G {S : PS} {l : Lt} (G : G44 S) (h : ∀ f ∈ l.fs, FOk (S.e (!l.g)) f) : G44 (comeP S l) := by
  have q := hears_dir l.fs (S.e l.g) (by have := G.dir (!l.g); rwa [Bool.not_not] at this) (G.dir l.g) h
  have e1 : (comeP S l).e l.g = hears (S.e l.g) l.fs := by rw [come_e, if_pos rfl]
  have e2 : (comeP S l).e (!l.g) = S.e (!l.g) := by rw [come_e, if_neg (by cases l.g <;> simp)]
  have hb : ∀ b : Bool, b = l.g ∨ b = !l.g := by intro b; cases b <;> cases l.g <;> simp
  refine ⟨fun b => ?_, fun b => ?_, fun m hm f hf => ?_, G.fut, G.few⟩
  · rcases hb b with rfl | rfl
    · rw [e1, e2]; exact q.2
    · rw [Bool.not_not, e1, e2]; exact q.1
  · rcases hb b with rfl | rfl
    · rw [e1]; exact hears_ep _ (G.ep _)
    · rw [e2]; exact G.ep _
  · have := G.let' m hm f hf
    rw [come_e]
    split
    · exact this.hears _
    · exact this
theorem come_FOk {S : PS} {l : Lt} {b : Bool} {f : Fm} (h : FOk (S.e b) f) : FOk ((comeP S l).e b) f := by
  rw [come_e]
  split
  · exact h.hears _
  · exact h
theorem comes_G : ∀ (ls : List Lt) {S : PS}, G44 S → (∀ l ∈ ls, ∀ f ∈ l.fs, FOk (S.e (!l.g)) f) → G44 (ls.foldl comeP S)
  | [], _, G, _ => G
  | l :: ls, S, G, h => comes_G ls (come_G G (h l List.mem_cons_self)) fun m hm f hf => come_FOk (h m (List.mem_cons_of_mem _ hm) f hf)
theorem comes_same : ∀ (ls : List Lt) (S : PS), (ls.foldl comeP S).D = S.D ∧ (ls.foldl comeP S).L = S.L ∧ (ls.foldl comeP S).t = S.t ∧ (ls.foldl comeP S).lc = S.lc ∧ (ls.foldl comeP S).ls = S.ls
  | [], _ => ⟨rfl, rfl, rfl, rfl, rfl⟩
  | l :: ls, S => by
    obtain ⟨h1, h2, h3, h4, h5⟩ := comes_same ls (comeP S l)
    exact ⟨h1, h2, h3, h4, h5⟩
theorem send_G {S : PS} {b : Bool} {w : Ws} (G : G44 S) (hw : 1 ≤ w.2) : G44 (sendP S b w) := by
  unfold sendP
  split
  · rename_i h
    refine ⟨G.dir, G.ep, G.let', G.fut, fun c => ?_⟩
    by_cases hc : c = b
    · subst hc
      show set2 _ _ _ _ ≤ _
      rw [set2_same]
      exact h.2
    · show set2 _ _ _ _ ≤ _
      rw [set2_ne _ _ hc]
      exact G.few c
  · refine ⟨G.dir, G.ep, fun l hl f hf => ?_, fun l hl => ?_, fun c => ?_⟩
    · rcases List.mem_append.mp hl with hl | hl
      · exact G.let' l hl f hf
      · cases List.mem_singleton.mp hl
        show FOk (S.e (!!b)) f
        rw [Bool.not_not]
        exact (frames_ok f hf).1
    · rcases List.mem_append.mp hl with hl | hl
      · exact G.fut l hl
      · cases List.mem_singleton.mp hl
        show S.t < S.t + w.2
        omega
    · by_cases hc : c = b
      · subst hc
        show set2 _ _ _ _ ≤ _
        rw [set2_same]
        exact Nat.zero_le _
      · show set2 _ _ _ _ ≤ _
        rw [set2_ne _ _ hc]
        exact G.few c
theorem send_e (S : PS) (b : Bool) (w : Ws) : (sendP S b w).e = S.e ∧ (sendP S b w).D = S.D ∧ (sendP S b w).L = S.L ∧ (sendP S b w).t = S.t := by
  unfold sendP
  split <;> exact ⟨rfl, rfl, rfl, rfl⟩
theorem tick_G {S : PS} {w : Ws × Ws} (G : G44 S) (h1 : okW S.D w.1) (h2 : okW S.D w.2) : G44 (tickP S w) ∧ (tickP S w).t = S.t + 1 ∧ (tickP S w).D = S.D ∧ (tickP S w).L = S.L := by
  have G2 : G44 (sendP (sendP S false w.1) true w.2) := send_G (send_G G h1.1) h2.1
  obtain ⟨a1, a2, a3, a4⟩ := send_e S false w.1
  obtain ⟨b1, b2, b3, b4⟩ := send_e (sendP S false w.1) true w.2
  generalize hS2 : sendP (sendP S false w.1) true w.2 = S2 at *
  have e : tickP S w = { (dueP (onP S2)).foldl comeP (onP S2) with ls := lateP (onP S2) } := by
    unfold tickP
    rw [hS2]
  -- without letters in flight the state is kept well
  have G3 : G44 { onP S2 with ls := [] } := ⟨G2.dir, G2.ep, (fun _ h => nomatch h), (fun _ h => nomatch h), G2.few⟩
  have hin : ∀ l ∈ dueP (onP S2), l ∈ S2.ls := fun l hl => (List.mem_filter.mp hl).1
  have eq4 : ∀ (ls : List Lt) (S : PS) (x y : List Lt), { ls.foldl comeP { S with ls := x } with ls := y } = { ls.foldl comeP S with ls := y } := by
    intro ls
    induction ls with
    | nil => intro S x y; rfl
    | cons l r ih => intro S x y; exact ih (comeP S l) x y
  have G4 := comes_G (dueP (onP S2)) G3 fun l hl f hf => G2.let' l (hin l hl) f hf
  obtain ⟨c1, c2, c3, c4, _⟩ := comes_same (dueP (onP S2)) { onP S2 with ls := [] }
  have hfo : ∀ (ls : List Lt) (S : PS) (b : Bool) (f : Fm), FOk (S.e b) f → FOk ((ls.foldl comeP S).e b) f := by
    intro ls
    induction ls with
    | nil => intro S b f h; exact h
    | cons l r ih => intro S b f h; exact ih _ _ _ (come_FOk h)
  rw [e, ← eq4 (dueP (onP S2)) (onP S2) []]
  refine ⟨⟨G4.dir, G4.ep, fun l hl f hf => ?_, fun l hl => ?_, fun b => ?_⟩, ?_, ?_, ?_⟩
  · exact hfo _ _ _ _ (G2.let' l (List.mem_filter.mp hl).1 f hf)
  · have := of_decide_eq_true (List.mem_filter.mp hl).2
    show ((dueP (onP S2)).foldl comeP { onP S2 with ls := [] }).t < _
    rw [c3]
    exact this
  · exact G4.few b
  · show ((dueP (onP S2)).foldl comeP { onP S2 with ls := [] }).t = _
    rw [c3]
    show S2.t + 1 = _
    rw [b4, a4]
  · show ((dueP (onP S2)).foldl comeP { onP S2 with ls := [] }).D = _
    rw [c1]
    show S2.D = _
    rw [b2, a2]
  · show ((dueP (onP S2)).foldl comeP { onP S2 with ls := [] }).L = _
    rw [c2]
    show S2.L = _
    rw [b3, a3]

/-! ### what is brought in time -/
theorem hears_app (x : EndS) (a b : List Fm) : hears x (a ++ b) = hears (hears x a) b := by unfold hears; rw [List.foldl_append]
theorem comes_hears (c : Bool) : ∀ (ls : List Lt) (S : PS), ∃ fs, (ls.foldl comeP S).e c = hears (S.e c) fs
  | [], S => ⟨[], rfl⟩
  | l :: ls, S => by
    obtain ⟨fs, h⟩ := comes_hears c ls (comeP S l)
    rw [come_e] at h
    by_cases q : c = l.g
    · rw [if_pos q] at h
      exact ⟨l.fs ++ fs, by rw [hears_app]; exact h⟩
    · rw [if_neg q] at h
      exact ⟨fs, h⟩
def Brings (Gl : EndS → Prop) (fs : List Fm) (x : EndS) : Prop := ∀ x', x'.ep ≤ 1 → x.told.length ≤ x'.told.length → x'.out = x.out → Gl (hears x' fs)
theorem Brings.on {Gl : EndS → Prop} {fs gs : List Fm} {x : EndS} (h : Brings Gl fs x) : Brings Gl fs (hears x gs) := fun x' h1 h2 h3 => h x' h1 (Nat.le_trans (hears_told x gs) h2) (by rw [h3, hears_out])
/-- it is there, or on its way, or will be sent in time -/
def Ph (Gl : EndS → Prop) (S : PS) (b : Bool) (r : Nat) : Prop := Gl (S.e (!b)) ∨ (∃ l ∈ S.ls, l.g = (!b) ∧ l.arr ≤ S.t + r ∧ Brings Gl l.fs (S.e (!b))) ∨ S.L - S.lc b + S.D ≤ r
theorem send_sub {S : PS} {b : Bool} {w : Ws} {l : Lt} (h : l ∈ S.ls) : l ∈ (sendP S b w).ls := by
  unfold sendP
  split
  · exact h
  · exact List.mem_append_left _ h
theorem send_other {S : PS} {b c : Bool} {w : Ws} (h : ¬ c = b) : (sendP S b w).lc c = S.lc c := by
  unfold sendP
  split <;> exact set2_ne _ _ h
theorem send_this {S : PS} {b : Bool} {w : Ws} : (S.lc b < S.L ∧ (sendP S b w).lc b = S.lc b + 1) ∨ (⟨S.t + w.2, !b, framesOf (S.e b)⟩ : Lt) ∈ (sendP S b w).ls := by
  unfold sendP
  split
  · rename_i h
    exact .inl ⟨h.2, set2_same _ _ _⟩
  · exact .inr (List.mem_append_right _ List.mem_cons_self)
/-- both send: the one at b loses once more, or its letter is under way -/
theorem both_send (S : PS) (b : Bool) (w : Ws × Ws) : ∃ w' : Ws, (w' = w.1 ∨ w' = w.2) ∧ ((S.lc b < S.L ∧ (sendP (sendP S false w.1) true w.2).lc b = S.lc b + 1) ∨ (⟨S.t + w'.2, !b, framesOf (S.e b)⟩ : Lt) ∈ (sendP (sendP S false w.1) true w.2).ls) := by
  obtain ⟨a1, a2, a3, a4⟩ := send_e S false w.1
  cases b with
  | false =>
    refine ⟨w.1, .inl rfl, ?_⟩
    rcases send_this (S := S) (b := false) (w := w.1) with ⟨h1, h2⟩ | h
    · exact .inl ⟨h1, by rw [send_other (by simp)]; exact h2⟩
    · exact .inr (send_sub h)
  | true =>
    refine ⟨w.2, .inr rfl, ?_⟩
    rcases send_this (S := sendP S false w.1) (b := true) (w := w.2) with ⟨h1, h2⟩ | h
    · have z := send_other (S := S) (b := false) (c := true) (w := w.1) (by simp)
      rw [z] at h1 h2
      rw [a3] at h1
      exact .inl ⟨h1, h2⟩
    · rw [a1, a4] at h
      exact .inr h
theorem tick_parts (S : PS) (w : Ws × Ws) : ∃ S2, S2 = sendP (sendP S false w.1) true w.2 ∧ S2.e = S.e ∧ S2.D = S.D ∧ S2.L = S.L ∧ S2.t = S.t ∧ (tickP S w).ls = lateP (onP S2) ∧ (∀ c, (tickP S w).e c = ((dueP (onP S2)).foldl comeP (onP S2)).e c) ∧ (tickP S w).lc = S2.lc ∧ (tickP S w).t = S.t + 1 ∧ (tickP S w).D = S.D ∧ (tickP S w).L = S.L := by
  obtain ⟨a1, a2, a3, a4⟩ := send_e S false w.1
  obtain ⟨b1, b2, b3, b4⟩ := send_e (sendP S false w.1) true w.2
  refine ⟨_, rfl, b1.trans a1, b2.trans a2, b3.trans a3, b4.trans a4, rfl, fun _ => rfl, ?_, ?_, ?_, ?_⟩
  all_goals (obtain ⟨c1, c2, c3, c4, _⟩ := comes_same (dueP (onP (sendP (sendP S false w.1) true w.2))) (onP (sendP (sendP S false w.1) true w.2)))
  · exact c4
  · show ((dueP (onP (sendP (sendP S false w.1) true w.2))).foldl comeP (onP (sendP (sendP S false w.1) true w.2))).t = _
    rw [c3]
    show (sendP (sendP S false w.1) true w.2).t + 1 = _
    rw [b4, a4]
  · show ((dueP (onP (sendP (sendP S false w.1) true w.2))).foldl comeP (onP (sendP (sendP S false w.1) true w.2))).D = _
    rw [c1]
    exact b2.trans a2
  · show ((dueP (onP (sendP (sendP S false w.1) true w.2))).foldl comeP (onP (sendP (sendP S false w.1) true w.2))).L = _
    rw [c2]
    exact b3.trans a3
theorem tick_hears (S : PS) (w : Ws × Ws) (c : Bool) : ∃ fs, (tickP S w).e c = hears (S.e c) fs := by
  obtain ⟨S2, _, h1, _, _, _, _, h2, _⟩ := tick_parts S w
  obtain ⟨fs, h⟩ := comes_hears c (dueP (onP S2)) (onP S2)
  refine ⟨fs, ?_⟩
  rw [h2, h]
  show hears (S2.e c) fs = _
  rw [h1]
theorem tick_ph {Gl : EndS → Prop} (hG : ∀ x fs, Gl x → Gl (hears x fs)) {S : PS} {w : Ws × Ws} {b : Bool} {r : Nat} (G : G44 S) (h1 : okW S.D w.1) (h2 : okW S.D w.2) (hs : Brings Gl (framesOf (S.e b)) (S.e (!b))) (h : Ph Gl S b (r + 1)) : Ph Gl (tickP S w) b r := by
  obtain ⟨S2, e0, e1, e2, e3, e4, e5, e6, e7, e8, e9, e10⟩ := tick_parts S w
  have A : Gl (S.e (!b)) ∨ (∃ l ∈ S2.ls, l.g = (!b) ∧ l.arr ≤ S.t + (r + 1) ∧ Brings Gl l.fs (S.e (!b))) ∨ S.L - S2.lc b + S.D ≤ r := by
    rcases h with h | ⟨l, hl, g1, g2, g3⟩ | h
    · exact .inl h
    · exact .inr (.inl ⟨l, by rw [e0]; exact send_sub (send_sub hl), g1, g2, g3⟩)
    · obtain ⟨w', hw', q⟩ := both_send S b w
      rw [← e0] at q
      have hw2 : w'.2 ≤ S.D := by rcases hw' with rfl | rfl; exact h1.2; exact h2.2
      rcases q with ⟨q1, q2⟩ | q
      · exact .inr (.inr (by rw [q2]; omega))
      · exact .inr (.inl ⟨_, q, rfl, by show S.t + w'.2 ≤ _; omega, hs⟩)
  rcases A with h | ⟨l, hl, g1, g2, g3⟩ | h
  · obtain ⟨fs, q⟩ := tick_hears S w (!b)
    exact .inl (by rw [q]; exact hG _ _ h)
  · by_cases hd : l.arr ≤ S.t + 1
    · refine .inl ?_
      rw [e6]
      have hm : l ∈ dueP (onP S2) := List.mem_filter.mpr ⟨hl, decide_eq_true (by show l.arr ≤ S2.t + 1; rw [e4]; exact hd)⟩
      obtain ⟨pre, post, hp⟩ := List.append_of_mem hm
      rw [hp, List.foldl_append, List.foldl_cons]
      obtain ⟨f1, q1⟩ := comes_hears (!b) pre (onP S2)
      obtain ⟨f2, q2⟩ := comes_hears (!b) post (comeP (pre.foldl comeP (onP S2)) l)
      rw [q2, come_e, if_pos g1.symm, q1]
      have e1' : (onP S2).e (!b) = S.e (!b) := by show S2.e (!b) = _; rw [e1]
      rw [e1']
      exact hG _ _ (g3 _ (hears_ep _ (G.ep _)) (hears_told _ _) (hears_out _ _))
    · refine .inr (.inl ⟨l, ?_, g1, ?_, ?_⟩)
      · rw [e5]
        exact List.mem_filter.mpr ⟨hl, decide_eq_true (by show S2.t + 1 < l.arr; rw [e4]; omega)⟩
      · rw [e8]; omega
      · obtain ⟨fs, q⟩ := tick_hears S w (!b)
        rw [q]
        exact g3.on
  · exact .inr (.inr (by rw [e7, e9, e10]; exact h))
/-- so many ticks on -/
theorem run_ph {Gl : EndS → Prop} (hG : ∀ x fs, Gl x → Gl (hears x fs)) {b : Bool} (Sn : PS → Prop) (hSn : ∀ S w, Sn S → Sn (tickP S w)) (hs : ∀ S, G44 S → Sn S → Brings Gl (framesOf (S.e b)) (S.e (!b))) :
    ∀ (ws : List (Ws × Ws)) (S : PS) (r : Nat), G44 S → (∀ w ∈ ws, okW S.D w.1 ∧ okW S.D w.2) → Sn S → Ph Gl S b (r + ws.length) → Ph Gl (runP S ws) b r
  | [], _, _, _, _, _, h => h
  | w :: ws, S, r, G, hw, n, h => by
    have h1 := (hw w List.mem_cons_self).1
    have h2 := (hw w List.mem_cons_self).2
    obtain ⟨G', _, hD, _⟩ := tick_G G h1 h2
    refine run_ph hG Sn hSn hs ws (tickP S w) r G' (fun w' hm => by rw [hD]; exact hw w' (List.mem_cons_of_mem _ hm)) (hSn S w n) (tick_ph hG G h1 h2 (hs S G n) (by rw [List.length_cons] at h; rw [show r + ws.length + 1 = r + (ws.length + 1) by omega]; exact h))
theorem run_G : ∀ (ws : List (Ws × Ws)) (S : PS), G44 S → (∀ w ∈ ws, okW S.D w.1 ∧ okW S.D w.2) → G44 (runP S ws) ∧ (runP S ws).t = S.t + ws.length ∧ (runP S ws).D = S.D ∧ (runP S ws).L = S.L
  | [], S, G, _ => ⟨G, rfl, rfl, rfl⟩
  | w :: ws, S, G, hw => by
    obtain ⟨G', h1, h2, h3⟩ := tick_G G (hw w List.mem_cons_self).1 (hw w List.mem_cons_self).2
    obtain ⟨q1, q2, q3, q4⟩ := run_G ws (tickP S w) G' (fun w' hm => by rw [h2]; exact hw w' (List.mem_cons_of_mem _ hm))
    exact ⟨q1, by rw [show runP S (w :: ws) = runP (tickP S w) ws from rfl, q2, h1, List.length_cons]; omega, q3.trans h2, q4.trans h3⟩
theorem run_hears (c : Bool) : ∀ (ws : List (Ws × Ws)) (S : PS), ∃ fs, (runP S ws).e c = hears (S.e c) fs
  | [], S => ⟨[], rfl⟩
  | w :: ws, S => by
    obtain ⟨f1, h1⟩ := tick_hears S w c
    obtain ⟨f2, h2⟩ := run_hears c ws (tickP S w)
    exact ⟨f1 ++ f2, by rw [hears_app, ← h1]; exact h2⟩
theorem run_app (S : PS) (a b : List (Ws × Ws)) : runP S (a ++ b) = runP (runP S a) b := by unfold runP; rw [List.foldl_append]
theorem ph_end {Gl : EndS → Prop} {S : PS} {b : Bool} (G : G44 S) (hD : 1 ≤ S.D) (h : Ph Gl S b 0) : Gl (S.e (!b)) := by
  rcases h with h | ⟨l, hl, _, g2, _⟩ | h
  · exact h
  · have := G.fut l hl; omega
  · omega
theorem ph_start {Gl : EndS → Prop} {S : PS} {b : Bool} : Ph Gl S b (S.D + S.L) := .inr (.inr (by omega))
/-- behind D + L ticks the other one was told -/
theorem told_in_time {S : PS} {b : Bool} {ws : List (Ws × Ws)} (G : G44 S) (hD : 1 ≤ S.D) (hw : ∀ w ∈ ws, okW S.D w.1 ∧ okW S.D w.2) (hl : ws.length = S.D + S.L) :
    min (S.e b).out.length ((S.e b).ans + 3) ≤ ((runP S ws).e (!b)).told.length := by
  generalize hn : (S.e b).out.length = n
  generalize hc : (S.e b).ans = c
  obtain ⟨G', _, hD', _⟩ := run_G ws S G hw
  refine ph_end (Gl := fun x => min n (c + 3) ≤ x.told.length) G' (by omega) (run_ph (Gl := fun x => min n (c + 3) ≤ x.told.length) (fun x fs h => Nat.le_trans h (hears_told x fs)) (b := b) (fun S => (S.e b).out.length = n ∧ c ≤ (S.e b).ans) ?_ ?_ ws S 0 G hw ⟨hn, by omega⟩ (by rw [hl, Nat.zero_add]; exact ph_start))
  · rintro S w ⟨h1, h2⟩
    obtain ⟨fs, q⟩ := tick_hears S w b
    rw [q]
    exact ⟨by rw [hears_out]; exact h1, Nat.le_trans h2 (hears_ans fs _)⟩
  · rintro S G ⟨h1, h2⟩ x' g1 g2 g3
    have hd := G.dir b
    have := brings_told (s := S.e b) (x := x') (Nat.le_trans hd.a g2) g1
    show min n (c + 3) ≤ _
    omega
/-- behind D + L ticks more the answer is there -/
theorem ans_in_time {S : PS} {b : Bool} {ws : List (Ws × Ws)} (G : G44 S) (hD : 1 ≤ S.D) (hw : ∀ w ∈ ws, okW S.D w.1 ∧ okW S.D w.2) (hl : ws.length = S.D + S.L) :
    (S.e b).told.length ≤ ((runP S ws).e (!b)).ans := by
  generalize hk : (S.e b).told.length = k
  obtain ⟨G', _, hD', _⟩ := run_G ws S G hw
  refine ph_end (Gl := fun x => k ≤ x.ans) G' (by omega) (run_ph (Gl := fun x => k ≤ x.ans) (fun x fs h => Nat.le_trans h (hears_ans fs x)) (b := b) (fun S => k ≤ (S.e b).told.length) ?_ ?_ ws S 0 G hw (by omega) (by rw [hl, Nat.zero_add]; exact ph_start))
  · intro S w h2
    obtain ⟨fs, q⟩ := tick_hears S w b
    rw [q]
    exact Nat.le_trans h2 (hears_told _ fs)
  · intro S G h2 x' g1 g2 g3
    have hd := (G.dir (!b)).l
    rw [Bool.not_not] at hd
    have := brings_ack (s := S.e b) (x := x') (by rw [g3]; exact hd) g1
    show k ≤ _
    omega
theorem run_mono (S : PS) (ws : List (Ws × Ws)) (c : Bool) : ((runP S ws).e c).out = (S.e c).out ∧ (S.e c).ans ≤ ((runP S ws).e c).ans ∧ (S.e c).told.length ≤ ((runP S ws).e c).told.length := by
  obtain ⟨fs, q⟩ := run_hears c ws S
  rw [q]
  exact ⟨hears_out _ _, hears_ans _ _, hears_told _ _⟩
/-- a round -/
theorem round44 {S : PS} {b : Bool} {ws : List (Ws × Ws)} (G : G44 S) (hD : 1 ≤ S.D) (hw : ∀ w ∈ ws, okW S.D w.1 ∧ okW S.D w.2) (hl : 2 * (S.D + S.L + 1) ≤ ws.length) :
    min (S.e b).out.length ((S.e b).ans + 3) ≤ ((runP S ws).e b).ans := by
  obtain ⟨w1, w2, w3, rfl, l1, l2⟩ : ∃ w1 w2 w3, ws = w1 ++ (w2 ++ w3) ∧ w1.length = S.D + S.L ∧ w2.length = S.D + S.L := by
    refine ⟨ws.take (S.D + S.L), (ws.drop (S.D + S.L)).take (S.D + S.L), (ws.drop (S.D + S.L)).drop (S.D + S.L), ?_, ?_, ?_⟩
    · rw [List.take_append_drop, List.take_append_drop]
    · rw [List.length_take]; omega
    · rw [List.length_take, List.length_drop]; omega
  have hw1 : ∀ w ∈ w1, okW S.D w.1 ∧ okW S.D w.2 := fun w h => hw w (List.mem_append_left _ h)
  have hw2 : ∀ w ∈ w2, okW S.D w.1 ∧ okW S.D w.2 := fun w h => hw w (List.mem_append_right _ (List.mem_append_left _ h))
  obtain ⟨G1, _, hD1, hL1⟩ := run_G w1 S G hw1
  have t1 := told_in_time (b := b) G hD hw1 l1
  have t2 := ans_in_time (S := runP S w1) (b := !b) (ws := w2) G1 (by omega) (by rw [hD1]; exact hw2) (by rw [hD1, hL1]; exact l2)
  rw [Bool.not_not] at t2
  rw [run_app, run_app]
  have := (run_mono (runP (runP S w1) w2) w3 b).2.1
  omega
theorem rounds44 {b : Bool} : ∀ (R : Nat) {S : PS} {ws : List (Ws × Ws)}, G44 S → 1 ≤ S.D → (∀ w ∈ ws, okW S.D w.1 ∧ okW S.D w.2) → ws.length = R * (2 * (S.D + S.L + 1)) → min (S.e b).out.length ((S.e b).ans + 3 * R) ≤ ((runP S ws).e b).ans
  | 0, S, ws, G, hD, hw, hl => by
    have := (run_mono S ws b).2.1
    omega
  | R + 1, S, ws, G, hD, hw, hl => by
    have hl' : ws.length = R * (2 * (S.D + S.L + 1)) + 2 * (S.D + S.L + 1) := by rw [hl, Nat.succ_mul]
    have e : ws = ws.take (2 * (S.D + S.L + 1)) ++ ws.drop (2 * (S.D + S.L + 1)) := (List.take_append_drop _ _).symm
    have hw1 : ∀ w ∈ ws.take (2 * (S.D + S.L + 1)), okW S.D w.1 ∧ okW S.D w.2 := fun w h => hw w (List.mem_of_mem_take h)
    have hw2 : ∀ w ∈ ws.drop (2 * (S.D + S.L + 1)), okW S.D w.1 ∧ okW S.D w.2 := fun w h => hw w (List.mem_of_mem_drop h)
    have r1 := round44 (b := b) G hD hw1 (by rw [List.length_take]; omega)
    obtain ⟨G1, _, hD1, hL1⟩ := run_G _ S G hw1
    have r2 := rounds44 (b := b) R G1 (by omega) (by rw [hD1]; exact hw2) (by rw [hD1, hL1, List.length_drop]; omega)
    rw [e, run_app]
    rw [(run_mono S _ b).1] at r2
    omega
/-- all words are told and answered -/
structure Done44 (S : PS) : Prop where
  a : ∀ b, (S.e b).told = (S.e (!b)).out
  b : ∀ b, (S.e b).ans = (S.e b).out.length
theorem done44 {S : PS} {ws : List (Ws × Ws)} {n : Nat} (G : G44 S) (hD : 1 ≤ S.D) (hw : ∀ w ∈ ws, okW S.D w.1 ∧ okW S.D w.2) (ho : ∀ b, (S.e b).out.length ≤ n) (hl : ws.length = (n + 2) / 3 * (2 * (S.D + S.L + 1))) : Done44 (runP S ws) := by
  obtain ⟨G', _⟩ := run_G ws S G hw
  have ha : ∀ b, ((runP S ws).e b).ans = ((runP S ws).e b).out.length := by
    intro b
    have h1 := rounds44 (b := b) _ G hD hw hl
    have h2 := ho b
    have h3 := (run_mono S ws b).1
    have h4 := (G'.dir b).a
    have h5 := (G'.dir b).l
    rw [h3] at h5 ⊢
    omega
  refine ⟨fun b => ?_, ha⟩
  have h1 := ha (!b)
  have h4 := G'.dir (!b)
  rw [Bool.not_not] at h4
  have h5 := h4.a
  have h6 := h4.l
  rw [h4.t, show ((runP S ws).e b).told.length = ((runP S ws).e (!b)).out.length by omega, List.take_length]
/-- a fresh one -/
def newP (D L : Nat) (o : Bool → List Wd) : PS := ⟨D, L, fun b => ⟨o b, 0, [], 0⟩, 0, fun _ => 0, []⟩
theorem new_G (D L : Nat) (o : Bool → List Wd) : G44 (newP D L o) := ⟨fun b => ⟨Nat.zero_le _, Nat.zero_le _, rfl⟩, fun b => (by show (0 : Int) ≤ 1; decide), (fun _ h => nomatch h), (fun _ h => nomatch h), fun _ => Nat.zero_le _⟩

def top (i : Nat) : Stmt := PySem.Challenge.pw_mastcalls_k44_whole_pacing.main.body.getD i (.Pass ⟨0, 0, 0, 0⟩)
abbrev s_End_init : Stmt := (inClass (top 2) 0)
abbrev s_End_put : Stmt := (inClass (top 2) 1)
abbrev s_End_frames : Stmt := (inClass (top 2) 2)
abbrev s_End_hear : Stmt := (inClass (top 2) 3)
abbrev s_BadName_init : Stmt := (inClass (top 5) 0)
abbrev s_is_whole : Stmt := (top 7)
abbrev s_slowest : Stmt := (top 10)
abbrev s_Pace_init : Stmt := (inClass (top 11) 0)
abbrev s_Pace_put : Stmt := (inClass (top 11) 1)
abbrev s_Pace_tick : Stmt := (inClass (top 11) 2)
abbrev s_Pace_is_done : Stmt := (inClass (top 11) 3)
abbrev s_law_number : Stmt := (top 13)
abbrev s_law_take : Stmt := (top 14)
abbrev s_law_refused : Stmt := (top 15)
abbrev s_law_slow : Stmt := (top 16)
abbrev s_law_late : Stmt := (top 17)
abbrev s_law : Stmt := (top 18)
theorem sc_End_init : FnScope ["self"] ["self"] (defScope s_End_init) := ⟨rfl, rfl, rfl, by decide +kernel, rfl, by decide +kernel, by decide +kernel⟩
theorem sc_End_put : FnScope ["self", "word"] ["self", "word"] (defScope s_End_put) := ⟨rfl, rfl, rfl, by decide +kernel, rfl, by decide +kernel, by decide +kernel⟩
theorem sc_End_frames : FnScope ["self", "rows", "found", "at", "word"] ["self"] (defScope s_End_frames) := ⟨rfl, rfl, rfl, by decide +kernel, rfl, by decide +kernel, by decide +kernel⟩
theorem sc_End_hear : FnScope ["self", "epoch", "frame", "number", "word", "answered"] ["self", "epoch", "frame"] (defScope s_End_hear) := ⟨rfl, rfl, rfl, by decide +kernel, rfl, by decide +kernel, by decide +kernel⟩
theorem sc_is_whole : FnScope ["thing", "low", "high"] ["thing", "low", "high"] (defScope s_is_whole) := ⟨rfl, rfl, rfl, by decide +kernel, rfl, by decide +kernel, by decide +kernel⟩
theorem sc_slowest : FnScope ["words", "delay", "losses"] ["words", "delay", "losses"] (defScope s_slowest) := ⟨rfl, rfl, rfl, by decide +kernel, rfl, by decide +kernel, by decide +kernel⟩
theorem sc_Pace_init : FnScope ["self", "delay", "losses"] ["self", "delay", "losses"] (defScope s_Pace_init) := ⟨rfl, rfl, rfl, by decide +kernel, rfl, by decide +kernel, by decide +kernel⟩
theorem sc_Pace_put : FnScope ["self", "at", "word"] ["self", "at", "word"] (defScope s_Pace_put) := ⟨rfl, rfl, rfl, by decide +kernel, rfl, by decide +kernel, by decide +kernel⟩
theorem sc_Pace_tick : FnScope ["self", "wishes", "at", "is_lost", "ticks", "late", "time", "goal", "frames", "frame", "letter"] ["self", "wishes"] (defScope s_Pace_tick) := ⟨rfl, rfl, rfl, by decide +kernel, rfl, by decide +kernel, by decide +kernel⟩
theorem sc_Pace_is_done : FnScope ["self", "one", "other"] ["self"] (defScope s_Pace_is_done) := ⟨rfl, rfl, rfl, by decide +kernel, rfl, by decide +kernel, by decide +kernel⟩
theorem sc_law_number : FnScope ["_law_script", "_law_index", "_law_cell", "_law_blend"] ["_law_script", "_law_index"] (defScope s_law_number) := ⟨rfl, rfl, rfl, by decide +kernel, rfl, by decide +kernel, by decide +kernel⟩
theorem sc_law_take : FnScope ["_law_draw", "_law_many"] ["_law_draw", "_law_many"] (defScope s_law_take) := ⟨rfl, rfl, rfl, by decide +kernel, rfl, by decide +kernel, by decide +kernel⟩
theorem sc_law_refused : FnScope ["_law_delay", "_law_losses", "fault"] ["_law_delay", "_law_losses"] (defScope s_law_refused) := ⟨rfl, rfl, rfl, by decide +kernel, rfl, by decide +kernel, by decide +kernel⟩
theorem sc_law_slow : FnScope ["_law_pace", "_law_seen", "_law_wish"] [] (defScope s_law_slow) := ⟨rfl, rfl, rfl, by decide +kernel, rfl, by decide +kernel, by decide +kernel⟩
theorem sc_law_late : FnScope ["_law_pace", "_law_seen", "_law_wish"] [] (defScope s_law_late) := ⟨rfl, rfl, rfl, by decide +kernel, rfl, by decide +kernel, by decide +kernel⟩
theorem sc_law : FnScope ["_law_script", "_law_draw", "_law_delay", "_law_losses", "_law_pace", "_law_words", "_law_at", "_law_word", "_law_harsh", "_law_tick", "_law_wishes", "_law_one", "_law_other", "fault"] ["_law_script"] (defScope s_law) := ⟨rfl, rfl, rfl, by decide +kernel, rfl, by decide +kernel, by decide +kernel⟩
/-! what the walk asks of the text as the top has left it -/
structure Tx (K : PySem.W.Frag) (mg : Str → Option Value) where
  Pg : Program
  C_End : Addr
  C_CallError : Addr
  C_BadName : Addr
  f_BadName_init : Addr
  C_Pace : Addr
  X_BadName : PySem.XeBadName.Txt Pg K mg C_BadName C_CallError f_BadName_init
  f_End_init : Addr
  fd_End_init : FuncData
  f_End_put : Addr
  fd_End_put : FuncData
  f_End_frames : Addr
  fd_End_frames : FuncData
  f_End_hear : Addr
  fd_End_hear : FuncData
  f_is_whole : Addr
  fd_is_whole : FuncData
  f_slowest : Addr
  fd_slowest : FuncData
  f_Pace_init : Addr
  fd_Pace_init : FuncData
  f_Pace_put : Addr
  fd_Pace_put : FuncData
  f_Pace_tick : Addr
  fd_Pace_tick : FuncData
  f_Pace_is_done : Addr
  fd_Pace_is_done : FuncData
  f_law_number : Addr
  fd_law_number : FuncData
  f_law_take : Addr
  fd_law_take : FuncData
  f_law_refused : Addr
  fd_law_refused : FuncData
  f_law_slow : Addr
  fd_law_slow : FuncData
  f_law_late : Addr
  fd_law_late : FuncData
  f_law : Addr
  fd_law : FuncData
  F_End : ClsF K C_End ["out", "answered", "told", "epoch"]
  mg_End : mg "End" = some (.ref C_End)
  M_End : Mk K C_End f_End_init
  F_Pace : ClsF K C_Pace ["delay", "losses", "ends", "time", "lost", "letters"]
  mg_Pace : mg "Pace" = some (.ref C_Pace)
  M_Pace : Mk K C_Pace f_Pace_init
  F_End_init : Fun K "__init__" "End.__init__" s_End_init f_End_init fd_End_init
  k_End_init : PySem.W.keepIn K (.ref f_End_init) = true
  b_End_init : Binds K fd_End_init ["self"] []
  F_End_put : Fun K "put" "End.put" s_End_put f_End_put fd_End_put
  k_End_put : PySem.W.keepIn K (.ref f_End_put) = true
  b_End_put : Binds K fd_End_put ["self", "word"] []
  m_End_put : Meth K C_End "put" f_End_put
  F_End_frames : Fun K "frames" "End.frames" s_End_frames f_End_frames fd_End_frames
  k_End_frames : PySem.W.keepIn K (.ref f_End_frames) = true
  b_End_frames : Binds K fd_End_frames ["self"] []
  m_End_frames : Meth K C_End "frames" f_End_frames
  F_End_hear : Fun K "hear" "End.hear" s_End_hear f_End_hear fd_End_hear
  k_End_hear : PySem.W.keepIn K (.ref f_End_hear) = true
  b_End_hear : Binds K fd_End_hear ["self", "epoch", "frame"] []
  m_End_hear : Meth K C_End "hear" f_End_hear
  F_is_whole : Fun K "is_whole" "is_whole" s_is_whole f_is_whole fd_is_whole
  k_is_whole : PySem.W.keepIn K (.ref f_is_whole) = true
  b_is_whole : Binds K fd_is_whole ["thing", "low", "high"] []
  mg_is_whole : mg "is_whole" = some (.ref f_is_whole)
  F_slowest : Fun K "slowest" "slowest" s_slowest f_slowest fd_slowest
  k_slowest : PySem.W.keepIn K (.ref f_slowest) = true
  b_slowest : Binds K fd_slowest ["words", "delay", "losses"] []
  mg_slowest : mg "slowest" = some (.ref f_slowest)
  F_Pace_init : Fun K "__init__" "Pace.__init__" s_Pace_init f_Pace_init fd_Pace_init
  k_Pace_init : PySem.W.keepIn K (.ref f_Pace_init) = true
  b_Pace_init : Binds K fd_Pace_init ["self", "delay", "losses"] []
  F_Pace_put : Fun K "put" "Pace.put" s_Pace_put f_Pace_put fd_Pace_put
  k_Pace_put : PySem.W.keepIn K (.ref f_Pace_put) = true
  b_Pace_put : Binds K fd_Pace_put ["self", "at", "word"] []
  m_Pace_put : Meth K C_Pace "put" f_Pace_put
  F_Pace_tick : Fun K "tick" "Pace.tick" s_Pace_tick f_Pace_tick fd_Pace_tick
  k_Pace_tick : PySem.W.keepIn K (.ref f_Pace_tick) = true
  b_Pace_tick : Binds K fd_Pace_tick ["self", "wishes"] []
  m_Pace_tick : Meth K C_Pace "tick" f_Pace_tick
  F_Pace_is_done : Fun K "is_done" "Pace.is_done" s_Pace_is_done f_Pace_is_done fd_Pace_is_done
  k_Pace_is_done : PySem.W.keepIn K (.ref f_Pace_is_done) = true
  b_Pace_is_done : Binds K fd_Pace_is_done ["self"] []
  m_Pace_is_done : Meth K C_Pace "is_done" f_Pace_is_done
  F_law_number : Fun K "_law_number" "_law_number" s_law_number f_law_number fd_law_number
  k_law_number : PySem.W.keepIn K (.ref f_law_number) = true
  b_law_number : Binds K fd_law_number ["_law_script", "_law_index"] []
  mg_law_number : mg "_law_number" = some (.ref f_law_number)
  F_law_take : Fun K "_law_take" "_law_take" s_law_take f_law_take fd_law_take
  k_law_take : PySem.W.keepIn K (.ref f_law_take) = true
  b_law_take : Binds K fd_law_take ["_law_draw", "_law_many"] []
  mg_law_take : mg "_law_take" = some (.ref f_law_take)
  F_law_refused : Fun K "_law_refused" "_law_refused" s_law_refused f_law_refused fd_law_refused
  k_law_refused : PySem.W.keepIn K (.ref f_law_refused) = true
  b_law_refused : Binds K fd_law_refused ["_law_delay", "_law_losses"] []
  mg_law_refused : mg "_law_refused" = some (.ref f_law_refused)
  F_law_slow : Fun K "_law_slow" "_law_slow" s_law_slow f_law_slow fd_law_slow
  k_law_slow : PySem.W.keepIn K (.ref f_law_slow) = true
  b_law_slow : Binds K fd_law_slow [] []
  mg_law_slow : mg "_law_slow" = some (.ref f_law_slow)
  F_law_late : Fun K "_law_late" "_law_late" s_law_late f_law_late fd_law_late
  k_law_late : PySem.W.keepIn K (.ref f_law_late) = true
  b_law_late : Binds K fd_law_late [] []
  mg_law_late : mg "_law_late" = some (.ref f_law_late)
  F_law : Fun K "law" "law" s_law f_law fd_law
  k_law : PySem.W.keepIn K (.ref f_law) = true
  b_law : Binds K fd_law ["_law_script"] []
  mg_law : mg "law" = some (.ref f_law)
  t_MOST_WAIT : Tok
  mg_MOST_WAIT : mg "MOST_WAIT" = some (.int 1000 t_MOST_WAIT)
  t_WINDOW : Tok
  mg_WINDOW : mg "WINDOW" = some (.int 3 t_WINDOW)
  no_abs : mg "abs" = none
  no_bool : mg "bool" = none
  no_enumerate : mg "enumerate" = none
  no_int : mg "int" = none
  no_isinstance : mg "isinstance" = none
  no_len : mg "len" = none
  no_max : mg "max" = none
  no_range : mg "range" = none
  no_tuple : mg "tuple" = none
def S_law_number (K : PySem.W.Frag) {mg : Str → Option Value} (T : Tx K mg) : FSpec := fun ds M P => ∃ (s : List Int) (i : Int), ds = [vscr K s, dat (.int i)] ∧ P (dat (.int (lawNum s i))) M
def S_law_take (K : PySem.W.Frag) {mg : Str → Option Value} (T : Tx K mg) : FSpec := fun ds M P => ∃ (s : List Int) (k m : Int) (p : Addr) (M' : Cells), ds = [val (.ref p), dat (.int m)] ∧ 0 < m ∧ Put p (cDraw K s k) (cDraw K s (k + 1)) M M' ∧ P (dat (.int (tk s (k + 1) m))) M'

/-! ### the objects of pacing -/
abbrev pN : List Str := ["delay", "losses", "ends", "time", "lost", "letters"]
def gI (b : Bool) : Int := if b then 1 else 0
def encLt (l : Lt) : PyData := .tuple [.int (l.arr : Int), .int (gI l.g), .tuple (l.fs.map encF)]
def encWs (w : Ws) : PyData := .tuple [.bool w.1, .int (w.2 : Int)]
/-- where the parts of a pace stand -/
structure Pl where
  p : Addr
  lo : Addr
  p0 : Addr
  a0 : Addr
  b0 : Addr
  p1 : Addr
  a1 : Addr
  b1 : Addr
abbrev paceI (C : Addr) (a : Pl) (la : Addr) (S : PS) : CD := cI C pN [dat (.int (S.D : Int)), dat (.int (S.L : Int)), vtup [val (.ref a.p0), val (.ref a.p1)], dat (.int (S.t : Int)), val (.ref a.lo), val (.ref la)]
abbrev lostC (S : PS) : CD := cL [dat (.int (S.lc false : Int)), dat (.int (S.lc true : Int))]
abbrev letC (S : PS) : CD := cLd (S.ls.map encLt)
abbrev PC (CP CE : Addr) (a : Pl) (la : Addr) (S : PS) : Cells := [(a.p, paceI CP a la S), (a.lo, lostC S), (la, letC S), (a.p0, endI CE a.a0 a.b0 (S.e false)), (a.a0, tl (S.e false).out), (a.b0, tl (S.e false).told), (a.p1, endI CE a.a1 a.b1 (S.e true)), (a.a1, tl (S.e true).out), (a.b1, tl (S.e true).told)]
def putP (S : PS) (b : Bool) (w : Wd) : PS := { S with e := set2 S.e b (putE (S.e b) w) }
def isW : PyData → Int → Int → Bool
  | .int i, lo, hi => decide (lo ≤ i) && decide (i ≤ hi)
  | _, _, _ => false
abbrev IS (d : PyData) : Prop := (∃ i, d = .int i) ∨ ∃ s, d = .str s
def okWb (D : Nat) (w : Ws) : Bool := decide (1 ≤ w.2) && decide (w.2 ≤ D)
/-- small enough to be walked -/
structure Sm (S : PS) : Prop where
  o : ∀ b, (S.e b).out.length ≤ 100000
  t : ∀ b, (S.e b).told.length ≤ 100000
  l : S.ls.length ≤ 100000
  f : ∀ l ∈ S.ls, l.fs.length ≤ 3 ∧ ∀ f ∈ l.fs, f.num.isSome = true → f.word.isSome = true
def refD (d l : PyData) : PyData := if isW d 1 1000 = true then (if isW l 0 1000 = true then .str "done" else l) else d
def S_End_init (K : PySem.W.Frag) {mg : Str → Option Value} (T : Tx K mg) : FSpec := fun ds M P => ∃ p M0, ds = [val (.ref p)] ∧ M = (p, cI T.C_End [] []) :: M0 ∧ ∀ a b, P vn ((p, endI T.C_End a b e00) :: (a, tl []) :: (b, tl []) :: M0)
def S_End_put (K : PySem.W.Frag) {mg : Str → Option Value} (T : Tx K mg) : FSpec := fun ds M P => ∃ p a b e w M', ds = [val (.ref p), dat (encW w)] ∧ e.out.length ≤ 1000000 ∧ Sw [(p, endI T.C_End a b e), (a, tl e.out), (b, tl e.told)] [(p, endI T.C_End a b (putE e w)), (a, tl (putE e w).out), (b, tl (putE e w).told)] M M' ∧ P vn M'
def S_End_frames (K : PySem.W.Frag) {mg : Str → Option Value} (T : Tx K mg) : FSpec := fun ds M P => ∃ p a b e, ds = [val (.ref p)] ∧ e.out.length ≤ 1000000 ∧ Sw [(p, endI T.C_End a b e), (a, tl e.out), (b, tl e.told)] [(p, endI T.C_End a b e), (a, tl e.out), (b, tl e.told)] M M ∧ P (dat (.tuple ((framesOf e).map encF))) M
def S_End_hear (K : PySem.W.Frag) {mg : Str → Option Value} (T : Tx K mg) : FSpec := fun ds M P => ∃ p a b e ep f M', ds = [val (.ref p), dat (.int ep), dat (encF f)] ∧ (f.num.isSome = true → f.word.isSome = true) ∧ e.told.length ≤ 1000000 ∧ Sw [(p, endI T.C_End a b e), (a, tl e.out), (b, tl e.told)] [(p, endI T.C_End a b (hearE e ep f)), (a, tl (hearE e ep f).out), (b, tl (hearE e ep f).told)] M M' ∧ P vn M'
def S_is_whole (K : PySem.W.Frag) {mg : Str → Option Value} (T : Tx K mg) : FSpec := fun ds M P => ∃ (d : PyData) (lo hi : Int), ds = [dat d, dat (.int lo), dat (.int hi)] ∧ IS d ∧ P (dat (.bool (isW d lo hi))) M
def S_slowest (K : PySem.W.Frag) {mg : Str → Option Value} (T : Tx K mg) : FSpec := fun ds M P => ∃ n d l : Nat, ds = [dat (.int (n : Int)), dat (.int (d : Int)), dat (.int (l : Int))] ∧ n ≤ 1000 ∧ d ≤ 1000 ∧ l ≤ 1000 ∧ P (dat (.int (((n + 2) / 3 * 2 * (d + l + 1) : Nat) : Int))) M
def S_Pace_init (K : PySem.W.Frag) {mg : Str → Option Value} (T : Tx K mg) : XSpec := fun ds M P PE => ∃ p M0 d l, ds = [val (.ref p), dat d, dat l] ∧ M = (p, cI T.C_Pace [] []) :: M0 ∧ IS d ∧ IS l ∧ ((isW d 1 1000 = false ∧ PE T.C_BadName "name" (dat d) M) ∨ (isW d 1 1000 = true ∧ isW l 0 1000 = false ∧ PE T.C_BadName "name" (dat l) M) ∨ ∃ D L : Nat, d = .int (D : Int) ∧ l = .int (L : Int) ∧ 1 ≤ D ∧ D ≤ 1000 ∧ L ≤ 1000 ∧ ∀ a la, a.p = p → P vn (PC T.C_Pace T.C_End a la (newP D L fun _ => []) ++ M0))
def S_Pace_put (K : PySem.W.Frag) {mg : Str → Option Value} (T : Tx K mg) : FSpec := fun ds M P => ∃ a la S b w M0, ds = [val (.ref a.p), dat (.int (gI b)), dat (encW w)] ∧ Sm S ∧ M.Perm (PC T.C_Pace T.C_End a la S ++ M0) ∧ P vn (PC T.C_Pace T.C_End a la (putP S b w) ++ M0)
def S_Pace_tick (K : PySem.W.Frag) {mg : Str → Option Value} (T : Tx K mg) : XSpec := fun ds M P PE => ∃ a la S w0 w1 M0, ds = [val (.ref a.p), dat (.list [encWs w0, encWs w1])] ∧ Sm S ∧ M.Perm (PC T.C_Pace T.C_End a la S ++ M0) ∧ okWb S.D w0 = true ∧ ((okWb S.D w1 = true ∧ ∀ la', P vn (PC T.C_Pace T.C_End a la' (tickP S (w0, w1)) ++ M0)) ∨ (okWb S.D w1 = false ∧ PE T.C_BadName "name" (dat (.int (w1.2 : Int))) M))
def S_Pace_is_done (K : PySem.W.Frag) {mg : Str → Option Value} (T : Tx K mg) : FSpec := fun ds M P => ∃ a la S M0, ds = [val (.ref a.p)] ∧ Sm S ∧ M.Perm (PC T.C_Pace T.C_End a la S ++ M0) ∧ ∀ b, (b = true ↔ Done44 S) → P (dat (.bool b)) M
def S_law_refused (K : PySem.W.Frag) {mg : Str → Option Value} (T : Tx K mg) : FSpec := fun ds M P => ∃ d l, ds = [dat d, dat l] ∧ IS d ∧ IS l ∧ P (dat (refD d l)) M
def S_law_slow (K : PySem.W.Frag) {mg : Str → Option Value} (T : Tx K mg) : FSpec := fun ds M P => ds = [] ∧ P (dat (.bool true)) M
def S_law_late (K : PySem.W.Frag) {mg : Str → Option Value} (T : Tx K mg) : FSpec := fun ds M P => ds = [] ∧ P (dat (.bool true)) M
def SLaw (K : PySem.W.Frag) : FSpec := fun ds M P => ∃ s : List Int, ds = [vscr K s] ∧ M = [] ∧ s.length ≤ 63 ∧ ∀ M', P (dat (.bool true)) M'
def S_law (K : PySem.W.Frag) {mg : Str → Option Value} (T : Tx K mg) : FSpec := SLaw K

abbrev rd_law_number_8 (K : PySem.W.Frag) {mg : Str → Option Value} (T : Tx K mg) : TS := (tRet (tCB (rInt1) (tCons (tOp (rI (fun _ j => 0 < j) fun i j => .int (i % j)) (tOp (rAddU K) (tOp (rI CMul fun i j => .int (i * j)) (tOp (rI (fun _ j => 0 < j) fun i j => .int (i % j)) (tOp (rI CMul fun i j => .int (i * j)) (tVar 3) (tC (.int 69621))) (tC (.int 2147483629))) (tC (.int 16807))) (tVar 1)) (tC (.int 2147483587))) tNil)))
abbrev rd_law_number_7 (K : PySem.W.Frag) {mg : Str → Option Value} (T : Tx K mg) : TS := tSeq (tAsg (tOp (rI (fun _ j => 0 < j) fun i j => .int (i % j)) (tOp (rAddU K) (tOp (rI CMul fun i j => .int (i * j)) (tOp (rAddU K) (tVar 2) (tOp (rI CMul fun i j => .int (i * j)) (tC (.int 977)) (tVar 1))) (tC (.int 48271))) (tOp (rI CMul fun i j => .int (i * j)) (tC (.int 31)) (tCB (rLenU K) (tCons (tVar 0) tNil)))) (tC (.int 2147483647))) (gName 3)) (rd_law_number_8 K T)
abbrev rd_law_number_6 (K : PySem.W.Frag) {mg : Str → Option Value} (T : Tx K mg) : TS := tNext
abbrev rd_law_number_5 (K : PySem.W.Frag) {mg : Str → Option Value} (T : Tx K mg) : TS := (tAsg (tOp (rI (fun _ j => 0 < j) fun i j => .int (i % j)) (tVar 2) (tOp (rI CPow fun i j => .int (i ^ j.toNat)) (tC (.int 10)) (tC (.int 18)))) (gName 2))
abbrev rd_law_number_4 (K : PySem.W.Frag) {mg : Str → Option Value} (T : Tx K mg) : TS := Evl.tCut (tIfS (tTest (tOp (rI0 fun i j => .bl (decide (j ≤ i))) (tCB (rAbs) (tCons (tVar 2) tNil)) (tOp (rI CPow fun i j => .int (i ^ j.toNat)) (tC (.int 10)) (tC (.int 60))))) (rd_law_number_5 K T) (rd_law_number_6 K T)) (rd_law_number_7 K T)
abbrev rd_law_number_3 (K : PySem.W.Frag) {mg : Str → Option Value} (T : Tx K mg) : TS := tSeq (tAsg (tOp (rIx K) (tVar 0) (tOp (rI (fun _ j => 0 < j) fun i j => .int (i % j)) (tVar 1) (tCB (rLenU K) (tCons (tVar 0) tNil)))) (gName 2)) (rd_law_number_4 K T)
abbrev rd_law_number_2 (K : PySem.W.Frag) {mg : Str → Option Value} (T : Tx K mg) : TS := tNext
abbrev rd_law_number_1 (K : PySem.W.Frag) {mg : Str → Option Value} (T : Tx K mg) : TS := (tRet (tCB (rInt1) (tCons (tOp (rI (fun _ j => 0 < j) fun i j => .int (i % j)) (tOp (rAddU K) (tOp (rI CMul fun i j => .int (i * j)) (tVar 1) (tC (.int 48271))) (tC (.int 12345))) (tC (.int 2147483647))) tNil)))
abbrev rd_law_number_0 (K : PySem.W.Frag) {mg : Str → Option Value} (T : Tx K mg) : TS := Evl.tCut (tIfS (tTest (tOp (rEqU K) (tVar 0) (tLst tNil))) (rd_law_number_1 K T) (rd_law_number_2 K T)) (rd_law_number_3 K T)
abbrev rd_law_take_1 (K : PySem.W.Frag) {mg : Str → Option Value} (T : Tx K mg) : TS := (tRet (tOp (rI (fun _ j => 0 < j) fun i j => .int (i % j)) (tCB (rInt1) (tCons (tCall (spF 2 (S_law_number K T)) [] E0 (tCons (tOp (rIx K) (tVar 0) (tC (.int 0))) (tCons (tCB (rInt1) (tCons (tOp (rIx K) (tVar 0) (tC (.int 1))) tNil)) tNil))) tNil)) (tVar 1)))
abbrev rd_law_take_0 (K : PySem.W.Frag) {mg : Str → Option Value} (T : Tx K mg) : TS := tSeq (tAugS (tVar 0) (tC (.int 1)) (tC (.int 1)) (rIxL K) (ipI fun i j => i + j) rSetL) (rd_law_take_1 K T)
abbrev rd_End_init_3 (K : PySem.W.Frag) {mg : Str → Option Value} (T : Tx K mg) : TS := (sFld K (tVar 0) (tC (.int 0)) "epoch")
abbrev rd_End_init_2 (K : PySem.W.Frag) {mg : Str → Option Value} (T : Tx K mg) : TS := tSeq (sFld K (tVar 0) (tLst tNil) "told") (rd_End_init_3 K T)
abbrev rd_End_init_1 (K : PySem.W.Frag) {mg : Str → Option Value} (T : Tx K mg) : TS := tSeq (sFld K (tVar 0) (tC (.int 0)) "answered") (rd_End_init_2 K T)
abbrev rd_End_init_0 (K : PySem.W.Frag) {mg : Str → Option Value} (T : Tx K mg) : TS := tSeq (sFld K (tVar 0) (tLst tNil) "out") (rd_End_init_1 K T)
abbrev rd_End_put_0 (K : PySem.W.Frag) {mg : Str → Option Value} (T : Tx K mg) : TS := (tDrop (tBM K "list" rAppend (tFld K (tVar 0) "out") (tCons (tVar 1) tNil)))
abbrev rd_End_frames_2 (K : PySem.W.Frag) {mg : Str → Option Value} (T : Tx K mg) : TS := (tRet (tIf (tTest (tOp (rNeU K) (tVar 2) (tLst tNil))) (tCB (rTupOf K) (tCons (tVar 2) tNil)) (tTup (tCons (tTup (tCons (tC (.str "frame")) (tCons (tC .non) (tCons (tC .non) (tCons (tCB (rLenU K) (tCons (tFld K (tVar 0) "told") tNil)) tNil))))) tNil))))
abbrev rd_End_frames_1 (K : PySem.W.Frag) {mg : Str → Option Value} (T : Tx K mg) : TS := tSeq (tAsg (tLc (iEnum K (tCons (tVar 1) tNil)) (gTup K 2 (gCons (gName 3) (gCons (gName 4) gNil))) tYes (tTup (tCons (tC (.str "frame")) (tCons (tOp (rAddU K) (tFld K (tVar 0) "answered") (tVar 3)) (tCons (tVar 4) (tCons (tCB (rLenU K) (tCons (tFld K (tVar 0) "told") tNil)) tNil))))) [3, 4]) (gName 2)) (rd_End_frames_2 K T)
abbrev rd_End_frames_0 (K : PySem.W.Frag) {mg : Str → Option Value} (T : Tx K mg) : TS := tSeq (tAsg (tSl (rSlU K) (tFld K (tVar 0) "out") (tPart (tFld K (tVar 0) "answered")) (tPart (tOp (rAddU K) (tFld K (tVar 0) "answered") (tC (.int 3))))) (gName 1)) (rd_End_frames_1 K T)
abbrev rd_End_hear_10 (K : PySem.W.Frag) {mg : Str → Option Value} (T : Tx K mg) : TS := tNext
abbrev rd_End_hear_9 (K : PySem.W.Frag) {mg : Str → Option Value} (T : Tx K mg) : TS := (sFld K (tVar 0) (tVar 5) "answered")
abbrev rd_End_hear_8 (K : PySem.W.Frag) {mg : Str → Option Value} (T : Tx K mg) : TS := (tIfS (tTest (tChain (rI0 fun i j => .bl (decide (i < j))) (rI0 fun i j => .bl (decide (i ≤ j))) (tFld K (tVar 0) "answered") (tVar 5) (tCB (rLenU K) (tCons (tFld K (tVar 0) "out") tNil)))) (rd_End_hear_9 K T) (rd_End_hear_10 K T))
abbrev rd_End_hear_7 (K : PySem.W.Frag) {mg : Str → Option Value} (T : Tx K mg) : TS := tNext
abbrev rd_End_hear_6 (K : PySem.W.Frag) {mg : Str → Option Value} (T : Tx K mg) : TS := (tDrop (tBM K "list" rAppend (tFld K (tVar 0) "told") (tCons (tVar 4) tNil)))
abbrev rd_End_hear_5 (K : PySem.W.Frag) {mg : Str → Option Value} (T : Tx K mg) : TS := Evl.tCut (tIfS (tTest (tOp (rEqU K) (tVar 3) (tCB (rLenU K) (tCons (tFld K (tVar 0) "told") tNil)))) (rd_End_hear_6 K T) (rd_End_hear_7 K T)) (rd_End_hear_8 K T)
abbrev rd_End_hear_4 (K : PySem.W.Frag) {mg : Str → Option Value} (T : Tx K mg) : TS := tSeq (tAsg (tSl (rSlU K) (tVar 2) (tPart (tC (.int 1))) tNoPart) (gTup K 3 (gCons (gName 3) (gCons (gName 4) (gCons (gName 5) gNil))))) (rd_End_hear_5 K T)
abbrev rd_End_hear_3 (K : PySem.W.Frag) {mg : Str → Option Value} (T : Tx K mg) : TS := tSeq (sFld K (tVar 0) (tVar 1) "epoch") (rd_End_hear_4 K T)
abbrev rd_End_hear_2 (K : PySem.W.Frag) {mg : Str → Option Value} (T : Tx K mg) : TS := tNext
abbrev rd_End_hear_1 (K : PySem.W.Frag) {mg : Str → Option Value} (T : Tx K mg) : TS := tRetN
abbrev rd_End_hear_0 (K : PySem.W.Frag) {mg : Str → Option Value} (T : Tx K mg) : TS := Evl.tCut (tIfS (tTest (tOp (rI0 fun i j => .bl (decide (i < j))) (tVar 1) (tFld K (tVar 0) "epoch"))) (rd_End_hear_1 K T) (rd_End_hear_2 K T)) (rd_End_hear_3 K T)
abbrev rd_is_whole_0 (K : PySem.W.Frag) {mg : Str → Option Value} (T : Tx K mg) : TS := (tRet (tAndV (tCB (rIsi K) (tCons (tVar 0) (tCons (tC (.ty "int")) tNil))) (tAndV (tNotV (tCB (rIsi K) (tCons (tVar 0) (tCons (tC (.ty "bool")) tNil)))) (tChain (rI0 fun i j => .bl (decide (i ≤ j))) (rI0 fun i j => .bl (decide (i ≤ j))) (tVar 1) (tVar 0) (tVar 2)))))
abbrev rd_slowest_0 (K : PySem.W.Frag) {mg : Str → Option Value} (T : Tx K mg) : TS := (tRet (tOp (rI CMul fun i j => .int (i * j)) (tOp (rI CMul fun i j => .int (i * j)) (tOp (rI CDiv fun i j => .int (i / j)) (tOp (rI0 fun i j => .int (i - j)) (tOp (rAddU K) (tVar 0) (tC (.int 3))) (tC (.int 1))) (tC (.int 3))) (tC (.int 2))) (tOp (rAddU K) (tOp (rAddU K) (tVar 1) (tVar 2)) (tC (.int 1)))))
abbrev rd_Pace_init_11 (K : PySem.W.Frag) {mg : Str → Option Value} (T : Tx K mg) (W : WX) : TS := (sFld K (tVar 0) (tLst tNil) "letters")
abbrev rd_Pace_init_10 (K : PySem.W.Frag) {mg : Str → Option Value} (T : Tx K mg) (W : WX) : TS := tSeq (sFld K (tVar 0) (tLst (tCons (tC (.int 0)) (tCons (tC (.int 0)) tNil))) "lost") (rd_Pace_init_11 K T W)
abbrev rd_Pace_init_9 (K : PySem.W.Frag) {mg : Str → Option Value} (T : Tx K mg) (W : WX) : TS := tSeq (sFld K (tVar 0) (tC (.int 0)) "time") (rd_Pace_init_10 K T W)
abbrev rd_Pace_init_8 (K : PySem.W.Frag) {mg : Str → Option Value} (T : Tx K mg) (W : WX) : TS := tSeq (sFld K (tVar 0) (tTup (tCons (tMake T.C_End (spF 1 (S_End_init K T)) [] E0 tNil) (tCons (tMake T.C_End (spF 1 (S_End_init K T)) [] E0 tNil) tNil))) "ends") (rd_Pace_init_9 K T W)
abbrev rd_Pace_init_7 (K : PySem.W.Frag) {mg : Str → Option Value} (T : Tx K mg) (W : WX) : TS := tSeq (sFld K (tVar 0) (tVar 2) "losses") (rd_Pace_init_8 K T W)
abbrev rd_Pace_init_6 (K : PySem.W.Frag) {mg : Str → Option Value} (T : Tx K mg) (W : WX) : TS := tSeq (sFld K (tVar 0) (tVar 1) "delay") (rd_Pace_init_7 K T W)
abbrev rd_Pace_init_5 (K : PySem.W.Frag) {mg : Str → Option Value} (T : Tx K mg) (W : WX) : TS := tNext
abbrev rd_Pace_init_4 (K : PySem.W.Frag) {mg : Str → Option Value} (T : Tx K mg) (W : WX) : TS := (tRaise T.C_BadName "name" W (tCons (tVar 2) tNil))
abbrev rd_Pace_init_3 (K : PySem.W.Frag) {mg : Str → Option Value} (T : Tx K mg) (W : WX) : TS := Evl.tCut (tIfS (tNot (tB (tCall (spF 3 (S_is_whole K T)) [] E0 (tCons (tVar 2) (tCons (tC (.int 0)) (tCons (tC (.int 1000)) tNil)))))) (rd_Pace_init_4 K T W) (rd_Pace_init_5 K T W)) (rd_Pace_init_6 K T W)
abbrev rd_Pace_init_2 (K : PySem.W.Frag) {mg : Str → Option Value} (T : Tx K mg) (W : WX) : TS := tNext
abbrev rd_Pace_init_1 (K : PySem.W.Frag) {mg : Str → Option Value} (T : Tx K mg) (W : WX) : TS := (tRaise T.C_BadName "name" W (tCons (tVar 1) tNil))
abbrev rd_Pace_init_0 (K : PySem.W.Frag) {mg : Str → Option Value} (T : Tx K mg) (W : WX) : TS := Evl.tCut (tIfS (tNot (tB (tCall (spF 3 (S_is_whole K T)) [] E0 (tCons (tVar 1) (tCons (tC (.int 1)) (tCons (tC (.int 1000)) tNil)))))) (rd_Pace_init_1 K T W) (rd_Pace_init_2 K T W)) (rd_Pace_init_3 K T W)
abbrev rd_Pace_put_0 (K : PySem.W.Frag) {mg : Str → Option Value} (T : Tx K mg) : TS := (tDrop (tMeth T.C_End "put" (spF 2 (S_End_put K T)) [] E0 (tOp (rIx K) (tFld K (tVar 0) "ends") (tVar 1)) (tCons (tVar 2) tNil)))
abbrev rd_Pace_tick_14 (K : PySem.W.Frag) {mg : Str → Option Value} (T : Tx K mg) (W : WX) : TS := (sFld K (tVar 0) (tVar 5) "letters")
abbrev rd_Pace_tick_13 (K : PySem.W.Frag) {mg : Str → Option Value} (T : Tx K mg) (W : WX) : TS := (tDrop (tMeth T.C_End "hear" (spF 3 (S_End_hear K T)) [] E0 (tOp (rIx K) (tFld K (tVar 0) "ends") (tVar 7)) (tCons (tC (.int 1)) (tCons (tVar 9) tNil))))
abbrev rd_Pace_tick_12 (K : PySem.W.Frag) {mg : Str → Option Value} (T : Tx K mg) (W : WX) : TS := (tFor (iSeq K (tVar 8)) (gName 9) (rd_Pace_tick_13 K T W))
abbrev rd_Pace_tick_11 (K : PySem.W.Frag) {mg : Str → Option Value} (T : Tx K mg) (W : WX) : TS := Evl.tCut (tFor (iSeq K (tLc (iSeq K (tFld K (tVar 0) "letters")) (gName 10) (tTest (tOp (rI0 fun i j => .bl (decide (i ≤ j))) (tOp (rIx K) (tVar 10) (tC (.int 0))) (tFld K (tVar 0) "time"))) (tVar 10) [10])) (gTup K 3 (gCons (gName 6) (gCons (gName 7) (gCons (gName 8) gNil)))) (rd_Pace_tick_12 K T W)) (rd_Pace_tick_14 K T W)
abbrev rd_Pace_tick_10 (K : PySem.W.Frag) {mg : Str → Option Value} (T : Tx K mg) (W : WX) : TS := tSeq (tAsg (tLc (iSeq K (tFld K (tVar 0) "letters")) (gName 10) (tTest (tOp (rI0 fun i j => .bl (decide (j < i))) (tOp (rIx K) (tVar 10) (tC (.int 0))) (tFld K (tVar 0) "time"))) (tVar 10) [10]) (gName 5)) (rd_Pace_tick_11 K T W)
abbrev rd_Pace_tick_9 (K : PySem.W.Frag) {mg : Str → Option Value} (T : Tx K mg) (W : WX) : TS := tSeq (sFldAug K (tVar 0) (tC (.int 1)) rAdd "time") (rd_Pace_tick_10 K T W)
abbrev rd_Pace_tick_8 (K : PySem.W.Frag) {mg : Str → Option Value} (T : Tx K mg) (W : WX) : TS := (tDrop (tBM K "list" rAppend (tFld K (tVar 0) "letters") (tCons (tTup (tCons (tOp (rAddU K) (tFld K (tVar 0) "time") (tVar 4)) (tCons (tOp (rI0 fun i j => .int (i - j)) (tC (.int 1)) (tVar 2)) (tCons (tMeth T.C_End "frames" (spF 1 (S_End_frames K T)) [] E0 (tOp (rIx K) (tFld K (tVar 0) "ends") (tVar 2)) tNil) tNil)))) tNil)))
abbrev rd_Pace_tick_7 (K : PySem.W.Frag) {mg : Str → Option Value} (T : Tx K mg) (W : WX) : TS := tSeq (tAsg (tC (.int 0)) (gSub (tFld K (tVar 0) "lost") (tVar 2) rSetL)) (rd_Pace_tick_8 K T W)
abbrev rd_Pace_tick_6 (K : PySem.W.Frag) {mg : Str → Option Value} (T : Tx K mg) (W : WX) : TS := (tAugS (tFld K (tVar 0) "lost") (tVar 2) (tC (.int 1)) (rIxL K) (ipI fun i j => i + j) rSetL)
abbrev rd_Pace_tick_5 (K : PySem.W.Frag) {mg : Str → Option Value} (T : Tx K mg) (W : WX) : TS := (tIfS (tAnd (tB (tVar 3)) (tTest (tOp (rI0 fun i j => .bl (decide (i < j))) (tOp (rIx K) (tFld K (tVar 0) "lost") (tVar 2)) (tFld K (tVar 0) "losses")))) (rd_Pace_tick_6 K T W) (rd_Pace_tick_7 K T W))
abbrev rd_Pace_tick_4 (K : PySem.W.Frag) {mg : Str → Option Value} (T : Tx K mg) (W : WX) : TS := Evl.tCut (tFor (iEnum K (tCons (tVar 1) tNil)) (gTup K 2 (gCons (gName 2) (gCons (gTup K 2 (gCons (gName 3) (gCons (gName 4) gNil))) gNil))) (rd_Pace_tick_5 K T W)) (rd_Pace_tick_9 K T W)
abbrev rd_Pace_tick_3 (K : PySem.W.Frag) {mg : Str → Option Value} (T : Tx K mg) (W : WX) : TS := tNext
abbrev rd_Pace_tick_2 (K : PySem.W.Frag) {mg : Str → Option Value} (T : Tx K mg) (W : WX) : TS := (tRaise T.C_BadName "name" W (tCons (tVar 4) tNil))
abbrev rd_Pace_tick_1 (K : PySem.W.Frag) {mg : Str → Option Value} (T : Tx K mg) (W : WX) : TS := (tIfS (tNot (tB (tCall (spF 3 (S_is_whole K T)) [] E0 (tCons (tVar 4) (tCons (tC (.int 1)) (tCons (tFld K (tVar 0) "delay") tNil)))))) (rd_Pace_tick_2 K T W) (rd_Pace_tick_3 K T W))
abbrev rd_Pace_tick_0 (K : PySem.W.Frag) {mg : Str → Option Value} (T : Tx K mg) (W : WX) : TS := Evl.tCut (tFor (iEnum K (tCons (tVar 1) tNil)) (gTup K 2 (gCons (gName 2) (gCons (gTup K 2 (gCons (gName 3) (gCons (gName 4) gNil))) gNil))) (rd_Pace_tick_1 K T W)) (rd_Pace_tick_4 K T W)
abbrev rd_Pace_is_done_4 (K : PySem.W.Frag) {mg : Str → Option Value} (T : Tx K mg) : TS := (tRet (tAndV (tOp (rEqU K) (tFld K (tVar 1) "answered") (tCB (rLenU K) (tCons (tFld K (tVar 1) "out") tNil))) (tOp (rEqU K) (tFld K (tVar 2) "answered") (tCB (rLenU K) (tCons (tFld K (tVar 2) "out") tNil)))))
abbrev rd_Pace_is_done_3 (K : PySem.W.Frag) {mg : Str → Option Value} (T : Tx K mg) : TS := tNext
abbrev rd_Pace_is_done_2 (K : PySem.W.Frag) {mg : Str → Option Value} (T : Tx K mg) : TS := (tRet (tC (.bl false)))
abbrev rd_Pace_is_done_1 (K : PySem.W.Frag) {mg : Str → Option Value} (T : Tx K mg) : TS := Evl.tCut (tIfS (tOr (tTest (tOp (rNeU K) (tFld K (tVar 1) "told") (tFld K (tVar 2) "out"))) (tTest (tOp (rNeU K) (tFld K (tVar 2) "told") (tFld K (tVar 1) "out")))) (rd_Pace_is_done_2 K T) (rd_Pace_is_done_3 K T)) (rd_Pace_is_done_4 K T)
abbrev rd_Pace_is_done_0 (K : PySem.W.Frag) {mg : Str → Option Value} (T : Tx K mg) : TS := tSeq (tAsg (tFld K (tVar 0) "ends") (gTup K 2 (gCons (gName 1) (gCons (gName 2) gNil)))) (rd_Pace_is_done_1 K T)
abbrev rd_law_refused_3 (K : PySem.W.Frag) {mg : Str → Option Value} (T : Tx K mg) (a : Addr) (cls : Value) (dx : Option Addr) : TS := (tRet (tXf a cls dx T.C_BadName "name" (tVar 2)))
abbrev rd_law_refused_2 (K : PySem.W.Frag) {mg : Str → Option Value} (T : Tx K mg) (W : WX) : TS := (tRet (tC (.str "done")))
abbrev rd_law_refused_1 (K : PySem.W.Frag) {mg : Str → Option Value} (T : Tx K mg) (W : WX) : TS := tSeq (tDrop (tMakeS T.C_Pace (spX 3 (S_Pace_init K T)) (WE W) (tCons (tVar 0) (tCons (tVar 1) tNil)))) (rd_law_refused_2 K T W)
abbrev rd_law_refused_0 (K : PySem.W.Frag) {mg : Str → Option Value} (T : Tx K mg) : TS := (tTryAs K (.ref T.C_BadName) 2 (fun a cls dx => (rd_law_refused_3 K T a cls dx)) W0 (fun W => (rd_law_refused_1 K T W)))
abbrev rd_law_slow_6 (K : PySem.W.Frag) {mg : Str → Option Value} (T : Tx K mg) : TS := (tRet (tAndV (tOp (rEqU K) (tVar 1) (tLst (tCons (tC (.int 0)) (tCons (tC (.int 0)) (tCons (tC (.int 1)) (tCons (tC (.int 1)) tNil)))))) (tAndV (tOp (rEqU K) (tTup (tCons (tFld K (tVar 0) "delay") (tCons (tFld K (tVar 0) "losses") tNil))) (tTup (tCons (tC (.int 3)) (tCons (tC (.int 1)) tNil)))) (tMeth T.C_Pace "is_done" (spF 1 (S_Pace_is_done K T)) [] E0 (tVar 0) tNil))))
abbrev rd_law_slow_5 (K : PySem.W.Frag) {mg : Str → Option Value} (T : Tx K mg) : TS := (tDrop (tBM K "list" rAppend (tVar 1) (tCons (tCB (rLenU K) (tCons (tFld K (tOp (rIx K) (tFld K (tVar 0) "ends") (tC (.int 1))) "told") tNil)) tNil)))
abbrev rd_law_slow_4 (K : PySem.W.Frag) {mg : Str → Option Value} (T : Tx K mg) : TS := tSeq (tDrop (tMethS T.C_Pace "tick" (spX 2 (S_Pace_tick K T)) (WE W0) (tVar 0) (tCons (tLst (tCons (tVar 2) (tCons (tTup (tCons (tC (.bl false)) (tCons (tC (.int 1)) tNil))) tNil))) tNil))) (rd_law_slow_5 K T)
abbrev rd_law_slow_3 (K : PySem.W.Frag) {mg : Str → Option Value} (T : Tx K mg) : TS := Evl.tCut (tFor (iSeq K (tTup (tCons (tTup (tCons (tC (.bl true)) (tCons (tC (.int 1)) tNil))) (tCons (tTup (tCons (tC (.bl true)) (tCons (tC (.int 2)) tNil))) (tCons (tTup (tCons (tC (.bl false)) (tCons (tC (.int 3)) tNil))) (tCons (tTup (tCons (tC (.bl false)) (tCons (tC (.int 1)) tNil))) tNil)))))) (gName 2) (rd_law_slow_4 K T)) (rd_law_slow_6 K T)
abbrev rd_law_slow_2 (K : PySem.W.Frag) {mg : Str → Option Value} (T : Tx K mg) : TS := tSeq (tAsg (tLst tNil) (gName 1)) (rd_law_slow_3 K T)
abbrev rd_law_slow_1 (K : PySem.W.Frag) {mg : Str → Option Value} (T : Tx K mg) : TS := tSeq (tDrop (tMeth T.C_Pace "put" (spF 3 (S_Pace_put K T)) [] E0 (tVar 0) (tCons (tC (.int 0)) (tCons (tC (.str "a")) tNil)))) (rd_law_slow_2 K T)
abbrev rd_law_slow_0 (K : PySem.W.Frag) {mg : Str → Option Value} (T : Tx K mg) : TS := tSeq (tAsg (tMakeS T.C_Pace (spX 3 (S_Pace_init K T)) (WE W0) (tCons (tC (.int 3)) (tCons (tC (.int 1)) tNil))) (gName 0)) (rd_law_slow_1 K T)
abbrev rd_law_late_5 (K : PySem.W.Frag) {mg : Str → Option Value} (T : Tx K mg) : TS := (tRet (tOp (rEqU K) (tVar 1) (tLst (tCons (tC (.int 0)) (tCons (tC (.int 0)) (tCons (tC (.int 1)) tNil))))))
abbrev rd_law_late_4 (K : PySem.W.Frag) {mg : Str → Option Value} (T : Tx K mg) : TS := (tDrop (tBM K "list" rAppend (tVar 1) (tCons (tCB (rLenU K) (tCons (tFld K (tOp (rIx K) (tFld K (tVar 0) "ends") (tC (.int 0))) "told") tNil)) tNil)))
abbrev rd_law_late_3 (K : PySem.W.Frag) {mg : Str → Option Value} (T : Tx K mg) : TS := tSeq (tDrop (tMethS T.C_Pace "tick" (spX 2 (S_Pace_tick K T)) (WE W0) (tVar 0) (tCons (tLst (tCons (tTup (tCons (tC (.bl false)) (tCons (tC (.int 1)) tNil))) (tCons (tVar 2) tNil))) tNil))) (rd_law_late_4 K T)
abbrev rd_law_late_2 (K : PySem.W.Frag) {mg : Str → Option Value} (T : Tx K mg) : TS := Evl.tCut (tFor (iSeq K (tTup (tCons (tTup (tCons (tC (.bl true)) (tCons (tC (.int 3)) tNil))) (tCons (tTup (tCons (tC (.bl true)) (tCons (tC (.int 3)) tNil))) (tCons (tTup (tCons (tC (.bl true)) (tCons (tC (.int 3)) tNil))) tNil))))) (gName 2) (rd_law_late_3 K T)) (rd_law_late_5 K T)
abbrev rd_law_late_1 (K : PySem.W.Frag) {mg : Str → Option Value} (T : Tx K mg) : TS := tSeq (tDrop (tMeth T.C_Pace "put" (spF 3 (S_Pace_put K T)) [] E0 (tVar 0) (tCons (tC (.int 1)) (tCons (tC (.str "b")) tNil)))) (rd_law_late_2 K T)
abbrev rd_law_late_0 (K : PySem.W.Frag) {mg : Str → Option Value} (T : Tx K mg) : TS := tSeq (tPar 0 1 (tCons (tMakeS T.C_Pace (spX 3 (S_Pace_init K T)) (WE W0) (tCons (tC (.int 3)) (tCons (tC (.int 0)) tNil))) (tCons (tLst tNil) tNil))) (rd_law_late_1 K T)
abbrev rd_law_25 (K : PySem.W.Frag) {mg : Str → Option Value} (T : Tx K mg) : TS := (tRet (tOp (rEqU K) (tLst (tCons (tCall (spF 2 (S_law_refused K T)) [] E0 (tCons (tC (.int 0)) (tCons (tC (.int 1)) tNil))) (tCons (tCall (spF 2 (S_law_refused K T)) [] E0 (tCons (tC (.int 1)) (tCons (tUn (rU fun i => .int (-i)) (tC (.int 1))) tNil))) (tCons (tCall (spF 2 (S_law_refused K T)) [] E0 (tCons (tC (.int 1001)) (tCons (tC (.int 0)) tNil))) (tCons (tCall (spF 2 (S_law_refused K T)) [] E0 (tCons (tC (.str "1")) (tCons (tC (.int 0)) tNil))) tNil))))) (tLst (tCons (tC (.int 0)) (tCons (tUn (rU fun i => .int (-i)) (tC (.int 1))) (tCons (tC (.int 1001)) (tCons (tC (.str "1")) tNil)))))))
abbrev rd_law_24 (K : PySem.W.Frag) {mg : Str → Option Value} (T : Tx K mg) (a : Addr) (cls : Value) (dx : Option Addr) : TS := tNext
abbrev rd_law_23 (K : PySem.W.Frag) {mg : Str → Option Value} (T : Tx K mg) (a : Addr) (cls : Value) (dx : Option Addr) : TS := (tRet (tC (.bl false)))
abbrev rd_law_22 (K : PySem.W.Frag) {mg : Str → Option Value} (T : Tx K mg) (a : Addr) (cls : Value) (dx : Option Addr) : TS := (tIfS (tTest (tOp (rNeU K) (tXf a cls dx T.C_BadName "name" (tVar 13)) (tOp (rAddU K) (tVar 2) (tC (.int 1))))) (rd_law_23 K T a cls dx) (rd_law_24 K T a cls dx))
abbrev rd_law_21 (K : PySem.W.Frag) {mg : Str → Option Value} (T : Tx K mg) (W : WX) : TS := (tRet (tC (.bl false)))
abbrev rd_law_20 (K : PySem.W.Frag) {mg : Str → Option Value} (T : Tx K mg) (W : WX) : TS := tSeq (tDrop (tMethS T.C_Pace "tick" (spX 2 (S_Pace_tick K T)) (WE W) (tVar 4) (tCons (tLst (tCons (tTup (tCons (tC (.bl false)) (tCons (tC (.int 1)) tNil))) (tCons (tTup (tCons (tC (.bl false)) (tCons (tOp (rAddU K) (tVar 2) (tC (.int 1))) tNil))) tNil))) tNil))) (rd_law_21 K T W)
abbrev rd_law_19 (K : PySem.W.Frag) {mg : Str → Option Value} (T : Tx K mg) : TS := Evl.tCut (tTryAs K (.ref T.C_BadName) 13 (fun a cls dx => (rd_law_22 K T a cls dx)) W0 (fun W => (rd_law_20 K T W))) (rd_law_25 K T)
abbrev rd_law_18 (K : PySem.W.Frag) {mg : Str → Option Value} (T : Tx K mg) : TS := tNext
abbrev rd_law_17 (K : PySem.W.Frag) {mg : Str → Option Value} (T : Tx K mg) : TS := (tRet (tC (.bl false)))
abbrev rd_law_16 (K : PySem.W.Frag) {mg : Str → Option Value} (T : Tx K mg) : TS := Evl.tCut (tIfS (tOr (tNot (tB (tMeth T.C_Pace "is_done" (spF 1 (S_Pace_is_done K T)) [] E0 (tVar 4) tNil))) (tOr (tTest (tOp (rNeU K) (tCall (spF 3 (S_slowest K T)) [] E0 (tCons (tC (.int 0)) (tCons (tVar 2) (tCons (tVar 3) tNil)))) (tC (.int 0)))) (tOr (tNot (tB (tCall (spF 0 (S_law_slow K T)) [] E0 tNil))) (tNot (tB (tCall (spF 0 (S_law_late K T)) [] E0 tNil)))))) (rd_law_17 K T) (rd_law_18 K T)) (rd_law_19 K T)
abbrev rd_law_15 (K : PySem.W.Frag) {mg : Str → Option Value} (T : Tx K mg) : TS := tNext
abbrev rd_law_14 (K : PySem.W.Frag) {mg : Str → Option Value} (T : Tx K mg) : TS := (tRet (tC (.bl false)))
abbrev rd_law_13 (K : PySem.W.Frag) {mg : Str → Option Value} (T : Tx K mg) : TS := (tIfS (tOr (tTest (tOp (rNeU K) (tFld K (tVar 11) "told") (tSl (rSlU K) (tFld K (tVar 12) "out") tNoPart (tPart (tCB (rLenU K) (tCons (tFld K (tVar 11) "told") tNil)))))) (tOr (tTest (tOp (rNeU K) (tFld K (tVar 12) "told") (tSl (rSlU K) (tFld K (tVar 11) "out") tNoPart (tPart (tCB (rLenU K) (tCons (tFld K (tVar 12) "told") tNil)))))) (tTest (tOp (rNeU K) (tFld K (tVar 4) "time") (tOp (rAddU K) (tVar 9) (tC (.int 1))))))) (rd_law_14 K T) (rd_law_15 K T))
abbrev rd_law_12 (K : PySem.W.Frag) {mg : Str → Option Value} (T : Tx K mg) : TS := tSeq (tAsg (tFld K (tVar 4) "ends") (gTup K 2 (gCons (gName 11) (gCons (gName 12) gNil)))) (rd_law_13 K T)
abbrev rd_law_11 (K : PySem.W.Frag) {mg : Str → Option Value} (T : Tx K mg) : TS := tSeq (tDrop (tMethS T.C_Pace "tick" (spX 2 (S_Pace_tick K T)) (WE W0) (tVar 4) (tCons (tVar 10) tNil))) (rd_law_12 K T)
abbrev rd_law_10 (K : PySem.W.Frag) {mg : Str → Option Value} (T : Tx K mg) : TS := (tDrop (tBM K "list" rAppend (tVar 10) (tCons (tTup (tCons (tOrV (tVar 8) (tOp (rEqU K) (tCall (spF 2 (S_law_take K T)) [] E0 (tCons (tVar 1) (tCons (tC (.int 2)) tNil))) (tC (.int 0)))) (tCons (tIf (tB (tVar 8)) (tVar 2) (tOp (rAddU K) (tC (.int 1)) (tCall (spF 2 (S_law_take K T)) [] E0 (tCons (tVar 1) (tCons (tVar 2) tNil))))) tNil))) tNil)))
abbrev rd_law_9 (K : PySem.W.Frag) {mg : Str → Option Value} (T : Tx K mg) : TS := Evl.tCut (tFor (iSeq K (tTup (tCons (tC (.int 0)) (tCons (tC (.int 1)) tNil)))) (gName 6) (rd_law_10 K T)) (rd_law_11 K T)
abbrev rd_law_8 (K : PySem.W.Frag) {mg : Str → Option Value} (T : Tx K mg) : TS := tSeq (tAsg (tLst tNil) (gName 10)) (rd_law_9 K T)
abbrev rd_law_7 (K : PySem.W.Frag) {mg : Str → Option Value} (T : Tx K mg) : TS := Evl.tCut (tFor (iRng1 (tCons (tCall (spF 3 (S_slowest K T)) [] E0 (tCons (tCB (rMaxT K) (tCons (tVar 5) tNil)) (tCons (tVar 2) (tCons (tVar 3) tNil)))) tNil)) (gName 9) (rd_law_8 K T)) (rd_law_16 K T)
abbrev rd_law_6 (K : PySem.W.Frag) {mg : Str → Option Value} (T : Tx K mg) : TS := tSeq (tAsg (tOp (rEqU K) (tCall (spF 2 (S_law_take K T)) [] E0 (tCons (tVar 1) (tCons (tC (.int 3)) tNil))) (tC (.int 0))) (gName 8)) (rd_law_7 K T)
abbrev rd_law_5 (K : PySem.W.Frag) {mg : Str → Option Value} (T : Tx K mg) : TS := (tDrop (tMeth T.C_Pace "put" (spF 3 (S_Pace_put K T)) [] E0 (tVar 4) (tCons (tVar 6) (tCons (tVar 7) tNil))))
abbrev rd_law_4 (K : PySem.W.Frag) {mg : Str → Option Value} (T : Tx K mg) : TS := (tFor (iRng1 (tCons (tOp (rIx K) (tVar 5) (tVar 6)) tNil)) (gName 7) (rd_law_5 K T))
abbrev rd_law_3 (K : PySem.W.Frag) {mg : Str → Option Value} (T : Tx K mg) : TS := Evl.tCut (tFor (iSeq K (tTup (tCons (tC (.int 0)) (tCons (tC (.int 1)) tNil)))) (gName 6) (rd_law_4 K T)) (rd_law_6 K T)
abbrev rd_law_2 (K : PySem.W.Frag) {mg : Str → Option Value} (T : Tx K mg) : TS := tSeq (tPar 4 5 (tCons (tMakeS T.C_Pace (spX 3 (S_Pace_init K T)) (WE W0) (tCons (tVar 2) (tCons (tVar 3) tNil))) (tCons (tTup (tCons (tCall (spF 2 (S_law_take K T)) [] E0 (tCons (tVar 1) (tCons (tC (.int 9)) tNil))) (tCons (tCall (spF 2 (S_law_take K T)) [] E0 (tCons (tVar 1) (tCons (tC (.int 9)) tNil))) tNil))) tNil))) (rd_law_3 K T)
abbrev rd_law_1 (K : PySem.W.Frag) {mg : Str → Option Value} (T : Tx K mg) : TS := tSeq (tPar 2 3 (tCons (tOp (rAddU K) (tC (.int 1)) (tCall (spF 2 (S_law_take K T)) [] E0 (tCons (tVar 1) (tCons (tC (.int 4)) tNil)))) (tCons (tCall (spF 2 (S_law_take K T)) [] E0 (tCons (tVar 1) (tCons (tC (.int 4)) tNil))) tNil))) (rd_law_2 K T)
abbrev rd_law_0 (K : PySem.W.Frag) {mg : Str → Option Value} (T : Tx K mg) : TS := tSeq (tAsg (tLst (tCons (tVar 0) (tCons (tC (.int 0)) tNil))) (gName 1)) (rd_law_1 K T)
/-! ### steps -/
local macro_rules | `(tactic| walk_at "shp") => `(tactic| first
  | exact shp_int
  | exact shp_none
  | exact shp_bool
  | exact shp_oi _
  | (apply shp_str; first | decide +kernel | assumption)
  | (apply shp_list; walk_at "shpA")
  | (apply shp_tuple; walk_at "shpA")
  | assumption)
local macro_rules | `(tactic| walk_at "shpA") => `(tactic| first
  | exact shpA_nil
  | (apply shpA_cons; (· walk_at "shp"); walk_at "shpA")
  | (apply shpA_map; intro _ _; walk_at "shp"))
/-- what is left beside: closed, or left -/
local macro_rules | `(tactic| walk_at "side") => `(tactic| first
  | (with_reducible show Shp _ _); walk_at "shp"
  | (with_reducible show _ ≤ sizeLine); first | decide | (show _ ≤ 16777216; omega) | (show _ ≤ 16777216; simp only [List.length_map, List.length_append, List.length_cons, List.length_nil]; omega)
  | (with_reducible show _ < sizeLine); first | decide | (show _ < 16777216; omega) | (show _ < 16777216; simp only [List.length_map, List.length_append, List.length_cons, List.length_nil]; omega)
  | (with_reducible show CMul _ _); first | exact Or.inr ⟨by decide, by decide⟩ | exact Or.inl ⟨by decide, by decide⟩ | exact Or.inl ⟨by omega, by omega⟩ | exact Or.inr ⟨by omega, by omega⟩
  | (with_reducible show CPow _ _); exact ⟨by decide, by decide, by decide⟩
  | (with_reducible show CDiv _ _); first | exact ⟨by decide, by decide⟩ | exact ⟨by omega, by omega⟩
  | (with_reducible show Le _ _); first | with_reducible exact Le.refl _ | with_reducible assumption
  | (with_reducible show L2.atI _ _ = _); first | with_reducible assumption | exact rfl | exact atI_nat rfl
  | (with_reducible show _ < _); first | with_reducible assumption | decide | omega
  | (with_reducible show _ ≤ _); first | with_reducible assumption | decide | omega
  | (with_reducible show _ ∧ _); omega
  | (with_reducible show ∀ i, i ∈ _ → i ∈ _); decide
  | (with_reducible show (_ : Nat) = _); first | exact rfl | omega)
local macro_rules | `(tactic| walk_at "rm") => `(tactic| first
  | exact Rm.here
  | (apply Rm.there; walk_at "rm"))
local macro_rules | `(tactic| walk_at "perm") => `(tactic| first
  | with_reducible exact List.Perm.refl _
  | (apply perm_step; (· walk_at "rm"); walk_at "perm")
  | exact List.Perm.refl _)
local macro_rules | `(tactic| walk_at "pk") => `(tactic| first
  | with_reducible exact Pk.here
  | ((with_reducible apply Pk.there); walk_at "pk"))
/-- a part of a reading: what it gives. One word for all kinds -/
local macro_rules | `(tactic| walk_at "sx") => `(tactic| first
  -- an expression
  | with_reducible exact ev_int
  | with_reducible exact ev_bl
  | with_reducible exact ev_str
  | with_reducible exact ev_non
  | (with_reducible apply ev_var) <;> walk_at "sx"
  | (with_reducible apply ev_op) <;> walk_at "sx"
  | (with_reducible apply ev_fld) <;> walk_at "sx"
  | (with_reducible apply ev_cb) <;> walk_at "sx"
  | (with_reducible apply ev_tupD) <;> walk_at "sx"
  | (with_reducible apply ev_lstD) <;> walk_at "sx"
  | (with_reducible apply ev_tupV) <;> walk_at "sx"
  | (with_reducible apply ev_lstV) <;> walk_at "sx"
  | (with_reducible apply ev_slL) <;> walk_at "sx"
  | (with_reducible apply ev_slT1) <;> walk_at "sx"
  | (with_reducible apply ev_slT) <;> walk_at "sx"
  | (with_reducible apply ev_un) <;> walk_at "sx"
  | (with_reducible apply ev_chain) <;> walk_at "sx"
  | (with_reducible apply ev_andV) <;> walk_at "sx"
  | (with_reducible apply ev_orV) <;> walk_at "sx"
  | (with_reducible apply ev_notV) <;> walk_at "sx"
  | (with_reducible apply ev_lcY) <;> walk_at "sx"
  | (with_reducible apply ev_lc) <;> walk_at "sx"
  | ((with_reducible show ∀ a, a ∈ _ → ∃ ρ'' js, _); intro a ha; dsimp only [wipeE, List.set]; (first | with_reducible apply lcY_k | with_reducible apply lcF_k) <;> walk_at "sx")
  | (with_reducible apply ev_call) <;> walk_at "sx"
  | (with_reducible apply ev_meth) <;> walk_at "sx"
  | (with_reducible apply ev_bm) <;> walk_at "sx"
  | (with_reducible show Ev _ _ _ _ _); walk_at "own"
  -- a test
  | with_reducible exact et_yes
  | (with_reducible apply et_test) <;> walk_at "sx"
  | (with_reducible apply et_B) <;> walk_at "sx"
  | (with_reducible apply et_not) <;> walk_at "sx"
  | (with_reducible apply et_and) <;> walk_at "sx"
  | (with_reducible apply et_or) <;> walk_at "sx"
  -- arguments
  | with_reducible exact ea_nil
  | (with_reducible apply ea_cons) <;> walk_at "sx"
  | with_reducible exact ed_nil
  | (with_reducible apply ed_cons) <;> walk_at "sx"
  | with_reducible exact eo_none
  | (with_reducible apply eo_some) <;> walk_at "sx"
  -- what an operation gives
  | with_reducible exact rv_addI
  | with_reducible exact rv_int0
  | with_reducible exact rv_bl0
  | with_reducible exact rv_eqI
  | with_reducible exact rv_neI
  | with_reducible exact rv_eqS
  | with_reducible exact rv_neS
  | with_reducible exact rv_isN
  | with_reducible exact rv_notN
  | (with_reducible apply rv_intC) <;> walk_at "sx"
  | (with_reducible apply rv_addS) <;> walk_at "sx"
  | (with_reducible apply rv_ixL isl_dat) <;> walk_at "sx"
  | (with_reducible apply rv_ixT ist_dat) <;> walk_at "sx"
  | (with_reducible apply rv_ixL) <;> walk_at "sx"
  | (with_reducible apply rv_ixLV) <;> walk_at "sx"
  | (apply rv_ixT ist_dat) <;> walk_at "sx"
  | (with_reducible apply rv_ixTV istv_vtup) <;> walk_at "sx"
  | (with_reducible apply rv_ixScr) <;> walk_at "sx"
  | (apply rv_ixL isl_dat) <;> walk_at "sx"
  | (with_reducible apply rv_ixL) <;> walk_at "sx"
  | (apply rv_cat) <;> walk_at "sx"
  | (with_reducible apply rv_eqD) <;> walk_at "sx"
  | (with_reducible apply rv_neD) <;> walk_at "sx"
  | with_reducible exact ru_neg
  | with_reducible exact rc_int
  | with_reducible exact rc_abs
  | with_reducible exact rc_max2
  | with_reducible exact rc_min2
  | with_reducible exact rc_lenScr
  | with_reducible exact rc_lenM isl_dat
  | ((with_reducible apply rc_lenM); (with_reducible apply isl_cell) <;> walk_at "sx")
  | with_reducible exact rc_lenMT
  | (with_reducible apply rc_lenL) <;> walk_at "sx"
  | (apply rc_lenT ist_dat)
  | (with_reducible apply rc_tupL) <;> walk_at "sx"
  | (apply rc_tupT)
  | (with_reducible apply rc_lstL) <;> walk_at "sx"
  | (apply rc_lstT ist_dat)
  | with_reducible exact rc_anyM
  | with_reducible exact rc_allM
  | ((with_reducible apply rm_append) <;> walk_at "sx")
  -- lists, tuples, data
  | with_reducible exact isl_dat
  | with_reducible exact isd_dat
  | with_reducible exact isd_scr
  | (with_reducible apply isl_cell) <;> walk_at "sx"
  | (with_reducible apply islv_cell) <;> walk_at "sx"
  | with_reducible exact islv_vlst
  | (with_reducible apply isd_cell) <;> walk_at "sx"
  | (with_reducible apply isd_vtup) <;> walk_at "sx"
  | (with_reducible apply isd_vlst) <;> walk_at "sx"
  | with_reducible exact isds_nil
  | (with_reducible apply isds_cons) <;> walk_at "sx"
  | with_reducible exact fzl_dat
  | with_reducible exact fzl_v
  | with_reducible exact fzt_dat
  | with_reducible exact fzt_v
  | (with_reducible apply ity_l) <;> walk_at "sx"
  | with_reducible exact ity_s
  | (with_reducible apply IsLst.v) <;> walk_at "sx"
  -- places
  | with_reducible exact At.here
  | (with_reducible apply At.there) <;> walk_at "sx"
  | with_reducible exact SetAt.here
  | (with_reducible apply SetAt.there) <;> walk_at "sx"
  | with_reducible exact List.mem_cons_self
  | (with_reducible apply List.mem_cons_of_mem) <;> walk_at "sx"
  | ((with_reducible show (_ : Addr × CD) ∈ _); with_reducible assumption)
  | with_reducible exact Put.here
  | (with_reducible apply Put.there) <;> walk_at "sx"
  | ((with_reducible show Put _ _ _ _ _); with_reducible assumption)
  | ((with_reducible show Sw _ _ _ _); with_reducible assumption)
  | with_reducible exact sw_nil
  | ((with_reducible apply sw_pick); (· walk_at "pk"); walk_at "sx")
  | ((with_reducible apply sw_skip); walk_at "sx")
  | with_reducible exact FGet.here
  | ((with_reducible apply FGet.there); (· decide +kernel); walk_at "sx")
  | with_reducible exact FPut.here
  | with_reducible exact FPut.new
  | ((with_reducible apply FPut.there); (· decide +kernel); walk_at "sx")
  | (with_reducible show ClsF _ _ _); with_reducible assumption
  | (with_reducible show RtQ _ _ _); assumption
  | (with_reducible show (_ : Str) ∈ _); decide +kernel
  | (with_reducible show ¬ (_ : Str) ∈ _); decide +kernel
  -- what is walked, targets
  | (with_reducible apply ei_rng1) <;> walk_at "sx"
  | (with_reducible apply ei_rng2) <;> walk_at "sx"
  | (with_reducible apply ei_enumD) <;> walk_at "sx"
  | (with_reducible apply ei_enum) <;> walk_at "sx"
  | (with_reducible apply ei_zip) <;> walk_at "sx"
  | (with_reducible apply ei_seqLM) <;> walk_at "sx"
  | (with_reducible apply ei_seqTM) <;> walk_at "sx"
  | (with_reducible apply ei_seqL) <;> walk_at "sx"
  | (with_reducible apply ei_seqT) <;> walk_at "sx"
  | (with_reducible apply tg_name) <;> walk_at "sx"
  | (with_reducible apply tg_tup istv_vtup) <;> walk_at "sx"
  | (with_reducible apply td_tup) <;> walk_at "sx"
  | with_reducible exact td_nil
  | (with_reducible apply td_cons) <;> walk_at "sx"
  | with_reducible exact tgs_nil
  | (with_reducible apply tgs_cons) <;> walk_at "sx"
  -- beside
  | walk_at "spec"
  | walk_at "side"
  | walk_at "leave")
/-- a question of another kind is left -/
local macro_rules | `(tactic| walk_at "leave") => `(tactic| first
  | with_reducible show Cont _ _ _ _
  | with_reducible show Shp _ _
  | with_reducible show _ ≤ _
  | with_reducible show _ < _
  | with_reducible show CMul _ _
  | with_reducible show CDiv _ _
  | with_reducible show CPow _ _
  | with_reducible show _ = _
  | with_reducible show Le _ _
  | ((with_reducible show _ = true → _); with_reducible assumption)
  | ((with_reducible show _ = true → _); intro _; walk_at "sx")
  | ((with_reducible show _ = false → _); intro _; walk_at "sx"))
/-- a plain statement -/
local macro_rules | `(tactic| walk_at "st") => `(tactic| first
  | (with_reducible apply c_seq); walk_at "st"
  | (with_reducible apply c_asg) <;> (first | walk_at "sx" | skip)
  | (with_reducible apply c_asgG) <;> (first | walk_at "sx" | skip)
  | (with_reducible apply c_par) <;> (first | walk_at "sx" | skip)
  | (with_reducible apply c_par3) <;> (first | walk_at "sx" | skip)
  | (with_reducible apply c_aug) <;> (first | walk_at "sx" | skip)
  | (with_reducible apply c_augS) <;> (first | walk_at "sx" | skip)
  | (with_reducible apply c_fld) <;> (first | walk_at "sx" | skip)
  | (with_reducible apply c_drop) <;> (first | walk_at "sx" | skip)
  | with_reducible apply c_next
  | with_reducible apply c_break
  | with_reducible apply c_cont)
/-- a value is handed back; a word is met again -/
local macro_rules | `(tactic| walk_at "ret") => `(tactic| (with_reducible apply c_ret) <;> (first | walk_at "sx" | skip))
local macro_rules | `(tactic| walk_at "inv") => `(tactic| (with_reducible apply c_inv) <;> (first | walk_at "side" | skip))
local macro_rules | `(tactic| walk_at "seq") => `(tactic| with_reducible apply c_seq)
local macro_rules | `(tactic| walk_at "cut") => `(tactic| with_reducible apply c_cut)
local macro_rules | `(tactic| walk_at "if") => `(tactic| ((with_reducible apply c_if); (case' h => first | walk_at "sx" | skip)))
local macro_rules | `(tactic| walk_at "fgt") => `(tactic| first
  | exact Fgt.nil
  | (with_reducible apply Fgt.keep; walk_at "fgt")
  | (with_reducible apply Fgt.drop; walk_at "fgt"))

theorem law_number_body {K : PySem.W.Frag} {mg : Str → Option Value} (T : Tx K mg) : ∀ Q ds M P Φ, ds.length = 2 → S_law_number K T ds M P → RtQ Q Φ P → Cont (rd_law_number_0 K T (fnD Q)) Φ (entry ["_law_script", "_law_index", "_law_cell", "_law_blend"] ds) M := by
  rintro Q ds M P Φ - ⟨s, i, rfl, hP⟩ hQ
  show Cont _ _ [some (vscr K s), some (dat (.int i)), none, none] _
  have he : (PyData.list (List.map PyData.int s)).eqv (PyData.list []) = decide (s = []) := EqOk.dec (eqok_list eqok_int) s []
  apply c_cut
  refine c_if (by walk_at "sx") ?_ ?_
  · rw [he]
    intro h
    have hs := of_decide_eq_true h
    walk_at "ret"
    have : lawNum s i = (i * 48271 + 12345) % 2147483647 := by unfold lawNum; rw [if_pos hs]
    rw [this] at hP
    exact hP
  · rw [he]
    intro h
    have hs := of_decide_eq_false h
    have hl : (0 : Int) < s.length := by
      cases s with
      | nil => exact absurd rfl hs
      | cons _ _ => simp
    have h0 : 0 ≤ i % s.length := Int.emod_nonneg _ (by omega)
    have h1 : i % s.length < s.length := Int.emod_lt_of_pos _ hl
    have hat : L2.atI s (i % s.length) = some (s.getD (i % s.length).toNat 0) := by
      have hj : (i % s.length).toNat < s.length := by omega
      have e : ((i % s.length).toNat : Int) = i % s.length := by omega
      have e2 := atI_nat (xs := s) (j := (i % s.length).toNat) (v := s.getD (i % s.length).toNat 0) (by simp [List.getD, hj])
      rw [e] at e2
      exact e2
    apply c_next
    walk_at "st"
    refine c_cutW (fun ρ' M' => ρ' = [some (vscr K s), some (dat (.int i)), some (dat (.int (scrCell s i))), none] ∧ M' = M) ?_ ?_
    · refine c_if (by walk_at "sx") ?_ ?_
      · intro hb
        have hb := of_decide_eq_true hb
        walk_at "st"
        walk_at "inv"
        refine ⟨?_, rfl⟩
        have : scrCell s i = s.getD (i % s.length).toNat 0 % 10 ^ (18 : Int).toNat := by
          unfold scrCell
          exact if_pos hb
        rw [this]
      · intro hb
        have hb := of_decide_eq_false hb
        apply c_next
        walk_at "inv"
        refine ⟨?_, rfl⟩
        have : scrCell s i = s.getD (i % s.length).toNat 0 := by
          unfold scrCell
          exact if_neg hb
        rw [this]
    · rintro ρ' M' ⟨rfl, rfl⟩
      walk_at "st"
      walk_at "ret"
      have : lawNum s i = (((scrCell s i + 977 * i) * 48271 + 31 * s.length) % 2147483647 * 69621 % 2147483629 * 16807 + i) % 2147483587 := by unfold lawNum; rw [if_neg hs]
      rw [this] at hP
      exact hP
theorem number_ev {K : PySem.W.Frag} {mg : Str → Option Value} {T : Tx K mg} {s : List Int} {i : Int} {M : Cells} : S_law_number K T [vscr K s, dat (.int i)] M (Det (dat (.int (lawNum s i))) M) := ⟨s, i, rfl, rfl, rfl⟩
theorem take_ev {K : PySem.W.Frag} {mg : Str → Option Value} {T : Tx K mg} {s : List Int} {k m : Int} {p : Addr} {M M' : Cells} (h : Put p (cDraw K s k) (cDraw K s (k + 1)) M M') (hm : 0 < m) :
    S_law_take K T [val (.ref p), dat (.int m)] M (Det (dat (.int (tk s (k + 1) m))) M') := ⟨s, k, m, p, M', rfl, hm, h, rfl, rfl⟩
local macro_rules | `(tactic| walk_at "spec") => `(tactic| first
  | with_reducible exact number_ev
  | (with_reducible apply take_ev) <;> walk_at "sx")
theorem law_take_body {K : PySem.W.Frag} {mg : Str → Option Value} (T : Tx K mg) : ∀ Q ds M P Φ, ds.length = 2 → S_law_take K T ds M P → RtQ Q Φ P → Cont (rd_law_take_0 K T (fnD Q)) Φ (entry ["_law_draw", "_law_many"] ds) M := by
  rintro Q ds M P Φ - ⟨s, k, m, p, M', rfl, hm, hput, hP⟩ hQ
  show Cont _ _ [some (val (.ref p)), some (dat (.int m))] _
  apply c_seq
  refine c_augS (j := 1) (a := k) (p := p) (by walk_at "sx") (by walk_at "sx") rfl rfl (by walk_at "sx") hput ?_
  have hm' : (p, cDraw K s (k + 1)) ∈ M' := by
    clear hP hQ
    induction hput with
    | here => exact List.mem_cons_self
    | there _ ih => exact List.mem_cons_of_mem _ ih
  have hl : IsLstV (val (.ref p)) M' [vscr K s, dat (.int (k + 1))] := islv_cell hm'
  walk_at "ret"
  exact hP

end Lw


set_option Elab.async false
set_option linter.all false
set_option maxRecDepth 100000
set_option maxHeartbeats 4000000
namespace Lw
open PySem L2 Sx
/-! ### steps -/
local macro_rules | `(tactic| walk_at "shp") => `(tactic| first
  | exact shp_int
  | exact shp_none
  | exact shp_bool
  | exact shp_oi _
  | (apply shp_str; first | decide +kernel | assumption)
  | (apply shp_list; walk_at "shpA")
  | (apply shp_tuple; walk_at "shpA")
  | assumption)
local macro_rules | `(tactic| walk_at "shpA") => `(tactic| first
  | exact shpA_nil
  | (apply shpA_cons; (· walk_at "shp"); walk_at "shpA")
  | (apply shpA_map; intro _ _; walk_at "shp"))
/-- what is left beside: closed, or left -/
local macro_rules | `(tactic| walk_at "side") => `(tactic| first
  | (with_reducible show Shp _ _); walk_at "shp"
  | (with_reducible show _ ≤ sizeLine); first | decide | (show _ ≤ 16777216; omega) | (show _ ≤ 16777216; simp only [List.length_map, List.length_append, List.length_cons, List.length_nil]; omega)
  | (with_reducible show _ < sizeLine); first | decide | (show _ < 16777216; omega) | (show _ < 16777216; simp only [List.length_map, List.length_append, List.length_cons, List.length_nil]; omega)
  | (with_reducible show CMul _ _); first | exact Or.inr ⟨by decide, by decide⟩ | exact Or.inl ⟨by decide, by decide⟩ | exact Or.inl ⟨by omega, by omega⟩ | exact Or.inr ⟨by omega, by omega⟩
  | (with_reducible show CPow _ _); exact ⟨by decide, by decide, by decide⟩
  | (with_reducible show CDiv _ _); first | exact ⟨by decide, by decide⟩ | exact ⟨by omega, by omega⟩
  | (with_reducible show Le _ _); first | with_reducible exact Le.refl _ | with_reducible assumption
  | (with_reducible show L2.atI _ _ = _); first | with_reducible assumption | exact rfl | exact atI_nat rfl
  | (with_reducible show _ < _); first | with_reducible assumption | decide | omega
  | (with_reducible show _ ≤ _); first | with_reducible assumption | decide | omega
  | (with_reducible show _ ∧ _); omega
  | (with_reducible show ∀ i, i ∈ _ → i ∈ _); decide
  | (with_reducible show (_ : Nat) = _); first | exact rfl | omega)
local macro_rules | `(tactic| walk_at "rm") => `(tactic| first
  | exact Rm.here
  | (apply Rm.there; walk_at "rm"))
local macro_rules | `(tactic| walk_at "perm") => `(tactic| first
  | with_reducible exact List.Perm.refl _
  | (apply perm_step; (· walk_at "rm"); walk_at "perm")
  | exact List.Perm.refl _)
local macro_rules | `(tactic| walk_at "pk") => `(tactic| first
  | with_reducible exact Pk.here
  | ((with_reducible apply Pk.there); walk_at "pk"))
/-- a part of a reading: what it gives. One word for all kinds -/
local macro_rules | `(tactic| walk_at "sx") => `(tactic| first
  -- an expression
  | with_reducible exact ev_int
  | with_reducible exact ev_bl
  | with_reducible exact ev_str
  | with_reducible exact ev_non
  | (with_reducible apply ev_var) <;> walk_at "sx"
  | (with_reducible apply ev_op) <;> walk_at "sx"
  | (with_reducible apply ev_fld) <;> walk_at "sx"
  | (with_reducible apply ev_cb) <;> walk_at "sx"
  | (with_reducible apply ev_tupD) <;> walk_at "sx"
  | (with_reducible apply ev_lstD) <;> walk_at "sx"
  | (with_reducible apply ev_tupV) <;> walk_at "sx"
  | (with_reducible apply ev_lstV) <;> walk_at "sx"
  | (with_reducible apply ev_slL) <;> walk_at "sx"
  | (with_reducible apply ev_slT1) <;> walk_at "sx"
  | (with_reducible apply ev_slT) <;> walk_at "sx"
  | (with_reducible apply ev_un) <;> walk_at "sx"
  | (with_reducible apply ev_chain) <;> walk_at "sx"
  | (with_reducible apply ev_andV) <;> walk_at "sx"
  | (with_reducible apply ev_orV) <;> walk_at "sx"
  | (with_reducible apply ev_notV) <;> walk_at "sx"
  | (with_reducible apply ev_lcY) <;> walk_at "sx"
  | (with_reducible apply ev_lc) <;> walk_at "sx"
  | ((with_reducible show ∀ a, a ∈ _ → ∃ ρ'' js, _); intro a ha; dsimp only [wipeE, List.set]; (first | with_reducible apply lcY_k | with_reducible apply lcF_k) <;> walk_at "sx")
  | (with_reducible apply ev_call) <;> walk_at "sx"
  | (with_reducible apply ev_meth) <;> walk_at "sx"
  | (with_reducible apply ev_bm) <;> walk_at "sx"
  | (with_reducible show Ev _ _ _ _ _); walk_at "own"
  -- a test
  | with_reducible exact et_yes
  | (with_reducible apply et_test) <;> walk_at "sx"
  | (with_reducible apply et_B) <;> walk_at "sx"
  | (with_reducible apply et_not) <;> walk_at "sx"
  | (with_reducible apply et_and) <;> walk_at "sx"
  | (with_reducible apply et_or) <;> walk_at "sx"
  -- arguments
  | with_reducible exact ea_nil
  | (with_reducible apply ea_cons) <;> walk_at "sx"
  | with_reducible exact ed_nil
  | (with_reducible apply ed_cons) <;> walk_at "sx"
  | with_reducible exact eo_none
  | (with_reducible apply eo_some) <;> walk_at "sx"
  -- what an operation gives
  | with_reducible exact rv_addI
  | with_reducible exact rv_int0
  | with_reducible exact rv_bl0
  | with_reducible exact rv_eqI
  | with_reducible exact rv_neI
  | with_reducible exact rv_eqS
  | with_reducible exact rv_neS
  | with_reducible exact rv_isN
  | with_reducible exact rv_notN
  | (with_reducible apply rv_intC) <;> walk_at "sx"
  | (with_reducible apply rv_addS) <;> walk_at "sx"
  | (with_reducible apply rv_ixL isl_dat) <;> walk_at "sx"
  | (with_reducible apply rv_ixT ist_dat) <;> walk_at "sx"
  | (with_reducible apply rv_ixL) <;> walk_at "sx"
  | (with_reducible apply rv_ixLV) <;> walk_at "sx"
  | (apply rv_ixT ist_dat) <;> walk_at "sx"
  | (with_reducible apply rv_ixTV istv_vtup) <;> walk_at "sx"
  | (with_reducible apply rv_ixScr) <;> walk_at "sx"
  | (apply rv_ixL isl_dat) <;> walk_at "sx"
  | (with_reducible apply rv_ixL) <;> walk_at "sx"
  | (apply rv_cat) <;> walk_at "sx"
  | (with_reducible apply rv_eqD) <;> walk_at "sx"
  | (with_reducible apply rv_neD) <;> walk_at "sx"
  | with_reducible exact ru_neg
  | with_reducible exact rc_int
  | with_reducible exact rc_abs
  | with_reducible exact rc_max2
  | with_reducible exact rc_min2
  | with_reducible exact rc_lenScr
  | with_reducible exact rc_lenM isl_dat
  | ((with_reducible apply rc_lenM); (with_reducible apply isl_cell) <;> walk_at "sx")
  | with_reducible exact rc_lenMT
  | (with_reducible apply rc_lenL) <;> walk_at "sx"
  | (apply rc_lenT ist_dat)
  | (with_reducible apply rc_tupL) <;> walk_at "sx"
  | (apply rc_tupT)
  | (with_reducible apply rc_lstL) <;> walk_at "sx"
  | (apply rc_lstT ist_dat)
  | with_reducible exact rc_anyM
  | with_reducible exact rc_allM
  | ((with_reducible apply rm_append) <;> walk_at "sx")
  -- lists, tuples, data
  | with_reducible exact isl_dat
  | with_reducible exact isd_dat
  | with_reducible exact isd_scr
  | (with_reducible apply isl_cell) <;> walk_at "sx"
  | (with_reducible apply islv_cell) <;> walk_at "sx"
  | with_reducible exact islv_vlst
  | (with_reducible apply isd_cell) <;> walk_at "sx"
  | (with_reducible apply isd_vtup) <;> walk_at "sx"
  | (with_reducible apply isd_vlst) <;> walk_at "sx"
  | with_reducible exact isds_nil
  | (with_reducible apply isds_cons) <;> walk_at "sx"
  | with_reducible exact fzl_dat
  | with_reducible exact fzl_v
  | with_reducible exact fzt_dat
  | with_reducible exact fzt_v
  | (with_reducible apply ity_l) <;> walk_at "sx"
  | with_reducible exact ity_s
  | (with_reducible apply IsLst.v) <;> walk_at "sx"
  -- places
  | with_reducible exact At.here
  | (with_reducible apply At.there) <;> walk_at "sx"
  | with_reducible exact SetAt.here
  | (with_reducible apply SetAt.there) <;> walk_at "sx"
  | with_reducible exact List.mem_cons_self
  | (with_reducible apply List.mem_cons_of_mem) <;> walk_at "sx"
  | ((with_reducible show (_ : Addr × CD) ∈ _); with_reducible assumption)
  | with_reducible exact Put.here
  | (with_reducible apply Put.there) <;> walk_at "sx"
  | ((with_reducible show Put _ _ _ _ _); with_reducible assumption)
  | ((with_reducible show Sw _ _ _ _); with_reducible assumption)
  | with_reducible exact sw_nil
  | ((with_reducible apply sw_pick); (· walk_at "pk"); walk_at "sx")
  | ((with_reducible apply sw_skip); walk_at "sx")
  | with_reducible exact FGet.here
  | ((with_reducible apply FGet.there); (· decide +kernel); walk_at "sx")
  | with_reducible exact FPut.here
  | with_reducible exact FPut.new
  | ((with_reducible apply FPut.there); (· decide +kernel); walk_at "sx")
  | (with_reducible show ClsF _ _ _); with_reducible assumption
  | (with_reducible show RtQ _ _ _); assumption
  | (with_reducible show (_ : Str) ∈ _); decide +kernel
  | (with_reducible show ¬ (_ : Str) ∈ _); decide +kernel
  -- what is walked, targets
  | (with_reducible apply ei_rng1) <;> walk_at "sx"
  | (with_reducible apply ei_rng2) <;> walk_at "sx"
  | (with_reducible apply ei_enumD) <;> walk_at "sx"
  | (with_reducible apply ei_enum) <;> walk_at "sx"
  | (with_reducible apply ei_zip) <;> walk_at "sx"
  | (with_reducible apply ei_seqLM) <;> walk_at "sx"
  | (with_reducible apply ei_seqTM) <;> walk_at "sx"
  | (with_reducible apply ei_seqL) <;> walk_at "sx"
  | (with_reducible apply ei_seqT) <;> walk_at "sx"
  | (with_reducible apply tg_name) <;> walk_at "sx"
  | (with_reducible apply tg_tup istv_vtup) <;> walk_at "sx"
  | (with_reducible apply td_tup) <;> walk_at "sx"
  | with_reducible exact td_nil
  | (with_reducible apply td_cons) <;> walk_at "sx"
  | with_reducible exact tgs_nil
  | (with_reducible apply tgs_cons) <;> walk_at "sx"
  -- beside
  | walk_at "spec"
  | walk_at "side"
  | walk_at "leave")
/-- a question of another kind is left -/
local macro_rules | `(tactic| walk_at "leave") => `(tactic| first
  | with_reducible show Cont _ _ _ _
  | with_reducible show Shp _ _
  | with_reducible show _ ≤ _
  | with_reducible show _ < _
  | with_reducible show CMul _ _
  | with_reducible show CDiv _ _
  | with_reducible show CPow _ _
  | with_reducible show _ = _
  | with_reducible show Le _ _
  | ((with_reducible show _ = true → _); with_reducible assumption)
  | ((with_reducible show _ = true → _); intro _; walk_at "sx")
  | ((with_reducible show _ = false → _); intro _; walk_at "sx"))
/-- a plain statement -/
local macro_rules | `(tactic| walk_at "st") => `(tactic| first
  | (with_reducible apply c_seq); walk_at "st"
  | (with_reducible apply c_asg) <;> (first | walk_at "sx" | skip)
  | (with_reducible apply c_asgG) <;> (first | walk_at "sx" | skip)
  | (with_reducible apply c_par) <;> (first | walk_at "sx" | skip)
  | (with_reducible apply c_par3) <;> (first | walk_at "sx" | skip)
  | (with_reducible apply c_aug) <;> (first | walk_at "sx" | skip)
  | (with_reducible apply c_augS) <;> (first | walk_at "sx" | skip)
  | (with_reducible apply c_fld) <;> (first | walk_at "sx" | skip)
  | (with_reducible apply c_drop) <;> (first | walk_at "sx" | skip)
  | with_reducible apply c_next
  | with_reducible apply c_break
  | with_reducible apply c_cont)
/-- a value is handed back; a word is met again -/
local macro_rules | `(tactic| walk_at "ret") => `(tactic| (with_reducible apply c_ret) <;> (first | walk_at "sx" | skip))
local macro_rules | `(tactic| walk_at "inv") => `(tactic| (with_reducible apply c_inv) <;> (first | walk_at "side" | skip))
local macro_rules | `(tactic| walk_at "seq") => `(tactic| with_reducible apply c_seq)
local macro_rules | `(tactic| walk_at "cut") => `(tactic| with_reducible apply c_cut)
local macro_rules | `(tactic| walk_at "if") => `(tactic| ((with_reducible apply c_if); (case' h => first | walk_at "sx" | skip)))
local macro_rules | `(tactic| walk_at "fgt") => `(tactic| first
  | exact Fgt.nil
  | (with_reducible apply Fgt.keep; walk_at "fgt")
  | (with_reducible apply Fgt.drop; walk_at "fgt"))

/-! ### more steps: stars, dicts, tuples -/
local macro_rules | `(tactic| walk_at "sx") => `(tactic| first
  | (with_reducible apply ed_starT) <;> walk_at "sx"
  | (with_reducible apply ev_dgetS) <;> walk_at "sx"
  | with_reducible exact isdi_v
  | (with_reducible apply isdi_c) <;> walk_at "sx"
  | (with_reducible apply rv_catTd) <;> walk_at "sx"
  | with_reducible exact ist_dat
  | ((with_reducible show ¬ (_ : Int) < _); with_reducible assumption)
  | ((with_reducible show valG _ _ = _); walk_at "get")
  | ((with_reducible show putG _ _ _ = _); walk_at "get"))

local macro_rules | `(tactic| walk_at "shp") => `(tactic| first | exact shp_oW _ | exact shp_W _)

theorem End_init_body {K : PySem.W.Frag} {mg : Str → Option Value} (T : Tx K mg) : ∀ Q ds M P Φ, ds.length = 1 → S_End_init K T ds M P → RtQ Q Φ P → Cont (rd_End_init_0 K T (fnD Q)) Φ (entry ["self"] ds) M := by
  rintro Q ds M P Φ - ⟨p, M0, rfl, rfl, hP⟩ hQ
  have hC := T.F_End
  show Cont _ _ [some (val (.ref p))] _
  have hQ := hQ.up
  apply c_seq
  refine c_fldR (er_lstCd ed_nil (by decide)) ?_ hC (by decide +kernel)
  rintro y M1 ⟨a, rfl, rfl⟩
  apply fld_k <;> (first | walk_at "sx" | skip)
  walk_at "st"
  apply c_seq
  refine c_fldR (er_lstCd ed_nil (by decide)) ?_ hC (by decide +kernel)
  rintro y M1 ⟨b, rfl, rfl⟩
  apply fld_k <;> (first | walk_at "sx" | skip)
  walk_at "st"
  refine c_end hQ ?_ (Le.refl _)
  refine up_perm ?_ (hP a b)
  walk_at "perm"
theorem End_put_body {K : PySem.W.Frag} {mg : Str → Option Value} (T : Tx K mg) : ∀ Q ds M P Φ, ds.length = 2 → S_End_put K T ds M P → RtQ Q Φ P → Cont (rd_End_put_0 K T (fnD Q)) Φ (entry ["self", "word"] ds) M := by
  rintro Q ds M P Φ - ⟨p, a, b, e, w, M', rfl, hl, ⟨L, h1, h2⟩, hP⟩ hQ
  have hC := T.F_End
  show Cont _ _ [some (val (.ref p)), some (dat (encW w))] _
  have hQ := hQ.up
  refine c_perm h1 ?_
  show Cont _ _ _ ((p, _) :: (a, _) :: (b, _) :: L)
  walk_at "st"
  refine c_end hQ ?_ (Le.refl _)
  have e1 : cLd (List.map encW e.out ++ [encW w]) = tl (putE e w).out := by rw [← List.map_singleton, ← List.map_append]; rfl
  rw [e1]
  exact up_perm h2.symm hP
theorem End_frames_body {K : PySem.W.Frag} {mg : Str → Option Value} (T : Tx K mg) : ∀ Q ds M P Φ, ds.length = 1 → S_End_frames K T ds M P → RtQ Q Φ P → Cont (rd_End_frames_0 K T (fnD Q)) Φ (entry ["self", "rows", "found", "at", "word"] ds) M := by
  rintro Q ds M P Φ - ⟨p, a, b, e, rfl, hl, ⟨L, h1, h2⟩, hP⟩ hQ
  have hC := T.F_End
  show Cont _ _ [some (val (.ref p)), none, none, none, none] _
  have hQ := hQ.up
  refine c_perm h1 ?_
  show Cont _ _ _ ((p, _) :: (a, _) :: (b, _) :: L)
  walk_at "st"
  have e1 : cutD (List.map encW e.out) (some (e.ans : Int)) (some ((e.ans : Int) + 3)) = (rowsOf e).map encW := by
    rw [cut_map]
    have := cut_nn e.out e.ans (e.ans + 3)
    rw [Int.natCast_add] at this
    rw [show ((e.ans : Int) + 3) = (e.ans : Int) + ((3 : Nat) : Int) from rfl, this, show e.ans + 3 - e.ans = 3 by omega]
    rfl
  rw [e1]
  with_reducible apply c_seq
  have hr3 : (rowsOf e).length ≤ 3 := by
    unfold rowsOf
    rw [List.length_take]
    omega
  refine c_asgP (x := dat (.list (((rowsOf e).zipIdx.map (frF e)).map encF))) ?ev1 (by walk_at "sx") ?k1
  case ev1 =>
    rw [List.map_map]
    refine ev_lcY (r := encF ∘ frF e) (e := fun p => vtup [dat (.int (p.2 : Int)), dat (encW p.1)]) (by walk_at "sx") (by rw [List.length_zipIdx]; omega) ?hs1
    rintro ⟨w, i⟩ -
    dsimp only [wipeE, List.set]
    apply lcY_k <;> (first | walk_at "sx" | skip)
    show Ev _ _ _ (dat (.tuple [.str "frame", .int ((e.ans : Int) + (i : Int)), encW w, .int (e.told.length : Int)])) _
    walk_at "sx"
  case k1 =>
    with_reducible apply c_ret (x := dat (.tuple ((framesOf e).map encF))) (M1 := (p, endI T.C_End a b e) :: (a, tl e.out) :: (b, tl e.told) :: L)
    case hQ => exact hQ
    case hP => exact up_perm h1.symm hP
    case l => exact Le.refl _
    case h =>
      have hb : (!PyData.eqv (.list (((rowsOf e).zipIdx.map (frF e)).map encF)) (.list [])) = !(rowsOf e).isEmpty := by
        rw [eqv_nil, List.isEmpty_map, List.isEmpty_map]
        cases rowsOf e <;> rfl
      apply ev_if (b := !PyData.eqv (.list (((rowsOf e).zipIdx.map (frF e)).map encF)) (.list []))
      case h =>
        walk_at "sx"
      case h1 =>
        intro hb2
        rw [hb] at hb2
        have hne : ¬ rowsOf e = [] := by
          intro z
          rw [z] at hb2
          cases hb2
        have hfr : framesOf e = (rowsOf e).zipIdx.map (frF e) := by
          unfold framesOf
          rw [if_neg hne]
        rw [hfr]
        walk_at "sx"
      case h2 =>
        intro hb2
        rw [hb] at hb2
        have hne : rowsOf e = [] := by
          cases z : rowsOf e with
          | nil => rfl
          | cons _ _ => rw [z] at hb2; cases hb2
        have hfr : framesOf e = [⟨none, none, e.told.length⟩] := by
          unfold framesOf
          rw [if_pos hne]
        rw [hfr]
        show Ev _ _ _ (dat (.tuple [.tuple [.str "frame", .none, .none, .int (e.told.length : Int)]])) _
        walk_at "sx"
theorem tl_app (xs : List Wd) (w : Wd) : cLd (List.map encW xs ++ [encW w]) = tl (xs ++ [w]) := by rw [← List.map_singleton, ← List.map_append]
theorem eqv_oi (o : Option Int) (i : Int) : PyData.eqv (oi o) (.int i) = decide (o = some i) := EqOk.dec eqok_oi o (some i)
theorem End_hear_body {K : PySem.W.Frag} {mg : Str → Option Value} (T : Tx K mg) : ∀ Q ds M P Φ, ds.length = 3 → S_End_hear K T ds M P → RtQ Q Φ P → Cont (rd_End_hear_0 K T (fnD Q)) Φ (entry ["self", "epoch", "frame", "number", "word", "answered"] ds) M := by
  rintro Q ds M P Φ - ⟨p, a, b, e, ep, f, M', rfl, hwf, hl, ⟨L, h1, h2⟩, hP⟩ hQ
  have hC := T.F_End
  show Cont _ _ [some (val (.ref p)), some (dat (.int ep)), some (dat (encF f)), none, none, none] _
  have hQ := hQ.up
  refine c_perm h1 ?_
  show Cont _ _ _ ((p, _) :: (a, _) :: (b, _) :: L)
  walk_at "cut"
  walk_at "if"
  case h1 =>
    intro hb
    have hb := of_decide_eq_true hb
    have he : hearE e ep f = e := by unfold hearE; rw [if_pos hb]
    rw [he] at h2
    with_reducible apply c_retN
    case hQ => exact hQ
    case hP => exact up_perm h2.symm hP
    case l => exact Le.refl _
  case h2 =>
    intro hb
    have hb := of_decide_eq_false hb
    walk_at "st"
    walk_at "st"
    walk_at "st"
    refine c_cutW (fun ρ' M' => ρ' = [some (val (V.ref p)), some (dat (PyData.int ep)), some (dat (encF f)), some (dat (oi f.num)), some (dat (oW f.word)), some (dat (PyData.int ↑f.k))] ∧ M' = (p, cI T.C_End fN [val (.ref a), dat (.int (e.ans : Int)), val (.ref b), dat (.int ep)]) :: (a, tl e.out) :: (b, tl (hearE e ep f).told) :: L) ?_ ?_
    · have hq := eqv_oi f.num (e.told.length : Int)
      walk_at "if"
      case h1 =>
        intro hb2
        rw [hq] at hb2
        have hb2 := of_decide_eq_true hb2
        have hw : oW f.word = encW (f.word.getD .a) := by
          have := hwf (by rw [hb2]; rfl)
          cases z : f.word with
          | none => rw [z] at this; cases this
          | some w => rfl
        rw [hw]
        walk_at "st"
        walk_at "inv"
        refine ⟨rfl, ?_⟩
        have he : (hearE e ep f).told = e.told ++ [f.word.getD .a] := by unfold hearE; rw [if_neg hb, if_pos hb2]
        rw [he, tl_app]
      case h2 =>
        intro hb2
        rw [hq] at hb2
        have hb2 := of_decide_eq_false hb2
        walk_at "st"
        walk_at "inv"
        refine ⟨rfl, ?_⟩
        have he : (hearE e ep f).told = e.told := by unfold hearE; rw [if_neg hb, if_neg hb2]
        rw [he]
      all_goals trace_state
    · rintro ρ' M1 ⟨rfl, rfl⟩
      walk_at "if"
      case h1 =>
        intro hb2
        walk_at "st"
        refine c_end hQ ?_ (Le.refl _)
        refine up_perm ?_ hP
        have he : hearE e ep f = ⟨e.out, f.k, (hearE e ep f).told, ep⟩ := by
          simp only [Bool.and_eq_true, decide_eq_true_eq] at hb2
          unfold hearE
          rw [if_neg hb, if_pos (by omega)]
        rw [he] at h2
        exact h2.symm
      case h2 =>
        intro hb2
        walk_at "st"
        refine c_end hQ ?_ (Le.refl _)
        refine up_perm ?_ hP
        have he : hearE e ep f = ⟨e.out, e.ans, (hearE e ep f).told, ep⟩ := by
          rw [Bool.and_eq_false_iff, decide_eq_false_iff_not, decide_eq_false_iff_not] at hb2
          unfold hearE
          rw [if_neg hb, if_neg (by omega)]
        rw [he] at h2
        exact h2.symm
      all_goals trace_state

theorem is_whole_body {K : PySem.W.Frag} {mg : Str → Option Value} (T : Tx K mg) : ∀ Q ds M P Φ, ds.length = 3 → S_is_whole K T ds M P → RtQ Q Φ P → Cont (rd_is_whole_0 K T (fnD Q)) Φ (entry ["thing", "low", "high"] ds) M := by
  rintro Q ds M P Φ - ⟨d, lo, hi, rfl, hd, hP⟩ hQ
  show Cont _ _ [some (dat d), some (dat (.int lo)), some (dat (.int hi))] _
  rcases hd with ⟨i, rfl⟩ | ⟨s, rfl⟩
  · refine c_ret (x := dat (.bool (isW (.int i) lo hi))) ?h1 hQ hP (Le.refl _)
    case h1 =>
      have e : isW (.int i) lo hi = (true && (!false && (decide (lo ≤ i) && decide (i ≤ hi)))) := by simp [isW]
      rw [e]
      refine ev_andV (a := true) ?_ fun _ => ev_andV (a := !false) ?_ fun _ => ?_
      · exact ev_cb (ea_cons (ev_var .here) (ea_cons ev_val ea_nil)) (rc_isi rfl)
      · exact ev_notV (ev_cb (ea_cons (ev_var .here) (ea_cons ev_val ea_nil)) (rc_isi rfl))
      · walk_at "sx"
  · refine c_ret (x := dat (.bool (isW (.str s) lo hi))) ?h2 hQ hP (Le.refl _)
    case h2 =>
      show Ev _ _ _ (dat (.bool (false && false))) _
      refine ev_andV (a := false) ?_ fun z => Bool.noConfusion z
      exact ev_cb (ea_cons (ev_var .here) (ea_cons ev_val ea_nil)) (rc_isi rfl)
theorem slowest_body {K : PySem.W.Frag} {mg : Str → Option Value} (T : Tx K mg) : ∀ Q ds M P Φ, ds.length = 3 → S_slowest K T ds M P → RtQ Q Φ P → Cont (rd_slowest_0 K T (fnD Q)) Φ (entry ["words", "delay", "losses"] ds) M := by
  rintro Q ds M P Φ - ⟨n, d, l, rfl, hn, hd, hl, hP⟩ hQ
  show Cont _ _ [some (dat (.int (n : Int))), some (dat (.int (d : Int))), some (dat (.int (l : Int)))] _
  have e : (((n + 2) / 3 * 2 * (d + l + 1) : Nat) : Int) = ((n : Int) + 3 - 1) / 3 * 2 * ((d : Int) + (l : Int) + 1) := by
    rw [show (n : Int) + 3 - 1 = ((n + 2 : Nat) : Int) by omega]
    push_cast
    rfl
  rw [e] at hP
  refine c_ret (x := dat (.int (((n : Int) + 3 - 1) / 3 * 2 * ((d : Int) + (l : Int) + 1)))) ?h1 hQ hP (Le.refl _)
  case h1 => walk_at "sx"
theorem whole_ev {K : PySem.W.Frag} {mg : Str → Option Value} {T : Tx K mg} {d : PyData} {lo hi : Int} {M : Cells} (hd : IS d) :
    S_is_whole K T [dat d, dat (.int lo), dat (.int hi)] M (Det (dat (.bool (isW d lo hi))) M) := ⟨d, lo, hi, rfl, hd, rfl, rfl⟩
theorem slow_ev {K : PySem.W.Frag} {mg : Str → Option Value} {T : Tx K mg} {n d l : Nat} {M : Cells} (hn : n ≤ 1000) (hd : d ≤ 1000) (hl : l ≤ 1000) :
    S_slowest K T [dat (.int (n : Int)), dat (.int (d : Int)), dat (.int (l : Int))] M (Det (dat (.int (((n + 2) / 3 * 2 * (d + l + 1) : Nat) : Int))) M) := ⟨n, d, l, rfl, hn, hd, hl, rfl, rfl⟩

end Lw


set_option Elab.async false
set_option linter.all false
set_option maxRecDepth 100000
set_option maxHeartbeats 4000000
namespace Lw
open PySem L2 Sx
/-! ### steps -/
local macro_rules | `(tactic| walk_at "shp") => `(tactic| first
  | exact shp_int
  | exact shp_none
  | exact shp_bool
  | exact shp_oi _
  | (apply shp_str; first | decide +kernel | assumption)
  | (apply shp_list; walk_at "shpA")
  | (apply shp_tuple; walk_at "shpA")
  | assumption)
local macro_rules | `(tactic| walk_at "shpA") => `(tactic| first
  | exact shpA_nil
  | (apply shpA_cons; (· walk_at "shp"); walk_at "shpA")
  | (apply shpA_map; intro _ _; walk_at "shp"))
/-- what is left beside: closed, or left -/
local macro_rules | `(tactic| walk_at "side") => `(tactic| first
  | (with_reducible show Shp _ _); walk_at "shp"
  | (with_reducible show _ ≤ sizeLine); first | decide | (show _ ≤ 16777216; omega) | (show _ ≤ 16777216; simp only [List.length_map, List.length_append, List.length_cons, List.length_nil]; omega)
  | (with_reducible show _ < sizeLine); first | decide | (show _ < 16777216; omega) | (show _ < 16777216; simp only [List.length_map, List.length_append, List.length_cons, List.length_nil]; omega)
  | (with_reducible show CMul _ _); first | exact Or.inr ⟨by decide, by decide⟩ | exact Or.inl ⟨by decide, by decide⟩ | exact Or.inl ⟨by omega, by omega⟩ | exact Or.inr ⟨by omega, by omega⟩
  | (with_reducible show CPow _ _); exact ⟨by decide, by decide, by decide⟩
  | (with_reducible show CDiv _ _); first | exact ⟨by decide, by decide⟩ | exact ⟨by omega, by omega⟩
  | (with_reducible show Le _ _); first | with_reducible exact Le.refl _ | with_reducible assumption
  | (with_reducible show L2.atI _ _ = _); first | with_reducible assumption | exact rfl | exact atI_nat rfl
  | (with_reducible show _ < _); first | with_reducible assumption | decide | omega
  | (with_reducible show _ ≤ _); first | with_reducible assumption | decide | omega
  | (with_reducible show _ ∧ _); omega
  | (with_reducible show ∀ i, i ∈ _ → i ∈ _); decide
  | (with_reducible show (_ : Nat) = _); first | exact rfl | omega)
local macro_rules | `(tactic| walk_at "rm") => `(tactic| first
  | exact Rm.here
  | (apply Rm.there; walk_at "rm"))
local macro_rules | `(tactic| walk_at "perm") => `(tactic| first
  | with_reducible exact List.Perm.refl _
  | (apply perm_step; (· walk_at "rm"); walk_at "perm")
  | exact List.Perm.refl _)
local macro_rules | `(tactic| walk_at "pk") => `(tactic| first
  | with_reducible exact Pk.here
  | ((with_reducible apply Pk.there); walk_at "pk"))
/-- a part of a reading: what it gives. One word for all kinds -/
local macro_rules | `(tactic| walk_at "sx") => `(tactic| first
  -- an expression
  | with_reducible exact ev_int
  | with_reducible exact ev_bl
  | with_reducible exact ev_str
  | with_reducible exact ev_non
  | (with_reducible apply ev_var) <;> walk_at "sx"
  | (with_reducible apply ev_op) <;> walk_at "sx"
  | (with_reducible apply ev_fld) <;> walk_at "sx"
  | (with_reducible apply ev_cb) <;> walk_at "sx"
  | (with_reducible apply ev_tupD) <;> walk_at "sx"
  | (with_reducible apply ev_lstD) <;> walk_at "sx"
  | (with_reducible apply ev_tupV) <;> walk_at "sx"
  | (with_reducible apply ev_lstV) <;> walk_at "sx"
  | (with_reducible apply ev_slL) <;> walk_at "sx"
  | (with_reducible apply ev_slT1) <;> walk_at "sx"
  | (with_reducible apply ev_slT) <;> walk_at "sx"
  | (with_reducible apply ev_un) <;> walk_at "sx"
  | (with_reducible apply ev_chain) <;> walk_at "sx"
  | (with_reducible apply ev_andV) <;> walk_at "sx"
  | (with_reducible apply ev_orV) <;> walk_at "sx"
  | (with_reducible apply ev_notV) <;> walk_at "sx"
  | (with_reducible apply ev_lcY) <;> walk_at "sx"
  | (with_reducible apply ev_lc) <;> walk_at "sx"
  | ((with_reducible show ∀ a, a ∈ _ → ∃ ρ'' js, _); intro a ha; dsimp only [wipeE, List.set]; (first | with_reducible apply lcY_k | with_reducible apply lcF_k) <;> walk_at "sx")
  | (with_reducible apply ev_call) <;> walk_at "sx"
  | (with_reducible apply ev_meth) <;> walk_at "sx"
  | (with_reducible apply ev_bm) <;> walk_at "sx"
  | (with_reducible show Ev _ _ _ _ _); walk_at "own"
  -- a test
  | with_reducible exact et_yes
  | (with_reducible apply et_test) <;> walk_at "sx"
  | (with_reducible apply et_B) <;> walk_at "sx"
  | (with_reducible apply et_not) <;> walk_at "sx"
  | (with_reducible apply et_and) <;> walk_at "sx"
  | (with_reducible apply et_or) <;> walk_at "sx"
  -- arguments
  | with_reducible exact ea_nil
  | (with_reducible apply ea_cons) <;> walk_at "sx"
  | with_reducible exact ed_nil
  | (with_reducible apply ed_cons) <;> walk_at "sx"
  | with_reducible exact eo_none
  | (with_reducible apply eo_some) <;> walk_at "sx"
  -- what an operation gives
  | with_reducible exact rv_addI
  | with_reducible exact rv_int0
  | with_reducible exact rv_bl0
  | with_reducible exact rv_eqI
  | with_reducible exact rv_neI
  | with_reducible exact rv_eqS
  | with_reducible exact rv_neS
  | with_reducible exact rv_isN
  | with_reducible exact rv_notN
  | (with_reducible apply rv_intC) <;> walk_at "sx"
  | (with_reducible apply rv_addS) <;> walk_at "sx"
  | (with_reducible apply rv_ixL isl_dat) <;> walk_at "sx"
  | (with_reducible apply rv_ixT ist_dat) <;> walk_at "sx"
  | (with_reducible apply rv_ixL) <;> walk_at "sx"
  | (with_reducible apply rv_ixLV) <;> walk_at "sx"
  | (apply rv_ixT ist_dat) <;> walk_at "sx"
  | (with_reducible apply rv_ixTV istv_vtup) <;> walk_at "sx"
  | (with_reducible apply rv_ixScr) <;> walk_at "sx"
  | (apply rv_ixL isl_dat) <;> walk_at "sx"
  | (with_reducible apply rv_ixL) <;> walk_at "sx"
  | (apply rv_cat) <;> walk_at "sx"
  | (with_reducible apply rv_eqD) <;> walk_at "sx"
  | (with_reducible apply rv_neD) <;> walk_at "sx"
  | with_reducible exact ru_neg
  | with_reducible exact rc_int
  | with_reducible exact rc_abs
  | with_reducible exact rc_max2
  | with_reducible exact rc_min2
  | with_reducible exact rc_lenScr
  | with_reducible exact rc_lenM isl_dat
  | ((with_reducible apply rc_lenM); (with_reducible apply isl_cell) <;> walk_at "sx")
  | with_reducible exact rc_lenMT
  | (with_reducible apply rc_lenL) <;> walk_at "sx"
  | (apply rc_lenT ist_dat)
  | (with_reducible apply rc_tupL) <;> walk_at "sx"
  | (apply rc_tupT)
  | (with_reducible apply rc_lstL) <;> walk_at "sx"
  | (apply rc_lstT ist_dat)
  | with_reducible exact rc_anyM
  | with_reducible exact rc_allM
  | ((with_reducible apply rm_append) <;> walk_at "sx")
  -- lists, tuples, data
  | with_reducible exact isl_dat
  | with_reducible exact isd_dat
  | with_reducible exact isd_scr
  | (with_reducible apply isl_cell) <;> walk_at "sx"
  | (with_reducible apply islv_cell) <;> walk_at "sx"
  | with_reducible exact islv_vlst
  | (with_reducible apply isd_cell) <;> walk_at "sx"
  | (with_reducible apply isd_vtup) <;> walk_at "sx"
  | (with_reducible apply isd_vlst) <;> walk_at "sx"
  | with_reducible exact isds_nil
  | (with_reducible apply isds_cons) <;> walk_at "sx"
  | with_reducible exact fzl_dat
  | with_reducible exact fzl_v
  | with_reducible exact fzt_dat
  | with_reducible exact fzt_v
  | (with_reducible apply ity_l) <;> walk_at "sx"
  | with_reducible exact ity_s
  | (with_reducible apply IsLst.v) <;> walk_at "sx"
  -- places
  | with_reducible exact At.here
  | (with_reducible apply At.there) <;> walk_at "sx"
  | with_reducible exact SetAt.here
  | (with_reducible apply SetAt.there) <;> walk_at "sx"
  | with_reducible exact List.mem_cons_self
  | (with_reducible apply List.mem_cons_of_mem) <;> walk_at "sx"
  | ((with_reducible show (_ : Addr × CD) ∈ _); with_reducible assumption)
  | with_reducible exact Put.here
  | (with_reducible apply Put.there) <;> walk_at "sx"
  | ((with_reducible show Put _ _ _ _ _); with_reducible assumption)
  | ((with_reducible show Sw _ _ _ _); with_reducible assumption)
  | with_reducible exact sw_nil
  | ((with_reducible apply sw_pick); (· walk_at "pk"); walk_at "sx")
  | ((with_reducible apply sw_skip); walk_at "sx")
  | with_reducible exact FGet.here
  | ((with_reducible apply FGet.there); (· decide +kernel); walk_at "sx")
  | with_reducible exact FPut.here
  | with_reducible exact FPut.new
  | ((with_reducible apply FPut.there); (· decide +kernel); walk_at "sx")
  | (with_reducible show ClsF _ _ _); with_reducible assumption
  | (with_reducible show RtQ _ _ _); assumption
  | (with_reducible show (_ : Str) ∈ _); decide +kernel
  | (with_reducible show ¬ (_ : Str) ∈ _); decide +kernel
  -- what is walked, targets
  | (with_reducible apply ei_rng1) <;> walk_at "sx"
  | (with_reducible apply ei_rng2) <;> walk_at "sx"
  | (with_reducible apply ei_enumD) <;> walk_at "sx"
  | (with_reducible apply ei_enum) <;> walk_at "sx"
  | (with_reducible apply ei_zip) <;> walk_at "sx"
  | (with_reducible apply ei_seqLM) <;> walk_at "sx"
  | (with_reducible apply ei_seqTM) <;> walk_at "sx"
  | (with_reducible apply ei_seqL) <;> walk_at "sx"
  | (with_reducible apply ei_seqT) <;> walk_at "sx"
  | (with_reducible apply tg_name) <;> walk_at "sx"
  | (with_reducible apply tg_tup istv_vtup) <;> walk_at "sx"
  | (with_reducible apply td_tup) <;> walk_at "sx"
  | with_reducible exact td_nil
  | (with_reducible apply td_cons) <;> walk_at "sx"
  | with_reducible exact tgs_nil
  | (with_reducible apply tgs_cons) <;> walk_at "sx"
  -- beside
  | walk_at "spec"
  | walk_at "side"
  | walk_at "leave")
/-- a question of another kind is left -/
local macro_rules | `(tactic| walk_at "leave") => `(tactic| first
  | with_reducible show Cont _ _ _ _
  | with_reducible show Shp _ _
  | with_reducible show _ ≤ _
  | with_reducible show _ < _
  | with_reducible show CMul _ _
  | with_reducible show CDiv _ _
  | with_reducible show CPow _ _
  | with_reducible show _ = _
  | with_reducible show Le _ _
  | ((with_reducible show _ = true → _); with_reducible assumption)
  | ((with_reducible show _ = true → _); intro _; walk_at "sx")
  | ((with_reducible show _ = false → _); intro _; walk_at "sx"))
/-- a plain statement -/
local macro_rules | `(tactic| walk_at "st") => `(tactic| first
  | (with_reducible apply c_seq); walk_at "st"
  | (with_reducible apply c_asg) <;> (first | walk_at "sx" | skip)
  | (with_reducible apply c_asgG) <;> (first | walk_at "sx" | skip)
  | (with_reducible apply c_par) <;> (first | walk_at "sx" | skip)
  | (with_reducible apply c_par3) <;> (first | walk_at "sx" | skip)
  | (with_reducible apply c_aug) <;> (first | walk_at "sx" | skip)
  | (with_reducible apply c_augS) <;> (first | walk_at "sx" | skip)
  | (with_reducible apply c_fld) <;> (first | walk_at "sx" | skip)
  | (with_reducible apply c_drop) <;> (first | walk_at "sx" | skip)
  | with_reducible apply c_next
  | with_reducible apply c_break
  | with_reducible apply c_cont)
/-- a value is handed back; a word is met again -/
local macro_rules | `(tactic| walk_at "ret") => `(tactic| (with_reducible apply c_ret) <;> (first | walk_at "sx" | skip))
local macro_rules | `(tactic| walk_at "inv") => `(tactic| (with_reducible apply c_inv) <;> (first | walk_at "side" | skip))
local macro_rules | `(tactic| walk_at "seq") => `(tactic| with_reducible apply c_seq)
local macro_rules | `(tactic| walk_at "cut") => `(tactic| with_reducible apply c_cut)
local macro_rules | `(tactic| walk_at "if") => `(tactic| ((with_reducible apply c_if); (case' h => first | walk_at "sx" | skip)))
local macro_rules | `(tactic| walk_at "fgt") => `(tactic| first
  | exact Fgt.nil
  | (with_reducible apply Fgt.keep; walk_at "fgt")
  | (with_reducible apply Fgt.drop; walk_at "fgt"))

/-! ### more steps: stars, dicts, tuples -/
local macro_rules | `(tactic| walk_at "sx") => `(tactic| first
  | (with_reducible apply ed_starT) <;> walk_at "sx"
  | (with_reducible apply ev_dgetS) <;> walk_at "sx"
  | with_reducible exact isdi_v
  | (with_reducible apply isdi_c) <;> walk_at "sx"
  | (with_reducible apply rv_catTd) <;> walk_at "sx"
  | with_reducible exact ist_dat
  | ((with_reducible show ¬ (_ : Int) < _); with_reducible assumption)
  | ((with_reducible show valG _ _ = _); walk_at "get")
  | ((with_reducible show putG _ _ _ = _); walk_at "get"))

local macro_rules | `(tactic| walk_at "shp") => `(tactic| first | exact shp_oW _ | exact shp_W _)

theorem eput_ev {K : PySem.W.Frag} {mg : Str → Option Value} {T : Tx K mg} {p a b : Addr} {e : EndS} {w : Wd} {M M' : Cells} (h : Sw [(p, endI T.C_End a b e), (a, tl e.out), (b, tl e.told)] [(p, endI T.C_End a b (putE e w)), (a, tl (putE e w).out), (b, tl (putE e w).told)] M M') (hl : e.out.length ≤ 1000000) :
    S_End_put K T [val (.ref p), dat (encW w)] M (Det vn M') := ⟨p, a, b, e, w, M', rfl, hl, h, rfl, rfl⟩
theorem eframes_ev {K : PySem.W.Frag} {mg : Str → Option Value} {T : Tx K mg} {p a b : Addr} {e : EndS} {M : Cells} (h : Sw [(p, endI T.C_End a b e), (a, tl e.out), (b, tl e.told)] [(p, endI T.C_End a b e), (a, tl e.out), (b, tl e.told)] M M) (hl : e.out.length ≤ 1000000) :
    S_End_frames K T [val (.ref p)] M (Det (dat (.tuple ((framesOf e).map encF))) M) := ⟨p, a, b, e, rfl, hl, h, rfl, rfl⟩
theorem ehear_ev {K : PySem.W.Frag} {mg : Str → Option Value} {T : Tx K mg} {p a b : Addr} {e : EndS} {ep : Int} {f : Fm} {M M' : Cells} (h : Sw [(p, endI T.C_End a b e), (a, tl e.out), (b, tl e.told)] [(p, endI T.C_End a b (hearE e ep f)), (a, tl (hearE e ep f).out), (b, tl (hearE e ep f).told)] M M') (hf : f.num.isSome = true → f.word.isSome = true) (hl : e.told.length ≤ 1000000) :
    S_End_hear K T [val (.ref p), dat (.int ep), dat (encF f)] M (Det vn M') := ⟨p, a, b, e, ep, f, M', rfl, hf, hl, h, rfl, rfl⟩
local macro_rules | `(tactic| walk_at "spec") => `(tactic| first
  | with_reducible exact number_ev
  | (with_reducible apply take_ev) <;> walk_at "sx"
  | (with_reducible apply eput_ev) <;> walk_at "sx")
theorem Pace_init_body {K : PySem.W.Frag} {mg : Str → Option Value} (T : Tx K mg) : ∀ W Q ds M P PE Φ, ds.length = 3 → S_Pace_init K T ds M P PE → RtQ Q Φ P → RtX W Φ (fun _ => PE) → Cont (rd_Pace_init_0 K T W (fnD Q)) Φ (entry ["self", "delay", "losses"] ds) M := by
  rintro W Q ds M P PE Φ - ⟨p, M0, d, l, rfl, rfl, hd, hl, hc⟩ hQ hX
  have hC := T.F_Pace
  show Cont _ _ [some (val (.ref p)), some (dat d), some (dat l)] _
  walk_at "cut"
  with_reducible apply c_if (b := !isW d 1 1000) (M1 := (p, cI T.C_Pace [] []) :: M0)
  case h =>
    refine et_not (et_B (ev_call (ds := [dat d, dat (.int 1), dat (.int 1000)]) (M1 := (p, cI T.C_Pace [] []) :: M0) ?_ rfl (whole_ev hd)))
    walk_at "sx"
  case h1 =>
    intro hb
    have hb : isW d 1 1000 = false := by simpa using hb
    rcases hc with ⟨_, hP⟩ | ⟨q, _⟩ | ⟨D, L, rfl, _, h1, h2, _⟩
    · exact c_raise (y := dat d) (PE := fun _ => PE) (ea_cons (ev_var (.there .here)) ea_nil) hX hP (Le.refl _)
    · rw [q] at hb; cases hb
    · exfalso
      simp [isW] at hb
      omega
  case h2 =>
    intro hb
    have hb : isW d 1 1000 = true := by simpa using hb
    walk_at "st"
    show Cont (rd_Pace_init_3 K T W (fnD Q)) _ _ _
    walk_at "cut"
    with_reducible apply c_if (b := !isW l 0 1000) (M1 := (p, cI T.C_Pace [] []) :: M0)
    case h =>
      refine et_not (et_B (ev_call (ds := [dat l, dat (.int 0), dat (.int 1000)]) (M1 := (p, cI T.C_Pace [] []) :: M0) ?_ rfl (whole_ev hl)))
      walk_at "sx"
    case h1 =>
      intro hb2
      have hb2 : isW l 0 1000 = false := by simpa using hb2
      rcases hc with ⟨q, _⟩ | ⟨_, _, hP⟩ | ⟨D, L, _, rfl, _, _, h3, _⟩
      · rw [q] at hb; cases hb
      · exact c_raise (y := dat l) (PE := fun _ => PE) (ea_cons (ev_var (.there (.there .here))) ea_nil) hX hP (Le.refl _)
      · exfalso
        simp [isW] at hb2
        omega
    case h2 =>
      intro hb2
      have hb2 : isW l 0 1000 = true := by simpa using hb2
      rcases hc with ⟨q, _⟩ | ⟨_, q, _⟩ | ⟨D, L, rfl, rfl, h1, h2, h3, hP⟩
      · rw [q] at hb; cases hb
      · rw [q] at hb2; cases hb2
      · have hQ := hQ.up
        walk_at "st"
        show Cont (rd_Pace_init_6 K T W (fnD Q)) _ _ _
        walk_at "st"
        walk_at "st"
        show Cont (rd_Pace_init_8 K T W (fnD Q)) _ _ ((p, cI T.C_Pace ["delay", "losses"] [dat (.int (D : Int)), dat (.int (L : Int))]) :: M0)
        walk_at "seq"
        refine c_fldR (P := fun y N => ∃ p0 a0 b0 p1 a1 b1, y = vtup [val (.ref p0), val (.ref p1)] ∧ N = (p1, endI T.C_End a1 b1 e00) :: (a1, tl []) :: (b1, tl []) :: (p0, endI T.C_End a0 b0 e00) :: (a0, tl []) :: (b0, tl []) :: (p, cI T.C_Pace ["delay", "losses"] [dat (.int (D : Int)), dat (.int (L : Int))]) :: M0) ?_ ?_ hC (by decide +kernel)
        · refine er_tupV (ear_cons (er_make (P := fun y N => ∃ p0 a0 b0, y = val (.ref p0) ∧ N = (p0, endI T.C_End a0 b0 e00) :: (a0, tl []) :: (b0, tl []) :: (p, cI T.C_Pace ["delay", "losses"] [dat (.int (D : Int)), dat (.int (L : Int))]) :: M0) ea_nil rfl fun p => ⟨p, _, rfl, rfl, fun a b => ⟨rfl, p, a, b, rfl, rfl⟩⟩) ?_)
          rintro x M1 ⟨p0, a0, b0, rfl, rfl⟩
          refine ear_cons (er_make (P := fun y N => ∃ p1 a1 b1, y = val (.ref p1) ∧ N = (p1, endI T.C_End a1 b1 e00) :: (a1, tl []) :: (b1, tl []) :: (p0, endI T.C_End a0 b0 e00) :: (a0, tl []) :: (b0, tl []) :: (p, cI T.C_Pace ["delay", "losses"] [dat (.int (D : Int)), dat (.int (L : Int))]) :: M0) ea_nil rfl fun p => ⟨p, _, rfl, rfl, fun a b => ⟨rfl, p, a, b, rfl, rfl⟩⟩) ?_
          rintro x M1 ⟨p1, a1, b1, rfl, rfl⟩
          exact ear_nil ⟨by show 2 ≤ 16777216; decide, p0, a0, b0, p1, a1, b1, rfl, rfl⟩
        rintro y M1 ⟨p0, a0, b0, p1, a1, b1, rfl, rfl⟩
        apply fld_k <;> (first | walk_at "sx" | skip)
        walk_at "st"
        show Cont (rd_Pace_init_10 K T W (fnD Q)) _ _ _
        walk_at "seq"
        refine c_fldR (er_lstC (ds := [dat (.int 0), dat (.int 0)]) (by walk_at "sx") (by walk_at "side")) ?_ hC (by decide +kernel)
        rintro y M1 ⟨lo, rfl, rfl⟩
        apply fld_k <;> (first | walk_at "sx" | skip)
        show Cont (rd_Pace_init_11 K T W (fnD Q)) _ _ _
        refine c_fldR (er_lstCd ed_nil (by decide)) ?_ hC (by decide +kernel)
        rintro y M1 ⟨la, rfl, rfl⟩
        apply fld_k <;> (first | walk_at "sx" | skip)
        refine c_end hQ (up_perm ?_ (hP ⟨p, lo, p0, a0, b0, p1, a1, b1⟩ la rfl)) (Le.refl _)
        show List.Perm _ (_ :: _ :: _ :: _ :: _ :: _ :: _ :: _ :: _ :: M0)
        walk_at "perm"
theorem Pace_put_body {K : PySem.W.Frag} {mg : Str → Option Value} (T : Tx K mg) : ∀ Q ds M P Φ, ds.length = 3 → S_Pace_put K T ds M P → RtQ Q Φ P → Cont (rd_Pace_put_0 K T (fnD Q)) Φ (entry ["self", "at", "word"] ds) M := by
  rintro Q ds M P Φ - ⟨a, la, S, b, w, M0, rfl, hS, h1, hP⟩ hQ
  have hC := T.F_Pace
  have hE := T.F_End
  have h0 := hS.o false
  have h2 := hS.o true
  refine c_perm h1 ?_
  show Cont _ _ [some (val (.ref a.p)), some (dat (.int (gI b))), some (dat (encW w))] ((a.p, _) :: (a.lo, _) :: (la, _) :: (a.p0, _) :: (a.a0, _) :: (a.b0, _) :: (a.p1, _) :: (a.a1, _) :: (a.b1, _) :: M0)
  cases b with
  | false =>
    show Cont _ _ [some (val (.ref a.p)), some (dat (.int 0)), some (dat (encW w))] _
    walk_at "st"
    exact c_end hQ hP (Le.refl _)
  | true =>
    show Cont _ _ [some (val (.ref a.p)), some (dat (.int 1)), some (dat (encW w))] _
    walk_at "st"
    exact c_end hQ hP (Le.refl _)

end Lw


set_option Elab.async false
set_option linter.all false
set_option maxRecDepth 100000
set_option maxHeartbeats 4000000
namespace Lw
open PySem L2 Sx
/-! ### steps -/
local macro_rules | `(tactic| walk_at "shp") => `(tactic| first
  | exact shp_int
  | exact shp_none
  | exact shp_bool
  | exact shp_oi _
  | (apply shp_str; first | decide +kernel | assumption)
  | (apply shp_list; walk_at "shpA")
  | (apply shp_tuple; walk_at "shpA")
  | assumption)
local macro_rules | `(tactic| walk_at "shpA") => `(tactic| first
  | exact shpA_nil
  | (apply shpA_cons; (· walk_at "shp"); walk_at "shpA")
  | (apply shpA_map; intro _ _; walk_at "shp"))
/-- what is left beside: closed, or left -/
local macro_rules | `(tactic| walk_at "side") => `(tactic| first
  | (with_reducible show Shp _ _); walk_at "shp"
  | (with_reducible show _ ≤ sizeLine); first | decide | (show _ ≤ 16777216; omega) | (show _ ≤ 16777216; simp only [List.length_map, List.length_append, List.length_cons, List.length_nil]; omega)
  | (with_reducible show _ < sizeLine); first | decide | (show _ < 16777216; omega) | (show _ < 16777216; simp only [List.length_map, List.length_append, List.length_cons, List.length_nil]; omega)
  | (with_reducible show CMul _ _); first | exact Or.inr ⟨by decide, by decide⟩ | exact Or.inl ⟨by decide, by decide⟩ | exact Or.inl ⟨by omega, by omega⟩ | exact Or.inr ⟨by omega, by omega⟩
  | (with_reducible show CPow _ _); exact ⟨by decide, by decide, by decide⟩
  | (with_reducible show CDiv _ _); first | exact ⟨by decide, by decide⟩ | exact ⟨by omega, by omega⟩
  | (with_reducible show Le _ _); first | with_reducible exact Le.refl _ | with_reducible assumption
  | (with_reducible show L2.atI _ _ = _); first | with_reducible assumption | exact rfl | exact atI_nat rfl
  | (with_reducible show _ < _); first | with_reducible assumption | decide | omega
  | (with_reducible show _ ≤ _); first | with_reducible assumption | decide | omega
  | (with_reducible show _ ∧ _); omega
  | (with_reducible show ∀ i, i ∈ _ → i ∈ _); decide
  | (with_reducible show (_ : Nat) = _); first | exact rfl | omega)
local macro_rules | `(tactic| walk_at "rm") => `(tactic| first
  | exact Rm.here
  | (apply Rm.there; walk_at "rm"))
local macro_rules | `(tactic| walk_at "perm") => `(tactic| first
  | with_reducible exact List.Perm.refl _
  | (apply perm_step; (· walk_at "rm"); walk_at "perm")
  | exact List.Perm.refl _)
local macro_rules | `(tactic| walk_at "pk") => `(tactic| first
  | with_reducible exact Pk.here
  | ((with_reducible apply Pk.there); walk_at "pk"))
/-- a part of a reading: what it gives. One word for all kinds -/
local macro_rules | `(tactic| walk_at "sx") => `(tactic| first
  -- an expression
  | with_reducible exact ev_int
  | with_reducible exact ev_bl
  | with_reducible exact ev_str
  | with_reducible exact ev_non
  | (with_reducible apply ev_var) <;> walk_at "sx"
  | (with_reducible apply ev_op) <;> walk_at "sx"
  | (with_reducible apply ev_fld) <;> walk_at "sx"
  | (with_reducible apply ev_cb) <;> walk_at "sx"
  | (with_reducible apply ev_tupD) <;> walk_at "sx"
  | (with_reducible apply ev_lstD) <;> walk_at "sx"
  | (with_reducible apply ev_tupV) <;> walk_at "sx"
  | (with_reducible apply ev_lstV) <;> walk_at "sx"
  | (with_reducible apply ev_slL) <;> walk_at "sx"
  | (with_reducible apply ev_slT1) <;> walk_at "sx"
  | (with_reducible apply ev_slT) <;> walk_at "sx"
  | (with_reducible apply ev_un) <;> walk_at "sx"
  | (with_reducible apply ev_chain) <;> walk_at "sx"
  | (with_reducible apply ev_andV) <;> walk_at "sx"
  | (with_reducible apply ev_orV) <;> walk_at "sx"
  | (with_reducible apply ev_notV) <;> walk_at "sx"
  | (with_reducible apply ev_lcY) <;> walk_at "sx"
  | (with_reducible apply ev_lc) <;> walk_at "sx"
  | ((with_reducible show ∀ a, a ∈ _ → ∃ ρ'' js, _); intro a ha; dsimp only [wipeE, List.set]; (first | with_reducible apply lcY_k | with_reducible apply lcF_k) <;> walk_at "sx")
  | (with_reducible apply ev_call) <;> walk_at "sx"
  | (with_reducible apply ev_meth) <;> walk_at "sx"
  | (with_reducible apply ev_bm) <;> walk_at "sx"
  | (with_reducible show Ev _ _ _ _ _); walk_at "own"
  -- a test
  | with_reducible exact et_yes
  | (with_reducible apply et_test) <;> walk_at "sx"
  | (with_reducible apply et_B) <;> walk_at "sx"
  | (with_reducible apply et_not) <;> walk_at "sx"
  | (with_reducible apply et_and) <;> walk_at "sx"
  | (with_reducible apply et_or) <;> walk_at "sx"
  -- arguments
  | with_reducible exact ea_nil
  | (with_reducible apply ea_cons) <;> walk_at "sx"
  | with_reducible exact ed_nil
  | (with_reducible apply ed_cons) <;> walk_at "sx"
  | with_reducible exact eo_none
  | (with_reducible apply eo_some) <;> walk_at "sx"
  -- what an operation gives
  | with_reducible exact rv_addI
  | with_reducible exact rv_int0
  | with_reducible exact rv_bl0
  | with_reducible exact rv_eqI
  | with_reducible exact rv_neI
  | with_reducible exact rv_eqS
  | with_reducible exact rv_neS
  | with_reducible exact rv_isN
  | with_reducible exact rv_notN
  | (with_reducible apply rv_intC) <;> walk_at "sx"
  | (with_reducible apply rv_addS) <;> walk_at "sx"
  | (with_reducible apply rv_ixL isl_dat) <;> walk_at "sx"
  | (with_reducible apply rv_ixT ist_dat) <;> walk_at "sx"
  | (with_reducible apply rv_ixL) <;> walk_at "sx"
  | (with_reducible apply rv_ixLV) <;> walk_at "sx"
  | (apply rv_ixT ist_dat) <;> walk_at "sx"
  | (with_reducible apply rv_ixTV istv_vtup) <;> walk_at "sx"
  | (with_reducible apply rv_ixScr) <;> walk_at "sx"
  | (apply rv_ixL isl_dat) <;> walk_at "sx"
  | (with_reducible apply rv_ixL) <;> walk_at "sx"
  | (apply rv_cat) <;> walk_at "sx"
  | (with_reducible apply rv_eqD) <;> walk_at "sx"
  | (with_reducible apply rv_neD) <;> walk_at "sx"
  | with_reducible exact ru_neg
  | with_reducible exact rc_int
  | with_reducible exact rc_abs
  | with_reducible exact rc_max2
  | with_reducible exact rc_min2
  | with_reducible exact rc_lenScr
  | with_reducible exact rc_lenM isl_dat
  | ((with_reducible apply rc_lenM); (with_reducible apply isl_cell) <;> walk_at "sx")
  | with_reducible exact rc_lenMT
  | (with_reducible apply rc_lenL) <;> walk_at "sx"
  | (apply rc_lenT ist_dat)
  | (with_reducible apply rc_tupL) <;> walk_at "sx"
  | (apply rc_tupT)
  | (with_reducible apply rc_lstL) <;> walk_at "sx"
  | (apply rc_lstT ist_dat)
  | with_reducible exact rc_anyM
  | with_reducible exact rc_allM
  | ((with_reducible apply rm_append) <;> walk_at "sx")
  -- lists, tuples, data
  | with_reducible exact isl_dat
  | with_reducible exact isd_dat
  | with_reducible exact isd_scr
  | (with_reducible apply isl_cell) <;> walk_at "sx"
  | (with_reducible apply islv_cell) <;> walk_at "sx"
  | with_reducible exact islv_vlst
  | (with_reducible apply isd_cell) <;> walk_at "sx"
  | (with_reducible apply isd_vtup) <;> walk_at "sx"
  | (with_reducible apply isd_vlst) <;> walk_at "sx"
  | with_reducible exact isds_nil
  | (with_reducible apply isds_cons) <;> walk_at "sx"
  | with_reducible exact fzl_dat
  | with_reducible exact fzl_v
  | with_reducible exact fzt_dat
  | with_reducible exact fzt_v
  | (with_reducible apply ity_l) <;> walk_at "sx"
  | with_reducible exact ity_s
  | (with_reducible apply IsLst.v) <;> walk_at "sx"
  -- places
  | with_reducible exact At.here
  | (with_reducible apply At.there) <;> walk_at "sx"
  | with_reducible exact SetAt.here
  | (with_reducible apply SetAt.there) <;> walk_at "sx"
  | with_reducible exact List.mem_cons_self
  | (with_reducible apply List.mem_cons_of_mem) <;> walk_at "sx"
  | ((with_reducible show (_ : Addr × CD) ∈ _); with_reducible assumption)
  | with_reducible exact Put.here
  | (with_reducible apply Put.there) <;> walk_at "sx"
  | ((with_reducible show Put _ _ _ _ _); with_reducible assumption)
  | ((with_reducible show Sw _ _ _ _); with_reducible assumption)
  | with_reducible exact sw_nil
  | ((with_reducible apply sw_pick); (· walk_at "pk"); walk_at "sx")
  | ((with_reducible apply sw_skip); walk_at "sx")
  | with_reducible exact FGet.here
  | ((with_reducible apply FGet.there); (· decide +kernel); walk_at "sx")
  | with_reducible exact FPut.here
  | with_reducible exact FPut.new
  | ((with_reducible apply FPut.there); (· decide +kernel); walk_at "sx")
  | (with_reducible show ClsF _ _ _); with_reducible assumption
  | (with_reducible show RtQ _ _ _); assumption
  | (with_reducible show (_ : Str) ∈ _); decide +kernel
  | (with_reducible show ¬ (_ : Str) ∈ _); decide +kernel
  -- what is walked, targets
  | (with_reducible apply ei_rng1) <;> walk_at "sx"
  | (with_reducible apply ei_rng2) <;> walk_at "sx"
  | (with_reducible apply ei_enumD) <;> walk_at "sx"
  | (with_reducible apply ei_enum) <;> walk_at "sx"
  | (with_reducible apply ei_zip) <;> walk_at "sx"
  | (with_reducible apply ei_seqLM) <;> walk_at "sx"
  | (with_reducible apply ei_seqTM) <;> walk_at "sx"
  | (with_reducible apply ei_seqL) <;> walk_at "sx"
  | (with_reducible apply ei_seqT) <;> walk_at "sx"
  | (with_reducible apply tg_name) <;> walk_at "sx"
  | (with_reducible apply tg_tup istv_vtup) <;> walk_at "sx"
  | (with_reducible apply td_tup) <;> walk_at "sx"
  | with_reducible exact td_nil
  | (with_reducible apply td_cons) <;> walk_at "sx"
  | with_reducible exact tgs_nil
  | (with_reducible apply tgs_cons) <;> walk_at "sx"
  -- beside
  | walk_at "spec"
  | walk_at "side"
  | walk_at "leave")
/-- a question of another kind is left -/
local macro_rules | `(tactic| walk_at "leave") => `(tactic| first
  | with_reducible show Cont _ _ _ _
  | with_reducible show Shp _ _
  | with_reducible show _ ≤ _
  | with_reducible show _ < _
  | with_reducible show CMul _ _
  | with_reducible show CDiv _ _
  | with_reducible show CPow _ _
  | with_reducible show _ = _
  | with_reducible show Le _ _
  | ((with_reducible show _ = true → _); with_reducible assumption)
  | ((with_reducible show _ = true → _); intro _; walk_at "sx")
  | ((with_reducible show _ = false → _); intro _; walk_at "sx"))
/-- a plain statement -/
local macro_rules | `(tactic| walk_at "st") => `(tactic| first
  | (with_reducible apply c_seq); walk_at "st"
  | (with_reducible apply c_asg) <;> (first | walk_at "sx" | skip)
  | (with_reducible apply c_asgG) <;> (first | walk_at "sx" | skip)
  | (with_reducible apply c_par) <;> (first | walk_at "sx" | skip)
  | (with_reducible apply c_par3) <;> (first | walk_at "sx" | skip)
  | (with_reducible apply c_aug) <;> (first | walk_at "sx" | skip)
  | (with_reducible apply c_augS) <;> (first | walk_at "sx" | skip)
  | (with_reducible apply c_fld) <;> (first | walk_at "sx" | skip)
  | (with_reducible apply c_drop) <;> (first | walk_at "sx" | skip)
  | with_reducible apply c_next
  | with_reducible apply c_break
  | with_reducible apply c_cont)
/-- a value is handed back; a word is met again -/
local macro_rules | `(tactic| walk_at "ret") => `(tactic| (with_reducible apply c_ret) <;> (first | walk_at "sx" | skip))
local macro_rules | `(tactic| walk_at "inv") => `(tactic| (with_reducible apply c_inv) <;> (first | walk_at "side" | skip))
local macro_rules | `(tactic| walk_at "seq") => `(tactic| with_reducible apply c_seq)
local macro_rules | `(tactic| walk_at "cut") => `(tactic| with_reducible apply c_cut)
local macro_rules | `(tactic| walk_at "if") => `(tactic| ((with_reducible apply c_if); (case' h => first | walk_at "sx" | skip)))
local macro_rules | `(tactic| walk_at "fgt") => `(tactic| first
  | exact Fgt.nil
  | (with_reducible apply Fgt.keep; walk_at "fgt")
  | (with_reducible apply Fgt.drop; walk_at "fgt"))

/-! ### more steps: stars, dicts, tuples -/
local macro_rules | `(tactic| walk_at "sx") => `(tactic| first
  | (with_reducible apply ed_starT) <;> walk_at "sx"
  | (with_reducible apply ev_dgetS) <;> walk_at "sx"
  | with_reducible exact isdi_v
  | (with_reducible apply isdi_c) <;> walk_at "sx"
  | (with_reducible apply rv_catTd) <;> walk_at "sx"
  | with_reducible exact ist_dat
  | ((with_reducible show ¬ (_ : Int) < _); with_reducible assumption)
  | ((with_reducible show valG _ _ = _); walk_at "get")
  | ((with_reducible show putG _ _ _ = _); walk_at "get"))

local macro_rules | `(tactic| walk_at "shp") => `(tactic| first | exact shp_oW _ | exact shp_W _)

local macro_rules | `(tactic| walk_at "spec") => `(tactic| first
  | with_reducible exact number_ev
  | (with_reducible apply take_ev) <;> walk_at "sx"
  | (with_reducible apply eput_ev) <;> walk_at "sx"
  | (with_reducible apply eframes_ev) <;> walk_at "sx"
  | (with_reducible apply ehear_ev) <;> walk_at "sx")
/-! ### done -/
theorem done_is {S : PS} : Done44 S ↔ ((S.e false).told = (S.e true).out ∧ (S.e true).told = (S.e false).out) ∧ (S.e false).ans = (S.e false).out.length ∧ (S.e true).ans = (S.e true).out.length :=
  ⟨fun h => ⟨⟨h.a false, h.a true⟩, h.b false, h.b true⟩, fun h => ⟨fun b => by cases b; exact h.1.1; exact h.1.2, fun b => by cases b; exact h.2.1; exact h.2.2⟩⟩
theorem eqv_wl (xs ys : List Wd) : PyData.eqv (.list (xs.map encW)) (.list (ys.map encW)) = decide (xs = ys) := EqOk.dec (eqok_list eqok_W) xs ys
theorem Pace_is_done_body {K : PySem.W.Frag} {mg : Str → Option Value} (T : Tx K mg) : ∀ Q ds M P Φ, ds.length = 1 → S_Pace_is_done K T ds M P → RtQ Q Φ P → Cont (rd_Pace_is_done_0 K T (fnD Q)) Φ (entry ["self", "one", "other"] ds) M := by
  rintro Q ds M P Φ - ⟨a, la, S, M0, rfl, hS, h1, hP⟩ hQ
  have hC := T.F_Pace
  have hE := T.F_End
  have hQ := hQ.up
  have back : ∀ b : Bool, (b = true ↔ Done44 S) → Up P (dat (.bool b)) ((a.p, paceI T.C_Pace a la S) :: (a.lo, lostC S) :: (la, letC S) :: (a.p0, endI T.C_End a.a0 a.b0 (S.e false)) :: (a.a0, tl (S.e false).out) :: (a.b0, tl (S.e false).told) :: (a.p1, endI T.C_End a.a1 a.b1 (S.e true)) :: (a.a1, tl (S.e true).out) :: (a.b1, tl (S.e true).told) :: M0) := fun b hb => up_perm h1.symm (hP b hb)
  refine c_perm h1 ?_
  show Cont _ _ [some (val (.ref a.p)), none, none] ((a.p, paceI T.C_Pace a la S) :: (a.lo, lostC S) :: (la, letC S) :: (a.p0, endI T.C_End a.a0 a.b0 (S.e false)) :: (a.a0, tl (S.e false).out) :: (a.b0, tl (S.e false).told) :: (a.p1, endI T.C_End a.a1 a.b1 (S.e true)) :: (a.a1, tl (S.e true).out) :: (a.b1, tl (S.e true).told) :: M0)
  generalize hS0 : S.e false = e0 at *
  generalize hS1 : S.e true = e1 at *
  have hd := done_is (S := S)
  rw [hS0, hS1] at hd
  walk_at "st"
  walk_at "cut"
  walk_at "if"
  all_goals (first | (with_reducible show Shp _ _); walk_at "shp" | skip)
  case h1 =>
    intro hb
    rw [eqv_wl, eqv_wl] at hb
    refine c_ret (D := fnD Q) (x := dat (.bool false)) ev_bl hQ (back false ?_) (Le.refl _)
    constructor
    · intro z; cases z
    · intro z
      have := (hd.mp z).1
      simp [this.1, this.2] at hb
  case h2 =>
    intro hb
    rw [eqv_wl, eqv_wl] at hb
    have ht : e0.told = e1.out ∧ e1.told = e0.out := by
      simp at hb
      exact hb
    walk_at "st"
    show Cont (rd_Pace_is_done_4 K T (fnD Q)) _ _ _
    refine c_ret (D := fnD Q) (x := dat (.bool (decide ((e0.ans : Int) = (e0.out.length : Int)) && decide ((e1.ans : Int) = (e1.out.length : Int))))) ?hv hQ (back _ ?_) (Le.refl _)
    case hv => walk_at "sx"
    rw [Bool.and_eq_true, decide_eq_true_eq, decide_eq_true_eq]
    constructor
    · intro z
      exact hd.mpr ⟨ht, by omega, by omega⟩
    · intro z
      have := (hd.mp z).2
      omega

end Lw


set_option Elab.async false
set_option linter.all false
set_option maxRecDepth 100000
set_option maxHeartbeats 4000000
namespace Lw
open PySem L2 Sx
/-! ### steps -/
local macro_rules | `(tactic| walk_at "shp") => `(tactic| first
  | exact shp_int
  | exact shp_none
  | exact shp_bool
  | exact shp_oi _
  | (apply shp_str; first | decide +kernel | assumption)
  | (apply shp_list; walk_at "shpA")
  | (apply shp_tuple; walk_at "shpA")
  | assumption)
local macro_rules | `(tactic| walk_at "shpA") => `(tactic| first
  | exact shpA_nil
  | (apply shpA_cons; (· walk_at "shp"); walk_at "shpA")
  | (apply shpA_map; intro _ _; walk_at "shp"))
/-- what is left beside: closed, or left -/
local macro_rules | `(tactic| walk_at "side") => `(tactic| first
  | (with_reducible show Shp _ _); walk_at "shp"
  | (with_reducible show _ ≤ sizeLine); first | decide | (show _ ≤ 16777216; omega) | (show _ ≤ 16777216; simp only [List.length_map, List.length_append, List.length_cons, List.length_nil]; omega)
  | (with_reducible show _ < sizeLine); first | decide | (show _ < 16777216; omega) | (show _ < 16777216; simp only [List.length_map, List.length_append, List.length_cons, List.length_nil]; omega)
  | (with_reducible show CMul _ _); first | exact Or.inr ⟨by decide, by decide⟩ | exact Or.inl ⟨by decide, by decide⟩ | exact Or.inl ⟨by omega, by omega⟩ | exact Or.inr ⟨by omega, by omega⟩
  | (with_reducible show CPow _ _); exact ⟨by decide, by decide, by decide⟩
  | (with_reducible show CDiv _ _); first | exact ⟨by decide, by decide⟩ | exact ⟨by omega, by omega⟩
  | (with_reducible show Le _ _); first | with_reducible exact Le.refl _ | with_reducible assumption
  | (with_reducible show L2.atI _ _ = _); first | with_reducible assumption | exact rfl | exact atI_nat rfl
  | (with_reducible show _ < _); first | with_reducible assumption | decide | omega
  | (with_reducible show _ ≤ _); first | with_reducible assumption | decide | omega
  | (with_reducible show _ ∧ _); omega
  | (with_reducible show ∀ i, i ∈ _ → i ∈ _); decide
  | (with_reducible show (_ : Nat) = _); first | exact rfl | omega)
local macro_rules | `(tactic| walk_at "rm") => `(tactic| first
  | exact Rm.here
  | (apply Rm.there; walk_at "rm"))
local macro_rules | `(tactic| walk_at "perm") => `(tactic| first
  | with_reducible exact List.Perm.refl _
  | (apply perm_step; (· walk_at "rm"); walk_at "perm")
  | exact List.Perm.refl _)
local macro_rules | `(tactic| walk_at "pk") => `(tactic| first
  | with_reducible exact Pk.here
  | ((with_reducible apply Pk.there); walk_at "pk"))
/-- a part of a reading: what it gives. One word for all kinds -/
local macro_rules | `(tactic| walk_at "sx") => `(tactic| first
  -- an expression
  | with_reducible exact ev_int
  | with_reducible exact ev_bl
  | with_reducible exact ev_str
  | with_reducible exact ev_non
  | (with_reducible apply ev_var) <;> walk_at "sx"
  | (with_reducible apply ev_op) <;> walk_at "sx"
  | (with_reducible apply ev_fld) <;> walk_at "sx"
  | (with_reducible apply ev_cb) <;> walk_at "sx"
  | (with_reducible apply ev_tupD) <;> walk_at "sx"
  | (with_reducible apply ev_lstD) <;> walk_at "sx"
  | (with_reducible apply ev_tupV) <;> walk_at "sx"
  | (with_reducible apply ev_lstV) <;> walk_at "sx"
  | (with_reducible apply ev_slL) <;> walk_at "sx"
  | (with_reducible apply ev_slT1) <;> walk_at "sx"
  | (with_reducible apply ev_slT) <;> walk_at "sx"
  | (with_reducible apply ev_un) <;> walk_at "sx"
  | (with_reducible apply ev_chain) <;> walk_at "sx"
  | (with_reducible apply ev_andV) <;> walk_at "sx"
  | (with_reducible apply ev_orV) <;> walk_at "sx"
  | (with_reducible apply ev_notV) <;> walk_at "sx"
  | (with_reducible apply ev_lcY) <;> walk_at "sx"
  | (with_reducible apply ev_lc) <;> walk_at "sx"
  | ((with_reducible show ∀ a, a ∈ _ → ∃ ρ'' js, _); intro a ha; dsimp only [wipeE, List.set]; (first | with_reducible apply lcY_k | with_reducible apply lcF_k) <;> walk_at "sx")
  | (with_reducible apply ev_call) <;> walk_at "sx"
  | (with_reducible apply ev_meth) <;> walk_at "sx"
  | (with_reducible apply ev_bm) <;> walk_at "sx"
  | (with_reducible show Ev _ _ _ _ _); walk_at "own"
  -- a test
  | with_reducible exact et_yes
  | (with_reducible apply et_test) <;> walk_at "sx"
  | (with_reducible apply et_B) <;> walk_at "sx"
  | (with_reducible apply et_not) <;> walk_at "sx"
  | (with_reducible apply et_and) <;> walk_at "sx"
  | (with_reducible apply et_or) <;> walk_at "sx"
  -- arguments
  | with_reducible exact ea_nil
  | (with_reducible apply ea_cons) <;> walk_at "sx"
  | with_reducible exact ed_nil
  | (with_reducible apply ed_cons) <;> walk_at "sx"
  | with_reducible exact eo_none
  | (with_reducible apply eo_some) <;> walk_at "sx"
  -- what an operation gives
  | with_reducible exact rv_addI
  | with_reducible exact rv_int0
  | with_reducible exact rv_bl0
  | with_reducible exact rv_eqI
  | with_reducible exact rv_neI
  | with_reducible exact rv_eqS
  | with_reducible exact rv_neS
  | with_reducible exact rv_isN
  | with_reducible exact rv_notN
  | (with_reducible apply rv_intC) <;> walk_at "sx"
  | (with_reducible apply rv_addS) <;> walk_at "sx"
  | (with_reducible apply rv_ixL isl_dat) <;> walk_at "sx"
  | (with_reducible apply rv_ixT ist_dat) <;> walk_at "sx"
  | (with_reducible apply rv_ixL) <;> walk_at "sx"
  | (with_reducible apply rv_ixLV) <;> walk_at "sx"
  | (apply rv_ixT ist_dat) <;> walk_at "sx"
  | (with_reducible apply rv_ixTV istv_vtup) <;> walk_at "sx"
  | (with_reducible apply rv_ixScr) <;> walk_at "sx"
  | (apply rv_ixL isl_dat) <;> walk_at "sx"
  | (with_reducible apply rv_ixL) <;> walk_at "sx"
  | (apply rv_cat) <;> walk_at "sx"
  | (with_reducible apply rv_eqD) <;> walk_at "sx"
  | (with_reducible apply rv_neD) <;> walk_at "sx"
  | with_reducible exact ru_neg
  | with_reducible exact rc_int
  | with_reducible exact rc_abs
  | with_reducible exact rc_max2
  | with_reducible exact rc_min2
  | with_reducible exact rc_lenScr
  | with_reducible exact rc_lenM isl_dat
  | ((with_reducible apply rc_lenM); (with_reducible apply isl_cell) <;> walk_at "sx")
  | with_reducible exact rc_lenMT
  | (with_reducible apply rc_lenL) <;> walk_at "sx"
  | (apply rc_lenT ist_dat)
  | (with_reducible apply rc_tupL) <;> walk_at "sx"
  | (apply rc_tupT)
  | (with_reducible apply rc_lstL) <;> walk_at "sx"
  | (apply rc_lstT ist_dat)
  | with_reducible exact rc_anyM
  | with_reducible exact rc_allM
  | ((with_reducible apply rm_append) <;> walk_at "sx")
  -- lists, tuples, data
  | with_reducible exact isl_dat
  | with_reducible exact isd_dat
  | with_reducible exact isd_scr
  | (with_reducible apply isl_cell) <;> walk_at "sx"
  | (with_reducible apply islv_cell) <;> walk_at "sx"
  | with_reducible exact islv_vlst
  | (with_reducible apply isd_cell) <;> walk_at "sx"
  | (with_reducible apply isd_vtup) <;> walk_at "sx"
  | (with_reducible apply isd_vlst) <;> walk_at "sx"
  | with_reducible exact isds_nil
  | (with_reducible apply isds_cons) <;> walk_at "sx"
  | with_reducible exact fzl_dat
  | with_reducible exact fzl_v
  | with_reducible exact fzt_dat
  | with_reducible exact fzt_v
  | (with_reducible apply ity_l) <;> walk_at "sx"
  | with_reducible exact ity_s
  | (with_reducible apply IsLst.v) <;> walk_at "sx"
  -- places
  | with_reducible exact At.here
  | (with_reducible apply At.there) <;> walk_at "sx"
  | with_reducible exact SetAt.here
  | (with_reducible apply SetAt.there) <;> walk_at "sx"
  | with_reducible exact List.mem_cons_self
  | (with_reducible apply List.mem_cons_of_mem) <;> walk_at "sx"
  | ((with_reducible show (_ : Addr × CD) ∈ _); with_reducible assumption)
  | with_reducible exact Put.here
  | (with_reducible apply Put.there) <;> walk_at "sx"
  | ((with_reducible show Put _ _ _ _ _); with_reducible assumption)
  | ((with_reducible show Sw _ _ _ _); with_reducible assumption)
  | with_reducible exact sw_nil
  | ((with_reducible apply sw_pick); (· walk_at "pk"); walk_at "sx")
  | ((with_reducible apply sw_skip); walk_at "sx")
  | with_reducible exact FGet.here
  | ((with_reducible apply FGet.there); (· decide +kernel); walk_at "sx")
  | with_reducible exact FPut.here
  | with_reducible exact FPut.new
  | ((with_reducible apply FPut.there); (· decide +kernel); walk_at "sx")
  | (with_reducible show ClsF _ _ _); with_reducible assumption
  | (with_reducible show RtQ _ _ _); assumption
  | (with_reducible show (_ : Str) ∈ _); decide +kernel
  | (with_reducible show ¬ (_ : Str) ∈ _); decide +kernel
  -- what is walked, targets
  | (with_reducible apply ei_rng1) <;> walk_at "sx"
  | (with_reducible apply ei_rng2) <;> walk_at "sx"
  | (with_reducible apply ei_enumD) <;> walk_at "sx"
  | (with_reducible apply ei_enum) <;> walk_at "sx"
  | (with_reducible apply ei_zip) <;> walk_at "sx"
  | (with_reducible apply ei_seqLM) <;> walk_at "sx"
  | (with_reducible apply ei_seqTM) <;> walk_at "sx"
  | (with_reducible apply ei_seqL) <;> walk_at "sx"
  | (with_reducible apply ei_seqT) <;> walk_at "sx"
  | (with_reducible apply tg_name) <;> walk_at "sx"
  | (with_reducible apply tg_tup istv_vtup) <;> walk_at "sx"
  | (with_reducible apply td_tup) <;> walk_at "sx"
  | with_reducible exact td_nil
  | (with_reducible apply td_cons) <;> walk_at "sx"
  | with_reducible exact tgs_nil
  | (with_reducible apply tgs_cons) <;> walk_at "sx"
  -- beside
  | walk_at "spec"
  | walk_at "side"
  | walk_at "leave")
/-- a question of another kind is left -/
local macro_rules | `(tactic| walk_at "leave") => `(tactic| first
  | with_reducible show Cont _ _ _ _
  | with_reducible show Shp _ _
  | with_reducible show _ ≤ _
  | with_reducible show _ < _
  | with_reducible show CMul _ _
  | with_reducible show CDiv _ _
  | with_reducible show CPow _ _
  | with_reducible show _ = _
  | with_reducible show Le _ _
  | ((with_reducible show _ = true → _); with_reducible assumption)
  | ((with_reducible show _ = true → _); intro _; walk_at "sx")
  | ((with_reducible show _ = false → _); intro _; walk_at "sx"))
/-- a plain statement -/
local macro_rules | `(tactic| walk_at "st") => `(tactic| first
  | (with_reducible apply c_seq); walk_at "st"
  | (with_reducible apply c_asg) <;> (first | walk_at "sx" | skip)
  | (with_reducible apply c_asgG) <;> (first | walk_at "sx" | skip)
  | (with_reducible apply c_par) <;> (first | walk_at "sx" | skip)
  | (with_reducible apply c_par3) <;> (first | walk_at "sx" | skip)
  | (with_reducible apply c_aug) <;> (first | walk_at "sx" | skip)
  | (with_reducible apply c_augS) <;> (first | walk_at "sx" | skip)
  | (with_reducible apply c_fld) <;> (first | walk_at "sx" | skip)
  | (with_reducible apply c_drop) <;> (first | walk_at "sx" | skip)
  | with_reducible apply c_next
  | with_reducible apply c_break
  | with_reducible apply c_cont)
/-- a value is handed back; a word is met again -/
local macro_rules | `(tactic| walk_at "ret") => `(tactic| (with_reducible apply c_ret) <;> (first | walk_at "sx" | skip))
local macro_rules | `(tactic| walk_at "inv") => `(tactic| (with_reducible apply c_inv) <;> (first | walk_at "side" | skip))
local macro_rules | `(tactic| walk_at "seq") => `(tactic| with_reducible apply c_seq)
local macro_rules | `(tactic| walk_at "cut") => `(tactic| with_reducible apply c_cut)
local macro_rules | `(tactic| walk_at "if") => `(tactic| ((with_reducible apply c_if); (case' h => first | walk_at "sx" | skip)))
local macro_rules | `(tactic| walk_at "fgt") => `(tactic| first
  | exact Fgt.nil
  | (with_reducible apply Fgt.keep; walk_at "fgt")
  | (with_reducible apply Fgt.drop; walk_at "fgt"))

/-! ### more steps: stars, dicts, tuples -/
local macro_rules | `(tactic| walk_at "sx") => `(tactic| first
  | (with_reducible apply ed_starT) <;> walk_at "sx"
  | (with_reducible apply ev_dgetS) <;> walk_at "sx"
  | with_reducible exact isdi_v
  | (with_reducible apply isdi_c) <;> walk_at "sx"
  | (with_reducible apply rv_catTd) <;> walk_at "sx"
  | with_reducible exact ist_dat
  | ((with_reducible show ¬ (_ : Int) < _); with_reducible assumption)
  | ((with_reducible show valG _ _ = _); walk_at "get")
  | ((with_reducible show putG _ _ _ = _); walk_at "get"))

local macro_rules | `(tactic| walk_at "shp") => `(tactic| first | exact shp_oW _ | exact shp_W _)

local macro_rules | `(tactic| walk_at "spec") => `(tactic| first
  | with_reducible exact number_ev
  | (with_reducible apply take_ev) <;> walk_at "sx"
  | (with_reducible apply eput_ev) <;> walk_at "sx"
  | (with_reducible apply eframes_ev) <;> walk_at "sx"
  | (with_reducible apply ehear_ev) <;> walk_at "sx")
/-! ### a tick: what is asked first -/
abbrev paceX (C : Addr) (a : Pl) (x : VD) (S : PS) : CD := cI C pN [dat (.int (S.D : Int)), dat (.int (S.L : Int)), vtup [val (.ref a.p0), val (.ref a.p1)], dat (.int (S.t : Int)), val (.ref a.lo), x]
abbrev PX (CP CE : Addr) (a : Pl) (x : VD) (S : PS) (M0 : Cells) : Cells := (a.p, paceX CP a x S) :: (a.lo, lostC S) :: (a.p0, endI CE a.a0 a.b0 (S.e false)) :: (a.a0, tl (S.e false).out) :: (a.b0, tl (S.e false).told) :: (a.p1, endI CE a.a1 a.b1 (S.e true)) :: (a.a1, tl (S.e true).out) :: (a.b1, tl (S.e true).told) :: M0
abbrev PW (CP CE : Addr) (a : Pl) (la : Addr) (S : PS) (M0 : Cells) : Cells := (la, letC S) :: PX CP CE a (val (.ref la)) S M0
def wb (w0 w1 : Ws) (b : Bool) : Ws := if b then w1 else w0
theorem items2 {w0 w1 : Ws} {i : Nat} {d : VD} (h : ([w0, w1].zipIdx.map fun p => vtup [dat (.int (p.2 : Int)), dat (encWs p.1)])[i]? = some d) : ∃ b : Bool, i = (if b then 1 else 0) ∧ d = vtup [dat (.int (gI b)), dat (.tuple [.bool (wb w0 w1 b).1, .int ((wb w0 w1 b).2 : Int)])] := by
  match i, h with
  | 0, h => exact ⟨false, rfl, (Option.some.inj h).symm⟩
  | 1, h => exact ⟨true, rfl, (Option.some.inj h).symm⟩
  | n + 2, h => simp at h
theorem ok_is {D : Nat} {w : Ws} : isW (.int (w.2 : Int)) 1 (D : Int) = okWb D w := by
  show (decide ((1 : Int) ≤ (w.2 : Int)) && decide ((w.2 : Int) ≤ (D : Int))) = (decide (1 ≤ w.2) && decide (w.2 ≤ D))
  congr 1
  · exact decide_eq_decide.mpr (by omega)
  · exact decide_eq_decide.mpr (by omega)
abbrev RT (a : Pl) (w0 w1 : Ws) (x2 x3 x4 : Option VD) : Sx.Env := [some (val (.ref a.p)), some (dat (.list [encWs w0, encWs w1])), x2, x3, x4, none, none, none, none, none, none]
section
variable {K : PySem.W.Frag} {mg : Str → Option Value} {T : Tx K mg} {a : Pl} {la : Addr} {S : PS} {w0 w1 : Ws} {M0 : Cells} {Φ Ψ : Fr} {D : Ends} {W : WX} {PE : Addr → Str → VD → Cells → Prop}
theorem tick_check (h0 : okWb S.D w0 = true) (hX : RtX W Φ (fun _ => PE)) (hE : okWb S.D w1 = false → PE T.C_BadName "name" (dat (.int (w1.2 : Int))) (PW T.C_Pace T.C_End a la S M0))
    (kk : okWb S.D w1 = true → Cont (rd_Pace_tick_4 K T W D) Φ (RT a w0 w1 none none none) (PW T.C_Pace T.C_End a la S M0)) : Cont (rd_Pace_tick_0 K T W D) Φ (RT a w0 w1 none none none) (PW T.C_Pace T.C_End a la S M0) := by
  have hC := T.F_Pace
  walk_at "cut"
  with_reducible apply c_for (its := [w0, w1].zipIdx.map fun p => vtup [dat (.int (p.2 : Int)), dat (encWs p.1)]) (M1 := PW T.C_Pace T.C_End a la S M0) (I := fun i ρ' M' => (∃ x2 x3 x4, ρ' = RT a w0 w1 x2 x3 x4) ∧ M' = PW T.C_Pace T.C_End a la S M0 ∧ (i = 2 → okWb S.D w1 = true))
  case h => exact ei_enumD (f := encWs) (xs := [w0, w1]) (ea_cons (ev_var (.there .here)) ea_nil) fzl_dat
  case h0 => exact ⟨⟨_, _, _, rfl⟩, rfl, fun h => by cases h⟩
  case hd =>
    rintro ρ' M' ⟨⟨x2, x3, x4, rfl⟩, rfl, h⟩
    have h := h rfl
    with_reducible apply c_fgt (ρ' := RT a w0 w1 none none none)
    · walk_at "fgt"
    · exact kk h
  case hs =>
    rintro Ψ hΨ i d ρ' M' hi ⟨⟨x2, x3, x4, rfl⟩, rfl, -⟩
    obtain ⟨b, hb, rfl⟩ := items2 hi
    apply for_k <;> (first | walk_at "sx" | skip)
    show Cont (rd_Pace_tick_1 K T W _) Ψ (RT a w0 w1 (some (dat (.int (gI b)))) (some (dat (.bool (wb w0 w1 b).1))) (some (dat (.int ((wb w0 w1 b).2 : Int))))) _
    with_reducible apply c_if (b := !okWb S.D (wb w0 w1 b)) (M1 := PW T.C_Pace T.C_End a la S M0)
    case h =>
      refine et_not (et_B (Ev.eq (ev_call (ds := [dat (.int ((wb w0 w1 b).2 : Int)), dat (.int 1), dat (.int (S.D : Int))]) (M1 := PW T.C_Pace T.C_End a la S M0) ?_ rfl (whole_ev (.inl ⟨_, rfl⟩))) (by rw [ok_is])))
      walk_at "sx"
    case h1 =>
      intro hb1
      have hb1 : okWb S.D (wb w0 w1 b) = false := by simpa using hb1
      cases b with
      | false => rw [show wb w0 w1 false = w0 from rfl, h0] at hb1; cases hb1
      | true =>
        refine c_raise (y := dat (.int (w1.2 : Int))) (PE := fun _ => PE) (ea_cons (ev_var (.there (.there (.there (.there .here))))) ea_nil) hX (hE hb1) hΨ
    case h2 =>
      intro hb1
      have hb1 : okWb S.D (wb w0 w1 b) = true := by simpa using hb1
      walk_at "st"
      refine c_inv ⟨⟨_, _, _, rfl⟩, rfl, fun h => ?_⟩ (Le.refl _)
      cases b with
      | false => rw [hb] at h; cases h
      | true => exact hb1
/-! ### .. what is sent -/
theorem let_app {ls : List Lt} {l : Lt} : cLd (ls.map encLt ++ [encLt l]) = cLd ((ls ++ [l]).map encLt) := by rw [List.map_append]; rfl
theorem send_one {b : Bool} {w : Ws} {J : Sx.Env → Cells → Prop} (ho : ∀ b, (S.e b).out.length ≤ 1000000) (hl : S.ls.length ≤ 1000000) (hD : D.nx = InvK Ψ J) (hJ : J (RT a w0 w1 (some (dat (.int (gI b)))) (some (dat (.bool w.1))) (some (dat (.int (w.2 : Int))))) (PW T.C_Pace T.C_End a la (sendP S b w) M0)) :
    Cont (rd_Pace_tick_5 K T W D) Ψ (RT a w0 w1 (some (dat (.int (gI b)))) (some (dat (.bool w.1))) (some (dat (.int (w.2 : Int))))) (PW T.C_Pace T.C_End a la S M0) := by
  have hC := T.F_Pace
  have hE := T.F_End
  have o0 := ho false
  have o1 := ho true
  cases b with
  | false =>
    have e : decide ((S.lc false : Int) < (S.L : Int)) = decide (S.lc false < S.L) := decide_eq_decide.mpr (by omega)
    with_reducible apply c_if (b := w.1 && decide ((S.lc false : Int) < (S.L : Int))) (M1 := PW T.C_Pace T.C_End a la S M0)
    case h =>
      show EvT _ (RT a w0 w1 (some (dat (.int 0))) _ _) _ _ _
      refine et_and (et_B (ev_var ?_)) fun _ => ?_
      · walk_at "sx"
      · walk_at "sx"
    case h1 =>
      intro hb
      rw [e, Bool.and_eq_true, decide_eq_true_eq] at hb
      unfold sendP at hJ
      rw [if_pos hb] at hJ
      refine c_augS (j := 0) (k := 0) (a := (S.lc false : Int)) (b := 1) (p := a.lo) (xs := [dat (.int (S.lc false : Int)), dat (.int (S.lc true : Int))]) (M' := PW T.C_Pace T.C_End a la { S with lc := set2 S.lc false (S.lc false + 1) } M0) ?_ ?_ rfl rfl ?_ ?_ ?_
      · walk_at "sx"
      · exact ev_var (.there (.there .here))
      · walk_at "sx"
      · exact .there (.there .here)
      · rw [hD]
        exact c_inv hJ (Le.refl _)
    case h2 =>
      intro hb
      rw [e] at hb
      have hb' : ¬ (w.1 = true ∧ S.lc false < S.L) := by
        rintro ⟨z1, z2⟩
        rw [z1, decide_eq_true z2] at hb
        cases hb
      unfold sendP at hJ
      rw [if_neg hb'] at hJ
      walk_at "seq"
      refine c_setL (x := dat (.int 0)) (k := 0) (j := 0) (p := a.lo) (xs := [dat (.int (S.lc false : Int)), dat (.int (S.lc true : Int))]) (M1 := PW T.C_Pace T.C_End a la S M0) (M2 := PW T.C_Pace T.C_End a la S M0) (M3 := PW T.C_Pace T.C_End a la S M0) (M4 := PW T.C_Pace T.C_End a la { S with lc := set2 S.lc false 0 } M0) ev_int ?_ ?_ rfl ?_ ?_
      · walk_at "sx"
      · exact ev_var (.there (.there .here))
      · exact .there (.there .here)
      · show Cont (rd_Pace_tick_8 K T W D) Ψ (RT a w0 w1 (some (dat (.int 0))) _ _) _
        walk_at "st"
        rw [hD]
        have e2 : PyData.tuple [.int ((S.t : Int) + (w.2 : Int)), .int (1 - 0), .tuple ((framesOf (S.e false)).map encF)] = encLt ⟨S.t + w.2, !false, framesOf (S.e false)⟩ := by
          show _ = PyData.tuple [.int ((S.t + w.2 : Nat) : Int), .int 1, _]
          rw [Int.natCast_add]
          rfl
        rw [e2, let_app]
        exact c_inv hJ (Le.refl _)
  | true =>
    have e : decide ((S.lc true : Int) < (S.L : Int)) = decide (S.lc true < S.L) := decide_eq_decide.mpr (by omega)
    with_reducible apply c_if (b := w.1 && decide ((S.lc true : Int) < (S.L : Int))) (M1 := PW T.C_Pace T.C_End a la S M0)
    case h =>
      show EvT _ (RT a w0 w1 (some (dat (.int 1))) _ _) _ _ _
      refine et_and (et_B (ev_var ?_)) fun _ => ?_
      · walk_at "sx"
      · walk_at "sx"
    case h1 =>
      intro hb
      rw [e, Bool.and_eq_true, decide_eq_true_eq] at hb
      unfold sendP at hJ
      rw [if_pos hb] at hJ
      refine c_augS (j := 1) (k := 1) (a := (S.lc true : Int)) (b := 1) (p := a.lo) (xs := [dat (.int (S.lc false : Int)), dat (.int (S.lc true : Int))]) (M' := PW T.C_Pace T.C_End a la { S with lc := set2 S.lc true (S.lc true + 1) } M0) ?_ ?_ rfl rfl ?_ ?_ ?_
      · walk_at "sx"
      · exact ev_var (.there (.there .here))
      · walk_at "sx"
      · exact .there (.there .here)
      · rw [hD]
        exact c_inv hJ (Le.refl _)
    case h2 =>
      intro hb
      rw [e] at hb
      have hb' : ¬ (w.1 = true ∧ S.lc true < S.L) := by
        rintro ⟨z1, z2⟩
        rw [z1, decide_eq_true z2] at hb
        cases hb
      unfold sendP at hJ
      rw [if_neg hb'] at hJ
      walk_at "seq"
      refine c_setL (x := dat (.int 0)) (k := 1) (j := 1) (p := a.lo) (xs := [dat (.int (S.lc false : Int)), dat (.int (S.lc true : Int))]) (M1 := PW T.C_Pace T.C_End a la S M0) (M2 := PW T.C_Pace T.C_End a la S M0) (M3 := PW T.C_Pace T.C_End a la S M0) (M4 := PW T.C_Pace T.C_End a la { S with lc := set2 S.lc true 0 } M0) ev_int ?_ ?_ rfl ?_ ?_
      · walk_at "sx"
      · exact ev_var (.there (.there .here))
      · exact .there (.there .here)
      · show Cont (rd_Pace_tick_8 K T W D) Ψ (RT a w0 w1 (some (dat (.int 1))) _ _) _
        walk_at "st"
        rw [hD]
        have e2 : PyData.tuple [.int ((S.t : Int) + (w.2 : Int)), .int (1 - 1), .tuple ((framesOf (S.e true)).map encF)] = encLt ⟨S.t + w.2, !true, framesOf (S.e true)⟩ := by
          show _ = PyData.tuple [.int ((S.t + w.2 : Nat) : Int), .int 0, _]
          rw [Int.natCast_add]
          rfl
        rw [e2, let_app]
        exact c_inv hJ (Le.refl _)
theorem send_len (S : PS) (b : Bool) (w : Ws) : (sendP S b w).ls.length ≤ S.ls.length + 1 := by
  unfold sendP
  split
  · exact Nat.le_succ _
  · show (S.ls ++ _).length ≤ _
    rw [List.length_append, List.length_singleton]
    exact Nat.le_refl _
theorem tick_send (hS : Sm S) (kk : Cont (rd_Pace_tick_9 K T W D) Φ (RT a w0 w1 none none none) (PW T.C_Pace T.C_End a la (sendP (sendP S false w0) true w1) M0)) :
    Cont (rd_Pace_tick_4 K T W D) Φ (RT a w0 w1 none none none) (PW T.C_Pace T.C_End a la S M0) := by
  have hC := T.F_Pace
  walk_at "cut"
  with_reducible apply c_for (its := [w0, w1].zipIdx.map fun p => vtup [dat (.int (p.2 : Int)), dat (encWs p.1)]) (M1 := PW T.C_Pace T.C_End a la S M0) (I := fun i ρ' M' => (∃ x2 x3 x4, ρ' = RT a w0 w1 x2 x3 x4) ∧ ((i = 0 ∧ M' = PW T.C_Pace T.C_End a la S M0) ∨ (i = 1 ∧ M' = PW T.C_Pace T.C_End a la (sendP S false w0) M0) ∨ (i = 2 ∧ M' = PW T.C_Pace T.C_End a la (sendP (sendP S false w0) true w1) M0)))
  case h => exact ei_enumD (f := encWs) (xs := [w0, w1]) (ea_cons (ev_var (.there .here)) ea_nil) fzl_dat
  case h0 => exact ⟨⟨_, _, _, rfl⟩, .inl ⟨rfl, rfl⟩⟩
  case hd =>
    rintro ρ' M' ⟨⟨x2, x3, x4, rfl⟩, h⟩
    rcases h with ⟨h, _⟩ | ⟨h, _⟩ | ⟨_, rfl⟩
    · cases h
    · cases h
    · with_reducible apply c_fgt (ρ' := RT a w0 w1 none none none)
      · walk_at "fgt"
      · exact kk
  case hs =>
    rintro Ψ hΨ i d ρ' M' hi ⟨⟨x2, x3, x4, rfl⟩, h⟩
    obtain ⟨b, hb, rfl⟩ := items2 hi
    apply for_k <;> (first | walk_at "sx" | skip)
    have hl := hS.l
    have ho := hS.o
    cases b with
    | false =>
      rcases h with ⟨_, rfl⟩ | ⟨h, _⟩ | ⟨h, _⟩
      · exact send_one (b := false) (w := w0) (fun b => Nat.le_trans (ho b) (by decide)) (by omega) rfl ⟨⟨_, _, _, rfl⟩, .inr (.inl ⟨by rw [hb]; rfl, rfl⟩)⟩
      · rw [hb] at h; cases h
      · rw [hb] at h; cases h
    | true =>
      rcases h with ⟨h, _⟩ | ⟨_, rfl⟩ | ⟨h, _⟩
      · rw [hb] at h; cases h
      · have h2 := send_len S false w0
        exact send_one (b := true) (w := w1) (fun b => by rw [(send_e S false w0).1]; exact Nat.le_trans (ho b) (by decide)) (by omega) rfl ⟨⟨_, _, _, rfl⟩, .inr (.inr ⟨by rw [hb]; rfl, rfl⟩)⟩
      · rw [hb] at h; cases h
end

end Lw


set_option Elab.async false
set_option linter.all false
set_option maxRecDepth 100000
set_option maxHeartbeats 4000000
namespace Lw
open PySem L2 Sx
/-! ### steps -/
local macro_rules | `(tactic| walk_at "shp") => `(tactic| first
  | exact shp_int
  | exact shp_none
  | exact shp_bool
  | exact shp_oi _
  | (apply shp_str; first | decide +kernel | assumption)
  | (apply shp_list; walk_at "shpA")
  | (apply shp_tuple; walk_at "shpA")
  | assumption)
local macro_rules | `(tactic| walk_at "shpA") => `(tactic| first
  | exact shpA_nil
  | (apply shpA_cons; (· walk_at "shp"); walk_at "shpA")
  | (apply shpA_map; intro _ _; walk_at "shp"))
/-- what is left beside: closed, or left -/
local macro_rules | `(tactic| walk_at "side") => `(tactic| first
  | (with_reducible show Shp _ _); walk_at "shp"
  | (with_reducible show _ ≤ sizeLine); first | decide | (show _ ≤ 16777216; omega) | (show _ ≤ 16777216; simp only [List.length_map, List.length_append, List.length_cons, List.length_nil]; omega)
  | (with_reducible show _ < sizeLine); first | decide | (show _ < 16777216; omega) | (show _ < 16777216; simp only [List.length_map, List.length_append, List.length_cons, List.length_nil]; omega)
  | (with_reducible show CMul _ _); first | exact Or.inr ⟨by decide, by decide⟩ | exact Or.inl ⟨by decide, by decide⟩ | exact Or.inl ⟨by omega, by omega⟩ | exact Or.inr ⟨by omega, by omega⟩
  | (with_reducible show CPow _ _); exact ⟨by decide, by decide, by decide⟩
  | (with_reducible show CDiv _ _); first | exact ⟨by decide, by decide⟩ | exact ⟨by omega, by omega⟩
  | (with_reducible show Le _ _); first | with_reducible exact Le.refl _ | with_reducible assumption
  | (with_reducible show L2.atI _ _ = _); first | with_reducible assumption | exact rfl | exact atI_nat rfl
  | (with_reducible show _ < _); first | with_reducible assumption | decide | omega
  | (with_reducible show _ ≤ _); first | with_reducible assumption | decide | omega
  | (with_reducible show _ ∧ _); omega
  | (with_reducible show ∀ i, i ∈ _ → i ∈ _); decide
  | (with_reducible show (_ : Nat) = _); first | exact rfl | omega)
local macro_rules | `(tactic| walk_at "rm") => `(tactic| first
  | exact Rm.here
  | (apply Rm.there; walk_at "rm"))
local macro_rules | `(tactic| walk_at "perm") => `(tactic| first
  | with_reducible exact List.Perm.refl _
  | (apply perm_step; (· walk_at "rm"); walk_at "perm")
  | exact List.Perm.refl _)
local macro_rules | `(tactic| walk_at "pk") => `(tactic| first
  | with_reducible exact Pk.here
  | ((with_reducible apply Pk.there); walk_at "pk"))
/-- a part of a reading: what it gives. One word for all kinds -/
local macro_rules | `(tactic| walk_at "sx") => `(tactic| first
  -- an expression
  | with_reducible exact ev_int
  | with_reducible exact ev_bl
  | with_reducible exact ev_str
  | with_reducible exact ev_non
  | (with_reducible apply ev_var) <;> walk_at "sx"
  | (with_reducible apply ev_op) <;> walk_at "sx"
  | (with_reducible apply ev_fld) <;> walk_at "sx"
  | (with_reducible apply ev_cb) <;> walk_at "sx"
  | (with_reducible apply ev_tupD) <;> walk_at "sx"
  | (with_reducible apply ev_lstD) <;> walk_at "sx"
  | (with_reducible apply ev_tupV) <;> walk_at "sx"
  | (with_reducible apply ev_lstV) <;> walk_at "sx"
  | (with_reducible apply ev_slL) <;> walk_at "sx"
  | (with_reducible apply ev_slT1) <;> walk_at "sx"
  | (with_reducible apply ev_slT) <;> walk_at "sx"
  | (with_reducible apply ev_un) <;> walk_at "sx"
  | (with_reducible apply ev_chain) <;> walk_at "sx"
  | (with_reducible apply ev_andV) <;> walk_at "sx"
  | (with_reducible apply ev_orV) <;> walk_at "sx"
  | (with_reducible apply ev_notV) <;> walk_at "sx"
  | (with_reducible apply ev_lcY) <;> walk_at "sx"
  | (with_reducible apply ev_lc) <;> walk_at "sx"
  | ((with_reducible show ∀ a, a ∈ _ → ∃ ρ'' js, _); intro a ha; dsimp only [wipeE, List.set]; (first | with_reducible apply lcY_k | with_reducible apply lcF_k) <;> walk_at "sx")
  | (with_reducible apply ev_call) <;> walk_at "sx"
  | (with_reducible apply ev_meth) <;> walk_at "sx"
  | (with_reducible apply ev_bm) <;> walk_at "sx"
  | (with_reducible show Ev _ _ _ _ _); walk_at "own"
  -- a test
  | with_reducible exact et_yes
  | (with_reducible apply et_test) <;> walk_at "sx"
  | (with_reducible apply et_B) <;> walk_at "sx"
  | (with_reducible apply et_not) <;> walk_at "sx"
  | (with_reducible apply et_and) <;> walk_at "sx"
  | (with_reducible apply et_or) <;> walk_at "sx"
  -- arguments
  | with_reducible exact ea_nil
  | (with_reducible apply ea_cons) <;> walk_at "sx"
  | with_reducible exact ed_nil
  | (with_reducible apply ed_cons) <;> walk_at "sx"
  | with_reducible exact eo_none
  | (with_reducible apply eo_some) <;> walk_at "sx"
  -- what an operation gives
  | with_reducible exact rv_addI
  | with_reducible exact rv_int0
  | with_reducible exact rv_bl0
  | with_reducible exact rv_eqI
  | with_reducible exact rv_neI
  | with_reducible exact rv_eqS
  | with_reducible exact rv_neS
  | with_reducible exact rv_isN
  | with_reducible exact rv_notN
  | (with_reducible apply rv_intC) <;> walk_at "sx"
  | (with_reducible apply rv_addS) <;> walk_at "sx"
  | (with_reducible apply rv_ixL isl_dat) <;> walk_at "sx"
  | (with_reducible apply rv_ixT ist_dat) <;> walk_at "sx"
  | (with_reducible apply rv_ixL) <;> walk_at "sx"
  | (with_reducible apply rv_ixLV) <;> walk_at "sx"
  | (apply rv_ixT ist_dat) <;> walk_at "sx"
  | (with_reducible apply rv_ixTV istv_vtup) <;> walk_at "sx"
  | (with_reducible apply rv_ixScr) <;> walk_at "sx"
  | (apply rv_ixL isl_dat) <;> walk_at "sx"
  | (with_reducible apply rv_ixL) <;> walk_at "sx"
  | (apply rv_cat) <;> walk_at "sx"
  | (with_reducible apply rv_eqD) <;> walk_at "sx"
  | (with_reducible apply rv_neD) <;> walk_at "sx"
  | with_reducible exact ru_neg
  | with_reducible exact rc_int
  | with_reducible exact rc_abs
  | with_reducible exact rc_max2
  | with_reducible exact rc_min2
  | with_reducible exact rc_lenScr
  | with_reducible exact rc_lenM isl_dat
  | ((with_reducible apply rc_lenM); (with_reducible apply isl_cell) <;> walk_at "sx")
  | with_reducible exact rc_lenMT
  | (with_reducible apply rc_lenL) <;> walk_at "sx"
  | (apply rc_lenT ist_dat)
  | (with_reducible apply rc_tupL) <;> walk_at "sx"
  | (apply rc_tupT)
  | (with_reducible apply rc_lstL) <;> walk_at "sx"
  | (apply rc_lstT ist_dat)
  | with_reducible exact rc_anyM
  | with_reducible exact rc_allM
  | ((with_reducible apply rm_append) <;> walk_at "sx")
  -- lists, tuples, data
  | with_reducible exact isl_dat
  | with_reducible exact isd_dat
  | with_reducible exact isd_scr
  | (with_reducible apply isl_cell) <;> walk_at "sx"
  | (with_reducible apply islv_cell) <;> walk_at "sx"
  | with_reducible exact islv_vlst
  | (with_reducible apply isd_cell) <;> walk_at "sx"
  | (with_reducible apply isd_vtup) <;> walk_at "sx"
  | (with_reducible apply isd_vlst) <;> walk_at "sx"
  | with_reducible exact isds_nil
  | (with_reducible apply isds_cons) <;> walk_at "sx"
  | with_reducible exact fzl_dat
  | with_reducible exact fzl_v
  | with_reducible exact fzt_dat
  | with_reducible exact fzt_v
  | (with_reducible apply ity_l) <;> walk_at "sx"
  | with_reducible exact ity_s
  | (with_reducible apply IsLst.v) <;> walk_at "sx"
  -- places
  | with_reducible exact At.here
  | (with_reducible apply At.there) <;> walk_at "sx"
  | with_reducible exact SetAt.here
  | (with_reducible apply SetAt.there) <;> walk_at "sx"
  | with_reducible exact List.mem_cons_self
  | (with_reducible apply List.mem_cons_of_mem) <;> walk_at "sx"
  | ((with_reducible show (_ : Addr × CD) ∈ _); with_reducible assumption)
  | with_reducible exact Put.here
  | (with_reducible apply Put.there) <;> walk_at "sx"
  | ((with_reducible show Put _ _ _ _ _); with_reducible assumption)
  | ((with_reducible show Sw _ _ _ _); with_reducible assumption)
  | with_reducible exact sw_nil
  | ((with_reducible apply sw_pick); (· walk_at "pk"); walk_at "sx")
  | ((with_reducible apply sw_skip); walk_at "sx")
  | with_reducible exact FGet.here
  | ((with_reducible apply FGet.there); (· decide +kernel); walk_at "sx")
  | with_reducible exact FPut.here
  | with_reducible exact FPut.new
  | ((with_reducible apply FPut.there); (· decide +kernel); walk_at "sx")
  | (with_reducible show ClsF _ _ _); with_reducible assumption
  | (with_reducible show RtQ _ _ _); assumption
  | (with_reducible show (_ : Str) ∈ _); decide +kernel
  | (with_reducible show ¬ (_ : Str) ∈ _); decide +kernel
  -- what is walked, targets
  | (with_reducible apply ei_rng1) <;> walk_at "sx"
  | (with_reducible apply ei_rng2) <;> walk_at "sx"
  | (with_reducible apply ei_enumD) <;> walk_at "sx"
  | (with_reducible apply ei_enum) <;> walk_at "sx"
  | (with_reducible apply ei_zip) <;> walk_at "sx"
  | (with_reducible apply ei_seqLM) <;> walk_at "sx"
  | (with_reducible apply ei_seqTM) <;> walk_at "sx"
  | (with_reducible apply ei_seqL) <;> walk_at "sx"
  | (with_reducible apply ei_seqT) <;> walk_at "sx"
  | (with_reducible apply tg_name) <;> walk_at "sx"
  | (with_reducible apply tg_tup istv_vtup) <;> walk_at "sx"
  | (with_reducible apply td_tup) <;> walk_at "sx"
  | with_reducible exact td_nil
  | (with_reducible apply td_cons) <;> walk_at "sx"
  | with_reducible exact tgs_nil
  | (with_reducible apply tgs_cons) <;> walk_at "sx"
  -- beside
  | walk_at "spec"
  | walk_at "side"
  | walk_at "leave")
/-- a question of another kind is left -/
local macro_rules | `(tactic| walk_at "leave") => `(tactic| first
  | with_reducible show Cont _ _ _ _
  | with_reducible show Shp _ _
  | with_reducible show _ ≤ _
  | with_reducible show _ < _
  | with_reducible show CMul _ _
  | with_reducible show CDiv _ _
  | with_reducible show CPow _ _
  | with_reducible show _ = _
  | with_reducible show Le _ _
  | ((with_reducible show _ = true → _); with_reducible assumption)
  | ((with_reducible show _ = true → _); intro _; walk_at "sx")
  | ((with_reducible show _ = false → _); intro _; walk_at "sx"))
/-- a plain statement -/
local macro_rules | `(tactic| walk_at "st") => `(tactic| first
  | (with_reducible apply c_seq); walk_at "st"
  | (with_reducible apply c_asg) <;> (first | walk_at "sx" | skip)
  | (with_reducible apply c_asgG) <;> (first | walk_at "sx" | skip)
  | (with_reducible apply c_par) <;> (first | walk_at "sx" | skip)
  | (with_reducible apply c_par3) <;> (first | walk_at "sx" | skip)
  | (with_reducible apply c_aug) <;> (first | walk_at "sx" | skip)
  | (with_reducible apply c_augS) <;> (first | walk_at "sx" | skip)
  | (with_reducible apply c_fld) <;> (first | walk_at "sx" | skip)
  | (with_reducible apply c_drop) <;> (first | walk_at "sx" | skip)
  | with_reducible apply c_next
  | with_reducible apply c_break
  | with_reducible apply c_cont)
/-- a value is handed back; a word is met again -/
local macro_rules | `(tactic| walk_at "ret") => `(tactic| (with_reducible apply c_ret) <;> (first | walk_at "sx" | skip))
local macro_rules | `(tactic| walk_at "inv") => `(tactic| (with_reducible apply c_inv) <;> (first | walk_at "side" | skip))
local macro_rules | `(tactic| walk_at "seq") => `(tactic| with_reducible apply c_seq)
local macro_rules | `(tactic| walk_at "cut") => `(tactic| with_reducible apply c_cut)
local macro_rules | `(tactic| walk_at "if") => `(tactic| ((with_reducible apply c_if); (case' h => first | walk_at "sx" | skip)))
local macro_rules | `(tactic| walk_at "fgt") => `(tactic| first
  | exact Fgt.nil
  | (with_reducible apply Fgt.keep; walk_at "fgt")
  | (with_reducible apply Fgt.drop; walk_at "fgt"))

/-! ### more steps: stars, dicts, tuples -/
local macro_rules | `(tactic| walk_at "sx") => `(tactic| first
  | (with_reducible apply ed_starT) <;> walk_at "sx"
  | (with_reducible apply ev_dgetS) <;> walk_at "sx"
  | with_reducible exact isdi_v
  | (with_reducible apply isdi_c) <;> walk_at "sx"
  | (with_reducible apply rv_catTd) <;> walk_at "sx"
  | with_reducible exact ist_dat
  | ((with_reducible show ¬ (_ : Int) < _); with_reducible assumption)
  | ((with_reducible show valG _ _ = _); walk_at "get")
  | ((with_reducible show putG _ _ _ = _); walk_at "get"))

local macro_rules | `(tactic| walk_at "shp") => `(tactic| first | exact shp_oW _ | exact shp_W _)

local macro_rules | `(tactic| walk_at "spec") => `(tactic| first
  | with_reducible exact number_ev
  | (with_reducible apply take_ev) <;> walk_at "sx"
  | (with_reducible apply eput_ev) <;> walk_at "sx"
  | (with_reducible apply eframes_ev) <;> walk_at "sx"
  | (with_reducible apply ehear_ev) <;> walk_at "sx")
/-! ### a tick: what comes -/
theorem hears_told_le : ∀ (fs : List Fm) (x : EndS), (hears x fs).told.length ≤ x.told.length + fs.length
  | [], _ => Nat.le_refl _
  | f :: fs, x => by
    rw [hears_cons]
    have h1 := hears_told_le fs (hearE x 1 f)
    have h2 := (hear_told x 1 f).2
    rw [List.length_cons]
    omega
theorem comes_told_le (c : Bool) : ∀ (ls : List Lt) (S : PS), (∀ l ∈ ls, l.fs.length ≤ 3) → ((ls.foldl comeP S).e c).told.length ≤ (S.e c).told.length + 3 * ls.length
  | [], _, _ => Nat.le_refl _
  | l :: ls, S, h => by
    have h1 := comes_told_le c ls (comeP S l) fun m hm => h m (List.mem_cons_of_mem _ hm)
    have h2 : ((comeP S l).e c).told.length ≤ (S.e c).told.length + 3 := by
      rw [come_e]
      split
      · have := hears_told_le l.fs (S.e c)
        have := h l List.mem_cons_self
        omega
      · omega
    rw [List.foldl_cons, List.length_cons]
    omega
theorem hears_take {x : EndS} {fs : List Fm} {j : Nat} {f : Fm} (h : fs[j]? = some f) : hears x (fs.take (j + 1)) = hearE (hears x (fs.take j)) 1 f := by
  rw [List.take_succ, h, hears_app]
  rfl
theorem set2_id {α : Type} (f : Bool → α) (b : Bool) : set2 f b (f b) = f := by
  funext c
  unfold set2
  split
  · rename_i h; rw [h]
  · rfl
theorem comes_take {ls : List Lt} {i : Nat} {l : Lt} {S : PS} (h : ls[i]? = some l) : (ls.take (i + 1)).foldl comeP S = comeP ((ls.take i).foldl comeP S) l := by
  rw [List.take_succ, h, List.foldl_append]
  rfl
abbrev RL (a : Pl) (w0 w1 : Ws) (dl : Addr) (x6 x7 x8 x9 : Option VD) : Sx.Env := [some (val (.ref a.p)), some (dat (.list [encWs w0, encWs w1])), none, none, none, some (val (.ref dl)), x6, x7, x8, x9, none]
section
variable {K : PySem.W.Frag} {mg : Str → Option Value} {T : Tx K mg} {a : Pl} {la dl : Addr} {S : PS} {w0 w1 : Ws} {M0 : Cells} {Φ Ψ : Fr} {D : Ends} {W : WX} {x : VD} {dd : CD}
/-- one letter -/
theorem come_one {l : Lt} {J : Sx.Env → Cells → Prop} (hw : l.fs.length ≤ 3 ∧ ∀ f ∈ l.fs, f.num.isSome = true → f.word.isSome = true) (ht : ∀ b, (S.e b).told.length ≤ 900000) (hD : D.nx = InvK Ψ J)
    (hJ : ∀ x9, J (RL a w0 w1 dl (some (dat (.int (l.arr : Int)))) (some (dat (.int (gI l.g)))) (some (dat (.tuple (l.fs.map encF)))) x9) ((dl, dd) :: PX T.C_Pace T.C_End a x (comeP S l) M0)) (x9 : Option VD) :
    Cont (rd_Pace_tick_12 K T W D) Ψ (RL a w0 w1 dl (some (dat (.int (l.arr : Int)))) (some (dat (.int (gI l.g)))) (some (dat (.tuple (l.fs.map encF)))) x9) ((dl, dd) :: PX T.C_Pace T.C_End a x S M0) := by
  have hC := T.F_Pace
  have hE := T.F_End
  have t0 := ht false
  have t1 := ht true
  with_reducible apply c_for (its := l.fs.map fun f => dat (encF f)) (M1 := (dl, dd) :: PX T.C_Pace T.C_End a x S M0) (I := fun j ρ' M' => (∃ x9, ρ' = RL a w0 w1 dl (some (dat (.int (l.arr : Int)))) (some (dat (.int (gI l.g)))) (some (dat (.tuple (l.fs.map encF)))) x9) ∧ M' = (dl, dd) :: PX T.C_Pace T.C_End a x { S with e := set2 S.e l.g (hears (S.e l.g) (l.fs.take j)) } M0)
  case h => exact ei_seqTM (f := encF) (ev_var (.there (.there (.there (.there (.there (.there (.there (.there .here)))))))))
  case h0 =>
    refine ⟨⟨_, rfl⟩, ?_⟩
    rw [show hears (S.e l.g) (l.fs.take 0) = S.e l.g from rfl, set2_id]
  case hd =>
    rintro ρ' M' ⟨⟨x9, rfl⟩, rfl⟩
    rw [List.length_map, List.take_length, hD]
    exact c_inv (hJ x9) (Le.refl _)
  case hs =>
    rintro Ψ hΨ j d ρ' M' hi ⟨⟨x9, rfl⟩, rfl⟩
    rw [List.getElem?_map] at hi
    cases hf : l.fs[j]? with
    | none => rw [hf] at hi; cases hi
    | some f =>
      rw [hf] at hi
      cases hi
      have hwf := hw.2 f (List.mem_of_getElem? hf)
      have hlen := hears_told_le (l.fs.take j) (S.e l.g)
      have hj : (l.fs.take j).length ≤ 3 := by rw [List.length_take]; omega
      rw [hears_take hf]
      obtain ⟨arr, g, fs⟩ := l
      dsimp only at hlen hj hf ⊢
      apply for_k <;> (first | walk_at "sx" | skip)
      cases g with
      | false =>
        generalize hx : hears (S.e false) (fs.take j) = e at *
        have he : e.told.length ≤ 1000000 := by omega
        show Cont (rd_Pace_tick_13 K T W _) Ψ (RL a w0 w1 dl _ (some (dat (.int 0))) _ _) ((dl, dd) :: (a.p, paceX T.C_Pace a x S) :: (a.lo, lostC S) :: (a.p0, endI T.C_End a.a0 a.b0 e) :: (a.a0, tl e.out) :: (a.b0, tl e.told) :: (a.p1, endI T.C_End a.a1 a.b1 (S.e true)) :: (a.a1, tl (S.e true).out) :: (a.b1, tl (S.e true).told) :: M0)
        walk_at "st"
        exact c_inv ⟨⟨_, rfl⟩, rfl⟩ (Le.refl _)
      | true =>
        generalize hx : hears (S.e true) (fs.take j) = e at *
        have he : e.told.length ≤ 1000000 := by omega
        show Cont (rd_Pace_tick_13 K T W _) Ψ (RL a w0 w1 dl _ (some (dat (.int 1))) _ _) ((dl, dd) :: (a.p, paceX T.C_Pace a x S) :: (a.lo, lostC S) :: (a.p0, endI T.C_End a.a0 a.b0 (S.e false)) :: (a.a0, tl (S.e false).out) :: (a.b0, tl (S.e false).told) :: (a.p1, endI T.C_End a.a1 a.b1 e) :: (a.a1, tl e.out) :: (a.b1, tl e.told) :: M0)
        walk_at "st"
        exact c_inv ⟨⟨_, rfl⟩, rfl⟩ (Le.refl _)
end

section
variable {K : PySem.W.Frag} {mg : Str → Option Value} {T : Tx K mg} {a : Pl} {la dl : Addr} {S : PS} {w0 w1 : Ws} {M0 : Cells} {Φ Ψ : Fr} {D : Ends} {W : WX} {x : VD} {P : VD → Cells → Prop} {Q : VK}
theorem tick_come (hl : S.ls.length ≤ 100010) (hw : ∀ l ∈ S.ls, l.fs.length ≤ 3 ∧ ∀ f ∈ l.fs, f.num.isSome = true → f.word.isSome = true) (ht : ∀ b, (S.e b).told.length ≤ 100010) (hQ : RtQ Q Φ P)
    (hP : ∀ la', P vn (PW T.C_Pace T.C_End a la' { (dueP (onP S)).foldl comeP (onP S) with ls := lateP (onP S) } M0)) :
    Cont (rd_Pace_tick_9 K T W (fnD Q)) Φ (RT a w0 w1 none none none) (PW T.C_Pace T.C_End a la S M0) := by
  have hC := T.F_Pace
  have hE := T.F_End
  walk_at "seq"
  refine c_fldAug (i := (S.t : Int)) (j := 1) (xs' := [dat (.int (S.D : Int)), dat (.int (S.L : Int)), vtup [val (.ref a.p0), val (.ref a.p1)], dat (.int ((S.t : Int) + 1)), val (.ref a.lo), val (.ref la)]) (M' := PW T.C_Pace T.C_End a la (onP S) M0) (nn := pN) (C := T.C_Pace) (p := a.p) (ns := pN) (xs := [dat (.int (S.D : Int)), dat (.int (S.L : Int)), vtup [val (.ref a.p0), val (.ref a.p1)], dat (.int (S.t : Int)), val (.ref a.lo), val (.ref la)]) ?_ ?_ ?_ ev_int ?_ ?_ hC (by decide +kernel) (by decide) ?_
  · walk_at "sx"
  · exact .tail _ (.head _)
  · walk_at "sx"
  · exact .there .here
  · walk_at "sx"
  generalize hS3 : onP S = S3
  have hl3 : S3.ls.length ≤ 100010 := by rw [← hS3]; exact hl
  have hw3 : ∀ l ∈ S3.ls, l.fs.length ≤ 3 ∧ ∀ f ∈ l.fs, f.num.isSome = true → f.word.isSome = true := by rw [← hS3]; exact hw
  have ht3 : ∀ b, (S3.e b).told.length ≤ 100010 := by rw [← hS3]; exact ht
  rw [hS3] at hP
  refine c_frzI (i := 5) rfl ?_
  show Cont (rd_Pace_tick_10 K T W (fnD Q)) Φ _ (PX T.C_Pace T.C_End a (dat (.list (S3.ls.map encLt))) S3 M0)
  walk_at "seq"
  refine c_asgR (er_lcCd (α := Lt) (e := fun l => dat (encLt l)) (xs := S3.ls) (f := fun l => decide (S3.t < l.arr)) (r := encLt) (M1 := PX T.C_Pace T.C_End a (dat (.list (S3.ls.map encLt))) S3 M0) (ei_seqLM (f := encLt) ?_) (by omega) ?_) ?_
  · walk_at "sx"
  · rintro l -
    refine ⟨[some (val (.ref a.p)), some (dat (.list [encWs w0, encWs w1])), none, none, none, none, none, none, none, none, some (dat (encLt l))], [10], tg_name ?_, fun _ h => h, ?_, fun _ => ?_⟩
    · show SetAt _ (RT a w0 w1 none none none) 10 _
      walk_at "sx"
    · refine EvT.eq (a := decide ((S3.t : Int) < (l.arr : Int))) ?_ (decide_eq_decide.mpr (by omega))
      refine et_test (ev_op (x := dat (.int (l.arr : Int))) (y := dat (.int (S3.t : Int))) (M2 := PX T.C_Pace T.C_End a (dat (.list (S3.ls.map encLt))) S3 M0) (ev_op (x := dat (encLt l)) (y := dat (.int 0)) (ev_var ?_) ev_int (rv_ixT (ds := [.int (l.arr : Int), .int (gI l.g), .tuple (l.fs.map encF)]) ist_dat rfl)) ?_ ?_)
      · walk_at "sx"
      · walk_at "sx"
      · walk_at "sx"
    · refine ev_var ?_
      walk_at "sx"
  rintro y M1 ⟨dl, rfl, rfl⟩
  apply asgR_k <;> (first | walk_at "sx" | skip)
  show Cont (rd_Pace_tick_11 K T W (fnD Q)) Φ (RL a w0 w1 dl none none none none) ((dl, cLd ((lateP S3).map encLt)) :: PX T.C_Pace T.C_End a (dat (.list (S3.ls.map encLt))) S3 M0)
  walk_at "cut"
  have hdue : (dueP S3).length ≤ 100010 := Nat.le_trans (List.length_filter_le _ _) hl3
  with_reducible apply c_for (its := (dueP S3).map fun l => dat (encLt l)) (M1 := (dl, cLd ((lateP S3).map encLt)) :: PX T.C_Pace T.C_End a (dat (.list (S3.ls.map encLt))) S3 M0) (I := fun i ρ' M' => (∃ x6 x7 x8 x9, ρ' = RL a w0 w1 dl x6 x7 x8 x9) ∧ M' = (dl, cLd ((lateP S3).map encLt)) :: PX T.C_Pace T.C_End a (dat (.list (S3.ls.map encLt))) (((dueP S3).take i).foldl comeP S3) M0)
  case h =>
    refine ei_seqLM (f := encLt) (ev_lc (α := Lt) (e := fun l => dat (encLt l)) (xs := S3.ls) (f := fun l => decide (l.arr ≤ S3.t)) (r := encLt) (ei_seqLM (f := encLt) ?_) (by omega) ?_)
    · walk_at "sx"
    · rintro l -
      refine ⟨[some (val (.ref a.p)), some (dat (.list [encWs w0, encWs w1])), none, none, none, some (val (.ref dl)), none, none, none, none, some (dat (encLt l))], [10], tg_name ?_, fun _ h => h, ?_, fun _ => ?_⟩
      · show SetAt _ (RL a w0 w1 dl none none none none) 10 _
        walk_at "sx"
      · refine EvT.eq (a := decide ((l.arr : Int) ≤ (S3.t : Int))) ?_ (decide_eq_decide.mpr (by omega))
        refine et_test (ev_op (x := dat (.int (l.arr : Int))) (y := dat (.int (S3.t : Int))) (M2 := (dl, cLd ((lateP S3).map encLt)) :: PX T.C_Pace T.C_End a (dat (.list (S3.ls.map encLt))) S3 M0) (ev_op (x := dat (encLt l)) (y := dat (.int 0)) (ev_var ?_) ev_int (rv_ixT (ds := [.int (l.arr : Int), .int (gI l.g), .tuple (l.fs.map encF)]) ist_dat rfl)) ?_ ?_)
        · walk_at "sx"
        · walk_at "sx"
        · walk_at "sx"
      · refine ev_var ?_
        walk_at "sx"
  case h0 => exact ⟨⟨_, _, _, _, rfl⟩, rfl⟩
  case hd =>
    rintro ρ' M' ⟨⟨x6, x7, x8, x9, rfl⟩, rfl⟩
    rw [List.length_map, List.take_length]
    with_reducible apply c_fgt (ρ' := RL a w0 w1 dl none none none none)
    · walk_at "fgt"
    show Cont (rd_Pace_tick_14 K T W (fnD Q)) Φ _ _
    walk_at "st"
    exact c_end hQ (hP dl) (Le.refl _)
  case hs =>
    rintro Ψ hΨ i d ρ' M' hi ⟨⟨x6, x7, x8, x9, rfl⟩, rfl⟩
    rw [List.getElem?_map] at hi
    cases hq : (dueP S3)[i]? with
    | none => rw [hq] at hi; cases hi
    | some l =>
      rw [hq] at hi
      cases hi
      have hm : l ∈ S3.ls := (List.mem_filter.mp (List.mem_of_getElem? hq)).1
      have hfew : ∀ b, ((((dueP S3).take i).foldl comeP S3).e b).told.length ≤ 900000 := fun b => by
        have := comes_told_le b ((dueP S3).take i) S3 fun m hm' => (hw3 m (List.mem_filter.mp (List.mem_of_mem_take hm')).1).1
        have h2 : ((dueP S3).take i).length ≤ 100010 := by rw [List.length_take]; omega
        have := ht3 b
        omega
      rw [comes_take hq]
      generalize ((dueP S3).take i).foldl comeP S3 = Si at *
      show ∃ ρ'' js, Tgt _ js (dat (.tuple [.int (l.arr : Int), .int (gI l.g), .tuple (l.fs.map encF)])) _ ρ'' ∧ _
      apply for_k <;> (first | walk_at "sx" | skip)
      exact come_one (hw3 l hm) hfew rfl (fun x9 => ⟨⟨_, _, _, _, rfl⟩, rfl⟩) x9
end
theorem Sm.send {S : PS} (hS : Sm S) (w0 w1 : Ws) : (sendP (sendP S false w0) true w1).ls.length ≤ 100010 ∧ ∀ l ∈ (sendP (sendP S false w0) true w1).ls, l.fs.length ≤ 3 ∧ ∀ f ∈ l.fs, f.num.isSome = true → f.word.isSome = true := by
  have h1 := send_len S false w0
  have h2 := send_len (sendP S false w0) true w1
  have h3 := hS.l
  have one : ∀ (S : PS) (b : Bool) (w : Ws), (∀ l ∈ S.ls, l.fs.length ≤ 3 ∧ ∀ f ∈ l.fs, f.num.isSome = true → f.word.isSome = true) → ∀ l ∈ (sendP S b w).ls, l.fs.length ≤ 3 ∧ ∀ f ∈ l.fs, f.num.isSome = true → f.word.isSome = true := by
    intro S b w h l hl
    unfold sendP at hl
    split at hl
    · exact h l hl
    · rcases List.mem_append.mp hl with hl | hl
      · exact h l hl
      · cases List.mem_singleton.mp hl
        exact ⟨frames_le _, fun f hf => (frames_ok f hf).1.wf⟩
  exact ⟨by omega, one _ _ _ (one _ _ _ hS.f)⟩
theorem Pace_tick_body {K : PySem.W.Frag} {mg : Str → Option Value} (T : Tx K mg) : ∀ W Q ds M P PE Φ, ds.length = 2 → S_Pace_tick K T ds M P PE → RtQ Q Φ P → RtX W Φ (fun _ => PE) → Cont (rd_Pace_tick_0 K T W (fnD Q)) Φ (entry ["self", "wishes", "at", "is_lost", "ticks", "late", "time", "goal", "frames", "frame", "letter"] ds) M := by
  rintro W Q ds M P PE Φ - ⟨a, la, S, w0, w1, M0, rfl, hS, h1, h0, hc⟩ hQ hX
  have hp : M.Perm (PW T.C_Pace T.C_End a la S M0) := h1.trans (by
    show List.Perm (_ :: _ :: (la, _) :: _ :: _ :: _ :: _ :: _ :: _ :: M0) _
    walk_at "perm")
  refine c_perm hp ?_
  show Cont _ _ (RT a w0 w1 none none none) _
  have hQ := hQ.up
  have hX := hX.up
  refine tick_check h0 hX (fun hb => ?_) fun hb => ?_
  · rcases hc with ⟨h, _⟩ | ⟨_, hP⟩
    · rw [hb] at h; cases h
    · exact ⟨M, hp.symm, hP⟩
  · rcases hc with ⟨_, hP⟩ | ⟨h, _⟩
    · refine tick_send hS (tick_come (hS.send w0 w1).1 (hS.send w0 w1).2 (fun b => ?_) hQ fun la' => ?_)
      · rw [(send_e _ _ _).1, (send_e _ _ _).1]
        exact Nat.le_trans (hS.t b) (by decide)
      · refine up_perm ?_ (hP la')
        show List.Perm ((la', _) :: _ :: _ :: _ :: _ :: _ :: _ :: _ :: _ :: M0) (_ :: _ :: (la', _) :: _ :: _ :: _ :: _ :: _ :: _ :: M0)
        walk_at "perm"
    · rw [hb] at h; cases h

end Lw


set_option Elab.async false
set_option linter.all false
set_option maxRecDepth 100000
set_option maxHeartbeats 4000000
namespace Lw
open PySem L2 Sx
/-! ### steps -/
local macro_rules | `(tactic| walk_at "shp") => `(tactic| first
  | exact shp_int
  | exact shp_none
  | exact shp_bool
  | exact shp_oi _
  | (apply shp_str; first | decide +kernel | assumption)
  | (apply shp_list; walk_at "shpA")
  | (apply shp_tuple; walk_at "shpA")
  | assumption)
local macro_rules | `(tactic| walk_at "shpA") => `(tactic| first
  | exact shpA_nil
  | (apply shpA_cons; (· walk_at "shp"); walk_at "shpA")
  | (apply shpA_map; intro _ _; walk_at "shp"))
/-- what is left beside: closed, or left -/
local macro_rules | `(tactic| walk_at "side") => `(tactic| first
  | (with_reducible show Shp _ _); walk_at "shp"
  | (with_reducible show _ ≤ sizeLine); first | decide | (show _ ≤ 16777216; omega) | (show _ ≤ 16777216; simp only [List.length_map, List.length_append, List.length_cons, List.length_nil]; omega)
  | (with_reducible show _ < sizeLine); first | decide | (show _ < 16777216; omega) | (show _ < 16777216; simp only [List.length_map, List.length_append, List.length_cons, List.length_nil]; omega)
  | (with_reducible show CMul _ _); first | exact Or.inr ⟨by decide, by decide⟩ | exact Or.inl ⟨by decide, by decide⟩ | exact Or.inl ⟨by omega, by omega⟩ | exact Or.inr ⟨by omega, by omega⟩
  | (with_reducible show CPow _ _); exact ⟨by decide, by decide, by decide⟩
  | (with_reducible show CDiv _ _); first | exact ⟨by decide, by decide⟩ | exact ⟨by omega, by omega⟩
  | (with_reducible show Le _ _); first | with_reducible exact Le.refl _ | with_reducible assumption
  | (with_reducible show L2.atI _ _ = _); first | with_reducible assumption | exact rfl | exact atI_nat rfl
  | (with_reducible show _ < _); first | with_reducible assumption | decide | omega
  | (with_reducible show _ ≤ _); first | with_reducible assumption | decide | omega
  | (with_reducible show _ ∧ _); omega
  | (with_reducible show ∀ i, i ∈ _ → i ∈ _); decide
  | (with_reducible show (_ : Nat) = _); first | exact rfl | omega)
local macro_rules | `(tactic| walk_at "rm") => `(tactic| first
  | exact Rm.here
  | (apply Rm.there; walk_at "rm"))
local macro_rules | `(tactic| walk_at "perm") => `(tactic| first
  | with_reducible exact List.Perm.refl _
  | (apply perm_step; (· walk_at "rm"); walk_at "perm")
  | exact List.Perm.refl _)
local macro_rules | `(tactic| walk_at "pk") => `(tactic| first
  | with_reducible exact Pk.here
  | ((with_reducible apply Pk.there); walk_at "pk"))
/-- a part of a reading: what it gives. One word for all kinds -/
local macro_rules | `(tactic| walk_at "sx") => `(tactic| first
  -- an expression
  | with_reducible exact ev_int
  | with_reducible exact ev_bl
  | with_reducible exact ev_str
  | with_reducible exact ev_non
  | (with_reducible apply ev_var) <;> walk_at "sx"
  | (with_reducible apply ev_op) <;> walk_at "sx"
  | (with_reducible apply ev_fld) <;> walk_at "sx"
  | (with_reducible apply ev_cb) <;> walk_at "sx"
  | (with_reducible apply ev_tupD) <;> walk_at "sx"
  | (with_reducible apply ev_lstD) <;> walk_at "sx"
  | (with_reducible apply ev_tupV) <;> walk_at "sx"
  | (with_reducible apply ev_lstV) <;> walk_at "sx"
  | (with_reducible apply ev_slL) <;> walk_at "sx"
  | (with_reducible apply ev_slT1) <;> walk_at "sx"
  | (with_reducible apply ev_slT) <;> walk_at "sx"
  | (with_reducible apply ev_un) <;> walk_at "sx"
  | (with_reducible apply ev_chain) <;> walk_at "sx"
  | (with_reducible apply ev_andV) <;> walk_at "sx"
  | (with_reducible apply ev_orV) <;> walk_at "sx"
  | (with_reducible apply ev_notV) <;> walk_at "sx"
  | (with_reducible apply ev_lcY) <;> walk_at "sx"
  | (with_reducible apply ev_lc) <;> walk_at "sx"
  | ((with_reducible show ∀ a, a ∈ _ → ∃ ρ'' js, _); intro a ha; dsimp only [wipeE, List.set]; (first | with_reducible apply lcY_k | with_reducible apply lcF_k) <;> walk_at "sx")
  | (with_reducible apply ev_call) <;> walk_at "sx"
  | (with_reducible apply ev_meth) <;> walk_at "sx"
  | (with_reducible apply ev_bm) <;> walk_at "sx"
  | (with_reducible show Ev _ _ _ _ _); walk_at "own"
  -- a test
  | with_reducible exact et_yes
  | (with_reducible apply et_test) <;> walk_at "sx"
  | (with_reducible apply et_B) <;> walk_at "sx"
  | (with_reducible apply et_not) <;> walk_at "sx"
  | (with_reducible apply et_and) <;> walk_at "sx"
  | (with_reducible apply et_or) <;> walk_at "sx"
  -- arguments
  | with_reducible exact ea_nil
  | (with_reducible apply ea_cons) <;> walk_at "sx"
  | with_reducible exact ed_nil
  | (with_reducible apply ed_cons) <;> walk_at "sx"
  | with_reducible exact eo_none
  | (with_reducible apply eo_some) <;> walk_at "sx"
  -- what an operation gives
  | with_reducible exact rv_addI
  | with_reducible exact rv_int0
  | with_reducible exact rv_bl0
  | with_reducible exact rv_eqI
  | with_reducible exact rv_neI
  | with_reducible exact rv_eqS
  | with_reducible exact rv_neS
  | with_reducible exact rv_isN
  | with_reducible exact rv_notN
  | (with_reducible apply rv_intC) <;> walk_at "sx"
  | (with_reducible apply rv_addS) <;> walk_at "sx"
  | (with_reducible apply rv_ixL isl_dat) <;> walk_at "sx"
  | (with_reducible apply rv_ixT ist_dat) <;> walk_at "sx"
  | (with_reducible apply rv_ixL) <;> walk_at "sx"
  | (with_reducible apply rv_ixLV) <;> walk_at "sx"
  | (apply rv_ixT ist_dat) <;> walk_at "sx"
  | (with_reducible apply rv_ixTV istv_vtup) <;> walk_at "sx"
  | (with_reducible apply rv_ixScr) <;> walk_at "sx"
  | (apply rv_ixL isl_dat) <;> walk_at "sx"
  | (with_reducible apply rv_ixL) <;> walk_at "sx"
  | (apply rv_cat) <;> walk_at "sx"
  | (with_reducible apply rv_eqD) <;> walk_at "sx"
  | (with_reducible apply rv_neD) <;> walk_at "sx"
  | with_reducible exact ru_neg
  | with_reducible exact rc_int
  | with_reducible exact rc_abs
  | with_reducible exact rc_max2
  | with_reducible exact rc_min2
  | with_reducible exact rc_lenScr
  | with_reducible exact rc_lenM isl_dat
  | ((with_reducible apply rc_lenM); (with_reducible apply isl_cell) <;> walk_at "sx")
  | with_reducible exact rc_lenMT
  | (with_reducible apply rc_lenL) <;> walk_at "sx"
  | (apply rc_lenT ist_dat)
  | (with_reducible apply rc_tupL) <;> walk_at "sx"
  | (apply rc_tupT)
  | (with_reducible apply rc_lstL) <;> walk_at "sx"
  | (apply rc_lstT ist_dat)
  | with_reducible exact rc_anyM
  | with_reducible exact rc_allM
  | ((with_reducible apply rm_append) <;> walk_at "sx")
  -- lists, tuples, data
  | with_reducible exact isl_dat
  | with_reducible exact isd_dat
  | with_reducible exact isd_scr
  | (with_reducible apply isl_cell) <;> walk_at "sx"
  | (with_reducible apply islv_cell) <;> walk_at "sx"
  | with_reducible exact islv_vlst
  | (with_reducible apply isd_cell) <;> walk_at "sx"
  | (with_reducible apply isd_vtup) <;> walk_at "sx"
  | (with_reducible apply isd_vlst) <;> walk_at "sx"
  | with_reducible exact isds_nil
  | (with_reducible apply isds_cons) <;> walk_at "sx"
  | with_reducible exact fzl_dat
  | with_reducible exact fzl_v
  | with_reducible exact fzt_dat
  | with_reducible exact fzt_v
  | (with_reducible apply ity_l) <;> walk_at "sx"
  | with_reducible exact ity_s
  | (with_reducible apply IsLst.v) <;> walk_at "sx"
  -- places
  | with_reducible exact At.here
  | (with_reducible apply At.there) <;> walk_at "sx"
  | with_reducible exact SetAt.here
  | (with_reducible apply SetAt.there) <;> walk_at "sx"
  | with_reducible exact List.mem_cons_self
  | (with_reducible apply List.mem_cons_of_mem) <;> walk_at "sx"
  | ((with_reducible show (_ : Addr × CD) ∈ _); with_reducible assumption)
  | with_reducible exact Put.here
  | (with_reducible apply Put.there) <;> walk_at "sx"
  | ((with_reducible show Put _ _ _ _ _); with_reducible assumption)
  | ((with_reducible show Sw _ _ _ _); with_reducible assumption)
  | with_reducible exact sw_nil
  | ((with_reducible apply sw_pick); (· walk_at "pk"); walk_at "sx")
  | ((with_reducible apply sw_skip); walk_at "sx")
  | with_reducible exact FGet.here
  | ((with_reducible apply FGet.there); (· decide +kernel); walk_at "sx")
  | with_reducible exact FPut.here
  | with_reducible exact FPut.new
  | ((with_reducible apply FPut.there); (· decide +kernel); walk_at "sx")
  | (with_reducible show ClsF _ _ _); with_reducible assumption
  | (with_reducible show RtQ _ _ _); assumption
  | (with_reducible show (_ : Str) ∈ _); decide +kernel
  | (with_reducible show ¬ (_ : Str) ∈ _); decide +kernel
  -- what is walked, targets
  | (with_reducible apply ei_rng1) <;> walk_at "sx"
  | (with_reducible apply ei_rng2) <;> walk_at "sx"
  | (with_reducible apply ei_enumD) <;> walk_at "sx"
  | (with_reducible apply ei_enum) <;> walk_at "sx"
  | (with_reducible apply ei_zip) <;> walk_at "sx"
  | (with_reducible apply ei_seqLM) <;> walk_at "sx"
  | (with_reducible apply ei_seqTM) <;> walk_at "sx"
  | (with_reducible apply ei_seqL) <;> walk_at "sx"
  | (with_reducible apply ei_seqT) <;> walk_at "sx"
  | (with_reducible apply tg_name) <;> walk_at "sx"
  | (with_reducible apply tg_tup istv_vtup) <;> walk_at "sx"
  | (with_reducible apply td_tup) <;> walk_at "sx"
  | with_reducible exact td_nil
  | (with_reducible apply td_cons) <;> walk_at "sx"
  | with_reducible exact tgs_nil
  | (with_reducible apply tgs_cons) <;> walk_at "sx"
  -- beside
  | walk_at "spec"
  | walk_at "side"
  | walk_at "leave")
/-- a question of another kind is left -/
local macro_rules | `(tactic| walk_at "leave") => `(tactic| first
  | with_reducible show Cont _ _ _ _
  | with_reducible show Shp _ _
  | with_reducible show _ ≤ _
  | with_reducible show _ < _
  | with_reducible show CMul _ _
  | with_reducible show CDiv _ _
  | with_reducible show CPow _ _
  | with_reducible show _ = _
  | with_reducible show Le _ _
  | ((with_reducible show _ = true → _); with_reducible assumption)
  | ((with_reducible show _ = true → _); intro _; walk_at "sx")
  | ((with_reducible show _ = false → _); intro _; walk_at "sx"))
/-- a plain statement -/
local macro_rules | `(tactic| walk_at "st") => `(tactic| first
  | (with_reducible apply c_seq); walk_at "st"
  | (with_reducible apply c_asg) <;> (first | walk_at "sx" | skip)
  | (with_reducible apply c_asgG) <;> (first | walk_at "sx" | skip)
  | (with_reducible apply c_par) <;> (first | walk_at "sx" | skip)
  | (with_reducible apply c_par3) <;> (first | walk_at "sx" | skip)
  | (with_reducible apply c_aug) <;> (first | walk_at "sx" | skip)
  | (with_reducible apply c_augS) <;> (first | walk_at "sx" | skip)
  | (with_reducible apply c_fld) <;> (first | walk_at "sx" | skip)
  | (with_reducible apply c_drop) <;> (first | walk_at "sx" | skip)
  | with_reducible apply c_next
  | with_reducible apply c_break
  | with_reducible apply c_cont)
/-- a value is handed back; a word is met again -/
local macro_rules | `(tactic| walk_at "ret") => `(tactic| (with_reducible apply c_ret) <;> (first | walk_at "sx" | skip))
local macro_rules | `(tactic| walk_at "inv") => `(tactic| (with_reducible apply c_inv) <;> (first | walk_at "side" | skip))
local macro_rules | `(tactic| walk_at "seq") => `(tactic| with_reducible apply c_seq)
local macro_rules | `(tactic| walk_at "cut") => `(tactic| with_reducible apply c_cut)
local macro_rules | `(tactic| walk_at "if") => `(tactic| ((with_reducible apply c_if); (case' h => first | walk_at "sx" | skip)))
local macro_rules | `(tactic| walk_at "fgt") => `(tactic| first
  | exact Fgt.nil
  | (with_reducible apply Fgt.keep; walk_at "fgt")
  | (with_reducible apply Fgt.drop; walk_at "fgt"))

/-! ### more steps: stars, dicts, tuples -/
local macro_rules | `(tactic| walk_at "sx") => `(tactic| first
  | (with_reducible apply ed_starT) <;> walk_at "sx"
  | (with_reducible apply ev_dgetS) <;> walk_at "sx"
  | with_reducible exact isdi_v
  | (with_reducible apply isdi_c) <;> walk_at "sx"
  | (with_reducible apply rv_catTd) <;> walk_at "sx"
  | with_reducible exact ist_dat
  | ((with_reducible show ¬ (_ : Int) < _); with_reducible assumption)
  | ((with_reducible show valG _ _ = _); walk_at "get")
  | ((with_reducible show putG _ _ _ = _); walk_at "get"))

local macro_rules | `(tactic| walk_at "shp") => `(tactic| first | exact shp_oW _ | exact shp_W _)

local macro_rules | `(tactic| walk_at "spec") => `(tactic| first
  | with_reducible exact number_ev
  | (with_reducible apply take_ev) <;> walk_at "sx"
  | (with_reducible apply eput_ev) <;> walk_at "sx"
  | (with_reducible apply eframes_ev) <;> walk_at "sx"
  | (with_reducible apply ehear_ev) <;> walk_at "sx")
/-! ### a pace, made, given words, ticking -/
theorem EvL.r {te : TE} {ρ : Sx.Env} {M : Cells} {P : VD → Cells → Prop} (h : ∀ Φ, EvL Φ te ρ M P) : EvR te ρ M P := fun Φ σ H Q s q => h Φ Φ σ H Q (Le.refl _) s q
section
variable {K : PySem.W.Frag} {mg : Str → Option Value} {T : Tx K mg} {a : Pl} {la : Addr} {S : PS} {w0 w1 : Ws} {M M0 : Cells} {ρ : Sx.Env} {t : TA} {i : Nat}
theorem new_er {D L : Nat} (h : EvA t ρ M [dat (.int (D : Int)), dat (.int (L : Int))] M) (h1 : 1 ≤ D) (h2 : D ≤ 1000) (h3 : L ≤ 1000) :
    EvR (tMakeS T.C_Pace (spX 3 (S_Pace_init K T)) (WE W0) t) ρ M (fun y N => ∃ a la, y = val (.ref a.p) ∧ N = PC T.C_Pace T.C_End a la (newP D L fun _ => []) ++ M) :=
  EvL.r fun Φ => evl_make (PE := fun _ _ _ _ _ => False) (PE' := fun _ _ _ _ => False) h rfl (fun p => ⟨p, M, .int (D : Int), .int (L : Int), rfl, rfl, .inl ⟨_, rfl⟩, .inl ⟨_, rfl⟩, .inr (.inr ⟨D, L, rfl, rfl, h1, h2, h3, fun a la hp => ⟨rfl, a, la, by rw [hp], rfl⟩⟩)⟩) rtx0 fun _ _ _ _ z => z
theorem pput_ev {b : Bool} {w : Wd} (hS : Sm S) (hM : M.Perm (PC T.C_Pace T.C_End a la S ++ M0)) : S_Pace_put K T [val (.ref a.p), dat (.int (gI b)), dat (encW w)] M (fun y N => y = vn ∧ N = PC T.C_Pace T.C_End a la (putP S b w) ++ M0) := ⟨a, la, S, b, w, M0, rfl, hS, hM, rfl, rfl⟩
theorem tick_er (hv : At (val (.ref a.p)) ρ i) (h : EvA t ρ M [dat (.list [encWs w0, encWs w1])] M) (hS : Sm S) (hM : M.Perm (PC T.C_Pace T.C_End a la S ++ M0)) (h0 : okWb S.D w0 = true) (h1 : okWb S.D w1 = true) :
    EvR (tMethS T.C_Pace "tick" (spX 2 (S_Pace_tick K T)) (WE W0) (tVar i) t) ρ M (fun _ N => ∃ la', N = PC T.C_Pace T.C_End a la' (tickP S (w0, w1)) ++ M0) :=
  EvL.r fun Φ => evl_meth (PE := fun _ _ _ _ _ => False) (PE' := fun _ _ _ _ => False) (ns := pN) (ev_var hv) (hM.mem_iff.mpr (List.mem_append_left _ List.mem_cons_self)) (by decide +kernel) h rfl ⟨a, la, S, w0, w1, M0, rfl, hS, hM, h0, .inl ⟨h1, fun la' => ⟨la', rfl⟩⟩⟩ rtx0 fun _ _ _ _ z => z
end
/-! ### small enough -/
structure Fl (S : PS) (n : Nat) : Prop where
  l : S.ls.length ≤ n
  f : ∀ l ∈ S.ls, l.fs.length ≤ 3
theorem send_fl {S : PS} {n : Nat} {b : Bool} {w : Ws} (h : Fl S n) : Fl (sendP S b w) (n + 1) := by
  refine ⟨Nat.le_trans (send_len S b w) (by have := h.l; omega), fun l hl => ?_⟩
  unfold sendP at hl
  split at hl
  · exact h.f l hl
  · rcases List.mem_append.mp hl with hl | hl
    · exact h.f l hl
    · cases List.mem_singleton.mp hl
      exact frames_le _
theorem tick_fl {S : PS} {n : Nat} {w : Ws × Ws} (h : Fl S n) : Fl (tickP S w) (n + 2) := by
  obtain ⟨S2, e0, _, _, _, _, e5, _⟩ := tick_parts S w
  have h2 : Fl S2 (n + 2) := by rw [e0]; exact send_fl (send_fl h)
  refine ⟨?_, fun l hl => ?_⟩
  · rw [e5]
    exact Nat.le_trans (List.length_filter_le _ _) h2.l
  · rw [e5] at hl
    exact h2.f l (List.mem_filter.mp hl).1
theorem run_fl : ∀ (ws : List (Ws × Ws)) {S : PS} {n : Nat}, Fl S n → Fl (runP S ws) (n + 2 * ws.length)
  | [], _, _, h => h
  | w :: ws, S, n, h => by
    have := run_fl ws (tick_fl (w := w) h)
    rw [List.length_cons, show n + 2 * (ws.length + 1) = n + 2 + 2 * ws.length by omega]
    exact this
theorem run_sm {D L : Nat} {o : Bool → List Wd} {ws : List (Ws × Ws)} (hw : ∀ w ∈ ws, okW D w.1 ∧ okW D w.2) (ho : ∀ b, (o b).length ≤ 1000) (hl : ws.length ≤ 10000) : Sm (runP (newP D L o) ws) := by
  obtain ⟨G, _⟩ := run_G ws (newP D L o) (new_G D L o) hw
  have F := run_fl ws (S := newP D L o) (n := 0) ⟨Nat.le_refl _, fun _ h => nomatch h⟩
  have hb : ∀ b, ((runP (newP D L o) ws).e b).out.length ≤ 1000 := fun b => by
    rw [(run_mono (newP D L o) ws b).1]
    exact ho b
  refine ⟨fun b => Nat.le_trans (hb b) (by decide), fun b => ?_, ?_, fun l hl => ⟨F.f l hl, fun f hf => (G.let' l hl f hf).wf⟩⟩
  · have h1 := (G.dir (!b)).l
    rw [Bool.not_not] at h1
    have := hb (!b)
    omega
  · have := F.l
    omega
theorem put_new {D L : Nat} {o : Bool → List Wd} {b : Bool} {w : Wd} : putP (newP D L o) b w = newP D L (set2 o b (o b ++ [w])) := by
  unfold putP newP
  congr 1
  funext c
  unfold set2
  by_cases h : c = b
  · subst h
    rw [if_pos rfl, if_pos rfl]
    rfl
  · rw [if_neg h, if_neg h]
theorem okb {D : Nat} {w : Ws} (h : okW D w) : okWb D w = true := by
  unfold okWb
  rw [decide_eq_true h.1, decide_eq_true h.2]
  rfl
/-! ### refused -/
theorem law_refused_body {K : PySem.W.Frag} {mg : Str → Option Value} (T : Tx K mg) : ∀ Q ds M P Φ, ds.length = 2 → S_law_refused K T ds M P → RtQ Q Φ P → Cont (rd_law_refused_0 K T (fnD Q)) Φ (entry ["_law_delay", "_law_losses", "fault"] ds) M := by
  rintro Q ds M P Φ - ⟨d, l, rfl, hd, hl, hP⟩ hQ
  have hQ := hQ.up
  show Cont _ _ [some (dat d), some (dat l), none] _
  refine c_tryAs (fun ρ' C f y M' => ρ' = [some (dat d), some (dat l), none] ∧ C = T.C_BadName ∧ f = "name" ∧ y = dat (refD d l) ∧ ∃ p, M' = (p, cI T.C_Pace [] []) :: M) ?_ ?_
  · intro W hX
    walk_at "seq"
    refine c_dropL (P := fun _ N => refD d l = .str "done" ∧ M.Sublist N) (evl_make (PE' := fun C f y M' => C = T.C_BadName ∧ f = "name" ∧ y = dat (refD d l) ∧ ∃ p, M' = (p, cI T.C_Pace [] []) :: M) (ds := [dat d, dat l]) (M1 := M) (ea_cons (ev_var .here) (ea_cons (ev_var (.there .here)) ea_nil)) rfl (fun p => ⟨p, M, d, l, rfl, rfl, hd, hl, ?_⟩) hX fun C f y M' z => ⟨rfl, z⟩) ?_
    · cases h1 : isW d 1 1000 with
      | false => exact .inl ⟨rfl, rfl, rfl, by unfold refD; rw [h1]; rfl, p, rfl⟩
      | true =>
        cases h2 : isW l 0 1000 with
        | false => exact .inr (.inl ⟨rfl, rfl, rfl, rfl, by unfold refD; rw [h1, h2]; rfl, p, rfl⟩)
        | true =>
          obtain ⟨i, rfl⟩ : ∃ i, d = .int i := by
            rcases hd with h | ⟨s, rfl⟩
            · exact h
            · cases h1
          obtain ⟨k, rfl⟩ : ∃ i, l = .int i := by
            rcases hl with h | ⟨s, rfl⟩
            · exact h
            · cases h2
          have e1 := h1
          have e2 := h2
          simp only [isW, Bool.and_eq_true, decide_eq_true_eq] at h1 h2
          refine .inr (.inr ⟨i.toNat, k.toNat, by rw [Int.toNat_of_nonneg (by omega)], by rw [Int.toNat_of_nonneg (by omega)], by omega, by omega, by omega, fun a la _ => ⟨rfl, ?_, List.sublist_append_right _ _⟩⟩)
          unfold refD
          rw [if_pos e1, if_pos e2]
    · rintro x N ⟨h1, h2⟩
      show Cont (rd_law_refused_2 K T W (fnD Q)) Φ _ _
      refine c_ret (D := fnD Q) (x := dat (.str "done")) (M1 := N) ev_str hQ (up_drop h2 ?_) (Le.refl _)
      rw [← h1]
      exact hP
  · rintro Ψ ρ' C f y M' dd hle ⟨rfl, rfl, rfl, rfl, p, rfl⟩
    refine ⟨T.X_BadName.te, fun a => ?_⟩
    show Cont _ _ [some (dat d), some (dat l), some (val (.ref a))] _
    exact c_ret (M1 := (dd, cX "name" (dat (refD d l))) :: (p, cI T.C_Pace [] []) :: M) (ev_xf (ev_var (.there (.there .here))) (.head _)) hQ (up_drop (.cons _ (.cons _ (.refl _))) hP) hle

end Lw


set_option Elab.async false
set_option linter.all false
set_option maxRecDepth 100000
set_option maxHeartbeats 4000000
namespace Lw
open PySem L2 Sx
/-! ### steps -/
local macro_rules | `(tactic| walk_at "shp") => `(tactic| first
  | exact shp_int
  | exact shp_none
  | exact shp_bool
  | exact shp_oi _
  | (apply shp_str; first | decide +kernel | assumption)
  | (apply shp_list; walk_at "shpA")
  | (apply shp_tuple; walk_at "shpA")
  | assumption)
local macro_rules | `(tactic| walk_at "shpA") => `(tactic| first
  | exact shpA_nil
  | (apply shpA_cons; (· walk_at "shp"); walk_at "shpA")
  | (apply shpA_map; intro _ _; walk_at "shp"))
/-- what is left beside: closed, or left -/
local macro_rules | `(tactic| walk_at "side") => `(tactic| first
  | (with_reducible show Shp _ _); walk_at "shp"
  | (with_reducible show _ ≤ sizeLine); first | decide | (show _ ≤ 16777216; omega) | (show _ ≤ 16777216; simp only [List.length_map, List.length_append, List.length_cons, List.length_nil]; omega)
  | (with_reducible show _ < sizeLine); first | decide | (show _ < 16777216; omega) | (show _ < 16777216; simp only [List.length_map, List.length_append, List.length_cons, List.length_nil]; omega)
  | (with_reducible show CMul _ _); first | exact Or.inr ⟨by decide, by decide⟩ | exact Or.inl ⟨by decide, by decide⟩ | exact Or.inl ⟨by omega, by omega⟩ | exact Or.inr ⟨by omega, by omega⟩
  | (with_reducible show CPow _ _); exact ⟨by decide, by decide, by decide⟩
  | (with_reducible show CDiv _ _); first | exact ⟨by decide, by decide⟩ | exact ⟨by omega, by omega⟩
  | (with_reducible show Le _ _); first | with_reducible exact Le.refl _ | with_reducible assumption
  | (with_reducible show L2.atI _ _ = _); first | with_reducible assumption | exact rfl | exact atI_nat rfl
  | (with_reducible show _ < _); first | with_reducible assumption | decide | omega
  | (with_reducible show _ ≤ _); first | with_reducible assumption | decide | omega
  | (with_reducible show _ ∧ _); omega
  | (with_reducible show ∀ i, i ∈ _ → i ∈ _); decide
  | (with_reducible show (_ : Nat) = _); first | exact rfl | omega)
local macro_rules | `(tactic| walk_at "rm") => `(tactic| first
  | exact Rm.here
  | (apply Rm.there; walk_at "rm"))
local macro_rules | `(tactic| walk_at "perm") => `(tactic| first
  | with_reducible exact List.Perm.refl _
  | (apply perm_step; (· walk_at "rm"); walk_at "perm")
  | exact List.Perm.refl _)
local macro_rules | `(tactic| walk_at "pk") => `(tactic| first
  | with_reducible exact Pk.here
  | ((with_reducible apply Pk.there); walk_at "pk"))
/-- a part of a reading: what it gives. One word for all kinds -/
local macro_rules | `(tactic| walk_at "sx") => `(tactic| first
  -- an expression
  | with_reducible exact ev_int
  | with_reducible exact ev_bl
  | with_reducible exact ev_str
  | with_reducible exact ev_non
  | (with_reducible apply ev_var) <;> walk_at "sx"
  | (with_reducible apply ev_op) <;> walk_at "sx"
  | (with_reducible apply ev_fld) <;> walk_at "sx"
  | (with_reducible apply ev_cb) <;> walk_at "sx"
  | (with_reducible apply ev_tupD) <;> walk_at "sx"
  | (with_reducible apply ev_lstD) <;> walk_at "sx"
  | (with_reducible apply ev_tupV) <;> walk_at "sx"
  | (with_reducible apply ev_lstV) <;> walk_at "sx"
  | (with_reducible apply ev_slL) <;> walk_at "sx"
  | (with_reducible apply ev_slT1) <;> walk_at "sx"
  | (with_reducible apply ev_slT) <;> walk_at "sx"
  | (with_reducible apply ev_un) <;> walk_at "sx"
  | (with_reducible apply ev_chain) <;> walk_at "sx"
  | (with_reducible apply ev_andV) <;> walk_at "sx"
  | (with_reducible apply ev_orV) <;> walk_at "sx"
  | (with_reducible apply ev_notV) <;> walk_at "sx"
  | (with_reducible apply ev_lcY) <;> walk_at "sx"
  | (with_reducible apply ev_lc) <;> walk_at "sx"
  | ((with_reducible show ∀ a, a ∈ _ → ∃ ρ'' js, _); intro a ha; dsimp only [wipeE, List.set]; (first | with_reducible apply lcY_k | with_reducible apply lcF_k) <;> walk_at "sx")
  | (with_reducible apply ev_call) <;> walk_at "sx"
  | (with_reducible apply ev_meth) <;> walk_at "sx"
  | (with_reducible apply ev_bm) <;> walk_at "sx"
  | (with_reducible show Ev _ _ _ _ _); walk_at "own"
  -- a test
  | with_reducible exact et_yes
  | (with_reducible apply et_test) <;> walk_at "sx"
  | (with_reducible apply et_B) <;> walk_at "sx"
  | (with_reducible apply et_not) <;> walk_at "sx"
  | (with_reducible apply et_and) <;> walk_at "sx"
  | (with_reducible apply et_or) <;> walk_at "sx"
  -- arguments
  | with_reducible exact ea_nil
  | (with_reducible apply ea_cons) <;> walk_at "sx"
  | with_reducible exact ed_nil
  | (with_reducible apply ed_cons) <;> walk_at "sx"
  | with_reducible exact eo_none
  | (with_reducible apply eo_some) <;> walk_at "sx"
  -- what an operation gives
  | with_reducible exact rv_addI
  | with_reducible exact rv_int0
  | with_reducible exact rv_bl0
  | with_reducible exact rv_eqI
  | with_reducible exact rv_neI
  | with_reducible exact rv_eqS
  | with_reducible exact rv_neS
  | with_reducible exact rv_isN
  | with_reducible exact rv_notN
  | (with_reducible apply rv_intC) <;> walk_at "sx"
  | (with_reducible apply rv_addS) <;> walk_at "sx"
  | (with_reducible apply rv_ixL isl_dat) <;> walk_at "sx"
  | (with_reducible apply rv_ixT ist_dat) <;> walk_at "sx"
  | (with_reducible apply rv_ixL) <;> walk_at "sx"
  | (with_reducible apply rv_ixLV) <;> walk_at "sx"
  | (apply rv_ixT ist_dat) <;> walk_at "sx"
  | (with_reducible apply rv_ixTV istv_vtup) <;> walk_at "sx"
  | (with_reducible apply rv_ixScr) <;> walk_at "sx"
  | (apply rv_ixL isl_dat) <;> walk_at "sx"
  | (with_reducible apply rv_ixL) <;> walk_at "sx"
  | (apply rv_cat) <;> walk_at "sx"
  | (with_reducible apply rv_eqD) <;> walk_at "sx"
  | (with_reducible apply rv_neD) <;> walk_at "sx"
  | with_reducible exact ru_neg
  | with_reducible exact rc_int
  | with_reducible exact rc_abs
  | with_reducible exact rc_max2
  | with_reducible exact rc_min2
  | with_reducible exact rc_lenScr
  | with_reducible exact rc_lenM isl_dat
  | ((with_reducible apply rc_lenM); (with_reducible apply isl_cell) <;> walk_at "sx")
  | with_reducible exact rc_lenMT
  | (with_reducible apply rc_lenL) <;> walk_at "sx"
  | (apply rc_lenT ist_dat)
  | (with_reducible apply rc_tupL) <;> walk_at "sx"
  | (apply rc_tupT)
  | (with_reducible apply rc_lstL) <;> walk_at "sx"
  | (apply rc_lstT ist_dat)
  | with_reducible exact rc_anyM
  | with_reducible exact rc_allM
  | ((with_reducible apply rm_append) <;> walk_at "sx")
  -- lists, tuples, data
  | with_reducible exact isl_dat
  | with_reducible exact isd_dat
  | with_reducible exact isd_scr
  | (with_reducible apply isl_cell) <;> walk_at "sx"
  | (with_reducible apply islv_cell) <;> walk_at "sx"
  | with_reducible exact islv_vlst
  | (with_reducible apply isd_cell) <;> walk_at "sx"
  | (with_reducible apply isd_vtup) <;> walk_at "sx"
  | (with_reducible apply isd_vlst) <;> walk_at "sx"
  | with_reducible exact isds_nil
  | (with_reducible apply isds_cons) <;> walk_at "sx"
  | with_reducible exact fzl_dat
  | with_reducible exact fzl_v
  | with_reducible exact fzt_dat
  | with_reducible exact fzt_v
  | (with_reducible apply ity_l) <;> walk_at "sx"
  | with_reducible exact ity_s
  | (with_reducible apply IsLst.v) <;> walk_at "sx"
  -- places
  | with_reducible exact At.here
  | (with_reducible apply At.there) <;> walk_at "sx"
  | with_reducible exact SetAt.here
  | (with_reducible apply SetAt.there) <;> walk_at "sx"
  | with_reducible exact List.mem_cons_self
  | (with_reducible apply List.mem_cons_of_mem) <;> walk_at "sx"
  | ((with_reducible show (_ : Addr × CD) ∈ _); with_reducible assumption)
  | with_reducible exact Put.here
  | (with_reducible apply Put.there) <;> walk_at "sx"
  | ((with_reducible show Put _ _ _ _ _); with_reducible assumption)
  | ((with_reducible show Sw _ _ _ _); with_reducible assumption)
  | with_reducible exact sw_nil
  | ((with_reducible apply sw_pick); (· walk_at "pk"); walk_at "sx")
  | ((with_reducible apply sw_skip); walk_at "sx")
  | with_reducible exact FGet.here
  | ((with_reducible apply FGet.there); (· decide +kernel); walk_at "sx")
  | with_reducible exact FPut.here
  | with_reducible exact FPut.new
  | ((with_reducible apply FPut.there); (· decide +kernel); walk_at "sx")
  | (with_reducible show ClsF _ _ _); with_reducible assumption
  | (with_reducible show RtQ _ _ _); assumption
  | (with_reducible show (_ : Str) ∈ _); decide +kernel
  | (with_reducible show ¬ (_ : Str) ∈ _); decide +kernel
  -- what is walked, targets
  | (with_reducible apply ei_rng1) <;> walk_at "sx"
  | (with_reducible apply ei_rng2) <;> walk_at "sx"
  | (with_reducible apply ei_enumD) <;> walk_at "sx"
  | (with_reducible apply ei_enum) <;> walk_at "sx"
  | (with_reducible apply ei_zip) <;> walk_at "sx"
  | (with_reducible apply ei_seqLM) <;> walk_at "sx"
  | (with_reducible apply ei_seqTM) <;> walk_at "sx"
  | (with_reducible apply ei_seqL) <;> walk_at "sx"
  | (with_reducible apply ei_seqT) <;> walk_at "sx"
  | (with_reducible apply tg_name) <;> walk_at "sx"
  | (with_reducible apply tg_tup istv_vtup) <;> walk_at "sx"
  | (with_reducible apply td_tup) <;> walk_at "sx"
  | with_reducible exact td_nil
  | (with_reducible apply td_cons) <;> walk_at "sx"
  | with_reducible exact tgs_nil
  | (with_reducible apply tgs_cons) <;> walk_at "sx"
  -- beside
  | walk_at "spec"
  | walk_at "side"
  | walk_at "leave")
/-- a question of another kind is left -/
local macro_rules | `(tactic| walk_at "leave") => `(tactic| first
  | with_reducible show Cont _ _ _ _
  | with_reducible show Shp _ _
  | with_reducible show _ ≤ _
  | with_reducible show _ < _
  | with_reducible show CMul _ _
  | with_reducible show CDiv _ _
  | with_reducible show CPow _ _
  | with_reducible show _ = _
  | with_reducible show Le _ _
  | ((with_reducible show _ = true → _); with_reducible assumption)
  | ((with_reducible show _ = true → _); intro _; walk_at "sx")
  | ((with_reducible show _ = false → _); intro _; walk_at "sx"))
/-- a plain statement -/
local macro_rules | `(tactic| walk_at "st") => `(tactic| first
  | (with_reducible apply c_seq); walk_at "st"
  | (with_reducible apply c_asg) <;> (first | walk_at "sx" | skip)
  | (with_reducible apply c_asgG) <;> (first | walk_at "sx" | skip)
  | (with_reducible apply c_par) <;> (first | walk_at "sx" | skip)
  | (with_reducible apply c_par3) <;> (first | walk_at "sx" | skip)
  | (with_reducible apply c_aug) <;> (first | walk_at "sx" | skip)
  | (with_reducible apply c_augS) <;> (first | walk_at "sx" | skip)
  | (with_reducible apply c_fld) <;> (first | walk_at "sx" | skip)
  | (with_reducible apply c_drop) <;> (first | walk_at "sx" | skip)
  | with_reducible apply c_next
  | with_reducible apply c_break
  | with_reducible apply c_cont)
/-- a value is handed back; a word is met again -/
local macro_rules | `(tactic| walk_at "ret") => `(tactic| (with_reducible apply c_ret) <;> (first | walk_at "sx" | skip))
local macro_rules | `(tactic| walk_at "inv") => `(tactic| (with_reducible apply c_inv) <;> (first | walk_at "side" | skip))
local macro_rules | `(tactic| walk_at "seq") => `(tactic| with_reducible apply c_seq)
local macro_rules | `(tactic| walk_at "cut") => `(tactic| with_reducible apply c_cut)
local macro_rules | `(tactic| walk_at "if") => `(tactic| ((with_reducible apply c_if); (case' h => first | walk_at "sx" | skip)))
local macro_rules | `(tactic| walk_at "fgt") => `(tactic| first
  | exact Fgt.nil
  | (with_reducible apply Fgt.keep; walk_at "fgt")
  | (with_reducible apply Fgt.drop; walk_at "fgt"))

/-! ### more steps: stars, dicts, tuples -/
local macro_rules | `(tactic| walk_at "sx") => `(tactic| first
  | (with_reducible apply ed_starT) <;> walk_at "sx"
  | (with_reducible apply ev_dgetS) <;> walk_at "sx"
  | with_reducible exact isdi_v
  | (with_reducible apply isdi_c) <;> walk_at "sx"
  | (with_reducible apply rv_catTd) <;> walk_at "sx"
  | with_reducible exact ist_dat
  | ((with_reducible show ¬ (_ : Int) < _); with_reducible assumption)
  | ((with_reducible show valG _ _ = _); walk_at "get")
  | ((with_reducible show putG _ _ _ = _); walk_at "get"))

local macro_rules | `(tactic| walk_at "shp") => `(tactic| first | exact shp_oW _ | exact shp_W _)

local macro_rules | `(tactic| walk_at "spec") => `(tactic| first
  | with_reducible exact number_ev
  | (with_reducible apply take_ev) <;> walk_at "sx"
  | (with_reducible apply eput_ev) <;> walk_at "sx"
  | (with_reducible apply eframes_ev) <;> walk_at "sx"
  | (with_reducible apply ehear_ev) <;> walk_at "sx")
/-! ### slow, late -/
def wsS : List (Ws × Ws) := [((true, 1), (false, 1)), ((true, 2), (false, 1)), ((false, 3), (false, 1)), ((false, 1), (false, 1))]
def wsL : List (Ws × Ws) := [((false, 1), (true, 3)), ((false, 1), (true, 3)), ((false, 1), (true, 3))]
def SS : PS := newP 3 1 (set2 (fun _ => []) false [.a])
def SLt : PS := newP 3 0 (set2 (fun _ => []) true [.b])
theorem slow_told : ∀ i, i < 4 → (([0, 0, 1, 1] : List Int).take (i + 1)) = (([0, 0, 1, 1] : List Int).take i) ++ [(((runP SS (wsS.take (i + 1))).e true).told.length : Int)] := by decide +kernel
theorem late_told : ∀ i, i < 3 → (([0, 0, 1] : List Int).take (i + 1)) = (([0, 0, 1] : List Int).take i) ++ [(((runP SLt (wsL.take (i + 1))).e false).told.length : Int)] := by decide +kernel
theorem slow_done : Done44 (runP SS wsS) := done_is.mpr (by decide +kernel)
theorem run_take {S : PS} {ws : List (Ws × Ws)} {i : Nat} {w : Ws × Ws} (h : ws[i]? = some w) : runP S (ws.take (i + 1)) = tickP (runP S (ws.take i)) w := by
  rw [List.take_succ, h, run_app]
  rfl
theorem slow_w : ∀ w ∈ wsS, (1 ≤ w.1.2 ∧ w.1.2 ≤ 3) ∧ w.2 = (false, 1) := by decide +kernel
theorem late_w : ∀ w ∈ wsL, w.1 = (false, 1) ∧ (1 ≤ w.2.2 ∧ w.2.2 ≤ 3) := by decide +kernel
theorem slow_sm (i : Nat) : Sm (runP SS (wsS.take i)) := run_sm (fun w hw => by
  have := slow_w w (List.mem_of_mem_take hw)
  exact ⟨this.1, by rw [this.2]; exact ⟨by decide, by decide⟩⟩) (fun b => by cases b <;> decide) (by rw [List.length_take]; show min i 4 ≤ _; omega)
theorem late_sm (i : Nat) : Sm (runP SLt (wsL.take i)) := run_sm (fun w hw => by
  have := late_w w (List.mem_of_mem_take hw)
  exact ⟨by rw [this.1]; exact ⟨by decide, by decide⟩, this.2⟩) (fun b => by cases b <;> decide) (by rw [List.length_take]; show min i 3 ≤ _; omega)
theorem run_D (S : PS) : ∀ ws : List (Ws × Ws), (runP S ws).D = S.D ∧ (runP S ws).L = S.L
  | [] => ⟨rfl, rfl⟩
  | w :: ws => by
    obtain ⟨_, _, _, _, _, _, _, _, _, _, h1, h2⟩ := tick_parts S w
    have := run_D (tickP S w) ws
    exact ⟨this.1.trans h1, this.2.trans h2⟩
theorem new_sm {D L : Nat} {o : Bool → List Wd} (ho : ∀ b, (o b).length ≤ 1000) : Sm (newP D L o) := run_sm (D := D) (L := L) (ws := []) (fun _ h => nomatch h) ho (by decide)
abbrev seenC (xs : List Int) : CD := cLd (xs.map PyData.int)
theorem law_slow_body {K : PySem.W.Frag} {mg : Str → Option Value} (T : Tx K mg) : ∀ Q ds M P Φ, ds.length = 0 → S_law_slow K T ds M P → RtQ Q Φ P → Cont (rd_law_slow_0 K T (fnD Q)) Φ (entry ["_law_pace", "_law_seen", "_law_wish"] ds) M := by
  rintro Q ds M P Φ - ⟨rfl, hP⟩ hQ
  have hC := T.F_Pace
  have hE := T.F_End
  have hQ := hQ.up
  show Cont _ _ [none, none, none] _
  walk_at "seq"
  refine c_asgR (new_er (D := 3) (L := 1) (ea_cons ev_int (ea_cons ev_int ea_nil)) (by decide) (by decide) (by decide)) ?_
  rintro y M1 ⟨a, la, rfl, rfl⟩
  apply asgR_k <;> (first | walk_at "sx" | skip)
  show Cont (rd_law_slow_1 K T (fnD Q)) Φ [some (val (.ref a.p)), none, none] (PC T.C_Pace T.C_End a la (newP 3 1 fun _ => []) ++ M)
  walk_at "seq"
  refine c_dropR (er_meth (ds := [dat (.int 0), dat (.str "a")]) (M1 := PC T.C_Pace T.C_End a la (newP 3 1 fun _ => []) ++ M) (M2 := PC T.C_Pace T.C_End a la (newP 3 1 fun _ => []) ++ M) (ev_var .here) (List.mem_append_left _ List.mem_cons_self) (by decide +kernel) (ea_cons ev_int (ea_cons ev_str ea_nil)) rfl (pput_ev (b := false) (w := .a) (new_sm fun b => by decide) (.refl _))) ?_
  rintro y M1 ⟨rfl, rfl⟩
  rw [put_new]
  show Cont (rd_law_slow_2 K T (fnD Q)) Φ [some (val (.ref a.p)), none, none] (PC T.C_Pace T.C_End a la SS ++ M)
  walk_at "seq"
  refine c_asgR (er_lstCd ed_nil (by decide)) ?_
  rintro y M1 ⟨sp, rfl, rfl⟩
  apply asgR_k <;> (first | walk_at "sx" | skip)
  show Cont (rd_law_slow_3 K T (fnD Q)) Φ [some (val (.ref a.p)), some (val (.ref sp)), none] ((sp, seenC (([0, 0, 1, 1] : List Int).take 0)) :: (PC T.C_Pace T.C_End a la (runP SS (wsS.take 0)) ++ M))
  walk_at "cut"
  with_reducible apply c_for (its := (wsS.map fun w => encWs w.1).map dat) (M1 := (sp, seenC (([0, 0, 1, 1] : List Int).take 0)) :: (PC T.C_Pace T.C_End a la (runP SS (wsS.take 0)) ++ M)) (I := fun i ρ' M' => ∃ la x2, ρ' = [some (val (.ref a.p)), some (val (.ref sp)), x2] ∧ M' = (sp, seenC (([0, 0, 1, 1] : List Int).take i)) :: (PC T.C_Pace T.C_End a la (runP SS (wsS.take i)) ++ M))
  case h =>
    refine ei_seqT (x := dat (.tuple (wsS.map fun w => encWs w.1))) ?_ fzt_dat
    show Ev _ _ _ (dat (.tuple [.tuple [.bool true, .int 1], .tuple [.bool true, .int 2], .tuple [.bool false, .int 3], .tuple [.bool false, .int 1]])) _
    walk_at "sx"
  case h0 => exact ⟨_, _, rfl, rfl⟩
  case hs =>
    rintro Ψ hΨ i d ρ' M' hi ⟨la, x2, rfl, rfl⟩
    rw [List.map_map, List.getElem?_map] at hi
    cases hw : wsS[i]? with
    | none => rw [hw] at hi; cases hi
    | some w =>
      rw [hw] at hi
      cases hi
      have hi4 : i < 4 := (List.getElem?_eq_some_iff.mp hw).1
      have h1 := slow_w w (List.mem_of_getElem? hw)
      have hD : (runP SS (wsS.take i)).D = 3 := (run_D SS _).1
      apply for_k <;> (first | walk_at "sx" | skip)
      show Cont (rd_law_slow_4 K T _) Ψ [some (val (.ref a.p)), some (val (.ref sp)), some (dat (encWs w.1))] _
      walk_at "seq"
      refine c_dropR (tick_er (a := a) (la := la) (S := runP SS (wsS.take i)) (w0 := w.1) (w1 := w.2) (M0 := (sp, seenC (([0, 0, 1, 1] : List Int).take i)) :: M) .here ?_ (slow_sm i) List.perm_middle.symm (okb (by rw [hD]; exact h1.1)) (okb (by rw [hD, h1.2]; exact ⟨by decide, by decide⟩))) ?_
      · rw [h1.2]
        show EvA _ _ _ [dat (.list [encWs w.1, .tuple [.bool false, .int 1]])] _
        walk_at "sx"
      rintro y N ⟨la', rfl⟩
      refine c_perm List.perm_middle ?_
      show Cont (rd_law_slow_5 K T _) Ψ _ ((sp, seenC (([0, 0, 1, 1] : List Int).take i)) :: (PC T.C_Pace T.C_End a la' (tickP (runP SS (wsS.take i)) w) ++ M))
      rw [← run_take hw]
      have ht := slow_told i hi4
      have hle : (([0, 0, 1, 1] : List Int).take i).length ≤ 4 := by rw [List.length_take]; show min i 4 ≤ 4; omega
      generalize runP SS (wsS.take (i + 1)) = S' at *
      show Cont (rd_law_slow_5 K T _) Ψ _ ((sp, cLd ((([0, 0, 1, 1] : List Int).take i).map PyData.int)) :: (a.p, paceI T.C_Pace a la' S') :: (a.lo, lostC S') :: (la', letC S') :: (a.p0, endI T.C_End a.a0 a.b0 (S'.e false)) :: (a.a0, tl (S'.e false).out) :: (a.b0, tl (S'.e false).told) :: (a.p1, endI T.C_End a.a1 a.b1 (S'.e true)) :: (a.a1, tl (S'.e true).out) :: (a.b1, tl (S'.e true).told) :: M)
      walk_at "st"
      refine c_inv ⟨la', _, rfl, ?_⟩ (Le.refl _)
      rw [ht]
      show _ = (sp, cLd ((_ ++ [_]).map PyData.int)) :: _
      rw [List.map_append]
      rfl
  case hd =>
    rintro ρ' M' ⟨la, x2, rfl, rfl⟩
    show Cont (rd_law_slow_6 K T (fnD Q)) Φ [some (val (.ref a.p)), some (val (.ref sp)), x2] ((sp, cLd [.int 0, .int 0, .int 1, .int 1]) :: (PC T.C_Pace T.C_End a la (runP SS wsS) ++ M))
    refine c_ret (D := fnD Q) (x := dat (.bool (true && (true && true)))) (M1 := (sp, cLd [.int 0, .int 0, .int 1, .int 1]) :: (PC T.C_Pace T.C_End a la (runP SS wsS) ++ M)) (ev_andV (a := true) ?_ fun _ => ev_andV (a := true) ?_ fun _ => ?_) hQ (up_drop (.cons _ (List.sublist_append_right _ _)) hP) (Le.refl _)
    · have e : PyData.eqv (.list [.int 0, .int 0, .int 1, .int 1]) (.list [.int 0, .int 0, .int 1, .int 1]) = true := by decide +kernel
      rw [← e]
      walk_at "sx"
    · have hD := run_D SS wsS
      generalize runP SS wsS = S' at *
      have e : PyData.eqv (.tuple [.int (S'.D : Int), .int (S'.L : Int)]) (.tuple [.int 3, .int 1]) = true := by
        rw [hD.1, hD.2]
        decide +kernel
      rw [← e]
      show Ev _ _ ((sp, cLd [.int 0, .int 0, .int 1, .int 1]) :: (a.p, paceI T.C_Pace a la S') :: (a.lo, lostC S') :: (la, letC S') :: (a.p0, endI T.C_End a.a0 a.b0 (S'.e false)) :: (a.a0, tl (S'.e false).out) :: (a.b0, tl (S'.e false).told) :: (a.p1, endI T.C_End a.a1 a.b1 (S'.e true)) :: (a.a1, tl (S'.e true).out) :: (a.b1, tl (S'.e true).told) :: M) _ ((sp, cLd [.int 0, .int 0, .int 1, .int 1]) :: (a.p, paceI T.C_Pace a la S') :: (a.lo, lostC S') :: (la, letC S') :: (a.p0, endI T.C_End a.a0 a.b0 (S'.e false)) :: (a.a0, tl (S'.e false).out) :: (a.b0, tl (S'.e false).told) :: (a.p1, endI T.C_End a.a1 a.b1 (S'.e true)) :: (a.a1, tl (S'.e true).out) :: (a.b1, tl (S'.e true).told) :: M)
      walk_at "sx"
    · refine ev_meth (ds := []) (M1 := (sp, cLd [.int 0, .int 0, .int 1, .int 1]) :: (PC T.C_Pace T.C_End a la (runP SS wsS) ++ M)) (M2 := (sp, cLd [.int 0, .int 0, .int 1, .int 1]) :: (PC T.C_Pace T.C_End a la (runP SS wsS) ++ M)) (ev_var .here) (List.mem_cons_of_mem _ (List.mem_append_left _ List.mem_cons_self)) (by decide +kernel) ea_nil rfl ⟨a, la, runP SS wsS, _, rfl, slow_sm 4, List.perm_middle.symm, fun b hb => ?_⟩
      obtain rfl : b = true := hb.mpr slow_done
      exact ⟨rfl, rfl⟩
theorem law_late_body {K : PySem.W.Frag} {mg : Str → Option Value} (T : Tx K mg) : ∀ Q ds M P Φ, ds.length = 0 → S_law_late K T ds M P → RtQ Q Φ P → Cont (rd_law_late_0 K T (fnD Q)) Φ (entry ["_law_pace", "_law_seen", "_law_wish"] ds) M := by
  rintro Q ds M P Φ - ⟨rfl, hP⟩ hQ
  have hC := T.F_Pace
  have hE := T.F_End
  have hQ := hQ.up
  show Cont _ _ [none, none, none] _
  walk_at "seq"
  refine c_parR (P := fun ds N => ∃ a la sp, ds = [val (.ref a.p), val (.ref sp)] ∧ N = (sp, cLd []) :: (PC T.C_Pace T.C_End a la (newP 3 0 fun _ => []) ++ M)) ?_ ?_
  · refine ear_cons (new_er (D := 3) (L := 0) (ea_cons ev_int (ea_cons ev_int ea_nil)) (by decide) (by decide) (by decide)) ?_
    rintro x M1 ⟨a, la, rfl, rfl⟩
    refine ear_cons (er_lstCd ed_nil (by decide)) ?_
    rintro x M1 ⟨sp, rfl, rfl⟩
    exact ear_nil ⟨a, la, sp, rfl, rfl⟩
  rintro xs M1 ⟨a, la, sp, rfl, rfl⟩
  refine ⟨_, _, _, _, rfl, .here, .there .here, ?_⟩
  show Cont (rd_law_late_1 K T (fnD Q)) Φ [some (val (.ref a.p)), some (val (.ref sp)), none] _
  walk_at "seq"
  refine c_dropR (er_meth (ds := [dat (.int 1), dat (.str "b")]) (M1 := (sp, cLd []) :: (PC T.C_Pace T.C_End a la (newP 3 0 fun _ => []) ++ M)) (M2 := (sp, cLd []) :: (PC T.C_Pace T.C_End a la (newP 3 0 fun _ => []) ++ M)) (ev_var .here) (List.mem_cons_of_mem _ (List.mem_append_left _ List.mem_cons_self)) (by decide +kernel) (ea_cons ev_int (ea_cons ev_str ea_nil)) rfl (pput_ev (b := true) (w := .b) (new_sm fun b => by decide) List.perm_middle.symm)) ?_
  rintro y M1 ⟨rfl, rfl⟩
  rw [put_new]
  refine c_perm List.perm_middle ?_
  show Cont (rd_law_late_2 K T (fnD Q)) Φ [some (val (.ref a.p)), some (val (.ref sp)), none] ((sp, seenC (([0, 0, 1] : List Int).take 0)) :: (PC T.C_Pace T.C_End a la (runP SLt (wsL.take 0)) ++ M))
  walk_at "cut"
  with_reducible apply c_for (its := (wsL.map fun w => encWs w.2).map dat) (M1 := (sp, seenC (([0, 0, 1] : List Int).take 0)) :: (PC T.C_Pace T.C_End a la (runP SLt (wsL.take 0)) ++ M)) (I := fun i ρ' M' => ∃ la x2, ρ' = [some (val (.ref a.p)), some (val (.ref sp)), x2] ∧ M' = (sp, seenC (([0, 0, 1] : List Int).take i)) :: (PC T.C_Pace T.C_End a la (runP SLt (wsL.take i)) ++ M))
  case h =>
    refine ei_seqT (x := dat (.tuple (wsL.map fun w => encWs w.2))) ?_ fzt_dat
    show Ev _ _ _ (dat (.tuple [.tuple [.bool true, .int 3], .tuple [.bool true, .int 3], .tuple [.bool true, .int 3]])) _
    walk_at "sx"
  case h0 => exact ⟨_, _, rfl, rfl⟩
  case hs =>
    rintro Ψ hΨ i d ρ' M' hi ⟨la, x2, rfl, rfl⟩
    rw [List.map_map, List.getElem?_map] at hi
    cases hw : wsL[i]? with
    | none => rw [hw] at hi; cases hi
    | some w =>
      rw [hw] at hi
      cases hi
      have hi4 : i < 3 := (List.getElem?_eq_some_iff.mp hw).1
      have h1 := late_w w (List.mem_of_getElem? hw)
      have hD : (runP SLt (wsL.take i)).D = 3 := (run_D SLt _).1
      apply for_k <;> (first | walk_at "sx" | skip)
      show Cont (rd_law_late_3 K T _) Ψ [some (val (.ref a.p)), some (val (.ref sp)), some (dat (encWs w.2))] _
      walk_at "seq"
      refine c_dropR (tick_er (a := a) (la := la) (S := runP SLt (wsL.take i)) (w0 := w.1) (w1 := w.2) (M0 := (sp, seenC (([0, 0, 1] : List Int).take i)) :: M) .here ?_ (late_sm i) List.perm_middle.symm (okb (by rw [hD, h1.1]; exact ⟨by decide, by decide⟩)) (okb (by rw [hD]; exact h1.2))) ?_
      · rw [h1.1]
        show EvA _ _ _ [dat (.list [.tuple [.bool false, .int 1], encWs w.2])] _
        walk_at "sx"
      rintro y N ⟨la', rfl⟩
      refine c_perm List.perm_middle ?_
      show Cont (rd_law_late_4 K T _) Ψ _ ((sp, seenC (([0, 0, 1] : List Int).take i)) :: (PC T.C_Pace T.C_End a la' (tickP (runP SLt (wsL.take i)) w) ++ M))
      rw [← run_take hw]
      have ht := late_told i hi4
      have hle : (([0, 0, 1] : List Int).take i).length ≤ 3 := by rw [List.length_take]; show min i 3 ≤ 3; omega
      generalize runP SLt (wsL.take (i + 1)) = S' at *
      show Cont (rd_law_late_4 K T _) Ψ _ ((sp, cLd ((([0, 0, 1] : List Int).take i).map PyData.int)) :: (a.p, paceI T.C_Pace a la' S') :: (a.lo, lostC S') :: (la', letC S') :: (a.p0, endI T.C_End a.a0 a.b0 (S'.e false)) :: (a.a0, tl (S'.e false).out) :: (a.b0, tl (S'.e false).told) :: (a.p1, endI T.C_End a.a1 a.b1 (S'.e true)) :: (a.a1, tl (S'.e true).out) :: (a.b1, tl (S'.e true).told) :: M)
      walk_at "st"
      refine c_inv ⟨la', _, rfl, ?_⟩ (Le.refl _)
      rw [ht]
      show _ = (sp, cLd ((_ ++ [_]).map PyData.int)) :: _
      rw [List.map_append]
      rfl
  case hd =>
    rintro ρ' M' ⟨la, x2, rfl, rfl⟩
    show Cont (rd_law_late_5 K T (fnD Q)) Φ [some (val (.ref a.p)), some (val (.ref sp)), x2] ((sp, cLd [.int 0, .int 0, .int 1]) :: (PC T.C_Pace T.C_End a la (runP SLt wsL) ++ M))
    refine c_ret (D := fnD Q) (x := dat (.bool true)) (M1 := (sp, cLd [.int 0, .int 0, .int 1]) :: (PC T.C_Pace T.C_End a la (runP SLt wsL) ++ M)) ?_ hQ (up_drop (.cons _ (List.sublist_append_right _ _)) hP) (Le.refl _)
    have e : PyData.eqv (.list [.int 0, .int 0, .int 1]) (.list [.int 0, .int 0, .int 1]) = true := by decide +kernel
    rw [← e]
    walk_at "sx"

end Lw


set_option Elab.async false
set_option linter.all false
set_option maxRecDepth 100000
set_option maxHeartbeats 4000000
namespace Lw
open PySem L2 Sx
/-! ### steps -/
local macro_rules | `(tactic| walk_at "shp") => `(tactic| first
  | exact shp_int
  | exact shp_none
  | exact shp_bool
  | exact shp_oi _
  | (apply shp_str; first | decide +kernel | assumption)
  | (apply shp_list; walk_at "shpA")
  | (apply shp_tuple; walk_at "shpA")
  | assumption)
local macro_rules | `(tactic| walk_at "shpA") => `(tactic| first
  | exact shpA_nil
  | (apply shpA_cons; (· walk_at "shp"); walk_at "shpA")
  | (apply shpA_map; intro _ _; walk_at "shp"))
/-- what is left beside: closed, or left -/
local macro_rules | `(tactic| walk_at "side") => `(tactic| first
  | (with_reducible show Shp _ _); walk_at "shp"
  | (with_reducible show _ ≤ sizeLine); first | decide | (show _ ≤ 16777216; omega) | (show _ ≤ 16777216; simp only [List.length_map, List.length_append, List.length_cons, List.length_nil]; omega)
  | (with_reducible show _ < sizeLine); first | decide | (show _ < 16777216; omega) | (show _ < 16777216; simp only [List.length_map, List.length_append, List.length_cons, List.length_nil]; omega)
  | (with_reducible show CMul _ _); first | exact Or.inr ⟨by decide, by decide⟩ | exact Or.inl ⟨by decide, by decide⟩ | exact Or.inl ⟨by omega, by omega⟩ | exact Or.inr ⟨by omega, by omega⟩
  | (with_reducible show CPow _ _); exact ⟨by decide, by decide, by decide⟩
  | (with_reducible show CDiv _ _); first | exact ⟨by decide, by decide⟩ | exact ⟨by omega, by omega⟩
  | (with_reducible show Le _ _); first | with_reducible exact Le.refl _ | with_reducible assumption
  | (with_reducible show L2.atI _ _ = _); first | with_reducible assumption | exact rfl | exact atI_nat rfl
  | (with_reducible show _ < _); first | with_reducible assumption | decide | omega
  | (with_reducible show _ ≤ _); first | with_reducible assumption | decide | omega
  | (with_reducible show _ ∧ _); omega
  | (with_reducible show ∀ i, i ∈ _ → i ∈ _); decide
  | (with_reducible show (_ : Nat) = _); first | exact rfl | omega)
local macro_rules | `(tactic| walk_at "rm") => `(tactic| first
  | exact Rm.here
  | (apply Rm.there; walk_at "rm"))
local macro_rules | `(tactic| walk_at "perm") => `(tactic| first
  | with_reducible exact List.Perm.refl _
  | (apply perm_step; (· walk_at "rm"); walk_at "perm")
  | exact List.Perm.refl _)
local macro_rules | `(tactic| walk_at "pk") => `(tactic| first
  | with_reducible exact Pk.here
  | ((with_reducible apply Pk.there); walk_at "pk"))
/-- a part of a reading: what it gives. One word for all kinds -/
local macro_rules | `(tactic| walk_at "sx") => `(tactic| first
  -- an expression
  | with_reducible exact ev_int
  | with_reducible exact ev_bl
  | with_reducible exact ev_str
  | with_reducible exact ev_non
  | (with_reducible apply ev_var) <;> walk_at "sx"
  | (with_reducible apply ev_op) <;> walk_at "sx"
  | (with_reducible apply ev_fld) <;> walk_at "sx"
  | (with_reducible apply ev_cb) <;> walk_at "sx"
  | (with_reducible apply ev_tupD) <;> walk_at "sx"
  | (with_reducible apply ev_lstD) <;> walk_at "sx"
  | (with_reducible apply ev_tupV) <;> walk_at "sx"
  | (with_reducible apply ev_lstV) <;> walk_at "sx"
  | (with_reducible apply ev_slL) <;> walk_at "sx"
  | (with_reducible apply ev_slT1) <;> walk_at "sx"
  | (with_reducible apply ev_slT) <;> walk_at "sx"
  | (with_reducible apply ev_un) <;> walk_at "sx"
  | (with_reducible apply ev_chain) <;> walk_at "sx"
  | (with_reducible apply ev_andV) <;> walk_at "sx"
  | (with_reducible apply ev_orV) <;> walk_at "sx"
  | (with_reducible apply ev_notV) <;> walk_at "sx"
  | (with_reducible apply ev_lcY) <;> walk_at "sx"
  | (with_reducible apply ev_lc) <;> walk_at "sx"
  | ((with_reducible show ∀ a, a ∈ _ → ∃ ρ'' js, _); intro a ha; dsimp only [wipeE, List.set]; (first | with_reducible apply lcY_k | with_reducible apply lcF_k) <;> walk_at "sx")
  | (with_reducible apply ev_call) <;> walk_at "sx"
  | (with_reducible apply ev_meth) <;> walk_at "sx"
  | (with_reducible apply ev_bm) <;> walk_at "sx"
  | (with_reducible show Ev _ _ _ _ _); walk_at "own"
  -- a test
  | with_reducible exact et_yes
  | (with_reducible apply et_test) <;> walk_at "sx"
  | (with_reducible apply et_B) <;> walk_at "sx"
  | (with_reducible apply et_not) <;> walk_at "sx"
  | (with_reducible apply et_and) <;> walk_at "sx"
  | (with_reducible apply et_or) <;> walk_at "sx"
  -- arguments
  | with_reducible exact ea_nil
  | (with_reducible apply ea_cons) <;> walk_at "sx"
  | with_reducible exact ed_nil
  | (with_reducible apply ed_cons) <;> walk_at "sx"
  | with_reducible exact eo_none
  | (with_reducible apply eo_some) <;> walk_at "sx"
  -- what an operation gives
  | with_reducible exact rv_addI
  | with_reducible exact rv_int0
  | with_reducible exact rv_bl0
  | with_reducible exact rv_eqI
  | with_reducible exact rv_neI
  | with_reducible exact rv_eqS
  | with_reducible exact rv_neS
  | with_reducible exact rv_isN
  | with_reducible exact rv_notN
  | (with_reducible apply rv_intC) <;> walk_at "sx"
  | (with_reducible apply rv_addS) <;> walk_at "sx"
  | (with_reducible apply rv_ixL isl_dat) <;> walk_at "sx"
  | (with_reducible apply rv_ixT ist_dat) <;> walk_at "sx"
  | (with_reducible apply rv_ixL) <;> walk_at "sx"
  | (with_reducible apply rv_ixLV) <;> walk_at "sx"
  | (apply rv_ixT ist_dat) <;> walk_at "sx"
  | (with_reducible apply rv_ixTV istv_vtup) <;> walk_at "sx"
  | (with_reducible apply rv_ixScr) <;> walk_at "sx"
  | (apply rv_ixL isl_dat) <;> walk_at "sx"
  | (with_reducible apply rv_ixL) <;> walk_at "sx"
  | (apply rv_cat) <;> walk_at "sx"
  | (with_reducible apply rv_eqD) <;> walk_at "sx"
  | (with_reducible apply rv_neD) <;> walk_at "sx"
  | with_reducible exact ru_neg
  | with_reducible exact rc_int
  | with_reducible exact rc_abs
  | with_reducible exact rc_max2
  | with_reducible exact rc_min2
  | with_reducible exact rc_lenScr
  | with_reducible exact rc_lenM isl_dat
  | ((with_reducible apply rc_lenM); (with_reducible apply isl_cell) <;> walk_at "sx")
  | with_reducible exact rc_lenMT
  | (with_reducible apply rc_lenL) <;> walk_at "sx"
  | (apply rc_lenT ist_dat)
  | (with_reducible apply rc_tupL) <;> walk_at "sx"
  | (apply rc_tupT)
  | (with_reducible apply rc_lstL) <;> walk_at "sx"
  | (apply rc_lstT ist_dat)
  | with_reducible exact rc_anyM
  | with_reducible exact rc_allM
  | ((with_reducible apply rm_append) <;> walk_at "sx")
  -- lists, tuples, data
  | with_reducible exact isl_dat
  | with_reducible exact isd_dat
  | with_reducible exact isd_scr
  | (with_reducible apply isl_cell) <;> walk_at "sx"
  | (with_reducible apply islv_cell) <;> walk_at "sx"
  | with_reducible exact islv_vlst
  | (with_reducible apply isd_cell) <;> walk_at "sx"
  | (with_reducible apply isd_vtup) <;> walk_at "sx"
  | (with_reducible apply isd_vlst) <;> walk_at "sx"
  | with_reducible exact isds_nil
  | (with_reducible apply isds_cons) <;> walk_at "sx"
  | with_reducible exact fzl_dat
  | with_reducible exact fzl_v
  | with_reducible exact fzt_dat
  | with_reducible exact fzt_v
  | (with_reducible apply ity_l) <;> walk_at "sx"
  | with_reducible exact ity_s
  | (with_reducible apply IsLst.v) <;> walk_at "sx"
  -- places
  | with_reducible exact At.here
  | (with_reducible apply At.there) <;> walk_at "sx"
  | with_reducible exact SetAt.here
  | (with_reducible apply SetAt.there) <;> walk_at "sx"
  | with_reducible exact List.mem_cons_self
  | (with_reducible apply List.mem_cons_of_mem) <;> walk_at "sx"
  | ((with_reducible show (_ : Addr × CD) ∈ _); with_reducible assumption)
  | with_reducible exact Put.here
  | (with_reducible apply Put.there) <;> walk_at "sx"
  | ((with_reducible show Put _ _ _ _ _); with_reducible assumption)
  | ((with_reducible show Sw _ _ _ _); with_reducible assumption)
  | with_reducible exact sw_nil
  | ((with_reducible apply sw_pick); (· walk_at "pk"); walk_at "sx")
  | ((with_reducible apply sw_skip); walk_at "sx")
  | with_reducible exact FGet.here
  | ((with_reducible apply FGet.there); (· decide +kernel); walk_at "sx")
  | with_reducible exact FPut.here
  | with_reducible exact FPut.new
  | ((with_reducible apply FPut.there); (· decide +kernel); walk_at "sx")
  | (with_reducible show ClsF _ _ _); with_reducible assumption
  | (with_reducible show RtQ _ _ _); assumption
  | (with_reducible show (_ : Str) ∈ _); decide +kernel
  | (with_reducible show ¬ (_ : Str) ∈ _); decide +kernel
  -- what is walked, targets
  | (with_reducible apply ei_rng1) <;> walk_at "sx"
  | (with_reducible apply ei_rng2) <;> walk_at "sx"
  | (with_reducible apply ei_enumD) <;> walk_at "sx"
  | (with_reducible apply ei_enum) <;> walk_at "sx"
  | (with_reducible apply ei_zip) <;> walk_at "sx"
  | (with_reducible apply ei_seqLM) <;> walk_at "sx"
  | (with_reducible apply ei_seqTM) <;> walk_at "sx"
  | (with_reducible apply ei_seqL) <;> walk_at "sx"
  | (with_reducible apply ei_seqT) <;> walk_at "sx"
  | (with_reducible apply tg_name) <;> walk_at "sx"
  | (with_reducible apply tg_tup istv_vtup) <;> walk_at "sx"
  | (with_reducible apply td_tup) <;> walk_at "sx"
  | with_reducible exact td_nil
  | (with_reducible apply td_cons) <;> walk_at "sx"
  | with_reducible exact tgs_nil
  | (with_reducible apply tgs_cons) <;> walk_at "sx"
  -- beside
  | walk_at "spec"
  | walk_at "side"
  | walk_at "leave")
/-- a question of another kind is left -/
local macro_rules | `(tactic| walk_at "leave") => `(tactic| first
  | with_reducible show Cont _ _ _ _
  | with_reducible show Shp _ _
  | with_reducible show _ ≤ _
  | with_reducible show _ < _
  | with_reducible show CMul _ _
  | with_reducible show CDiv _ _
  | with_reducible show CPow _ _
  | with_reducible show _ = _
  | with_reducible show Le _ _
  | ((with_reducible show _ = true → _); with_reducible assumption)
  | ((with_reducible show _ = true → _); intro _; walk_at "sx")
  | ((with_reducible show _ = false → _); intro _; walk_at "sx"))
/-- a plain statement -/
local macro_rules | `(tactic| walk_at "st") => `(tactic| first
  | (with_reducible apply c_seq); walk_at "st"
  | (with_reducible apply c_asg) <;> (first | walk_at "sx" | skip)
  | (with_reducible apply c_asgG) <;> (first | walk_at "sx" | skip)
  | (with_reducible apply c_par) <;> (first | walk_at "sx" | skip)
  | (with_reducible apply c_par3) <;> (first | walk_at "sx" | skip)
  | (with_reducible apply c_aug) <;> (first | walk_at "sx" | skip)
  | (with_reducible apply c_augS) <;> (first | walk_at "sx" | skip)
  | (with_reducible apply c_fld) <;> (first | walk_at "sx" | skip)
  | (with_reducible apply c_drop) <;> (first | walk_at "sx" | skip)
  | with_reducible apply c_next
  | with_reducible apply c_break
  | with_reducible apply c_cont)
/-- a value is handed back; a word is met again -/
local macro_rules | `(tactic| walk_at "ret") => `(tactic| (with_reducible apply c_ret) <;> (first | walk_at "sx" | skip))
local macro_rules | `(tactic| walk_at "inv") => `(tactic| (with_reducible apply c_inv) <;> (first | walk_at "side" | skip))
local macro_rules | `(tactic| walk_at "seq") => `(tactic| with_reducible apply c_seq)
local macro_rules | `(tactic| walk_at "cut") => `(tactic| with_reducible apply c_cut)
local macro_rules | `(tactic| walk_at "if") => `(tactic| ((with_reducible apply c_if); (case' h => first | walk_at "sx" | skip)))
local macro_rules | `(tactic| walk_at "fgt") => `(tactic| first
  | exact Fgt.nil
  | (with_reducible apply Fgt.keep; walk_at "fgt")
  | (with_reducible apply Fgt.drop; walk_at "fgt"))

/-! ### more steps: stars, dicts, tuples -/
local macro_rules | `(tactic| walk_at "sx") => `(tactic| first
  | (with_reducible apply ed_starT) <;> walk_at "sx"
  | (with_reducible apply ev_dgetS) <;> walk_at "sx"
  | with_reducible exact isdi_v
  | (with_reducible apply isdi_c) <;> walk_at "sx"
  | (with_reducible apply rv_catTd) <;> walk_at "sx"
  | with_reducible exact ist_dat
  | ((with_reducible show ¬ (_ : Int) < _); with_reducible assumption)
  | ((with_reducible show valG _ _ = _); walk_at "get")
  | ((with_reducible show putG _ _ _ = _); walk_at "get"))

local macro_rules | `(tactic| walk_at "shp") => `(tactic| first | exact shp_oW _ | exact shp_W _)

local macro_rules | `(tactic| walk_at "spec") => `(tactic| first
  | with_reducible exact number_ev
  | (with_reducible apply take_ev) <;> walk_at "sx"
  | (with_reducible apply eput_ev) <;> walk_at "sx"
  | (with_reducible apply eframes_ev) <;> walk_at "sx"
  | (with_reducible apply ehear_ev) <;> walk_at "sx")
theorem ev_orF {ρ : Sx.Env} {M M1 M2 : Cells} {ta tb : TE} {b : Bool} (h1 : Ev ta ρ M (dat (.bool false)) M1) (h2 : Ev tb ρ M1 (dat (.bool b)) M2) : Ev (tOrV ta tb) ρ M (dat (.bool b)) M2 := fun Φ σ H Q s q => h1 Φ σ H _ s fun v H1 s1 => by
  have ⟨F, s2⟩ := s1
  cases s2.fr.2
  refine ⟨false, rfl, ?_⟩
  rw [if_neg Bool.false_ne_true]
  exact h2 Φ σ H1 Q s1.weak1 q
theorem refused_ev {K : PySem.W.Frag} {mg : Str → Option Value} {T : Tx K mg} {d l e : PyData} {M : Cells} (hd : IS d) (hl : IS l) (h : refD d l = e) : S_law_refused K T [dat d, dat l] M (Det (dat e) M) := by
  subst h
  exact ⟨d, l, rfl, hd, hl, rfl, rfl⟩
/-! ### the law -/
def wl (n : Nat) : List Wd := (List.range n).map fun j : Nat => Wd.i (j : Int)
theorem wl_succ (n : Nat) : wl (n + 1) = wl n ++ [.i (n : Int)] := by
  unfold wl
  rw [List.range_succ, List.map_append]
  rfl
theorem set2_set2 {α : Type} (f : Bool → α) (b : Bool) (x y : α) : set2 (set2 f b x) b y = set2 f b y := by
  funext c
  unfold set2
  split <;> rfl
abbrev E44 (K : PySem.W.Frag) (s : List Int) (pd : Addr) (D L : Nat) (a : Pl) (n0 n1 : Nat) (x6 x7 x8 x9 x10 x11 x12 : Option VD) : Sx.Env := [some (vscr K s), some (val (.ref pd)), some (dat (.int (D : Int))), some (dat (.int (L : Int))), some (val (.ref a.p)), some (dat (.tuple [.int (n0 : Int), .int (n1 : Int)])), x6, x7, x8, x9, x10, x11, x12, none]
theorem range_at {n i : Nat} {d : VD} (h : (irange 0 n)[i]? = some d) : d = dat (.int (i : Int)) := by
  unfold irange at h
  rw [List.getElem?_map] at h
  cases q : (List.range n)[i]? with
  | none => rw [q] at h; cases h
  | some c =>
    rw [q] at h
    obtain ⟨e1, e2⟩ := List.getElem?_eq_some_iff.mp q
    rw [List.getElem_range] at e2
    subst e2
    rw [← Option.some.inj h]
    show dat (.int (0 + (i : Int))) = _
    rw [Int.zero_add]
theorem zero_one {i : Nat} {d : VD} (h : ([PyData.int 0, .int 1].map dat)[i]? = some d) : ∃ b : Bool, i = (if b then 1 else 0) ∧ d = dat (.int (gI b)) := by
  match i, h with
  | 0, h => exact ⟨false, rfl, (Option.some.inj h).symm⟩
  | 1, h => exact ⟨true, rfl, (Option.some.inj h).symm⟩
  | n + 2, h => simp at h
section
variable {K : PySem.W.Frag} {mg : Str → Option Value} {T : Tx K mg} {s : List Int} {pd wa : Addr} {dl L n0 n1 : Nat} {a : Pl} {la : Addr} {S : PS} {Φ Ψ : Fr} {D : Ends} {j : Int} {x6 x7 x8 x9 x10 x11 x12 : Option VD} {P : VD → Cells → Prop} {Q : VK}
/-- one end's words -/
theorem words_one {b : Bool} {o : Bool → List Wd} {J : Sx.Env → Cells → Prop} (hn0 : n0 ≤ 10) (hn1 : n1 ≤ 10) (ho : ∀ c, (o c).length ≤ 100) (hb : o b = []) (hD : D.nx = InvK Ψ J)
    (hJ : ∀ x7, J (E44 K s pd dl L a n0 n1 (some (dat (.int (gI b)))) x7 none none none none none) ((pd, cDraw K s j) :: PC T.C_Pace T.C_End a la (newP dl L (set2 o b (wl (if b then n1 else n0)))))) (x7 : Option VD) :
    Cont (rd_law_4 K T D) Ψ (E44 K s pd dl L a n0 n1 (some (dat (.int (gI b)))) x7 none none none none none) ((pd, cDraw K s j) :: PC T.C_Pace T.C_End a la (newP dl L o)) := by
  have hC := T.F_Pace
  have hnb : (if b then n1 else n0) ≤ 10 := by split <;> assumption
  generalize hn : (if b then n1 else n0) = n at *
  with_reducible apply c_for (its := irange 0 n) (M1 := (pd, cDraw K s j) :: PC T.C_Pace T.C_End a la (newP dl L o)) (I := fun i ρ' M' => (∃ x7, ρ' = E44 K s pd dl L a n0 n1 (some (dat (.int (gI b)))) x7 none none none none none) ∧ M' = (pd, cDraw K s j) :: PC T.C_Pace T.C_End a la (newP dl L (set2 o b (wl i))))
  case h =>
    have e : irange 0 n = irange 0 ((n : Int)).toNat := rfl
    rw [e]
    refine ei_rng1 (ea_cons (ev_op (x := dat (.tuple [.int (n0 : Int), .int (n1 : Int)])) (ev_var (.there (.there (.there (.there (.there .here)))))) (ev_var (.there (.there (.there (.there (.there (.there .here))))))) (rv_ixT ist_dat ?_)) ea_nil) (by omega)
    rw [← hn]
    cases b <;> rfl
  case h0 =>
    refine ⟨⟨_, rfl⟩, ?_⟩
    rw [show wl 0 = o b from hb.symm, set2_id]
  case hd =>
    rintro ρ' M' ⟨⟨x7, rfl⟩, rfl⟩
    rw [show (irange 0 n).length = n by simp [irange], hD]
    exact c_inv (hJ x7) (Le.refl _)
  case hs =>
    rintro Ψ hΨ i d ρ' M' hi ⟨⟨x7, rfl⟩, rfl⟩
    have hin : i < n := by
      have := (List.getElem?_eq_some_iff.mp hi).1
      rw [show (irange 0 n).length = n by simp [irange]] at this
      exact this
    obtain rfl := range_at hi
    apply for_k <;> (first | walk_at "sx" | skip)
    have hlen : ∀ c, (set2 o b (wl i) c).length ≤ 1000 := fun c => by
      unfold set2
      split
      · show ((List.range i).map _).length ≤ _
        rw [List.length_map, List.length_range]
        omega
      · have := ho c
        omega
    refine c_dropR (er_meth (ds := [dat (.int (gI b)), dat (.int (i : Int))]) (M1 := (pd, cDraw K s j) :: PC T.C_Pace T.C_End a la (newP dl L (set2 o b (wl i)))) (M2 := (pd, cDraw K s j) :: PC T.C_Pace T.C_End a la (newP dl L (set2 o b (wl i)))) (ev_var (.there (.there (.there (.there .here))))) (.tail _ (.head _)) (by decide +kernel) (ea_cons (ev_var (.there (.there (.there (.there (.there (.there .here))))))) (ea_cons (ev_var (.there (.there (.there (.there (.there (.there (.there .here)))))))) ea_nil)) rfl (pput_ev (M0 := [(pd, cDraw K s j)]) (b := b) (w := .i (i : Int)) (new_sm hlen) (List.perm_append_comm (l₁ := [(pd, cDraw K s j)])))) ?_
    rintro y M1 ⟨rfl, rfl⟩
    refine c_perm (M' := (pd, cDraw K s j) :: PC T.C_Pace T.C_End a la (putP (newP dl L (set2 o b (wl i))) b (.i (i : Int)))) (List.perm_append_comm (l₂ := [(pd, cDraw K s j)])) ?_
    rw [put_new, set2_same, set2_set2, ← wl_succ]
    exact c_inv ⟨⟨_, rfl⟩, rfl⟩ (Le.refl _)
def outs44 (n0 n1 : Nat) : Bool → List Wd := set2 (set2 (fun _ => []) false (wl n0)) true (wl n1)
theorem words44 (hn0 : n0 ≤ 10) (hn1 : n1 ≤ 10) (kk : Cont (rd_law_6 K T D) Φ (E44 K s pd dl L a n0 n1 none none none none none none none) ((pd, cDraw K s j) :: PC T.C_Pace T.C_End a la (newP dl L (outs44 n0 n1)))) :
    Cont (rd_law_3 K T D) Φ (E44 K s pd dl L a n0 n1 none none none none none none none) ((pd, cDraw K s j) :: PC T.C_Pace T.C_End a la (newP dl L fun _ => [])) := by
  walk_at "cut"
  with_reducible apply c_for (its := [PyData.int 0, .int 1].map dat) (M1 := (pd, cDraw K s j) :: PC T.C_Pace T.C_End a la (newP dl L fun _ => [])) (I := fun i ρ' M' => (∃ x6 x7, ρ' = E44 K s pd dl L a n0 n1 x6 x7 none none none none none) ∧ ((i = 0 ∧ M' = (pd, cDraw K s j) :: PC T.C_Pace T.C_End a la (newP dl L fun _ => [])) ∨ (i = 1 ∧ M' = (pd, cDraw K s j) :: PC T.C_Pace T.C_End a la (newP dl L (set2 (fun _ => []) false (wl n0)))) ∨ (i = 2 ∧ M' = (pd, cDraw K s j) :: PC T.C_Pace T.C_End a la (newP dl L (outs44 n0 n1)))))
  case h => walk_at "sx"
  case h0 => exact ⟨⟨_, _, rfl⟩, .inl ⟨rfl, rfl⟩⟩
  case hd =>
    rintro ρ' M' ⟨⟨x6, x7, rfl⟩, h⟩
    rcases h with ⟨h, _⟩ | ⟨h, _⟩ | ⟨_, rfl⟩
    · cases h
    · cases h
    · with_reducible apply c_fgt (ρ' := E44 K s pd dl L a n0 n1 none none none none none none none)
      · walk_at "fgt"
      · exact kk
  case hs =>
    rintro Ψ hΨ i d ρ' M' hi ⟨⟨x6, x7, rfl⟩, h⟩
    obtain ⟨b, hb, rfl⟩ := zero_one hi
    apply for_k <;> (first | walk_at "sx" | skip)
    have hw : (wl n0).length ≤ 100 := by unfold wl; rw [List.length_map, List.length_range]; omega
    cases b with
    | false =>
      rcases h with ⟨_, rfl⟩ | ⟨h, _⟩ | ⟨h, _⟩
      · exact words_one (b := false) (o := fun _ => []) hn0 hn1 (fun _ => Nat.zero_le _) rfl rfl (fun x7 => ⟨⟨_, _, rfl⟩, .inr (.inl ⟨by rw [hb]; rfl, rfl⟩)⟩) x7
      · rw [hb] at h; cases h
      · rw [hb] at h; cases h
    | true =>
      rcases h with ⟨h, _⟩ | ⟨_, rfl⟩ | ⟨h, _⟩
      · rw [hb] at h; cases h
      · exact words_one (b := true) (o := set2 (fun _ => []) false (wl n0)) hn0 hn1 (fun c => by cases c; exact hw; exact Nat.zero_le _) rfl rfl (fun x7 => ⟨⟨_, _, rfl⟩, .inr (.inr ⟨by rw [hb]; rfl, rfl⟩)⟩) x7
      · rw [hb] at h; cases h
/-- what is wished -/
theorem wishes44 {h : Bool} (hd : 1 ≤ dl) (hx : x8 = some (dat (.bool h)))
    (kk : ∀ w0 w1 j', okW dl w0 → okW dl w1 → Cont (rd_law_11 K T D) Ψ (E44 K s pd dl L a n0 n1 none none x8 x9 (some (dat (.list [encWs w0, encWs w1]))) x11 x12) ((pd, cDraw K s j') :: PC T.C_Pace T.C_End a la S)) :
    Cont (rd_law_9 K T D) Ψ (E44 K s pd dl L a n0 n1 x6 none x8 x9 (some (val (.ref wa))) x11 x12) ((wa, cLd []) :: (pd, cDraw K s j) :: PC T.C_Pace T.C_End a la S) := by
  subst hx
  walk_at "cut"
  with_reducible apply c_for (its := [PyData.int 0, .int 1].map dat) (M1 := (wa, cLd []) :: (pd, cDraw K s j) :: PC T.C_Pace T.C_End a la S) (I := fun i ρ' M' => ∃ (ws : List Ws) (j : Int) (x6 : Option VD), ws.length = i ∧ (∀ w ∈ ws, okW dl w) ∧ ρ' = E44 K s pd dl L a n0 n1 x6 none (some (dat (.bool h))) x9 (some (val (.ref wa))) x11 x12 ∧ M' = (wa, cLd (ws.map encWs)) :: (pd, cDraw K s j) :: PC T.C_Pace T.C_End a la S)
  case h => walk_at "sx"
  case h0 => exact ⟨[], j, _, rfl, (fun _ h => nomatch h), rfl, rfl⟩
  case hd =>
    rintro ρ' M' ⟨ws, j, x6, hl, hw, rfl, rfl⟩
    match ws, hl with
    | [w0, w1], _ =>
      with_reducible apply c_fgt (ρ' := E44 K s pd dl L a n0 n1 none none (some (dat (.bool h))) x9 (some (val (.ref wa))) x11 x12)
      · walk_at "fgt"
      refine c_frz (i := 10) (ρ' := E44 K s pd dl L a n0 n1 none none (some (dat (.bool h))) x9 (some (dat (.list [encWs w0, encWs w1]))) x11 x12) ?_ ?_ (kk w0 w1 j (hw w0 List.mem_cons_self) (hw w1 (List.mem_cons_of_mem _ List.mem_cons_self)))
      · walk_at "sx"
      · show SetAt (dat (.list [encWs w0, encWs w1])) _ _ _
        walk_at "sx"
  case hs =>
    rintro Ψ hΨ i d ρ' M' hi ⟨ws, j, x6, hl, hw, rfl, rfl⟩
    have hi2 : i < 2 := (List.getElem?_eq_some_iff.mp hi).1
    obtain ⟨b, hb, rfl⟩ := zero_one hi
    apply for_k <;> (first | walk_at "sx" | skip)
    have fin : ∀ (w : Ws) (j' : Int), okW dl w → ∃ (ws' : List Ws) (j : Int) (x6 : Option VD), ws'.length = i + 1 ∧ (∀ w ∈ ws', okW dl w) ∧ E44 K s pd dl L a n0 n1 (some (dat (.int (gI b)))) none (some (dat (.bool h))) x9 (some (val (.ref wa))) x11 x12 = E44 K s pd dl L a n0 n1 x6 none (some (dat (.bool h))) x9 (some (val (.ref wa))) x11 x12 ∧ (wa, cLd (ws.map encWs ++ [encWs w])) :: (pd, cDraw K s j') :: PC T.C_Pace T.C_End a la S = (wa, cLd (ws'.map encWs)) :: (pd, cDraw K s j) :: PC T.C_Pace T.C_End a la S := fun w j' ho => by
      refine ⟨ws ++ [w], j', _, by rw [List.length_append, hl]; rfl, fun v hv => ?_, rfl, by rw [List.map_append]; rfl⟩
      rcases List.mem_append.mp hv with hv | hv
      · exact hw v hv
      · cases List.mem_singleton.mp hv
        exact ho
    have hlen : (ws.map encWs).length < sizeLine := by rw [List.length_map, hl]; show _ < 16777216; omega
    cases h with
    | true =>
      refine c_drop (ev_bm (x := val (.ref wa)) (M1 := (wa, cLd (ws.map encWs)) :: (pd, cDraw K s j) :: PC T.C_Pace T.C_End a la S) (M2 := (wa, cLd (ws.map encWs)) :: (pd, cDraw K s j) :: PC T.C_Pace T.C_End a la S) (ds := [dat (encWs (true, dl))]) ?_ ?_ ?_ (rm_append .here hlen)) (c_inv (fin (true, dl) j ⟨hd, Nat.le_refl _⟩) (Le.refl _))
      · refine ev_var ?_
        walk_at "sx"
      · walk_at "sx"
      · refine ea_cons (ev_tupD (ds := [.bool (true || false), .int (dl : Int)]) (ed_cons (ev_orV (a := true) (ev_var ?_) fun z => Bool.noConfusion z) (ed_cons (ev_if (b := true) (et_B (ev_var ?_)) (fun _ => ev_var ?_) fun z => Bool.noConfusion z) ed_nil)) (by show 2 ≤ 16777216; decide)) ea_nil
        · walk_at "sx"
        · walk_at "sx"
        · walk_at "sx"
    | false =>
      have t0 := tk_nn (s := s) (k := j + 1 + 1) (m := (dl : Int)) (by omega)
      have t1 := tk_lt (s := s) (k := j + 1 + 1) (m := (dl : Int)) (by omega)
      obtain ⟨v, hv⟩ : ∃ v : Nat, 1 + tk s (j + 1 + 1) (dl : Int) = (v : Int) := ⟨(1 + tk s (j + 1 + 1) (dl : Int)).toNat, (Int.toNat_of_nonneg (by omega)).symm⟩
      refine c_drop (ev_bm (x := val (.ref wa)) (M1 := (wa, cLd (ws.map encWs)) :: (pd, cDraw K s j) :: PC T.C_Pace T.C_End a la S) (M2 := (wa, cLd (ws.map encWs)) :: (pd, cDraw K s (j + 1 + 1)) :: PC T.C_Pace T.C_End a la S) (ds := [dat (encWs (decide (tk s (j + 1) 2 = 0), v))]) ?_ ?_ ?_ (rm_append .here hlen)) (c_inv (fin (decide (tk s (j + 1) 2 = 0), v) (j + 1 + 1) ⟨by show 1 ≤ v; omega, by show v ≤ dl; omega⟩) (Le.refl _))
      · refine ev_var ?_
        walk_at "sx"
      · walk_at "sx"
      · refine ea_cons (ev_tupD (ds := [.bool (decide (tk s (j + 1) 2 = 0)), .int (v : Int)]) (ed_cons (M1 := (wa, cLd (ws.map encWs)) :: (pd, cDraw K s (j + 1)) :: PC T.C_Pace T.C_End a la S) (ev_orF (M1 := (wa, cLd (ws.map encWs)) :: (pd, cDraw K s j) :: PC T.C_Pace T.C_End a la S) (ev_var ?_) ?_) (ed_cons (ev_if (b := false) (M1 := (wa, cLd (ws.map encWs)) :: (pd, cDraw K s (j + 1)) :: PC T.C_Pace T.C_End a la S) (et_B (ev_var ?_)) (fun z => Bool.noConfusion z) fun _ => ?_) ed_nil)) (by show 2 ≤ 16777216; decide)) ea_nil
        · walk_at "sx"
        · walk_at "sx"
        · walk_at "sx"
        · rw [← hv]
          walk_at "sx"
end

end Lw


set_option Elab.async false
set_option linter.all false
set_option maxRecDepth 100000
set_option maxHeartbeats 4000000
namespace Lw
open PySem L2 Sx
/-! ### steps -/
local macro_rules | `(tactic| walk_at "shp") => `(tactic| first
  | exact shp_int
  | exact shp_none
  | exact shp_bool
  | exact shp_oi _
  | (apply shp_str; first | decide +kernel | assumption)
  | (apply shp_list; walk_at "shpA")
  | (apply shp_tuple; walk_at "shpA")
  | assumption)
local macro_rules | `(tactic| walk_at "shpA") => `(tactic| first
  | exact shpA_nil
  | (apply shpA_cons; (· walk_at "shp"); walk_at "shpA")
  | (apply shpA_map; intro _ _; walk_at "shp"))
/-- what is left beside: closed, or left -/
local macro_rules | `(tactic| walk_at "side") => `(tactic| first
  | (with_reducible show Shp _ _); walk_at "shp"
  | (with_reducible show _ ≤ sizeLine); first | decide | (show _ ≤ 16777216; omega) | (show _ ≤ 16777216; simp only [List.length_map, List.length_append, List.length_cons, List.length_nil]; omega)
  | (with_reducible show _ < sizeLine); first | decide | (show _ < 16777216; omega) | (show _ < 16777216; simp only [List.length_map, List.length_append, List.length_cons, List.length_nil]; omega)
  | (with_reducible show CMul _ _); first | exact Or.inr ⟨by decide, by decide⟩ | exact Or.inl ⟨by decide, by decide⟩ | exact Or.inl ⟨by omega, by omega⟩ | exact Or.inr ⟨by omega, by omega⟩
  | (with_reducible show CPow _ _); exact ⟨by decide, by decide, by decide⟩
  | (with_reducible show CDiv _ _); first | exact ⟨by decide, by decide⟩ | exact ⟨by omega, by omega⟩
  | (with_reducible show Le _ _); first | with_reducible exact Le.refl _ | with_reducible assumption
  | (with_reducible show L2.atI _ _ = _); first | with_reducible assumption | exact rfl | exact atI_nat rfl
  | (with_reducible show _ < _); first | with_reducible assumption | decide | omega
  | (with_reducible show _ ≤ _); first | with_reducible assumption | decide | omega
  | (with_reducible show _ ∧ _); omega
  | (with_reducible show ∀ i, i ∈ _ → i ∈ _); decide
  | (with_reducible show (_ : Nat) = _); first | exact rfl | omega)
local macro_rules | `(tactic| walk_at "rm") => `(tactic| first
  | exact Rm.here
  | (apply Rm.there; walk_at "rm"))
local macro_rules | `(tactic| walk_at "perm") => `(tactic| first
  | with_reducible exact List.Perm.refl _
  | (apply perm_step; (· walk_at "rm"); walk_at "perm")
  | exact List.Perm.refl _)
local macro_rules | `(tactic| walk_at "pk") => `(tactic| first
  | with_reducible exact Pk.here
  | ((with_reducible apply Pk.there); walk_at "pk"))
/-- a part of a reading: what it gives. One word for all kinds -/
local macro_rules | `(tactic| walk_at "sx") => `(tactic| first
  -- an expression
  | with_reducible exact ev_int
  | with_reducible exact ev_bl
  | with_reducible exact ev_str
  | with_reducible exact ev_non
  | (with_reducible apply ev_var) <;> walk_at "sx"
  | (with_reducible apply ev_op) <;> walk_at "sx"
  | (with_reducible apply ev_fld) <;> walk_at "sx"
  | (with_reducible apply ev_cb) <;> walk_at "sx"
  | (with_reducible apply ev_tupD) <;> walk_at "sx"
  | (with_reducible apply ev_lstD) <;> walk_at "sx"
  | (with_reducible apply ev_tupV) <;> walk_at "sx"
  | (with_reducible apply ev_lstV) <;> walk_at "sx"
  | (with_reducible apply ev_slL) <;> walk_at "sx"
  | (with_reducible apply ev_slT1) <;> walk_at "sx"
  | (with_reducible apply ev_slT) <;> walk_at "sx"
  | (with_reducible apply ev_un) <;> walk_at "sx"
  | (with_reducible apply ev_chain) <;> walk_at "sx"
  | (with_reducible apply ev_andV) <;> walk_at "sx"
  | (with_reducible apply ev_orV) <;> walk_at "sx"
  | (with_reducible apply ev_notV) <;> walk_at "sx"
  | (with_reducible apply ev_lcY) <;> walk_at "sx"
  | (with_reducible apply ev_lc) <;> walk_at "sx"
  | ((with_reducible show ∀ a, a ∈ _ → ∃ ρ'' js, _); intro a ha; dsimp only [wipeE, List.set]; (first | with_reducible apply lcY_k | with_reducible apply lcF_k) <;> walk_at "sx")
  | (with_reducible apply ev_call) <;> walk_at "sx"
  | (with_reducible apply ev_meth) <;> walk_at "sx"
  | (with_reducible apply ev_bm) <;> walk_at "sx"
  | (with_reducible show Ev _ _ _ _ _); walk_at "own"
  -- a test
  | with_reducible exact et_yes
  | (with_reducible apply et_test) <;> walk_at "sx"
  | (with_reducible apply et_B) <;> walk_at "sx"
  | (with_reducible apply et_not) <;> walk_at "sx"
  | (with_reducible apply et_and) <;> walk_at "sx"
  | (with_reducible apply et_or) <;> walk_at "sx"
  -- arguments
  | with_reducible exact ea_nil
  | (with_reducible apply ea_cons) <;> walk_at "sx"
  | with_reducible exact ed_nil
  | (with_reducible apply ed_cons) <;> walk_at "sx"
  | with_reducible exact eo_none
  | (with_reducible apply eo_some) <;> walk_at "sx"
  -- what an operation gives
  | with_reducible exact rv_addI
  | with_reducible exact rv_int0
  | with_reducible exact rv_bl0
  | with_reducible exact rv_eqI
  | with_reducible exact rv_neI
  | with_reducible exact rv_eqS
  | with_reducible exact rv_neS
  | with_reducible exact rv_isN
  | with_reducible exact rv_notN
  | (with_reducible apply rv_intC) <;> walk_at "sx"
  | (with_reducible apply rv_addS) <;> walk_at "sx"
  | (with_reducible apply rv_ixL isl_dat) <;> walk_at "sx"
  | (with_reducible apply rv_ixT ist_dat) <;> walk_at "sx"
  | (with_reducible apply rv_ixL) <;> walk_at "sx"
  | (with_reducible apply rv_ixLV) <;> walk_at "sx"
  | (apply rv_ixT ist_dat) <;> walk_at "sx"
  | (with_reducible apply rv_ixTV istv_vtup) <;> walk_at "sx"
  | (with_reducible apply rv_ixScr) <;> walk_at "sx"
  | (apply rv_ixL isl_dat) <;> walk_at "sx"
  | (with_reducible apply rv_ixL) <;> walk_at "sx"
  | (apply rv_cat) <;> walk_at "sx"
  | (with_reducible apply rv_eqD) <;> walk_at "sx"
  | (with_reducible apply rv_neD) <;> walk_at "sx"
  | with_reducible exact ru_neg
  | with_reducible exact rc_int
  | with_reducible exact rc_abs
  | with_reducible exact rc_max2
  | with_reducible exact rc_min2
  | with_reducible exact rc_lenScr
  | with_reducible exact rc_lenM isl_dat
  | ((with_reducible apply rc_lenM); (with_reducible apply isl_cell) <;> walk_at "sx")
  | with_reducible exact rc_lenMT
  | (with_reducible apply rc_lenL) <;> walk_at "sx"
  | (apply rc_lenT ist_dat)
  | (with_reducible apply rc_tupL) <;> walk_at "sx"
  | (apply rc_tupT)
  | (with_reducible apply rc_lstL) <;> walk_at "sx"
  | (apply rc_lstT ist_dat)
  | with_reducible exact rc_anyM
  | with_reducible exact rc_allM
  | ((with_reducible apply rm_append) <;> walk_at "sx")
  -- lists, tuples, data
  | with_reducible exact isl_dat
  | with_reducible exact isd_dat
  | with_reducible exact isd_scr
  | (with_reducible apply isl_cell) <;> walk_at "sx"
  | (with_reducible apply islv_cell) <;> walk_at "sx"
  | with_reducible exact islv_vlst
  | (with_reducible apply isd_cell) <;> walk_at "sx"
  | (with_reducible apply isd_vtup) <;> walk_at "sx"
  | (with_reducible apply isd_vlst) <;> walk_at "sx"
  | with_reducible exact isds_nil
  | (with_reducible apply isds_cons) <;> walk_at "sx"
  | with_reducible exact fzl_dat
  | with_reducible exact fzl_v
  | with_reducible exact fzt_dat
  | with_reducible exact fzt_v
  | (with_reducible apply ity_l) <;> walk_at "sx"
  | with_reducible exact ity_s
  | (with_reducible apply IsLst.v) <;> walk_at "sx"
  -- places
  | with_reducible exact At.here
  | (with_reducible apply At.there) <;> walk_at "sx"
  | with_reducible exact SetAt.here
  | (with_reducible apply SetAt.there) <;> walk_at "sx"
  | with_reducible exact List.mem_cons_self
  | (with_reducible apply List.mem_cons_of_mem) <;> walk_at "sx"
  | ((with_reducible show (_ : Addr × CD) ∈ _); with_reducible assumption)
  | with_reducible exact Put.here
  | (with_reducible apply Put.there) <;> walk_at "sx"
  | ((with_reducible show Put _ _ _ _ _); with_reducible assumption)
  | ((with_reducible show Sw _ _ _ _); with_reducible assumption)
  | with_reducible exact sw_nil
  | ((with_reducible apply sw_pick); (· walk_at "pk"); walk_at "sx")
  | ((with_reducible apply sw_skip); walk_at "sx")
  | with_reducible exact FGet.here
  | ((with_reducible apply FGet.there); (· decide +kernel); walk_at "sx")
  | with_reducible exact FPut.here
  | with_reducible exact FPut.new
  | ((with_reducible apply FPut.there); (· decide +kernel); walk_at "sx")
  | (with_reducible show ClsF _ _ _); with_reducible assumption
  | (with_reducible show RtQ _ _ _); assumption
  | (with_reducible show (_ : Str) ∈ _); decide +kernel
  | (with_reducible show ¬ (_ : Str) ∈ _); decide +kernel
  -- what is walked, targets
  | (with_reducible apply ei_rng1) <;> walk_at "sx"
  | (with_reducible apply ei_rng2) <;> walk_at "sx"
  | (with_reducible apply ei_enumD) <;> walk_at "sx"
  | (with_reducible apply ei_enum) <;> walk_at "sx"
  | (with_reducible apply ei_zip) <;> walk_at "sx"
  | (with_reducible apply ei_seqLM) <;> walk_at "sx"
  | (with_reducible apply ei_seqTM) <;> walk_at "sx"
  | (with_reducible apply ei_seqL) <;> walk_at "sx"
  | (with_reducible apply ei_seqT) <;> walk_at "sx"
  | (with_reducible apply tg_name) <;> walk_at "sx"
  | (with_reducible apply tg_tup istv_vtup) <;> walk_at "sx"
  | (with_reducible apply td_tup) <;> walk_at "sx"
  | with_reducible exact td_nil
  | (with_reducible apply td_cons) <;> walk_at "sx"
  | with_reducible exact tgs_nil
  | (with_reducible apply tgs_cons) <;> walk_at "sx"
  -- beside
  | walk_at "spec"
  | walk_at "side"
  | walk_at "leave")
/-- a question of another kind is left -/
local macro_rules | `(tactic| walk_at "leave") => `(tactic| first
  | with_reducible show Cont _ _ _ _
  | with_reducible show Shp _ _
  | with_reducible show _ ≤ _
  | with_reducible show _ < _
  | with_reducible show CMul _ _
  | with_reducible show CDiv _ _
  | with_reducible show CPow _ _
  | with_reducible show _ = _
  | with_reducible show Le _ _
  | ((with_reducible show _ = true → _); with_reducible assumption)
  | ((with_reducible show _ = true → _); intro _; walk_at "sx")
  | ((with_reducible show _ = false → _); intro _; walk_at "sx"))
/-- a plain statement -/
local macro_rules | `(tactic| walk_at "st") => `(tactic| first
  | (with_reducible apply c_seq); walk_at "st"
  | (with_reducible apply c_asg) <;> (first | walk_at "sx" | skip)
  | (with_reducible apply c_asgG) <;> (first | walk_at "sx" | skip)
  | (with_reducible apply c_par) <;> (first | walk_at "sx" | skip)
  | (with_reducible apply c_par3) <;> (first | walk_at "sx" | skip)
  | (with_reducible apply c_aug) <;> (first | walk_at "sx" | skip)
  | (with_reducible apply c_augS) <;> (first | walk_at "sx" | skip)
  | (with_reducible apply c_fld) <;> (first | walk_at "sx" | skip)
  | (with_reducible apply c_drop) <;> (first | walk_at "sx" | skip)
  | with_reducible apply c_next
  | with_reducible apply c_break
  | with_reducible apply c_cont)
/-- a value is handed back; a word is met again -/
local macro_rules | `(tactic| walk_at "ret") => `(tactic| (with_reducible apply c_ret) <;> (first | walk_at "sx" | skip))
local macro_rules | `(tactic| walk_at "inv") => `(tactic| (with_reducible apply c_inv) <;> (first | walk_at "side" | skip))
local macro_rules | `(tactic| walk_at "seq") => `(tactic| with_reducible apply c_seq)
local macro_rules | `(tactic| walk_at "cut") => `(tactic| with_reducible apply c_cut)
local macro_rules | `(tactic| walk_at "if") => `(tactic| ((with_reducible apply c_if); (case' h => first | walk_at "sx" | skip)))
local macro_rules | `(tactic| walk_at "fgt") => `(tactic| first
  | exact Fgt.nil
  | (with_reducible apply Fgt.keep; walk_at "fgt")
  | (with_reducible apply Fgt.drop; walk_at "fgt"))

/-! ### more steps: stars, dicts, tuples -/
local macro_rules | `(tactic| walk_at "sx") => `(tactic| first
  | (with_reducible apply ed_starT) <;> walk_at "sx"
  | (with_reducible apply ev_dgetS) <;> walk_at "sx"
  | with_reducible exact isdi_v
  | (with_reducible apply isdi_c) <;> walk_at "sx"
  | (with_reducible apply rv_catTd) <;> walk_at "sx"
  | with_reducible exact ist_dat
  | ((with_reducible show ¬ (_ : Int) < _); with_reducible assumption)
  | ((with_reducible show valG _ _ = _); walk_at "get")
  | ((with_reducible show putG _ _ _ = _); walk_at "get"))

local macro_rules | `(tactic| walk_at "shp") => `(tactic| first | exact shp_oW _ | exact shp_W _)

local macro_rules | `(tactic| walk_at "spec") => `(tactic| first
  | with_reducible exact number_ev
  | (with_reducible apply take_ev) <;> walk_at "sx"
  | (with_reducible apply eput_ev) <;> walk_at "sx"
  | (with_reducible apply eframes_ev) <;> walk_at "sx"
  | (with_reducible apply ehear_ev) <;> walk_at "sx")
section
variable {K : PySem.W.Frag} {mg : Str → Option Value} {T : Tx K mg} {s : List Int} {pd wa : Addr} {dl L n0 n1 : Nat} {a : Pl} {la : Addr} {S : PS} {Φ Ψ : Fr} {D : Ends} {j : Int} {x6 x7 x8 x9 x10 x11 x12 : Option VD} {P : VD → Cells → Prop} {Q : VK}
abbrev S44 (dl L n0 n1 : Nat) : PS := newP dl L (outs44 n0 n1)
theorem out_len (n0 n1 : Nat) (b : Bool) : (outs44 n0 n1 b).length = if b then n1 else n0 := by
  cases b
  · show ((List.range n0).map _).length = n0
    rw [List.length_map, List.length_range]
  · show ((List.range n1).map _).length = n1
    rw [List.length_map, List.length_range]
/-- one end as told a beginning -/
theorem told_eqv {s r : EndS} (h : Dir s r) : PyData.eqv (.list (r.told.map encW)) (.list (cutD (s.out.map encW) none (some (r.told.length : Int)))) = true := by
  rw [cut_map, cut_0n, ← h.t]
  exact (eqok_list eqok_W _ _).2 rfl
theorem shp_cut {s r : EndS} : Shp 64 (.list (cutD (s.out.map encW) none (some (r.told.length : Int)))) := by
  rw [cut_map]
  exact shp_list (shpA_map fun _ _ => shp_W _)
theorem check44 {t : Nat} (G : G44 S) (hS : Sm S) (ht : S.t = t + 1) (kk : Cont D.nx Ψ (E44 K s pd dl L a n0 n1 x6 x7 x8 (some (dat (.int (t : Int)))) x10 (some (val (.ref a.p0))) (some (val (.ref a.p1)))) ((pd, cDraw K s j) :: PC T.C_Pace T.C_End a la S)) :
    Cont (rd_law_12 K T D) Ψ (E44 K s pd dl L a n0 n1 x6 x7 x8 (some (dat (.int (t : Int)))) x10 x11 x12) ((pd, cDraw K s j) :: PC T.C_Pace T.C_End a la S) := by
  have hC := T.F_Pace
  have hE := T.F_End
  have d0 := told_eqv (G.dir false)
  have d1 := told_eqv (G.dir true)
  have c0 := shp_cut (s := S.e false) (r := S.e true)
  have c1 := shp_cut (s := S.e true) (r := S.e false)
  rw [show (!false) = true from rfl] at d0
  rw [show (!true) = false from rfl] at d1
  walk_at "st"
  show Cont (rd_law_13 K T D) Ψ (E44 K s pd dl L a n0 n1 x6 x7 x8 (some (dat (.int (t : Int)))) x10 (some (val (.ref a.p0))) (some (val (.ref a.p1)))) _
  walk_at "if"
  all_goals (first | exact c0 | exact c1 | skip)
  case h1 =>
    intro hb
    exfalso
    rw [d0, d1, ht] at hb
    simp at hb
  case h2 =>
    intro hb
    walk_at "st"
    exact kk
def J44 (K : PySem.W.Frag) (CP CE : Addr) (s : List Int) (pd : Addr) (dl L : Nat) (a : Pl) (n0 n1 : Nat) (h : Bool) (i : Nat) : Sx.Env → Cells → Prop := fun ρ' M' => ∃ (ws : List (Ws × Ws)) (la : Addr) (j : Int), ws.length = i ∧ (∀ w ∈ ws, okW dl w.1 ∧ okW dl w.2) ∧ ρ' = E44 K s pd dl L a n0 n1 none none (some (dat (.bool h))) none none none none ∧ M' = (pd, cDraw K s j) :: PC CP CE a la (runP (S44 dl L n0 n1) ws)
theorem turn44 {h : Bool} {ws : List (Ws × Ws)} {i : Nat} (hn0 : n0 ≤ 10) (hn1 : n1 ≤ 10) (hd : 1 ≤ dl) (hl : ws.length = i) (hi : i ≤ 1000) (hw : ∀ w ∈ ws, okW dl w.1 ∧ okW dl w.2) (hD : D.nx = InvK Ψ (J44 K T.C_Pace T.C_End s pd dl L a n0 n1 h (i + 1))) :
    Cont (rd_law_8 K T D) Ψ (E44 K s pd dl L a n0 n1 none none (some (dat (.bool h))) (some (dat (.int (i : Int)))) none none none) ((pd, cDraw K s j) :: PC T.C_Pace T.C_End a la (runP (S44 dl L n0 n1) ws)) := by
  have hC := T.F_Pace
  have ho : ∀ b, (outs44 n0 n1 b).length ≤ 1000 := fun b => by rw [out_len]; split <;> omega
  walk_at "seq"
  refine c_asgR (er_lstCd ed_nil (by decide)) ?_
  rintro y M1 ⟨wa, rfl, rfl⟩
  apply asgR_k <;> (first | walk_at "sx" | skip)
  refine wishes44 (x6 := none) hd rfl fun w0 w1 j' h0 h1 => ?_
  have hw' : ∀ w ∈ ws ++ [(w0, w1)], okW dl w.1 ∧ okW dl w.2 := fun w hm => by
    rcases List.mem_append.mp hm with hm | hm
    · exact hw w hm
    · cases List.mem_singleton.mp hm
      exact ⟨h0, h1⟩
  have hDl : (runP (S44 dl L n0 n1) ws).D = dl := (run_D _ _).1
  walk_at "seq"
  refine c_dropR (tick_er (a := a) (la := la) (S := runP (S44 dl L n0 n1) ws) (w0 := w0) (w1 := w1) (M0 := [(pd, cDraw K s j')]) (.there (.there (.there (.there .here)))) ?_ (run_sm hw ho (by omega)) (List.perm_append_comm (l₁ := [(pd, cDraw K s j')])) (okb (by rw [hDl]; exact h0)) (okb (by rw [hDl]; exact h1))) ?_
  · walk_at "sx"
  rintro y N ⟨la', rfl⟩
  refine c_perm (M' := (pd, cDraw K s j') :: PC T.C_Pace T.C_End a la' (tickP (runP (S44 dl L n0 n1) ws) (w0, w1))) (List.perm_append_comm (l₂ := [(pd, cDraw K s j')])) ?_
  have e : tickP (runP (S44 dl L n0 n1) ws) (w0, w1) = runP (S44 dl L n0 n1) (ws ++ [(w0, w1)]) := by rw [run_app]; rfl
  rw [e]
  obtain ⟨G, ht, _⟩ := run_G (ws ++ [(w0, w1)]) (S44 dl L n0 n1) (new_G _ _ _) hw'
  have hlen : (ws ++ [(w0, w1)]).length = i + 1 := by rw [List.length_append, hl]; rfl
  refine check44 (t := i) G (run_sm hw' ho (by rw [hlen]; omega)) (by rw [ht, hlen]; show 0 + (i + 1) = _; omega) ?_
  rw [hD]
  with_reducible apply c_invF
  · exact ⟨ws ++ [(w0, w1)], la', j', hlen, hw', rfl, rfl⟩
  · walk_at "fgt"
  · exact Le.refl _
end

end Lw


set_option Elab.async false
set_option linter.all false
set_option maxRecDepth 100000
set_option maxHeartbeats 4000000
namespace Lw
open PySem L2 Sx
/-! ### steps -/
local macro_rules | `(tactic| walk_at "shp") => `(tactic| first
  | exact shp_int
  | exact shp_none
  | exact shp_bool
  | exact shp_oi _
  | (apply shp_str; first | decide +kernel | assumption)
  | (apply shp_list; walk_at "shpA")
  | (apply shp_tuple; walk_at "shpA")
  | assumption)
local macro_rules | `(tactic| walk_at "shpA") => `(tactic| first
  | exact shpA_nil
  | (apply shpA_cons; (· walk_at "shp"); walk_at "shpA")
  | (apply shpA_map; intro _ _; walk_at "shp"))
/-- what is left beside: closed, or left -/
local macro_rules | `(tactic| walk_at "side") => `(tactic| first
  | (with_reducible show Shp _ _); walk_at "shp"
  | (with_reducible show _ ≤ sizeLine); first | decide | (show _ ≤ 16777216; omega) | (show _ ≤ 16777216; simp only [List.length_map, List.length_append, List.length_cons, List.length_nil]; omega)
  | (with_reducible show _ < sizeLine); first | decide | (show _ < 16777216; omega) | (show _ < 16777216; simp only [List.length_map, List.length_append, List.length_cons, List.length_nil]; omega)
  | (with_reducible show CMul _ _); first | exact Or.inr ⟨by decide, by decide⟩ | exact Or.inl ⟨by decide, by decide⟩ | exact Or.inl ⟨by omega, by omega⟩ | exact Or.inr ⟨by omega, by omega⟩
  | (with_reducible show CPow _ _); exact ⟨by decide, by decide, by decide⟩
  | (with_reducible show CDiv _ _); first | exact ⟨by decide, by decide⟩ | exact ⟨by omega, by omega⟩
  | (with_reducible show Le _ _); first | with_reducible exact Le.refl _ | with_reducible assumption
  | (with_reducible show L2.atI _ _ = _); first | with_reducible assumption | exact rfl | exact atI_nat rfl
  | (with_reducible show _ < _); first | with_reducible assumption | decide | omega
  | (with_reducible show _ ≤ _); first | with_reducible assumption | decide | omega
  | (with_reducible show _ ∧ _); omega
  | (with_reducible show ∀ i, i ∈ _ → i ∈ _); decide
  | (with_reducible show (_ : Nat) = _); first | exact rfl | omega)
local macro_rules | `(tactic| walk_at "rm") => `(tactic| first
  | exact Rm.here
  | (apply Rm.there; walk_at "rm"))
local macro_rules | `(tactic| walk_at "perm") => `(tactic| first
  | with_reducible exact List.Perm.refl _
  | (apply perm_step; (· walk_at "rm"); walk_at "perm")
  | exact List.Perm.refl _)
local macro_rules | `(tactic| walk_at "pk") => `(tactic| first
  | with_reducible exact Pk.here
  | ((with_reducible apply Pk.there); walk_at "pk"))
/-- a part of a reading: what it gives. One word for all kinds -/
local macro_rules | `(tactic| walk_at "sx") => `(tactic| first
  -- an expression
  | with_reducible exact ev_int
  | with_reducible exact ev_bl
  | with_reducible exact ev_str
  | with_reducible exact ev_non
  | (with_reducible apply ev_var) <;> walk_at "sx"
  | (with_reducible apply ev_op) <;> walk_at "sx"
  | (with_reducible apply ev_fld) <;> walk_at "sx"
  | (with_reducible apply ev_cb) <;> walk_at "sx"
  | (with_reducible apply ev_tupD) <;> walk_at "sx"
  | (with_reducible apply ev_lstD) <;> walk_at "sx"
  | (with_reducible apply ev_tupV) <;> walk_at "sx"
  | (with_reducible apply ev_lstV) <;> walk_at "sx"
  | (with_reducible apply ev_slL) <;> walk_at "sx"
  | (with_reducible apply ev_slT1) <;> walk_at "sx"
  | (with_reducible apply ev_slT) <;> walk_at "sx"
  | (with_reducible apply ev_un) <;> walk_at "sx"
  | (with_reducible apply ev_chain) <;> walk_at "sx"
  | (with_reducible apply ev_andV) <;> walk_at "sx"
  | (with_reducible apply ev_orV) <;> walk_at "sx"
  | (with_reducible apply ev_notV) <;> walk_at "sx"
  | (with_reducible apply ev_lcY) <;> walk_at "sx"
  | (with_reducible apply ev_lc) <;> walk_at "sx"
  | ((with_reducible show ∀ a, a ∈ _ → ∃ ρ'' js, _); intro a ha; dsimp only [wipeE, List.set]; (first | with_reducible apply lcY_k | with_reducible apply lcF_k) <;> walk_at "sx")
  | (with_reducible apply ev_call) <;> walk_at "sx"
  | (with_reducible apply ev_meth) <;> walk_at "sx"
  | (with_reducible apply ev_bm) <;> walk_at "sx"
  | (with_reducible show Ev _ _ _ _ _); walk_at "own"
  -- a test
  | with_reducible exact et_yes
  | (with_reducible apply et_test) <;> walk_at "sx"
  | (with_reducible apply et_B) <;> walk_at "sx"
  | (with_reducible apply et_not) <;> walk_at "sx"
  | (with_reducible apply et_and) <;> walk_at "sx"
  | (with_reducible apply et_or) <;> walk_at "sx"
  -- arguments
  | with_reducible exact ea_nil
  | (with_reducible apply ea_cons) <;> walk_at "sx"
  | with_reducible exact ed_nil
  | (with_reducible apply ed_cons) <;> walk_at "sx"
  | with_reducible exact eo_none
  | (with_reducible apply eo_some) <;> walk_at "sx"
  -- what an operation gives
  | with_reducible exact rv_addI
  | with_reducible exact rv_int0
  | with_reducible exact rv_bl0
  | with_reducible exact rv_eqI
  | with_reducible exact rv_neI
  | with_reducible exact rv_eqS
  | with_reducible exact rv_neS
  | with_reducible exact rv_isN
  | with_reducible exact rv_notN
  | (with_reducible apply rv_intC) <;> walk_at "sx"
  | (with_reducible apply rv_addS) <;> walk_at "sx"
  | (with_reducible apply rv_ixL isl_dat) <;> walk_at "sx"
  | (with_reducible apply rv_ixT ist_dat) <;> walk_at "sx"
  | (with_reducible apply rv_ixL) <;> walk_at "sx"
  | (with_reducible apply rv_ixLV) <;> walk_at "sx"
  | (apply rv_ixT ist_dat) <;> walk_at "sx"
  | (with_reducible apply rv_ixTV istv_vtup) <;> walk_at "sx"
  | (with_reducible apply rv_ixScr) <;> walk_at "sx"
  | (apply rv_ixL isl_dat) <;> walk_at "sx"
  | (with_reducible apply rv_ixL) <;> walk_at "sx"
  | (apply rv_cat) <;> walk_at "sx"
  | (with_reducible apply rv_eqD) <;> walk_at "sx"
  | (with_reducible apply rv_neD) <;> walk_at "sx"
  | with_reducible exact ru_neg
  | with_reducible exact rc_int
  | with_reducible exact rc_abs
  | with_reducible exact rc_max2
  | with_reducible exact rc_min2
  | with_reducible exact rc_lenScr
  | with_reducible exact rc_lenM isl_dat
  | ((with_reducible apply rc_lenM); (with_reducible apply isl_cell) <;> walk_at "sx")
  | with_reducible exact rc_lenMT
  | (with_reducible apply rc_lenL) <;> walk_at "sx"
  | (apply rc_lenT ist_dat)
  | (with_reducible apply rc_tupL) <;> walk_at "sx"
  | (apply rc_tupT)
  | (with_reducible apply rc_lstL) <;> walk_at "sx"
  | (apply rc_lstT ist_dat)
  | with_reducible exact rc_anyM
  | with_reducible exact rc_allM
  | ((with_reducible apply rm_append) <;> walk_at "sx")
  -- lists, tuples, data
  | with_reducible exact isl_dat
  | with_reducible exact isd_dat
  | with_reducible exact isd_scr
  | (with_reducible apply isl_cell) <;> walk_at "sx"
  | (with_reducible apply islv_cell) <;> walk_at "sx"
  | with_reducible exact islv_vlst
  | (with_reducible apply isd_cell) <;> walk_at "sx"
  | (with_reducible apply isd_vtup) <;> walk_at "sx"
  | (with_reducible apply isd_vlst) <;> walk_at "sx"
  | with_reducible exact isds_nil
  | (with_reducible apply isds_cons) <;> walk_at "sx"
  | with_reducible exact fzl_dat
  | with_reducible exact fzl_v
  | with_reducible exact fzt_dat
  | with_reducible exact fzt_v
  | (with_reducible apply ity_l) <;> walk_at "sx"
  | with_reducible exact ity_s
  | (with_reducible apply IsLst.v) <;> walk_at "sx"
  -- places
  | with_reducible exact At.here
  | (with_reducible apply At.there) <;> walk_at "sx"
  | with_reducible exact SetAt.here
  | (with_reducible apply SetAt.there) <;> walk_at "sx"
  | with_reducible exact List.mem_cons_self
  | (with_reducible apply List.mem_cons_of_mem) <;> walk_at "sx"
  | ((with_reducible show (_ : Addr × CD) ∈ _); with_reducible assumption)
  | with_reducible exact Put.here
  | (with_reducible apply Put.there) <;> walk_at "sx"
  | ((with_reducible show Put _ _ _ _ _); with_reducible assumption)
  | ((with_reducible show Sw _ _ _ _); with_reducible assumption)
  | with_reducible exact sw_nil
  | ((with_reducible apply sw_pick); (· walk_at "pk"); walk_at "sx")
  | ((with_reducible apply sw_skip); walk_at "sx")
  | with_reducible exact FGet.here
  | ((with_reducible apply FGet.there); (· decide +kernel); walk_at "sx")
  | with_reducible exact FPut.here
  | with_reducible exact FPut.new
  | ((with_reducible apply FPut.there); (· decide +kernel); walk_at "sx")
  | (with_reducible show ClsF _ _ _); with_reducible assumption
  | (with_reducible show RtQ _ _ _); assumption
  | (with_reducible show (_ : Str) ∈ _); decide +kernel
  | (with_reducible show ¬ (_ : Str) ∈ _); decide +kernel
  -- what is walked, targets
  | (with_reducible apply ei_rng1) <;> walk_at "sx"
  | (with_reducible apply ei_rng2) <;> walk_at "sx"
  | (with_reducible apply ei_enumD) <;> walk_at "sx"
  | (with_reducible apply ei_enum) <;> walk_at "sx"
  | (with_reducible apply ei_zip) <;> walk_at "sx"
  | (with_reducible apply ei_seqLM) <;> walk_at "sx"
  | (with_reducible apply ei_seqTM) <;> walk_at "sx"
  | (with_reducible apply ei_seqL) <;> walk_at "sx"
  | (with_reducible apply ei_seqT) <;> walk_at "sx"
  | (with_reducible apply tg_name) <;> walk_at "sx"
  | (with_reducible apply tg_tup istv_vtup) <;> walk_at "sx"
  | (with_reducible apply td_tup) <;> walk_at "sx"
  | with_reducible exact td_nil
  | (with_reducible apply td_cons) <;> walk_at "sx"
  | with_reducible exact tgs_nil
  | (with_reducible apply tgs_cons) <;> walk_at "sx"
  -- beside
  | walk_at "spec"
  | walk_at "side"
  | walk_at "leave")
/-- a question of another kind is left -/
local macro_rules | `(tactic| walk_at "leave") => `(tactic| first
  | with_reducible show Cont _ _ _ _
  | with_reducible show Shp _ _
  | with_reducible show _ ≤ _
  | with_reducible show _ < _
  | with_reducible show CMul _ _
  | with_reducible show CDiv _ _
  | with_reducible show CPow _ _
  | with_reducible show _ = _
  | with_reducible show Le _ _
  | ((with_reducible show _ = true → _); with_reducible assumption)
  | ((with_reducible show _ = true → _); intro _; walk_at "sx")
  | ((with_reducible show _ = false → _); intro _; walk_at "sx"))
/-- a plain statement -/
local macro_rules | `(tactic| walk_at "st") => `(tactic| first
  | (with_reducible apply c_seq); walk_at "st"
  | (with_reducible apply c_asg) <;> (first | walk_at "sx" | skip)
  | (with_reducible apply c_asgG) <;> (first | walk_at "sx" | skip)
  | (with_reducible apply c_par) <;> (first | walk_at "sx" | skip)
  | (with_reducible apply c_par3) <;> (first | walk_at "sx" | skip)
  | (with_reducible apply c_aug) <;> (first | walk_at "sx" | skip)
  | (with_reducible apply c_augS) <;> (first | walk_at "sx" | skip)
  | (with_reducible apply c_fld) <;> (first | walk_at "sx" | skip)
  | (with_reducible apply c_drop) <;> (first | walk_at "sx" | skip)
  | with_reducible apply c_next
  | with_reducible apply c_break
  | with_reducible apply c_cont)
/-- a value is handed back; a word is met again -/
local macro_rules | `(tactic| walk_at "ret") => `(tactic| (with_reducible apply c_ret) <;> (first | walk_at "sx" | skip))
local macro_rules | `(tactic| walk_at "inv") => `(tactic| (with_reducible apply c_inv) <;> (first | walk_at "side" | skip))
local macro_rules | `(tactic| walk_at "seq") => `(tactic| with_reducible apply c_seq)
local macro_rules | `(tactic| walk_at "cut") => `(tactic| with_reducible apply c_cut)
local macro_rules | `(tactic| walk_at "if") => `(tactic| ((with_reducible apply c_if); (case' h => first | walk_at "sx" | skip)))
local macro_rules | `(tactic| walk_at "fgt") => `(tactic| first
  | exact Fgt.nil
  | (with_reducible apply Fgt.keep; walk_at "fgt")
  | (with_reducible apply Fgt.drop; walk_at "fgt"))

/-! ### more steps: stars, dicts, tuples -/
local macro_rules | `(tactic| walk_at "sx") => `(tactic| first
  | (with_reducible apply ed_starT) <;> walk_at "sx"
  | (with_reducible apply ev_dgetS) <;> walk_at "sx"
  | with_reducible exact isdi_v
  | (with_reducible apply isdi_c) <;> walk_at "sx"
  | (with_reducible apply rv_catTd) <;> walk_at "sx"
  | with_reducible exact ist_dat
  | ((with_reducible show ¬ (_ : Int) < _); with_reducible assumption)
  | ((with_reducible show valG _ _ = _); walk_at "get")
  | ((with_reducible show putG _ _ _ = _); walk_at "get"))

local macro_rules | `(tactic| walk_at "shp") => `(tactic| first | exact shp_oW _ | exact shp_W _)

local macro_rules | `(tactic| walk_at "spec") => `(tactic| first
  | with_reducible exact number_ev
  | (with_reducible apply take_ev) <;> walk_at "sx"
  | (with_reducible apply eput_ev) <;> walk_at "sx"
  | (with_reducible apply eframes_ev) <;> walk_at "sx"
  | (with_reducible apply ehear_ev) <;> walk_at "sx")
local macro_rules | `(tactic| walk_at "spec") => `(tactic| first
  | with_reducible exact number_ev
  | (with_reducible apply take_ev) <;> walk_at "sx")
section
variable {K : PySem.W.Frag} {mg : Str → Option Value} {T : Tx K mg} {s : List Int} {pd : Addr} {dl L n0 n1 : Nat} {a : Pl} {la : Addr} {S : PS} {Φ Ψ : Fr} {D : Ends} {j : Int} {x8 : Option VD} {P : VD → Cells → Prop} {Q : VK}
/-- what is refused, at the end -/
theorem last44 {M : Cells} (hQ : RtQ Q Φ P) (hP : ∀ M', P (dat (.bool true)) M') : Cont (rd_law_25 K T (fnD Q)) Φ (E44 K s pd dl L a n0 n1 none none x8 none none none none) M := by
  refine c_ret (D := fnD Q) (x := dat (.bool true)) (M1 := M) ?_ hQ (hP _) (Le.refl _)
  have e : PyData.eqv (.list [.int 0, .int (-1), .int 1001, .str "1"]) (.list [.int 0, .int (-1), .int 1001, .str "1"]) = true := by decide +kernel
  rw [← e]
  refine ev_op (M1 := M) (M2 := M) (x := dat (.list [.int 0, .int (-1), .int 1001, .str "1"])) (y := dat (.list [.int 0, .int (-1), .int 1001, .str "1"])) (ev_lstD (ed_cons (M1 := M) ?_ (ed_cons (M1 := M) ?_ (ed_cons (M1 := M) ?_ (ed_cons (M1 := M) ?_ ed_nil)))) (by show 4 ≤ 16777216; decide)) ?_ (rv_eqD isd_dat isd_dat ?_ ?_)
  · exact ev_call (ds := [dat (.int 0), dat (.int 1)]) (M1 := M) (ea_cons ev_int (ea_cons ev_int ea_nil)) rfl (refused_ev (.inl ⟨_, rfl⟩) (.inl ⟨_, rfl⟩) (by rfl))
  · exact ev_call (ds := [dat (.int 1), dat (.int (-1))]) (M1 := M) (ea_cons ev_int (ea_cons (ev_un ev_int ru_neg) ea_nil)) rfl (refused_ev (.inl ⟨_, rfl⟩) (.inl ⟨_, rfl⟩) (by rfl))
  · exact ev_call (ds := [dat (.int 1001), dat (.int 0)]) (M1 := M) (ea_cons ev_int (ea_cons ev_int ea_nil)) rfl (refused_ev (.inl ⟨_, rfl⟩) (.inl ⟨_, rfl⟩) (by rfl))
  · exact ev_call (ds := [dat (.str "1"), dat (.int 0)]) (M1 := M) (ea_cons ev_str (ea_cons ev_int ea_nil)) rfl (refused_ev (.inr ⟨_, rfl⟩) (.inl ⟨_, rfl⟩) (by rfl))
  · walk_at "sx"
  · walk_at "shp"
  · walk_at "shp"
/-- a tick that is refused -/
theorem wrong44 (hS : Sm S) (hD : S.D = dl) (hd : 1 ≤ dl) (hQ : RtQ Q Φ P) (hP : ∀ M', P (dat (.bool true)) M') : Cont (rd_law_19 K T (fnD Q)) Φ (E44 K s pd dl L a n0 n1 none none x8 none none none none) ((pd, cDraw K s j) :: PC T.C_Pace T.C_End a la S) := by
  have hC := T.F_Pace
  walk_at "cut"
  refine c_tryAs (fun ρ' C f y M' => ρ' = E44 K s pd dl L a n0 n1 none none x8 none none none none ∧ C = T.C_BadName ∧ f = "name" ∧ y = dat (.int ((dl : Int) + 1)) ∧ M' = (pd, cDraw K s j) :: PC T.C_Pace T.C_End a la S) ?_ ?_
  · intro W hX
    walk_at "seq"
    refine c_dropL (P := fun _ _ => False) (evl_meth (ns := pN) (ds := [dat (.list [encWs (false, 1), encWs (false, dl + 1)])]) (M1 := (pd, cDraw K s j) :: PC T.C_Pace T.C_End a la S) (M2 := (pd, cDraw K s j) :: PC T.C_Pace T.C_End a la S) (ev_var (.there (.there (.there (.there .here))))) (.tail _ (.head _)) (by decide +kernel) ?_ rfl (PE' := fun C f y M' => C = T.C_BadName ∧ f = "name" ∧ y = dat (.int ((dl : Int) + 1)) ∧ M' = (pd, cDraw K s j) :: PC T.C_Pace T.C_End a la S) ⟨a, la, S, (false, 1), (false, dl + 1), [(pd, cDraw K s j)], rfl, hS, List.perm_append_comm (l₁ := [(pd, cDraw K s j)]), okb ⟨by decide, by show 1 ≤ S.D; omega⟩, .inr ⟨?_, rfl, rfl, rfl, rfl⟩⟩ hX fun C f y M' z => ⟨rfl, z⟩) fun _ _ z => z.elim
    · show EvA _ _ _ [dat (.list [.tuple [.bool false, .int 1], .tuple [.bool false, .int ((dl : Int) + 1)]])] _
      walk_at "sx"
    · unfold okWb
      rw [hD, decide_eq_false (show ¬ dl + 1 ≤ dl by omega), Bool.and_false]
  · rintro Ψ ρ' C f y M' dd hle ⟨rfl, rfl, rfl, rfl, rfl⟩
    refine ⟨T.X_BadName.te, fun b => ?_⟩
    show Cont _ _ [some (vscr K s), some (val (.ref pd)), some (dat (.int (dl : Int))), some (dat (.int (L : Int))), some (val (.ref a.p)), some (dat (.tuple [.int (n0 : Int), .int (n1 : Int)])), none, none, x8, none, none, none, none, some (val (.ref b))] _
    with_reducible apply c_if (b := !decide ((dl : Int) + 1 = (dl : Int) + 1)) (M1 := (dd, cX "name" (dat (.int ((dl : Int) + 1)))) :: (pd, cDraw K s j) :: PC T.C_Pace T.C_End a la S)
    case h =>
      refine et_test (ev_op (ev_xf (ev_var ?_) (.head _)) (ev_op (ev_var ?_) ev_int rv_addI) rv_neI)
      · walk_at "sx"
      · walk_at "sx"
    case h1 => intro hb; simp at hb
    case h2 =>
      intro hb
      walk_at "st"
      show Cont (fun σ' H' => (rd_law_25 K T (fnD Q)) (σ'.set 13 none) H') _ _ _
      refine c_unset ?_
      show Cont (rd_law_25 K T (fnD Q)) _ (E44 K s pd dl L a n0 n1 none none x8 none none none none) _
      exact last44 (fun Φ' ρ σ x M v H l hp s => hQ Φ' ρ σ x M v H (l.trans hle) hp s) hP
theorem end44 (hd : 1 ≤ dl) (hd2 : dl ≤ 1000) (hL : L ≤ 1000) (hS : Sm S) (hD : S.D = dl) (hN : Done44 S) (hQ : RtQ Q Φ P) (hP : ∀ M', P (dat (.bool true)) M') : Cont (rd_law_16 K T (fnD Q)) Φ (E44 K s pd dl L a n0 n1 none none x8 none none none none) ((pd, cDraw K s j) :: PC T.C_Pace T.C_End a la S) := by
  have hC := T.F_Pace
  walk_at "cut"
  with_reducible apply c_if (b := false) (M1 := (pd, cDraw K s j) :: PC T.C_Pace T.C_End a la S)
  case h =>
    have e0 : (((0 + 2) / 3 * 2 * (dl + L + 1) : Nat) : Int) = 0 := by
      rw [show (0 + 2) / 3 * 2 * (dl + L + 1) = 0 by simp]
      rfl
    refine et_orF (M1 := (pd, cDraw K s j) :: PC T.C_Pace T.C_End a la S) (EvT.eq (a := !true) (et_not (et_B ?_)) rfl) (et_orF (M1 := (pd, cDraw K s j) :: PC T.C_Pace T.C_End a la S) (EvT.eq (a := !decide ((((0 + 2) / 3 * 2 * (dl + L + 1) : Nat) : Int) = 0)) (et_test (ev_op (x := dat (.int (((0 + 2) / 3 * 2 * (dl + L + 1) : Nat) : Int))) ?_ ev_int rv_neI)) (by rw [e0]; rfl)) (et_orF (M1 := (pd, cDraw K s j) :: PC T.C_Pace T.C_End a la S) (EvT.eq (a := !true) (et_not (et_B ?_)) rfl) (EvT.eq (a := !true) (et_not (et_B ?_)) rfl)))
    · refine ev_meth (ds := []) (M1 := (pd, cDraw K s j) :: PC T.C_Pace T.C_End a la S) (M2 := (pd, cDraw K s j) :: PC T.C_Pace T.C_End a la S) (ev_var (.there (.there (.there (.there .here))))) (.tail _ (.head _)) (by decide +kernel) ea_nil rfl ⟨a, la, S, [(pd, cDraw K s j)], rfl, hS, List.perm_append_comm (l₁ := [(pd, cDraw K s j)]), fun b hb => ?_⟩
      obtain rfl : b = true := hb.mpr hN
      exact ⟨rfl, rfl⟩
    · exact ev_call (ds := [dat (.int ((0 : Nat) : Int)), dat (.int (dl : Int)), dat (.int (L : Int))]) (M1 := (pd, cDraw K s j) :: PC T.C_Pace T.C_End a la S) (ea_cons ev_int (ea_cons (ev_var (.there (.there .here))) (ea_cons (ev_var (.there (.there (.there .here)))) ea_nil))) rfl (slow_ev (by decide) hd2 hL)
    · exact ev_call (ds := []) (M1 := (pd, cDraw K s j) :: PC T.C_Pace T.C_End a la S) ea_nil rfl ⟨rfl, rfl, rfl⟩
    · exact ev_call (ds := []) (M1 := (pd, cDraw K s j) :: PC T.C_Pace T.C_End a la S) ea_nil rfl ⟨rfl, rfl, rfl⟩
  case h1 => intro hb; cases hb
  case h2 =>
    intro hb
    walk_at "st"
    exact wrong44 hS hD hd hQ hP
end
theorem law_body {K : PySem.W.Frag} {mg : Str → Option Value} (T : Tx K mg) : ∀ Q ds M P Φ, ds.length = 1 → S_law K T ds M P → RtQ Q Φ P → Cont (rd_law_0 K T (fnD Q)) Φ (entry ["_law_script", "_law_draw", "_law_delay", "_law_losses", "_law_pace", "_law_words", "_law_at", "_law_word", "_law_harsh", "_law_tick", "_law_wishes", "_law_one", "_law_other", "fault"] ds) M := by
  rintro Q ds M P Φ - ⟨s, rfl, rfl, hs63, hP⟩ hQ
  have hC := T.F_Pace
  show Cont _ _ [some (vscr K s), none, none, none, none, none, none, none, none, none, none, none, none, none] _
  walk_at "seq"
  refine c_asgR (er_lstC (ds := [vscr K s, dat (.int 0)]) (by walk_at "sx") (by walk_at "side")) ?_
  rintro y M1 ⟨pd, rfl, rfl⟩
  apply asgR_k <;> (first | walk_at "sx" | skip)
  have d0 := tk_nn (s := s) (k := 0 + 1) (m := 4) (by decide)
  have d1 := tk_lt (s := s) (k := 0 + 1) (m := 4) (by decide)
  have l0 := tk_nn (s := s) (k := 0 + 1 + 1) (m := 4) (by decide)
  have l1 := tk_lt (s := s) (k := 0 + 1 + 1) (m := 4) (by decide)
  have a0 := tk_nn (s := s) (k := 0 + 1 + 1 + 1) (m := 9) (by decide)
  have a1 := tk_lt (s := s) (k := 0 + 1 + 1 + 1) (m := 9) (by decide)
  have b0 := tk_nn (s := s) (k := 0 + 1 + 1 + 1 + 1) (m := 9) (by decide)
  have b1 := tk_lt (s := s) (k := 0 + 1 + 1 + 1 + 1) (m := 9) (by decide)
  obtain ⟨dl, hdl⟩ : ∃ v : Nat, 1 + tk s (0 + 1) 4 = (v : Int) := ⟨(1 + tk s (0 + 1) 4).toNat, (Int.toNat_of_nonneg (by omega)).symm⟩
  obtain ⟨L, hL⟩ : ∃ v : Nat, tk s (0 + 1 + 1) 4 = (v : Int) := ⟨_, (Int.toNat_of_nonneg l0).symm⟩
  obtain ⟨n0, hn0⟩ : ∃ v : Nat, tk s (0 + 1 + 1 + 1) 9 = (v : Int) := ⟨_, (Int.toNat_of_nonneg a0).symm⟩
  obtain ⟨n1, hn1⟩ : ∃ v : Nat, tk s (0 + 1 + 1 + 1 + 1) 9 = (v : Int) := ⟨_, (Int.toNat_of_nonneg b0).symm⟩
  walk_at "st"
  rw [hdl, hL]
  show Cont (rd_law_2 K T (fnD Q)) Φ [some (vscr K s), some (val (.ref pd)), some (dat (.int (dl : Int))), some (dat (.int (L : Int))), none, none, none, none, none, none, none, none, none, none] [(pd, cDraw K s (0 + 1 + 1))]
  walk_at "seq"
  refine c_parR (P := fun ds N => ∃ a la, ds = [val (.ref a.p), dat (.tuple [.int (n0 : Int), .int (n1 : Int)])] ∧ N = PC T.C_Pace T.C_End a la (newP dl L fun _ => []) ++ [(pd, cDraw K s (0 + 1 + 1 + 1 + 1))]) ?_ ?_
  · refine ear_cons (new_er (D := dl) (L := L) (ea_cons (ev_var (.there (.there .here))) (ea_cons (ev_var (.there (.there (.there .here)))) ea_nil)) (by omega) (by omega) (by omega)) ?_
    rintro x M1 ⟨a, la, rfl, rfl⟩
    refine EvAR.of (ds := [dat (.tuple [.int (n0 : Int), .int (n1 : Int)])]) (M1 := PC T.C_Pace T.C_End a la (newP dl L fun _ => []) ++ [(pd, cDraw K s (0 + 1 + 1 + 1 + 1))]) (ea_cons (ev_tupD (ed_cons (M1 := PC T.C_Pace T.C_End a la (newP dl L fun _ => []) ++ [(pd, cDraw K s (0 + 1 + 1 + 1))]) ?_ (ed_cons ?_ ed_nil)) (by show 2 ≤ 16777216; decide)) ea_nil) ⟨a, la, rfl, rfl⟩
    · rw [← hn0]
      exact ev_call (ds := [val (.ref pd), dat (.int 9)]) (M1 := PC T.C_Pace T.C_End a la (newP dl L fun _ => []) ++ [(pd, cDraw K s (0 + 1 + 1))]) (ea_cons (ev_var (.there .here)) (ea_cons ev_int ea_nil)) rfl (take_ev (.there (.there (.there (.there (.there (.there (.there (.there (.there .here))))))))) (by decide))
    · rw [← hn1]
      exact ev_call (ds := [val (.ref pd), dat (.int 9)]) (M1 := PC T.C_Pace T.C_End a la (newP dl L fun _ => []) ++ [(pd, cDraw K s (0 + 1 + 1 + 1))]) (ea_cons (ev_var (.there .here)) (ea_cons ev_int ea_nil)) rfl (take_ev (.there (.there (.there (.there (.there (.there (.there (.there (.there .here))))))))) (by decide))
  rintro xs M1 ⟨a, la, rfl, rfl⟩
  refine ⟨_, _, _, _, rfl, .there (.there (.there (.there .here))), .there (.there (.there (.there (.there .here)))), ?_⟩
  refine c_perm (M' := (pd, cDraw K s (0 + 1 + 1 + 1 + 1)) :: PC T.C_Pace T.C_End a la (newP dl L fun _ => [])) (List.perm_append_comm (l₂ := [(pd, cDraw K s (0 + 1 + 1 + 1 + 1))])) ?_
  show Cont (rd_law_3 K T (fnD Q)) Φ (E44 K s pd dl L a n0 n1 none none none none none none none) _
  have hn0' : n0 ≤ 10 := by omega
  have hn1' : n1 ≤ 10 := by omega
  refine words44 hn0' hn1' ?_
  walk_at "st"
  generalize decide (tk s (0 + 1 + 1 + 1 + 1 + 1) 3 = 0) = h
  show Cont (rd_law_7 K T (fnD Q)) Φ (E44 K s pd dl L a n0 n1 none none (some (dat (.bool h))) none none none none) ((pd, cDraw K s (0 + 1 + 1 + 1 + 1 + 1)) :: PC T.C_Pace T.C_End a la (runP (S44 dl L n0 n1) []))
  walk_at "cut"
  have hmax : ((max n0 n1 : Nat) : Int) = max (n0 : Int) (n1 : Int) := by omega
  generalize hN : (max n0 n1 + 2) / 3 * 2 * (dl + L + 1) = N
  have hN' : N ≤ 1000 := by
    rw [← hN]
    have q1 : (max n0 n1 + 2) / 3 * 2 ≤ 8 := by omega
    have q2 : dl + L + 1 ≤ 10 := by omega
    exact Nat.le_trans (Nat.mul_le_mul q1 q2) (by decide)
  with_reducible apply c_for (its := irange 0 N) (M1 := (pd, cDraw K s (0 + 1 + 1 + 1 + 1 + 1)) :: PC T.C_Pace T.C_End a la (runP (S44 dl L n0 n1) [])) (I := fun i => J44 K T.C_Pace T.C_End s pd dl L a n0 n1 h i)
  case h =>
    have e : irange 0 N = irange 0 ((N : Int)).toNat := rfl
    rw [e, ← hN]
    refine ei_rng1 (ea_cons (ev_call (ds := [dat (.int ((max n0 n1 : Nat) : Int)), dat (.int (dl : Int)), dat (.int (L : Int))]) (M1 := (pd, cDraw K s (0 + 1 + 1 + 1 + 1 + 1)) :: PC T.C_Pace T.C_End a la (runP (S44 dl L n0 n1) [])) (ea_cons ?_ (ea_cons (ev_var (.there (.there .here))) (ea_cons (ev_var (.there (.there (.there .here)))) ea_nil))) rfl (slow_ev (by omega) (by omega) (by omega))) ea_nil) (by rw [hN]; omega)
    rw [hmax]
    exact ev_cb (ea_cons (ev_var (.there (.there (.there (.there (.there .here)))))) ea_nil) rc_maxT
  case h0 => exact ⟨[], la, _, rfl, (fun _ h => nomatch h), rfl, rfl⟩
  case hd =>
    rintro ρ' M' ⟨ws, la, j, hl, hw, rfl, rfl⟩
    rw [show (irange 0 N).length = N by simp [irange]] at hl
    have ho : ∀ b, (outs44 n0 n1 b).length ≤ max n0 n1 := fun b => by rw [out_len]; split <;> omega
    refine end44 (by omega) (by omega) (by omega) (run_sm hw (fun b => Nat.le_trans (ho b) (by omega)) (by omega)) (run_D _ _).1 (done44 (n := max n0 n1) (new_G _ _ _) (by show 1 ≤ dl; omega) hw ho ?_) hQ hP
    rw [hl, ← hN]
    show _ = (max n0 n1 + 2) / 3 * (2 * (dl + L + 1))
    rw [Nat.mul_assoc]
  case hs =>
    rintro Ψ hΨ i d ρ' M' hi ⟨ws, la, j, hl, hw, rfl, rfl⟩
    have hiN : i < N := by
      have := (List.getElem?_eq_some_iff.mp hi).1
      rw [show (irange 0 N).length = N by simp [irange]] at this
      exact this
    obtain rfl := range_at hi
    apply for_k <;> (first | walk_at "sx" | skip)
    exact turn44 hn0' hn1' (by omega) hl (by omega) hw rfl

end Lw


set_option Elab.async false
set_option linter.all false
set_option maxRecDepth 100000
set_option maxHeartbeats 4000000
namespace Lw
open PySem L2 Sx
/-! ### steps -/
local macro_rules | `(tactic| walk_at "shp") => `(tactic| first
  | exact shp_int
  | exact shp_none
  | exact shp_bool
  | exact shp_oi _
  | (apply shp_str; first | decide +kernel | assumption)
  | (apply shp_list; walk_at "shpA")
  | (apply shp_tuple; walk_at "shpA")
  | assumption)
local macro_rules | `(tactic| walk_at "shpA") => `(tactic| first
  | exact shpA_nil
  | (apply shpA_cons; (· walk_at "shp"); walk_at "shpA")
  | (apply shpA_map; intro _ _; walk_at "shp"))
/-- what is left beside: closed, or left -/
local macro_rules | `(tactic| walk_at "side") => `(tactic| first
  | (with_reducible show Shp _ _); walk_at "shp"
  | (with_reducible show _ ≤ sizeLine); first | decide | (show _ ≤ 16777216; omega) | (show _ ≤ 16777216; simp only [List.length_map, List.length_append, List.length_cons, List.length_nil]; omega)
  | (with_reducible show _ < sizeLine); first | decide | (show _ < 16777216; omega) | (show _ < 16777216; simp only [List.length_map, List.length_append, List.length_cons, List.length_nil]; omega)
  | (with_reducible show CMul _ _); first | exact Or.inr ⟨by decide, by decide⟩ | exact Or.inl ⟨by decide, by decide⟩ | exact Or.inl ⟨by omega, by omega⟩ | exact Or.inr ⟨by omega, by omega⟩
  | (with_reducible show CPow _ _); exact ⟨by decide, by decide, by decide⟩
  | (with_reducible show CDiv _ _); first | exact ⟨by decide, by decide⟩ | exact ⟨by omega, by omega⟩
  | (with_reducible show Le _ _); first | with_reducible exact Le.refl _ | with_reducible assumption
  | (with_reducible show L2.atI _ _ = _); first | with_reducible assumption | exact rfl | exact atI_nat rfl
  | (with_reducible show _ < _); first | with_reducible assumption | decide | omega
  | (with_reducible show _ ≤ _); first | with_reducible assumption | decide | omega
  | (with_reducible show _ ∧ _); omega
  | (with_reducible show ∀ i, i ∈ _ → i ∈ _); decide
  | (with_reducible show (_ : Nat) = _); first | exact rfl | omega)
local macro_rules | `(tactic| walk_at "rm") => `(tactic| first
  | exact Rm.here
  | (apply Rm.there; walk_at "rm"))
local macro_rules | `(tactic| walk_at "perm") => `(tactic| first
  | with_reducible exact List.Perm.refl _
  | (apply perm_step; (· walk_at "rm"); walk_at "perm")
  | exact List.Perm.refl _)
local macro_rules | `(tactic| walk_at "pk") => `(tactic| first
  | with_reducible exact Pk.here
  | ((with_reducible apply Pk.there); walk_at "pk"))
/-- a part of a reading: what it gives. One word for all kinds -/
local macro_rules | `(tactic| walk_at "sx") => `(tactic| first
  -- an expression
  | with_reducible exact ev_int
  | with_reducible exact ev_bl
  | with_reducible exact ev_str
  | with_reducible exact ev_non
  | (with_reducible apply ev_var) <;> walk_at "sx"
  | (with_reducible apply ev_op) <;> walk_at "sx"
  | (with_reducible apply ev_fld) <;> walk_at "sx"
  | (with_reducible apply ev_cb) <;> walk_at "sx"
  | (with_reducible apply ev_tupD) <;> walk_at "sx"
  | (with_reducible apply ev_lstD) <;> walk_at "sx"
  | (with_reducible apply ev_tupV) <;> walk_at "sx"
  | (with_reducible apply ev_lstV) <;> walk_at "sx"
  | (with_reducible apply ev_slL) <;> walk_at "sx"
  | (with_reducible apply ev_slT1) <;> walk_at "sx"
  | (with_reducible apply ev_slT) <;> walk_at "sx"
  | (with_reducible apply ev_un) <;> walk_at "sx"
  | (with_reducible apply ev_chain) <;> walk_at "sx"
  | (with_reducible apply ev_andV) <;> walk_at "sx"
  | (with_reducible apply ev_orV) <;> walk_at "sx"
  | (with_reducible apply ev_notV) <;> walk_at "sx"
  | (with_reducible apply ev_lcY) <;> walk_at "sx"
  | (with_reducible apply ev_lc) <;> walk_at "sx"
  | ((with_reducible show ∀ a, a ∈ _ → ∃ ρ'' js, _); intro a ha; dsimp only [wipeE, List.set]; (first | with_reducible apply lcY_k | with_reducible apply lcF_k) <;> walk_at "sx")
  | (with_reducible apply ev_call) <;> walk_at "sx"
  | (with_reducible apply ev_meth) <;> walk_at "sx"
  | (with_reducible apply ev_bm) <;> walk_at "sx"
  | (with_reducible show Ev _ _ _ _ _); walk_at "own"
  -- a test
  | with_reducible exact et_yes
  | (with_reducible apply et_test) <;> walk_at "sx"
  | (with_reducible apply et_B) <;> walk_at "sx"
  | (with_reducible apply et_not) <;> walk_at "sx"
  | (with_reducible apply et_and) <;> walk_at "sx"
  | (with_reducible apply et_or) <;> walk_at "sx"
  -- arguments
  | with_reducible exact ea_nil
  | (with_reducible apply ea_cons) <;> walk_at "sx"
  | with_reducible exact ed_nil
  | (with_reducible apply ed_cons) <;> walk_at "sx"
  | with_reducible exact eo_none
  | (with_reducible apply eo_some) <;> walk_at "sx"
  -- what an operation gives
  | with_reducible exact rv_addI
  | with_reducible exact rv_int0
  | with_reducible exact rv_bl0
  | with_reducible exact rv_eqI
  | with_reducible exact rv_neI
  | with_reducible exact rv_eqS
  | with_reducible exact rv_neS
  | with_reducible exact rv_isN
  | with_reducible exact rv_notN
  | (with_reducible apply rv_intC) <;> walk_at "sx"
  | (with_reducible apply rv_addS) <;> walk_at "sx"
  | (with_reducible apply rv_ixL isl_dat) <;> walk_at "sx"
  | (with_reducible apply rv_ixT ist_dat) <;> walk_at "sx"
  | (with_reducible apply rv_ixL) <;> walk_at "sx"
  | (with_reducible apply rv_ixLV) <;> walk_at "sx"
  | (apply rv_ixT ist_dat) <;> walk_at "sx"
  | (with_reducible apply rv_ixTV istv_vtup) <;> walk_at "sx"
  | (with_reducible apply rv_ixScr) <;> walk_at "sx"
  | (apply rv_ixL isl_dat) <;> walk_at "sx"
  | (with_reducible apply rv_ixL) <;> walk_at "sx"
  | (apply rv_cat) <;> walk_at "sx"
  | (with_reducible apply rv_eqD) <;> walk_at "sx"
  | (with_reducible apply rv_neD) <;> walk_at "sx"
  | with_reducible exact ru_neg
  | with_reducible exact rc_int
  | with_reducible exact rc_abs
  | with_reducible exact rc_max2
  | with_reducible exact rc_min2
  | with_reducible exact rc_lenScr
  | with_reducible exact rc_lenM isl_dat
  | ((with_reducible apply rc_lenM); (with_reducible apply isl_cell) <;> walk_at "sx")
  | with_reducible exact rc_lenMT
  | (with_reducible apply rc_lenL) <;> walk_at "sx"
  | (apply rc_lenT ist_dat)
  | (with_reducible apply rc_tupL) <;> walk_at "sx"
  | (apply rc_tupT)
  | (with_reducible apply rc_lstL) <;> walk_at "sx"
  | (apply rc_lstT ist_dat)
  | with_reducible exact rc_anyM
  | with_reducible exact rc_allM
  | ((with_reducible apply rm_append) <;> walk_at "sx")
  -- lists, tuples, data
  | with_reducible exact isl_dat
  | with_reducible exact isd_dat
  | with_reducible exact isd_scr
  | (with_reducible apply isl_cell) <;> walk_at "sx"
  | (with_reducible apply islv_cell) <;> walk_at "sx"
  | with_reducible exact islv_vlst
  | (with_reducible apply isd_cell) <;> walk_at "sx"
  | (with_reducible apply isd_vtup) <;> walk_at "sx"
  | (with_reducible apply isd_vlst) <;> walk_at "sx"
  | with_reducible exact isds_nil
  | (with_reducible apply isds_cons) <;> walk_at "sx"
  | with_reducible exact fzl_dat
  | with_reducible exact fzl_v
  | with_reducible exact fzt_dat
  | with_reducible exact fzt_v
  | (with_reducible apply ity_l) <;> walk_at "sx"
  | with_reducible exact ity_s
  | (with_reducible apply IsLst.v) <;> walk_at "sx"
  -- places
  | with_reducible exact At.here
  | (with_reducible apply At.there) <;> walk_at "sx"
  | with_reducible exact SetAt.here
  | (with_reducible apply SetAt.there) <;> walk_at "sx"
  | with_reducible exact List.mem_cons_self
  | (with_reducible apply List.mem_cons_of_mem) <;> walk_at "sx"
  | ((with_reducible show (_ : Addr × CD) ∈ _); with_reducible assumption)
  | with_reducible exact Put.here
  | (with_reducible apply Put.there) <;> walk_at "sx"
  | ((with_reducible show Put _ _ _ _ _); with_reducible assumption)
  | ((with_reducible show Sw _ _ _ _); with_reducible assumption)
  | with_reducible exact sw_nil
  | ((with_reducible apply sw_pick); (· walk_at "pk"); walk_at "sx")
  | ((with_reducible apply sw_skip); walk_at "sx")
  | with_reducible exact FGet.here
  | ((with_reducible apply FGet.there); (· decide +kernel); walk_at "sx")
  | with_reducible exact FPut.here
  | with_reducible exact FPut.new
  | ((with_reducible apply FPut.there); (· decide +kernel); walk_at "sx")
  | (with_reducible show ClsF _ _ _); with_reducible assumption
  | (with_reducible show RtQ _ _ _); assumption
  | (with_reducible show (_ : Str) ∈ _); decide +kernel
  | (with_reducible show ¬ (_ : Str) ∈ _); decide +kernel
  -- what is walked, targets
  | (with_reducible apply ei_rng1) <;> walk_at "sx"
  | (with_reducible apply ei_rng2) <;> walk_at "sx"
  | (with_reducible apply ei_enumD) <;> walk_at "sx"
  | (with_reducible apply ei_enum) <;> walk_at "sx"
  | (with_reducible apply ei_zip) <;> walk_at "sx"
  | (with_reducible apply ei_seqLM) <;> walk_at "sx"
  | (with_reducible apply ei_seqTM) <;> walk_at "sx"
  | (with_reducible apply ei_seqL) <;> walk_at "sx"
  | (with_reducible apply ei_seqT) <;> walk_at "sx"
  | (with_reducible apply tg_name) <;> walk_at "sx"
  | (with_reducible apply tg_tup istv_vtup) <;> walk_at "sx"
  | (with_reducible apply td_tup) <;> walk_at "sx"
  | with_reducible exact td_nil
  | (with_reducible apply td_cons) <;> walk_at "sx"
  | with_reducible exact tgs_nil
  | (with_reducible apply tgs_cons) <;> walk_at "sx"
  -- beside
  | walk_at "spec"
  | walk_at "side"
  | walk_at "leave")
/-- a question of another kind is left -/
local macro_rules | `(tactic| walk_at "leave") => `(tactic| first
  | with_reducible show Cont _ _ _ _
  | with_reducible show Shp _ _
  | with_reducible show _ ≤ _
  | with_reducible show _ < _
  | with_reducible show CMul _ _
  | with_reducible show CDiv _ _
  | with_reducible show CPow _ _
  | with_reducible show _ = _
  | with_reducible show Le _ _
  | ((with_reducible show _ = true → _); with_reducible assumption)
  | ((with_reducible show _ = true → _); intro _; walk_at "sx")
  | ((with_reducible show _ = false → _); intro _; walk_at "sx"))
/-- a plain statement -/
local macro_rules | `(tactic| walk_at "st") => `(tactic| first
  | (with_reducible apply c_seq); walk_at "st"
  | (with_reducible apply c_asg) <;> (first | walk_at "sx" | skip)
  | (with_reducible apply c_asgG) <;> (first | walk_at "sx" | skip)
  | (with_reducible apply c_par) <;> (first | walk_at "sx" | skip)
  | (with_reducible apply c_par3) <;> (first | walk_at "sx" | skip)
  | (with_reducible apply c_aug) <;> (first | walk_at "sx" | skip)
  | (with_reducible apply c_augS) <;> (first | walk_at "sx" | skip)
  | (with_reducible apply c_fld) <;> (first | walk_at "sx" | skip)
  | (with_reducible apply c_drop) <;> (first | walk_at "sx" | skip)
  | with_reducible apply c_next
  | with_reducible apply c_break
  | with_reducible apply c_cont)
/-- a value is handed back; a word is met again -/
local macro_rules | `(tactic| walk_at "ret") => `(tactic| (with_reducible apply c_ret) <;> (first | walk_at "sx" | skip))
local macro_rules | `(tactic| walk_at "inv") => `(tactic| (with_reducible apply c_inv) <;> (first | walk_at "side" | skip))
local macro_rules | `(tactic| walk_at "seq") => `(tactic| with_reducible apply c_seq)
local macro_rules | `(tactic| walk_at "cut") => `(tactic| with_reducible apply c_cut)
local macro_rules | `(tactic| walk_at "if") => `(tactic| ((with_reducible apply c_if); (case' h => first | walk_at "sx" | skip)))
local macro_rules | `(tactic| walk_at "fgt") => `(tactic| first
  | exact Fgt.nil
  | (with_reducible apply Fgt.keep; walk_at "fgt")
  | (with_reducible apply Fgt.drop; walk_at "fgt"))

/-! ### more steps: stars, dicts, tuples -/
local macro_rules | `(tactic| walk_at "sx") => `(tactic| first
  | (with_reducible apply ed_starT) <;> walk_at "sx"
  | (with_reducible apply ev_dgetS) <;> walk_at "sx"
  | with_reducible exact isdi_v
  | (with_reducible apply isdi_c) <;> walk_at "sx"
  | (with_reducible apply rv_catTd) <;> walk_at "sx"
  | with_reducible exact ist_dat
  | ((with_reducible show ¬ (_ : Int) < _); with_reducible assumption)
  | ((with_reducible show valG _ _ = _); walk_at "get")
  | ((with_reducible show putG _ _ _ = _); walk_at "get"))

theorem ok_law_number {w : World} {K : PySem.W.Frag} {mg : Str → Option Value} {base : Heap} (T : Tx K mg)
    (R : ∀ Q ds M P Φ, ds.length = 2 → S_law_number K T ds M P → RtQ Q Φ P → Cont (rd_law_number_0 K T (fnD Q)) Φ (entry ["_law_script", "_law_index", "_law_cell", "_law_blend"] ds) M) :
    FnOk T.Pg w K mg base CX0 1 T.f_law_number T.fd_law_number ["_law_script", "_law_index"] (spF 2 (S_law_number K T)) := by
  refine T.F_law_number.ok sc_law_number (fun vs H Q E h => spF_len h) fun cdv A outer s H vs Q E hr h => ⟨(rd_law_number_0 K T), ?_, fn_start h (R Q)⟩
  exact (Evl.pss_cut (ps_if (pt_cmpR (op_eqU hr.units) (pv 0) (pe_lst pa_nil) (nomark _))
      (pss_one (ps_ret (pe_callTy call_int1' (by rfl) T.no_int (by decide +kernel) (pa_cons (pe_op op_mod (pe_op op_addU (pe_op op_mul (pv 1) pe_int) pe_int) pe_int) pa_nil))))
      pss_nil)
      (pss_cons (ps_set (i := 2) sc_law_number.nd rfl (by first | exact Or.inl rfl | exact Or.inr rfl) (pe_ix ix_seq (pv 0) (pe_op op_mod (pv 1) (pe_callB call_lenU (by rfl) T.no_len PySem.boot_len (pa_cons (pv 0) pa_nil))) (fun _ _ => rfl)))
      (Evl.pss_cut (ps_if (pt_cmpR op_ge (pe_callB call_abs' (by rfl) T.no_abs (by decide +kernel) (pa_cons (pv 2) pa_nil)) (pe_op op_pow pe_int pe_int) (nomark _))
      (pss_one (ps_set (i := 2) sc_law_number.nd rfl (by first | exact Or.inl rfl | exact Or.inr rfl) (pe_op op_mod (pv 2) (pe_op op_pow pe_int pe_int))))
      pss_nil)
      (pss_cons (ps_set (i := 3) sc_law_number.nd rfl (by first | exact Or.inl rfl | exact Or.inr rfl) (pe_op op_mod (pe_op op_addU (pe_op op_mul (pe_op op_addU (pv 2) (pe_op op_mul pe_int (pv 1))) pe_int) (pe_op op_mul pe_int (pe_callB call_lenU (by rfl) T.no_len PySem.boot_len (pa_cons (pv 0) pa_nil)))) pe_int))
      (pss_one (ps_ret (pe_callTy call_int1' (by rfl) T.no_int (by decide +kernel) (pa_cons (pe_op op_mod (pe_op op_addU (pe_op op_mul (pe_op op_mod (pe_op op_mul (pv 3) pe_int) pe_int) pe_int) (pv 1)) pe_int) pa_nil))))))))
theorem ok_law_take {w : World} {K : PySem.W.Frag} {mg : Str → Option Value} {base : Heap} (T : Tx K mg)
    (G_law_number : FnOk T.Pg w K mg base CX0 1 T.f_law_number T.fd_law_number ["_law_script", "_law_index"] (spF 2 (S_law_number K T)))
    (R : ∀ Q ds M P Φ, ds.length = 2 → S_law_take K T ds M P → RtQ Q Φ P → Cont (rd_law_take_0 K T (fnD Q)) Φ (entry ["_law_draw", "_law_many"] ds) M) :
    FnOk T.Pg w K mg base CX0 2 T.f_law_take T.fd_law_take ["_law_draw", "_law_many"] (spF 2 (S_law_take K T)) := by
  refine T.F_law_take.ok sc_law_take (fun vs H Q E h => spF_len h) fun cdv A outer s H vs Q E hr h => ⟨(rd_law_take_0 K T), ?_, fn_start h (R Q)⟩
  exact (pss_cons (ps_augS (pv 0) pe_int get_list pe_int ip_add set_list)
      (pss_one (ps_ret (pe_op op_mod (pe_callTy call_int1' (by rfl) T.no_int (by decide +kernel) (pa_cons (pe_call (G_law_number) (hr.mono (by decide)) rfl T.mg_law_number T.k_law_number T.b_law_number .nil pass0 (pa_cons (pe_ix ix_seq (pv 0) pe_int (fun _ _ => rfl)) (pa_cons (pe_callTy call_int1' (by rfl) T.no_int (by decide +kernel) (pa_cons (pe_ix ix_seq (pv 0) pe_int (fun _ _ => rfl)) pa_nil)) pa_nil))) pa_nil)) (pv 1)))))
theorem ok_End_init {w : World} {K : PySem.W.Frag} {mg : Str → Option Value} {base : Heap} (T : Tx K mg)
    (R : ∀ Q ds M P Φ, ds.length = 1 → S_End_init K T ds M P → RtQ Q Φ P → Cont (rd_End_init_0 K T (fnD Q)) Φ (entry ["self"] ds) M) :
    FnOk T.Pg w K mg base CX0 1 T.f_End_init T.fd_End_init ["self"] (spF 1 (S_End_init K T)) := by
  refine T.F_End_init.ok sc_End_init (fun vs H Q E h => spF_len h) fun cdv A outer s H vs Q E hr h => ⟨(rd_End_init_0 K T), ?_, fn_start h (R Q)⟩
  exact (pss_cons (ps_fld (pv 0) (pe_lst pa_nil) rfl)
      (pss_cons (ps_fld (pv 0) pe_int rfl)
      (pss_cons (ps_fld (pv 0) (pe_lst pa_nil) rfl)
      (pss_one (ps_fld (pv 0) pe_int rfl)))))
theorem ok_End_put {w : World} {K : PySem.W.Frag} {mg : Str → Option Value} {base : Heap} (T : Tx K mg)
    (R : ∀ Q ds M P Φ, ds.length = 2 → S_End_put K T ds M P → RtQ Q Φ P → Cont (rd_End_put_0 K T (fnD Q)) Φ (entry ["self", "word"] ds) M) :
    FnOk T.Pg w K mg base CX0 1 T.f_End_put T.fd_End_put ["self", "word"] (spF 2 (S_End_put K T)) := by
  refine T.F_End_put.ok sc_End_put (fun vs H Q E h => spF_len h) fun cdv A outer s H vs Q E hr h => ⟨(rd_End_put_0 K T), ?_, fn_start h (R Q)⟩
  exact (pss_one (ps_expr (pe_bm PySem.F.plainAttrs_list PySem.F.slot_list_append PySem.F.type_list_append mt_append (pe_fld (pv 0) rfl) (pa_cons (pv 1) pa_nil))))
theorem ok_End_frames {w : World} {K : PySem.W.Frag} {mg : Str → Option Value} {base : Heap} (T : Tx K mg)
    (R : ∀ Q ds M P Φ, ds.length = 1 → S_End_frames K T ds M P → RtQ Q Φ P → Cont (rd_End_frames_0 K T (fnD Q)) Φ (entry ["self", "rows", "found", "at", "word"] ds) M) :
    FnOk T.Pg w K mg base CX0 1 T.f_End_frames T.fd_End_frames ["self"] (spF 1 (S_End_frames K T)) := by
  refine T.F_End_frames.ok sc_End_frames (fun vs H Q E h => spF_len h) fun cdv A outer s H vs Q E hr h => ⟨(rd_End_frames_0 K T), ?_, fn_start h (R Q)⟩
  exact (pss_cons (ps_set (i := 1) sc_End_frames.nd rfl (by first | exact Or.inl rfl | exact Or.inr rfl) (pe_slice sl_U (pe_fld (pv 0) rfl) (po_some (pe_fld (pv 0) rfl)) (po_some (pe_op op_addU (pe_fld (pv 0) rfl) (pe_glob rfl T.mg_WINDOW ⟨_, rfl⟩)))))
      (pss_cons (ps_setLc (i := 2) (own := [("at", 3), ("word", 4)]) (g := (gTup K 2 (gCons (gName 3) (gCons (gName 4) gNil)))) (tt := tYes) rfl sc_End_frames.nd rfl rfl (sw_true rfl rfl rfl (by decide +kernel)) (pi_enum (by rfl) T.no_enumerate (pa_cons (pv 1) pa_nil)) (blkOk_by (own := [("at", 3), ("word", 4)]) (N := ["self", "rows", "found", "at", "word"]) (sc := defScope s_End_frames) (by decide +kernel)) (fun _ _ _ _ _ => (pg_tup rfl (pgs_cons (pg_name (i := 3) sc_End_frames.nd rfl (by first | exact Or.inl rfl | exact Or.inr rfl)) (pgs_cons (pg_name (i := 4) sc_End_frames.nd rfl (by first | exact Or.inl rfl | exact Or.inr rfl)) pgs_nil)))) (fun _ _ _ _ _ => pts_nil) (fun _ _ _ _ _ => (pe_tup (pa_cons pe_str (pa_cons (pe_op op_addU (pe_fld (pv 0) rfl) (pv 3)) (pa_cons (pv 4) (pa_cons (pe_callB call_lenU (by rfl) T.no_len PySem.boot_len (pa_cons (pe_fld (pv 0) rfl) pa_nil)) pa_nil)))))))
      (pss_one (ps_ret (pe_ifExp (pt_cmpR (op_neU hr.units) (pv 2) (pe_lst pa_nil) (nomark _)) (pe_callTy call_tuple_of' (by rfl) T.no_tuple (by decide +kernel) (pa_cons (pv 2) pa_nil)) (pe_tup (pa_cons (pe_tup (pa_cons pe_str (pa_cons pe_non (pa_cons pe_non (pa_cons (pe_callB call_lenU (by rfl) T.no_len PySem.boot_len (pa_cons (pe_fld (pv 0) rfl) pa_nil)) pa_nil))))) pa_nil)))))))
theorem ok_End_hear {w : World} {K : PySem.W.Frag} {mg : Str → Option Value} {base : Heap} (T : Tx K mg)
    (R : ∀ Q ds M P Φ, ds.length = 3 → S_End_hear K T ds M P → RtQ Q Φ P → Cont (rd_End_hear_0 K T (fnD Q)) Φ (entry ["self", "epoch", "frame", "number", "word", "answered"] ds) M) :
    FnOk T.Pg w K mg base CX0 1 T.f_End_hear T.fd_End_hear ["self", "epoch", "frame"] (spF 3 (S_End_hear K T)) := by
  refine T.F_End_hear.ok sc_End_hear (fun vs H Q E h => spF_len h) fun cdv A outer s H vs Q E hr h => ⟨(rd_End_hear_0 K T), ?_, fn_start h (R Q)⟩
  exact (Evl.pss_cut (ps_if (pt_cmpR op_lt (pv 1) (pe_fld (pv 0) rfl) (nomark _))
      (pss_one ps_retN)
      pss_nil)
      (pss_cons (ps_fld (pv 0) (pv 1) rfl)
      (pss_cons (ps_asg (pe_slice sl_U (pv 2) (po_some pe_int) po_none) (pg_tup rfl (pgs_cons (pg_name (i := 3) sc_End_hear.nd rfl (by first | exact Or.inl rfl | exact Or.inr rfl)) (pgs_cons (pg_name (i := 4) sc_End_hear.nd rfl (by first | exact Or.inl rfl | exact Or.inr rfl)) (pgs_cons (pg_name (i := 5) sc_End_hear.nd rfl (by first | exact Or.inl rfl | exact Or.inr rfl)) pgs_nil)))))
      (Evl.pss_cut (ps_if (pt_cmpR (op_eqU hr.units) (pv 3) (pe_callB call_lenU (by rfl) T.no_len PySem.boot_len (pa_cons (pe_fld (pv 0) rfl) pa_nil)) (nomark _))
      (pss_one (ps_expr (pe_bm PySem.F.plainAttrs_list PySem.F.slot_list_append PySem.F.type_list_append mt_append (pe_fld (pv 0) rfl) (pa_cons (pv 4) pa_nil))))
      pss_nil)
      (pss_one (ps_if (pt_chain op_lt op_le (pe_fld (pv 0) rfl) (pv 5) (pe_callB call_lenU (by rfl) T.no_len PySem.boot_len (pa_cons (pe_fld (pv 0) rfl) pa_nil)))
      (pss_one (ps_fld (pv 0) (pv 5) rfl))
      pss_nil))))))
theorem ok_is_whole {w : World} {K : PySem.W.Frag} {mg : Str → Option Value} {base : Heap} (T : Tx K mg)
    (R : ∀ Q ds M P Φ, ds.length = 3 → S_is_whole K T ds M P → RtQ Q Φ P → Cont (rd_is_whole_0 K T (fnD Q)) Φ (entry ["thing", "low", "high"] ds) M) :
    FnOk T.Pg w K mg base CX0 1 T.f_is_whole T.fd_is_whole ["thing", "low", "high"] (spF 3 (S_is_whole K T)) := by
  refine T.F_is_whole.ok sc_is_whole (fun vs H Q E h => spF_len h) fun cdv A outer s H vs Q E hr h => ⟨(rd_is_whole_0 K T), ?_, fn_start h (R Q)⟩
  exact (pss_one (ps_ret (pe_and (pe_callB call_isi (by rfl) T.no_isinstance (by decide +kernel) (pa_cons (pv 0) (pa_cons (pe_bltn (v := .ty "int") rfl T.no_int (by decide +kernel) rfl) pa_nil))) (pe_and (pe_not (pe_callB call_isi (by rfl) T.no_isinstance (by decide +kernel) (pa_cons (pv 0) (pa_cons (pe_bltn (v := .ty "bool") rfl T.no_bool (by decide +kernel) rfl) pa_nil)))) (pe_one (pe_chain op_le op_le (pv 1) (pv 0) (pv 2)))))))
theorem ok_slowest {w : World} {K : PySem.W.Frag} {mg : Str → Option Value} {base : Heap} (T : Tx K mg)
    (R : ∀ Q ds M P Φ, ds.length = 3 → S_slowest K T ds M P → RtQ Q Φ P → Cont (rd_slowest_0 K T (fnD Q)) Φ (entry ["words", "delay", "losses"] ds) M) :
    FnOk T.Pg w K mg base CX0 1 T.f_slowest T.fd_slowest ["words", "delay", "losses"] (spF 3 (S_slowest K T)) := by
  refine T.F_slowest.ok sc_slowest (fun vs H Q E h => spF_len h) fun cdv A outer s H vs Q E hr h => ⟨(rd_slowest_0 K T), ?_, fn_start h (R Q)⟩
  exact (pss_one (ps_ret (pe_op op_mul (pe_op op_mul (pe_op op_fdiv (pe_op op_sub (pe_op op_addU (pv 0) (pe_glob rfl T.mg_WINDOW ⟨_, rfl⟩)) pe_int) (pe_glob rfl T.mg_WINDOW ⟨_, rfl⟩)) pe_int) (pe_op op_addU (pe_op op_addU (pv 1) (pv 2)) pe_int))))
theorem ok_Pace_init {w : World} {K : PySem.W.Frag} {mg : Str → Option Value} {base : Heap} (T : Tx K mg)
    (G_End_init : FnOk T.Pg w K mg base CX0 1 T.f_End_init T.fd_End_init ["self"] (spF 1 (S_End_init K T)))
    (G_is_whole : FnOk T.Pg w K mg base CX0 1 T.f_is_whole T.fd_is_whole ["thing", "low", "high"] (spF 3 (S_is_whole K T)))
    (R : ∀ W Q ds M P PE Φ, ds.length = 3 → S_Pace_init K T ds M P PE → RtQ Q Φ P → RtX W Φ (fun _ => PE) → Cont (rd_Pace_init_0 K T W (fnD Q)) Φ (entry ["self", "delay", "losses"] ds) M) :
    FnOk T.Pg w K mg base (L2.CX T.Pg w) 3 T.f_Pace_init T.fd_Pace_init ["self", "delay", "losses"] (spX 3 (S_Pace_init K T)) := by
  refine T.F_Pace_init.okX sc_Pace_init (fun vs H Q E h => spX_len h) fun cdv A outer s H vs Q E hr h => ⟨rd_Pace_init_0 K T (fun cls d _ H => E cls d H), ?_, fn_startX (t := fun W => rd_Pace_init_0 K T W) h (fun W => R W Q)⟩
  exact (Evl.pss_cut (ps_if (pt_not (pt_val (pe_call (G_is_whole) (hr.mono (by decide)) rfl T.mg_is_whole T.k_is_whole T.b_is_whole .nil pass0 (pa_cons (pv 1) (pa_cons pe_int (pa_cons (pe_glob rfl T.mg_MOST_WAIT ⟨_, rfl⟩) pa_nil))))))
      (pss_one (ps_raise rfl (takes_of rfl rfl rfl rfl) (PySem.XeBadName.pmk T.X_BadName hr (pa_cons (pv 1) pa_nil))))
      pss_nil)
      (Evl.pss_cut (ps_if (pt_not (pt_val (pe_call (G_is_whole) (hr.mono (by decide)) rfl T.mg_is_whole T.k_is_whole T.b_is_whole .nil pass0 (pa_cons (pv 2) (pa_cons pe_int (pa_cons (pe_glob rfl T.mg_MOST_WAIT ⟨_, rfl⟩) pa_nil))))))
      (pss_one (ps_raise rfl (takes_of rfl rfl rfl rfl) (PySem.XeBadName.pmk T.X_BadName hr (pa_cons (pv 2) pa_nil))))
      pss_nil)
      (pss_cons (ps_fld (pv 0) (pv 1) rfl)
      (pss_cons (ps_fld (pv 0) (pv 2) rfl)
      (pss_cons (ps_fld (pv 0) (pe_tup (pa_cons (pe_make0 T.M_End (G_End_init) (hr.mono (by decide)) rfl T.mg_End T.b_End_init .nil pass0) (pa_cons (pe_make0 T.M_End (G_End_init) (hr.mono (by decide)) rfl T.mg_End T.b_End_init .nil pass0) pa_nil))) rfl)
      (pss_cons (ps_fld (pv 0) pe_int rfl)
      (pss_cons (ps_fld (pv 0) (pe_lst (pa_cons pe_int (pa_cons pe_int pa_nil))) rfl)
      (pss_one (ps_fld (pv 0) (pe_lst pa_nil) rfl)))))))))
theorem ok_Pace_put {w : World} {K : PySem.W.Frag} {mg : Str → Option Value} {base : Heap} (T : Tx K mg)
    (G_End_put : FnOk T.Pg w K mg base CX0 1 T.f_End_put T.fd_End_put ["self", "word"] (spF 2 (S_End_put K T)))
    (R : ∀ Q ds M P Φ, ds.length = 3 → S_Pace_put K T ds M P → RtQ Q Φ P → Cont (rd_Pace_put_0 K T (fnD Q)) Φ (entry ["self", "at", "word"] ds) M) :
    FnOk T.Pg w K mg base CX0 2 T.f_Pace_put T.fd_Pace_put ["self", "at", "word"] (spF 3 (S_Pace_put K T)) := by
  refine T.F_Pace_put.ok sc_Pace_put (fun vs H Q E h => spF_len h) fun cdv A outer s H vs Q E hr h => ⟨(rd_Pace_put_0 K T), ?_, fn_start h (R Q)⟩
  exact (pss_one (ps_expr (pe_meth (pe_ix ix_seq (pe_fld (pv 0) rfl) (pv 1) (fun _ _ => rfl)) T.F_End.cl T.m_End_put (G_End_put) (hr.mono (by decide)) T.b_End_put .nil pass0 (pa_cons (pv 2) pa_nil))))
theorem ok_Pace_tick {w : World} {K : PySem.W.Frag} {mg : Str → Option Value} {base : Heap} (T : Tx K mg)
    (G_End_frames : FnOk T.Pg w K mg base CX0 1 T.f_End_frames T.fd_End_frames ["self"] (spF 1 (S_End_frames K T)))
    (G_End_hear : FnOk T.Pg w K mg base CX0 1 T.f_End_hear T.fd_End_hear ["self", "epoch", "frame"] (spF 3 (S_End_hear K T)))
    (G_is_whole : FnOk T.Pg w K mg base CX0 1 T.f_is_whole T.fd_is_whole ["thing", "low", "high"] (spF 3 (S_is_whole K T)))
    (R : ∀ W Q ds M P PE Φ, ds.length = 2 → S_Pace_tick K T ds M P PE → RtQ Q Φ P → RtX W Φ (fun _ => PE) → Cont (rd_Pace_tick_0 K T W (fnD Q)) Φ (entry ["self", "wishes", "at", "is_lost", "ticks", "late", "time", "goal", "frames", "frame", "letter"] ds) M) :
    FnOk T.Pg w K mg base (L2.CX T.Pg w) 2 T.f_Pace_tick T.fd_Pace_tick ["self", "wishes"] (spX 2 (S_Pace_tick K T)) := by
  refine T.F_Pace_tick.okX sc_Pace_tick (fun vs H Q E h => spX_len h) fun cdv A outer s H vs Q E hr h => ⟨rd_Pace_tick_0 K T (fun cls d _ H => E cls d H), ?_, fn_startX (t := fun W => rd_Pace_tick_0 K T W) h (fun W => R W Q)⟩
  exact (Evl.pss_cut (ps_for (passes_of rfl) rfl (pi_enum (by rfl) T.no_enumerate (pa_cons (pv 1) pa_nil)) (pg_tup rfl (pgs_cons (pg_name (i := 2) sc_Pace_tick.nd rfl (by first | exact Or.inl rfl | exact Or.inr rfl)) (pgs_cons (pg_tup rfl (pgs_cons (pg_name (i := 3) sc_Pace_tick.nd rfl (by first | exact Or.inl rfl | exact Or.inr rfl)) (pgs_cons (pg_name (i := 4) sc_Pace_tick.nd rfl (by first | exact Or.inl rfl | exact Or.inr rfl)) pgs_nil))) pgs_nil)))
      (pss_one (ps_if (pt_not (pt_val (pe_call (G_is_whole) (hr.mono (by decide)) rfl T.mg_is_whole T.k_is_whole T.b_is_whole .nil pass0 (pa_cons (pv 4) (pa_cons pe_int (pa_cons (pe_fld (pv 0) rfl) pa_nil))))))
      (pss_one (ps_raise rfl (takes_of rfl rfl rfl rfl) (PySem.XeBadName.pmk T.X_BadName hr (pa_cons (pv 4) pa_nil))))
      pss_nil)))
      (Evl.pss_cut (ps_for (passes_of rfl) rfl (pi_enum (by rfl) T.no_enumerate (pa_cons (pv 1) pa_nil)) (pg_tup rfl (pgs_cons (pg_name (i := 2) sc_Pace_tick.nd rfl (by first | exact Or.inl rfl | exact Or.inr rfl)) (pgs_cons (pg_tup rfl (pgs_cons (pg_name (i := 3) sc_Pace_tick.nd rfl (by first | exact Or.inl rfl | exact Or.inr rfl)) (pgs_cons (pg_name (i := 4) sc_Pace_tick.nd rfl (by first | exact Or.inl rfl | exact Or.inr rfl)) pgs_nil))) pgs_nil)))
      (pss_one (ps_if (PW.pt (pw_and (pt_val (pv 3)) (pw_and1 (pt_cmpR op_lt (pe_ix ix_seq (pe_fld (pv 0) rfl) (pv 2) (fun _ _ => rfl)) (pe_fld (pv 0) rfl) (nomark _)))))
      (pss_one (ps_augS (pe_fld (pv 0) rfl) (pv 2) get_list pe_int ip_add set_list))
      (pss_cons (ps_asg pe_int (pg_sub (pe_fld (pv 0) rfl) (pv 2) set_list))
      (pss_one (ps_expr (pe_bm PySem.F.plainAttrs_list PySem.F.slot_list_append PySem.F.type_list_append mt_append (pe_fld (pv 0) rfl) (pa_cons (pe_tup (pa_cons (pe_op op_addU (pe_fld (pv 0) rfl) (pv 4)) (pa_cons (pe_op op_sub pe_int (pv 2)) (pa_cons (pe_meth0 (pe_ix ix_seq (pe_fld (pv 0) rfl) (pv 2) (fun _ _ => rfl)) T.F_End.cl T.m_End_frames (G_End_frames) (hr.mono (by decide)) T.b_End_frames .nil pass0) pa_nil)))) pa_nil))))))))
      (pss_cons (ps_fldaug (pv 0) pe_int in_add)
      (pss_cons (ps_setLc (i := 5) (own := [("letter", 10)]) (g := (gName 10)) (tt := (tTest (tOp (rI0 fun i j => .bl (decide (j < i))) (tOp (rIx K) (tVar 10) (tC (.int 0))) (tFld K (tVar 0) "time")))) rfl sc_Pace_tick.nd rfl rfl (sw_true rfl rfl rfl (by decide +kernel)) (pi_seq (pe_fld (pv 0) rfl)) (blkOk_by (own := [("letter", 10)]) (N := ["self", "wishes", "at", "is_lost", "ticks", "late", "time", "goal", "frames", "frame", "letter"]) (sc := defScope s_Pace_tick) (by decide +kernel)) (fun _ _ _ _ _ => (pg_name (i := 10) sc_Pace_tick.nd rfl (by first | exact Or.inl rfl | exact Or.inr rfl))) (fun _ _ _ _ _ => (pts_one (pt_cmpR op_gt (pe_ix ix_seq (pv 10) pe_int (fun _ _ => rfl)) (pe_fld (pv 0) rfl) (nomark _)))) (fun _ _ _ _ _ => (pv 10)))
      (Evl.pss_cut (ps_for (passes_of rfl) rfl (pi_seq (pe_lc (own := [("letter", 10)]) (g := (gName 10)) (tt := (tTest (tOp (rI0 fun i j => .bl (decide (i ≤ j))) (tOp (rIx K) (tVar 10) (tC (.int 0))) (tFld K (tVar 0) "time")))) rfl sc_Pace_tick.nd (pi_seq (pe_fld (pv 0) rfl)) (blkOk_by (own := [("letter", 10)]) (N := ["self", "wishes", "at", "is_lost", "ticks", "late", "time", "goal", "frames", "frame", "letter"]) (sc := defScope s_Pace_tick) (by decide +kernel)) (fun _ _ _ _ _ => (pg_name (i := 10) sc_Pace_tick.nd rfl (by first | exact Or.inl rfl | exact Or.inr rfl))) (fun _ _ _ _ _ => (pts_one (pt_cmpR op_le (pe_ix ix_seq (pv 10) pe_int (fun _ _ => rfl)) (pe_fld (pv 0) rfl) (nomark _)))) (fun _ _ _ _ _ => (pv 10)))) (pg_tup rfl (pgs_cons (pg_name (i := 6) sc_Pace_tick.nd rfl (by first | exact Or.inl rfl | exact Or.inr rfl)) (pgs_cons (pg_name (i := 7) sc_Pace_tick.nd rfl (by first | exact Or.inl rfl | exact Or.inr rfl)) (pgs_cons (pg_name (i := 8) sc_Pace_tick.nd rfl (by first | exact Or.inl rfl | exact Or.inr rfl)) pgs_nil))))
      (pss_one (ps_for (passes_of rfl) rfl (pi_seq (pv 8)) (pg_name (i := 9) sc_Pace_tick.nd rfl (by first | exact Or.inl rfl | exact Or.inr rfl))
      (pss_one (ps_expr (pe_meth (pe_ix ix_seq (pe_fld (pv 0) rfl) (pv 7) (fun _ _ => rfl)) T.F_End.cl T.m_End_hear (G_End_hear) (hr.mono (by decide)) T.b_End_hear .nil pass0 (pa_cons pe_int (pa_cons (pv 9) pa_nil))))))))
      (pss_one (ps_fld (pv 0) (pv 5) rfl)))))))
theorem ok_Pace_is_done {w : World} {K : PySem.W.Frag} {mg : Str → Option Value} {base : Heap} (T : Tx K mg)
    (R : ∀ Q ds M P Φ, ds.length = 1 → S_Pace_is_done K T ds M P → RtQ Q Φ P → Cont (rd_Pace_is_done_0 K T (fnD Q)) Φ (entry ["self", "one", "other"] ds) M) :
    FnOk T.Pg w K mg base CX0 1 T.f_Pace_is_done T.fd_Pace_is_done ["self"] (spF 1 (S_Pace_is_done K T)) := by
  refine T.F_Pace_is_done.ok sc_Pace_is_done (fun vs H Q E h => spF_len h) fun cdv A outer s H vs Q E hr h => ⟨(rd_Pace_is_done_0 K T), ?_, fn_start h (R Q)⟩
  exact (pss_cons (ps_asg (pe_fld (pv 0) rfl) (pg_tup rfl (pgs_cons (pg_name (i := 1) sc_Pace_is_done.nd rfl (by first | exact Or.inl rfl | exact Or.inr rfl)) (pgs_cons (pg_name (i := 2) sc_Pace_is_done.nd rfl (by first | exact Or.inl rfl | exact Or.inr rfl)) pgs_nil))))
      (Evl.pss_cut (ps_if (PW.pt (pw_or (pt_cmpR (op_neU hr.units) (pe_fld (pv 1) rfl) (pe_fld (pv 2) rfl) (nomark _)) (pw_or1 (pt_cmpR (op_neU hr.units) (pe_fld (pv 2) rfl) (pe_fld (pv 1) rfl) (nomark _)))))
      (pss_one (ps_ret pe_bl))
      pss_nil)
      (pss_one (ps_ret (pe_and (pe_cmpR (op_eqU hr.units) (pe_fld (pv 1) rfl) (pe_callB call_lenU (by rfl) T.no_len PySem.boot_len (pa_cons (pe_fld (pv 1) rfl) pa_nil)) (nomark _)) (pe_one (pe_cmpR (op_eqU hr.units) (pe_fld (pv 2) rfl) (pe_callB call_lenU (by rfl) T.no_len PySem.boot_len (pa_cons (pe_fld (pv 2) rfl) pa_nil)) (nomark _))))))))
theorem ok_law_refused {w : World} {K : PySem.W.Frag} {mg : Str → Option Value} {base : Heap} (T : Tx K mg)
    (G_Pace_init : FnOk T.Pg w K mg base (L2.CX T.Pg w) 3 T.f_Pace_init T.fd_Pace_init ["self", "delay", "losses"] (spX 3 (S_Pace_init K T)))
    (R : ∀ Q ds M P Φ, ds.length = 2 → S_law_refused K T ds M P → RtQ Q Φ P → Cont (rd_law_refused_0 K T (fnD Q)) Φ (entry ["_law_delay", "_law_losses", "fault"] ds) M) :
    FnOk T.Pg w K mg base CX0 5 T.f_law_refused T.fd_law_refused ["_law_delay", "_law_losses"] (spF 2 (S_law_refused K T)) := by
  refine T.F_law_refused.ok sc_law_refused (fun vs H Q E h => spF_len h) fun cdv A outer s H vs Q E hr h => ⟨(rd_law_refused_0 K T), ?_, fn_start h (R Q)⟩
  exact (pss_one (ps_try_as (i := 2) rfl rfl sc_law_refused.nd rfl rfl ⟨rfl, by decide, Or.inl T.X_BadName.gC⟩ takes0 (fun W pn xe tk po => (pss_cons (ps_expr (pe_makeS T.M_Pace (G_Pace_init) (hr.mono (by decide)) rfl T.mg_Pace T.b_Pace_init (fun σ => passAt tk σ) (pa_cons (pv 0) (pa_cons (pv 1) pa_nil))))
      (pss_one (ps_ret pe_str))))
      (fun a oe cls dx pn hz hf => (pss_one (ps_ret (pe_xf T.X_BadName.xf T.X_BadName.noN hz hf (pv 2)))))))
theorem ok_law_slow {w : World} {K : PySem.W.Frag} {mg : Str → Option Value} {base : Heap} (T : Tx K mg)
    (G_Pace_init : FnOk T.Pg w K mg base (L2.CX T.Pg w) 3 T.f_Pace_init T.fd_Pace_init ["self", "delay", "losses"] (spX 3 (S_Pace_init K T)))
    (G_Pace_is_done : FnOk T.Pg w K mg base CX0 1 T.f_Pace_is_done T.fd_Pace_is_done ["self"] (spF 1 (S_Pace_is_done K T)))
    (G_Pace_put : FnOk T.Pg w K mg base CX0 2 T.f_Pace_put T.fd_Pace_put ["self", "at", "word"] (spF 3 (S_Pace_put K T)))
    (G_Pace_tick : FnOk T.Pg w K mg base (L2.CX T.Pg w) 2 T.f_Pace_tick T.fd_Pace_tick ["self", "wishes"] (spX 2 (S_Pace_tick K T)))
    (R : ∀ Q ds M P Φ, ds.length = 0 → S_law_slow K T ds M P → RtQ Q Φ P → Cont (rd_law_slow_0 K T (fnD Q)) Φ (entry ["_law_pace", "_law_seen", "_law_wish"] ds) M) :
    FnOk T.Pg w K mg base CX0 5 T.f_law_slow T.fd_law_slow [] (spF 0 (S_law_slow K T)) := by
  refine T.F_law_slow.ok sc_law_slow (fun vs H Q E h => spF_len h) fun cdv A outer s H vs Q E hr h => ⟨(rd_law_slow_0 K T), ?_, fn_start h (R Q)⟩
  exact (pss_cons (ps_set (i := 0) sc_law_slow.nd rfl (by first | exact Or.inl rfl | exact Or.inr rfl) (pe_makeS T.M_Pace (G_Pace_init) (hr.mono (by decide)) rfl T.mg_Pace T.b_Pace_init (fun σ => passAt takes0 σ) (pa_cons pe_int (pa_cons pe_int pa_nil))))
      (pss_cons (ps_expr (pe_meth (pv 0) T.F_Pace.cl T.m_Pace_put (G_Pace_put) (hr.mono (by decide)) T.b_Pace_put .nil pass0 (pa_cons pe_int (pa_cons pe_str pa_nil))))
      (pss_cons (ps_set (i := 1) sc_law_slow.nd rfl (by first | exact Or.inl rfl | exact Or.inr rfl) (pe_lst pa_nil))
      (Evl.pss_cut (ps_for PassesOwn.never rfl (pi_seq (pe_tup (pa_cons (pe_tup (pa_cons pe_bl (pa_cons pe_int pa_nil))) (pa_cons (pe_tup (pa_cons pe_bl (pa_cons pe_int pa_nil))) (pa_cons (pe_tup (pa_cons pe_bl (pa_cons pe_int pa_nil))) (pa_cons (pe_tup (pa_cons pe_bl (pa_cons pe_int pa_nil))) pa_nil)))))) (pg_name (i := 2) sc_law_slow.nd rfl (by first | exact Or.inl rfl | exact Or.inr rfl))
      (pss_cons (ps_expr (pe_methS (pv 0) T.F_Pace.cl T.m_Pace_tick (G_Pace_tick) (hr.mono (by decide)) T.b_Pace_tick (fun σ => passAt takes0 σ) (pa_cons (pe_lst (pa_cons (pv 2) (pa_cons (pe_tup (pa_cons pe_bl (pa_cons pe_int pa_nil))) pa_nil))) pa_nil)))
      (pss_one (ps_expr (pe_bm PySem.F.plainAttrs_list PySem.F.slot_list_append PySem.F.type_list_append mt_append (pv 1) (pa_cons (pe_callB call_lenU (by rfl) T.no_len PySem.boot_len (pa_cons (pe_fld (pe_ix ix_seq (pe_fld (pv 0) rfl) pe_int (fun _ _ => rfl)) rfl) pa_nil)) pa_nil))))))
      (pss_one (ps_ret (pe_and (pe_cmpR (op_eqU hr.units) (pv 1) (pe_lst (pa_cons pe_int (pa_cons pe_int (pa_cons pe_int (pa_cons pe_int pa_nil))))) (nomark _)) (pe_and (pe_cmpR (op_eqU hr.units) (pe_tup (pa_cons (pe_fld (pv 0) rfl) (pa_cons (pe_fld (pv 0) rfl) pa_nil))) (pe_tup (pa_cons pe_int (pa_cons pe_int pa_nil))) (nomark _)) (pe_one (pe_meth0 (pv 0) T.F_Pace.cl T.m_Pace_is_done (G_Pace_is_done) (hr.mono (by decide)) T.b_Pace_is_done .nil pass0))))))))))
theorem ok_law_late {w : World} {K : PySem.W.Frag} {mg : Str → Option Value} {base : Heap} (T : Tx K mg)
    (G_Pace_init : FnOk T.Pg w K mg base (L2.CX T.Pg w) 3 T.f_Pace_init T.fd_Pace_init ["self", "delay", "losses"] (spX 3 (S_Pace_init K T)))
    (G_Pace_put : FnOk T.Pg w K mg base CX0 2 T.f_Pace_put T.fd_Pace_put ["self", "at", "word"] (spF 3 (S_Pace_put K T)))
    (G_Pace_tick : FnOk T.Pg w K mg base (L2.CX T.Pg w) 2 T.f_Pace_tick T.fd_Pace_tick ["self", "wishes"] (spX 2 (S_Pace_tick K T)))
    (R : ∀ Q ds M P Φ, ds.length = 0 → S_law_late K T ds M P → RtQ Q Φ P → Cont (rd_law_late_0 K T (fnD Q)) Φ (entry ["_law_pace", "_law_seen", "_law_wish"] ds) M) :
    FnOk T.Pg w K mg base CX0 5 T.f_law_late T.fd_law_late [] (spF 0 (S_law_late K T)) := by
  refine T.F_law_late.ok sc_law_late (fun vs H Q E h => spF_len h) fun cdv A outer s H vs Q E hr h => ⟨(rd_law_late_0 K T), ?_, fn_start h (R Q)⟩
  exact (pss_cons (ps_par (i := 0) (j := 1) (by rfl) sc_law_late.nd rfl rfl (by decide) rfl rfl (pa_cons (pe_makeS T.M_Pace (G_Pace_init) (hr.mono (by decide)) rfl T.mg_Pace T.b_Pace_init (fun σ => passAt takes0 σ) (pa_cons pe_int (pa_cons pe_int pa_nil))) (pa_cons (pe_lst pa_nil) pa_nil)) (by rfl))
      (pss_cons (ps_expr (pe_meth (pv 0) T.F_Pace.cl T.m_Pace_put (G_Pace_put) (hr.mono (by decide)) T.b_Pace_put .nil pass0 (pa_cons pe_int (pa_cons pe_str pa_nil))))
      (Evl.pss_cut (ps_for PassesOwn.never rfl (pi_seq (pe_tup (pa_cons (pe_tup (pa_cons pe_bl (pa_cons pe_int pa_nil))) (pa_cons (pe_tup (pa_cons pe_bl (pa_cons pe_int pa_nil))) (pa_cons (pe_tup (pa_cons pe_bl (pa_cons pe_int pa_nil))) pa_nil))))) (pg_name (i := 2) sc_law_late.nd rfl (by first | exact Or.inl rfl | exact Or.inr rfl))
      (pss_cons (ps_expr (pe_methS (pv 0) T.F_Pace.cl T.m_Pace_tick (G_Pace_tick) (hr.mono (by decide)) T.b_Pace_tick (fun σ => passAt takes0 σ) (pa_cons (pe_lst (pa_cons (pe_tup (pa_cons pe_bl (pa_cons pe_int pa_nil))) (pa_cons (pv 2) pa_nil))) pa_nil)))
      (pss_one (ps_expr (pe_bm PySem.F.plainAttrs_list PySem.F.slot_list_append PySem.F.type_list_append mt_append (pv 1) (pa_cons (pe_callB call_lenU (by rfl) T.no_len PySem.boot_len (pa_cons (pe_fld (pe_ix ix_seq (pe_fld (pv 0) rfl) pe_int (fun _ _ => rfl)) rfl) pa_nil)) pa_nil))))))
      (pss_one (ps_ret (pe_cmpR (op_eqU hr.units) (pv 1) (pe_lst (pa_cons pe_int (pa_cons pe_int (pa_cons pe_int pa_nil)))) (nomark _)))))))
theorem ok_law {w : World} {K : PySem.W.Frag} {mg : Str → Option Value} {base : Heap} (T : Tx K mg)
    (G_Pace_init : FnOk T.Pg w K mg base (L2.CX T.Pg w) 3 T.f_Pace_init T.fd_Pace_init ["self", "delay", "losses"] (spX 3 (S_Pace_init K T)))
    (G_Pace_is_done : FnOk T.Pg w K mg base CX0 1 T.f_Pace_is_done T.fd_Pace_is_done ["self"] (spF 1 (S_Pace_is_done K T)))
    (G_Pace_put : FnOk T.Pg w K mg base CX0 2 T.f_Pace_put T.fd_Pace_put ["self", "at", "word"] (spF 3 (S_Pace_put K T)))
    (G_Pace_tick : FnOk T.Pg w K mg base (L2.CX T.Pg w) 2 T.f_Pace_tick T.fd_Pace_tick ["self", "wishes"] (spX 2 (S_Pace_tick K T)))
    (G_law_late : FnOk T.Pg w K mg base CX0 5 T.f_law_late T.fd_law_late [] (spF 0 (S_law_late K T)))
    (G_law_refused : FnOk T.Pg w K mg base CX0 5 T.f_law_refused T.fd_law_refused ["_law_delay", "_law_losses"] (spF 2 (S_law_refused K T)))
    (G_law_slow : FnOk T.Pg w K mg base CX0 5 T.f_law_slow T.fd_law_slow [] (spF 0 (S_law_slow K T)))
    (G_law_take : FnOk T.Pg w K mg base CX0 2 T.f_law_take T.fd_law_take ["_law_draw", "_law_many"] (spF 2 (S_law_take K T)))
    (G_slowest : FnOk T.Pg w K mg base CX0 1 T.f_slowest T.fd_slowest ["words", "delay", "losses"] (spF 3 (S_slowest K T)))
    (R : ∀ Q ds M P Φ, ds.length = 1 → S_law K T ds M P → RtQ Q Φ P → Cont (rd_law_0 K T (fnD Q)) Φ (entry ["_law_script", "_law_draw", "_law_delay", "_law_losses", "_law_pace", "_law_words", "_law_at", "_law_word", "_law_harsh", "_law_tick", "_law_wishes", "_law_one", "_law_other", "fault"] ds) M) :
    FnOk T.Pg w K mg base CX0 6 T.f_law T.fd_law ["_law_script"] (spF 1 (S_law K T)) := by
  refine T.F_law.ok sc_law (fun vs H Q E h => spF_len h) fun cdv A outer s H vs Q E hr h => ⟨(rd_law_0 K T), ?_, fn_start h (R Q)⟩
  exact (pss_cons (ps_set (i := 1) sc_law.nd rfl (by first | exact Or.inl rfl | exact Or.inr rfl) (pe_lst (pa_cons (pv 0) (pa_cons pe_int pa_nil))))
      (pss_cons (ps_par (i := 2) (j := 3) (by rfl) sc_law.nd rfl rfl (by decide) rfl rfl (pa_cons (pe_op op_addU pe_int (pe_call (G_law_take) (hr.mono (by decide)) rfl T.mg_law_take T.k_law_take T.b_law_take .nil pass0 (pa_cons (pv 1) (pa_cons pe_int pa_nil)))) (pa_cons (pe_call (G_law_take) (hr.mono (by decide)) rfl T.mg_law_take T.k_law_take T.b_law_take .nil pass0 (pa_cons (pv 1) (pa_cons pe_int pa_nil))) pa_nil)) (by rfl))
      (pss_cons (ps_par (i := 4) (j := 5) (by rfl) sc_law.nd rfl rfl (by decide) rfl rfl (pa_cons (pe_makeS T.M_Pace (G_Pace_init) (hr.mono (by decide)) rfl T.mg_Pace T.b_Pace_init (fun σ => passAt takes0 σ) (pa_cons (pv 2) (pa_cons (pv 3) pa_nil))) (pa_cons (pe_tup (pa_cons (pe_call (G_law_take) (hr.mono (by decide)) rfl T.mg_law_take T.k_law_take T.b_law_take .nil pass0 (pa_cons (pv 1) (pa_cons pe_int pa_nil))) (pa_cons (pe_call (G_law_take) (hr.mono (by decide)) rfl T.mg_law_take T.k_law_take T.b_law_take .nil pass0 (pa_cons (pv 1) (pa_cons pe_int pa_nil))) pa_nil))) pa_nil)) (by rfl))
      (Evl.pss_cut (ps_for PassesOwn.never rfl (pi_seq (pe_tup (pa_cons pe_int (pa_cons pe_int pa_nil)))) (pg_name (i := 6) sc_law.nd rfl (by first | exact Or.inl rfl | exact Or.inr rfl))
      (pss_one (ps_for PassesOwn.never rfl (pi_range1 rfl T.no_range (pa_cons (pe_ix ix_seq (pv 5) (pv 6) (fun _ _ => rfl)) pa_nil)) (pg_name (i := 7) sc_law.nd rfl (by first | exact Or.inl rfl | exact Or.inr rfl))
      (pss_one (ps_expr (pe_meth (pv 4) T.F_Pace.cl T.m_Pace_put (G_Pace_put) (hr.mono (by decide)) T.b_Pace_put .nil pass0 (pa_cons (pv 6) (pa_cons (pv 7) pa_nil))))))))
      (pss_cons (ps_set (i := 8) sc_law.nd rfl (by first | exact Or.inl rfl | exact Or.inr rfl) (pe_cmpR (op_eqU hr.units) (pe_call (G_law_take) (hr.mono (by decide)) rfl T.mg_law_take T.k_law_take T.b_law_take .nil pass0 (pa_cons (pv 1) (pa_cons pe_int pa_nil))) pe_int (nomark _)))
      (Evl.pss_cut (ps_for PassesOwn.never rfl (pi_range1 rfl T.no_range (pa_cons (pe_call (G_slowest) (hr.mono (by decide)) rfl T.mg_slowest T.k_slowest T.b_slowest .nil pass0 (pa_cons (pe_callB (cr_maxT rfl hr.units) (by rfl) T.no_max (by decide +kernel) (pa_cons (pv 5) pa_nil)) (pa_cons (pv 2) (pa_cons (pv 3) pa_nil)))) pa_nil)) (pg_name (i := 9) sc_law.nd rfl (by first | exact Or.inl rfl | exact Or.inr rfl))
      (pss_cons (ps_set (i := 10) sc_law.nd rfl (by first | exact Or.inl rfl | exact Or.inr rfl) (pe_lst pa_nil))
      (Evl.pss_cut (ps_for PassesOwn.never rfl (pi_seq (pe_tup (pa_cons pe_int (pa_cons pe_int pa_nil)))) (pg_name (i := 6) sc_law.nd rfl (by first | exact Or.inl rfl | exact Or.inr rfl))
      (pss_one (ps_expr (pe_bm PySem.F.plainAttrs_list PySem.F.slot_list_append PySem.F.type_list_append mt_append (pv 10) (pa_cons (pe_tup (pa_cons (pe_or (pv 8) (pe_one (pe_cmpR (op_eqU hr.units) (pe_call (G_law_take) (hr.mono (by decide)) rfl T.mg_law_take T.k_law_take T.b_law_take .nil pass0 (pa_cons (pv 1) (pa_cons pe_int pa_nil))) pe_int (nomark _)))) (pa_cons (pe_ifExp (pt_val (pv 8)) (pv 2) (pe_op op_addU pe_int (pe_call (G_law_take) (hr.mono (by decide)) rfl T.mg_law_take T.k_law_take T.b_law_take .nil pass0 (pa_cons (pv 1) (pa_cons (pv 2) pa_nil))))) pa_nil))) pa_nil)))))
      (pss_cons (ps_expr (pe_methS (pv 4) T.F_Pace.cl T.m_Pace_tick (G_Pace_tick) (hr.mono (by decide)) T.b_Pace_tick (fun σ => passAt takes0 σ) (pa_cons (pv 10) pa_nil)))
      (pss_cons (ps_asg (pe_fld (pv 4) rfl) (pg_tup rfl (pgs_cons (pg_name (i := 11) sc_law.nd rfl (by first | exact Or.inl rfl | exact Or.inr rfl)) (pgs_cons (pg_name (i := 12) sc_law.nd rfl (by first | exact Or.inl rfl | exact Or.inr rfl)) pgs_nil))))
      (pss_one (ps_if (PW.pt (pw_or (pt_cmpR (op_neU hr.units) (pe_fld (pv 11) rfl) (pe_slice sl_U (pe_fld (pv 12) rfl) po_none (po_some (pe_callB call_lenU (by rfl) T.no_len PySem.boot_len (pa_cons (pe_fld (pv 11) rfl) pa_nil)))) (nomark _)) (pw_or (pt_cmpR (op_neU hr.units) (pe_fld (pv 12) rfl) (pe_slice sl_U (pe_fld (pv 11) rfl) po_none (po_some (pe_callB call_lenU (by rfl) T.no_len PySem.boot_len (pa_cons (pe_fld (pv 12) rfl) pa_nil)))) (nomark _)) (pw_or1 (pt_cmpR (op_neU hr.units) (pe_fld (pv 4) rfl) (pe_op op_addU (pv 9) pe_int) (nomark _))))))
      (pss_one (ps_ret pe_bl))
      pss_nil)))))))
      (Evl.pss_cut (ps_if (PW.pt (pw_or (pt_not (pt_val (pe_meth0 (pv 4) T.F_Pace.cl T.m_Pace_is_done (G_Pace_is_done) (hr.mono (by decide)) T.b_Pace_is_done .nil pass0))) (pw_or (pt_cmpR (op_neU hr.units) (pe_call (G_slowest) (hr.mono (by decide)) rfl T.mg_slowest T.k_slowest T.b_slowest .nil pass0 (pa_cons pe_int (pa_cons (pv 2) (pa_cons (pv 3) pa_nil)))) pe_int (nomark _)) (pw_or (pt_not (pt_val (pe_call0 (G_law_slow) (hr.mono (by decide)) rfl T.mg_law_slow T.k_law_slow T.b_law_slow .nil pass0))) (pw_or1 (pt_not (pt_val (pe_call0 (G_law_late) (hr.mono (by decide)) rfl T.mg_law_late T.k_law_late T.b_law_late .nil pass0))))))))
      (pss_one (ps_ret pe_bl))
      pss_nil)
      (Evl.pss_cut (ps_try_as (i := 13) rfl rfl sc_law.nd rfl rfl ⟨rfl, by decide, Or.inl T.X_BadName.gC⟩ takes0 (fun W pn xe tk po => (pss_cons (ps_expr (pe_methS (pv 4) T.F_Pace.cl T.m_Pace_tick (G_Pace_tick) (hr.mono (by decide)) T.b_Pace_tick (fun σ => passAt tk σ) (pa_cons (pe_lst (pa_cons (pe_tup (pa_cons pe_bl (pa_cons pe_int pa_nil))) (pa_cons (pe_tup (pa_cons pe_bl (pa_cons (pe_op op_addU (pv 2) pe_int) pa_nil))) pa_nil))) pa_nil)))
      (pss_one (ps_ret pe_bl))))
      (fun a oe cls dx pn hz hf => (pss_one (ps_if (pt_cmpR (op_neU hr.units) (pe_xf T.X_BadName.xf T.X_BadName.noN hz hf (pv 13)) (pe_op op_addU (pv 2) pe_int) (nomark _))
      (pss_one (ps_ret pe_bl))
      pss_nil))))
      (pss_one (ps_ret (pe_cmpR (op_eqU hr.units) (pe_lst (pa_cons (pe_call (G_law_refused) (hr.mono (by decide)) rfl T.mg_law_refused T.k_law_refused T.b_law_refused .nil pass0 (pa_cons pe_int (pa_cons pe_int pa_nil))) (pa_cons (pe_call (G_law_refused) (hr.mono (by decide)) rfl T.mg_law_refused T.k_law_refused T.b_law_refused .nil pass0 (pa_cons pe_int (pa_cons (pe_un un_neg pe_int) pa_nil))) (pa_cons (pe_call (G_law_refused) (hr.mono (by decide)) rfl T.mg_law_refused T.k_law_refused T.b_law_refused .nil pass0 (pa_cons pe_int (pa_cons pe_int pa_nil))) (pa_cons (pe_call (G_law_refused) (hr.mono (by decide)) rfl T.mg_law_refused T.k_law_refused T.b_law_refused .nil pass0 (pa_cons pe_str (pa_cons pe_int pa_nil))) pa_nil))))) (pe_lst (pa_cons pe_int (pa_cons (pe_un un_neg pe_int) (pa_cons pe_int (pa_cons pe_str pa_nil))))) (nomark _))))))))))))
def spLaw (K : PySem.W.Frag) : Sp := spF 1 (SLaw K)
theorem spLaw_intro {K : PySem.W.Frag} {H : Hp} {a : Addr} {ns : List Int} (hl : ns.length ≤ 63) (hS : SqL K H a (ns.map V.int)) : spLaw K [.ref a] H (fun v _ => v = .bl true) fun _ _ _ => False :=
  ⟨Fr.top, [], [], [vscr K ns], [], fun x _ => x = dat (.bool true), ⟨H, fun _ _ h => h, ⟨trivial, .cons ⟨a, rfl, hS⟩ .nil⟩, ⟨rfl, fun i x h => nomatch h⟩, List.nodup_nil, fun c hc => nomatch hc⟩, rfl, ⟨ns, rfl, rfl, hl, fun _ => rfl⟩, fun x M' v H' hx ⟨F, s⟩ => by
    subst hx
    cases s.fr.2
    rfl⟩
theorem law_ok {w : World} {K : PySem.W.Frag} {mg : Str → Option Value} {base : Heap} (T : Tx K mg) : FnOk T.Pg w K mg base CX0 6 T.f_law T.fd_law ["_law_script"] (spLaw K) := by
  have H_End_init := ok_End_init (w := w) (base := base) T (R := End_init_body T)
  have H_End_put := ok_End_put (w := w) (base := base) T (R := End_put_body T)
  have H_End_frames := ok_End_frames (w := w) (base := base) T (R := End_frames_body T)
  have H_End_hear := ok_End_hear (w := w) (base := base) T (R := End_hear_body T)
  have H_is_whole := ok_is_whole (w := w) (base := base) T (R := is_whole_body T)
  have H_slowest := ok_slowest (w := w) (base := base) T (R := slowest_body T)
  have H_Pace_init := ok_Pace_init (w := w) (base := base) T (G_End_init := H_End_init) (G_is_whole := H_is_whole) (R := Pace_init_body T)
  have H_Pace_put := ok_Pace_put (w := w) (base := base) T (G_End_put := H_End_put) (R := Pace_put_body T)
  have H_Pace_tick := ok_Pace_tick (w := w) (base := base) T (G_End_frames := H_End_frames) (G_End_hear := H_End_hear) (G_is_whole := H_is_whole) (R := Pace_tick_body T)
  have H_Pace_is_done := ok_Pace_is_done (w := w) (base := base) T (R := Pace_is_done_body T)
  have H_law_number := ok_law_number (w := w) (base := base) T (R := law_number_body T)
  have H_law_take := ok_law_take (w := w) (base := base) T (G_law_number := H_law_number) (R := law_take_body T)
  have H_law_refused := ok_law_refused (w := w) (base := base) T (G_Pace_init := H_Pace_init) (R := law_refused_body T)
  have H_law_slow := ok_law_slow (w := w) (base := base) T (G_Pace_init := H_Pace_init) (G_Pace_is_done := H_Pace_is_done) (G_Pace_put := H_Pace_put) (G_Pace_tick := H_Pace_tick) (R := law_slow_body T)
  have H_law_late := ok_law_late (w := w) (base := base) T (G_Pace_init := H_Pace_init) (G_Pace_put := H_Pace_put) (G_Pace_tick := H_Pace_tick) (R := law_late_body T)
  have H_law := ok_law (w := w) (base := base) T (G_Pace_init := H_Pace_init) (G_Pace_is_done := H_Pace_is_done) (G_Pace_put := H_Pace_put) (G_Pace_tick := H_Pace_tick) (G_law_late := H_law_late) (G_law_refused := H_law_refused) (G_law_slow := H_law_slow) (G_law_take := H_law_take) (G_slowest := H_slowest) (R := law_body T)
  exact H_law
theorem all_mk {l : PySem.W.OpenLaw} {w : World} {K : PySem.W.Frag} {h : Heap} {mg : Str → Option Value} {fa C_End C_CallError C_BadName C_Pace f_End_init f_End_put f_End_frames f_End_hear f_is_whole f_slowest f_Pace_init f_Pace_put f_Pace_tick f_Pace_is_done f_law_number f_law_take f_law_refused f_law_slow f_law_late f_law f_BadName_init cda_BadName cc_BadName : Addr} (X : K.In h) (G : h.Ns mainGlobals mg) (hfa : mg "law" = some (.ref fa))
    {od_End_init an_End_init od_End_put an_End_put od_End_frames an_End_frames od_End_hear an_End_hear od_is_whole an_is_whole od_slowest an_slowest od_Pace_init an_Pace_init od_Pace_put an_Pace_put od_Pace_tick an_Pace_tick od_Pace_is_done an_Pace_is_done od_law_number an_law_number od_law_take an_law_take od_law_refused an_law_refused od_law_slow an_law_slow od_law_late an_law_late od_law an_law : Option Addr} {sl_End_init sl_End_put sl_End_frames sl_End_hear sl_is_whole sl_slowest sl_Pace_init sl_Pace_put sl_Pace_tick sl_Pace_is_done sl_law_number sl_law_take sl_law_refused sl_law_slow sl_law_late sl_law : Array (Option Value)} {oc_End_init kV_End_init dc_End_init pm_End_init cd_End_init ct_End_init oc_End_put kV_End_put dc_End_put pm_End_put cd_End_put ct_End_put oc_End_frames kV_End_frames dc_End_frames pm_End_frames cd_End_frames ct_End_frames oc_End_hear kV_End_hear dc_End_hear pm_End_hear cd_End_hear ct_End_hear oc_is_whole kV_is_whole dc_is_whole pm_is_whole cd_is_whole ct_is_whole oc_slowest kV_slowest dc_slowest pm_slowest cd_slowest ct_slowest oc_Pace_init kV_Pace_init dc_Pace_init pm_Pace_init cd_Pace_init ct_Pace_init oc_Pace_put kV_Pace_put dc_Pace_put pm_Pace_put cd_Pace_put ct_Pace_put oc_Pace_tick kV_Pace_tick dc_Pace_tick pm_Pace_tick cd_Pace_tick ct_Pace_tick oc_Pace_is_done kV_Pace_is_done dc_Pace_is_done pm_Pace_is_done cd_Pace_is_done ct_Pace_is_done oc_law_number kV_law_number dc_law_number pm_law_number cd_law_number ct_law_number oc_law_take kV_law_take dc_law_take pm_law_take cd_law_take ct_law_take oc_law_refused kV_law_refused dc_law_refused pm_law_refused cd_law_refused ct_law_refused oc_law_slow kV_law_slow dc_law_slow pm_law_slow cd_law_slow ct_law_slow oc_law_late kV_law_late dc_law_late pm_law_late cd_law_late ct_law_late oc_law kV_law dc_law pm_law cd_law ct_law : Value} {t_MOST_WAIT t_WINDOW : Tok}
    {nm_BadName qn_BadName : Str} {N_BadName : Addr} {bs_BadName : List Value} {sn_BadName : List Str} {sub_BadName : List Value} {ab_BadName : Bool} {col_BadName : Option Bool} {dd_BadName : Option Addr} {m0_BadName m1_BadName m2_BadName m3_BadName m5_BadName : Option Value}
    {xod_BadName xan_BadName xcd_BadName ycd_BadName : Option Addr} {xsl_BadName xcs_BadName ycs_BadName : Array (Option Value)} {xoc_BadName xdc_BadName xpm_BadName xct_BadName xcl_BadName ycl_BadName : Value} {yvs_BadName : Array Value} {yf_BadName : Str} {yt_BadName : Tok}
    (aC_End : PySem.W.nsIn K mainGlobals "End" = some (some (.ref C_End)))
    (pg_End : PySem.W.plainGet K C_End Str.empty = true)
    (hd_End : PySem.W.hasDictIn K C_End = true)
    (po_End : PySem.W.plainOver K C_End = true)
    (sa_End : PySem.W.findIn K (.ref C_End) "__setattr__" = some (some (.builtin "object.__setattr__")))
    (mk_End : PySem.W.makesIn K C_End = true)
    (kc_End : PySem.W.keepIn K (.ref C_End) = true)
    (na_End_0 : PySem.W.findIn K (.ref C_End) "out" = some none)
    (na_End_1 : PySem.W.findIn K (.ref C_End) "answered" = some none)
    (na_End_2 : PySem.W.findIn K (.ref C_End) "told" = some none)
    (na_End_3 : PySem.W.findIn K (.ref C_End) "epoch" = some none)
    (aC_Pace : PySem.W.nsIn K mainGlobals "Pace" = some (some (.ref C_Pace)))
    (pg_Pace : PySem.W.plainGet K C_Pace Str.empty = true)
    (hd_Pace : PySem.W.hasDictIn K C_Pace = true)
    (po_Pace : PySem.W.plainOver K C_Pace = true)
    (sa_Pace : PySem.W.findIn K (.ref C_Pace) "__setattr__" = some (some (.builtin "object.__setattr__")))
    (mk_Pace : PySem.W.makesIn K C_Pace = true)
    (kc_Pace : PySem.W.keepIn K (.ref C_Pace) = true)
    (na_Pace_0 : PySem.W.findIn K (.ref C_Pace) "delay" = some none)
    (na_Pace_1 : PySem.W.findIn K (.ref C_Pace) "losses" = some none)
    (na_Pace_2 : PySem.W.findIn K (.ref C_Pace) "ends" = some none)
    (na_Pace_3 : PySem.W.findIn K (.ref C_Pace) "time" = some none)
    (na_Pace_4 : PySem.W.findIn K (.ref C_Pace) "lost" = some none)
    (na_Pace_5 : PySem.W.findIn K (.ref C_Pace) "letters" = some none)
    (a_End_init : PySem.W.findIn K (.ref C_End) "__init__" = some (some (.ref f_End_init)))
    (i_End_init : PySem.W.isFn K (.ref f_End_init) = true)
    (l_End_init : K.lookup f_End_init = some ⟨oc_End_init, od_End_init, .func (PySem.W.fnOf "__init__" "End.__init__" (defArgs s_End_init) (defBody s_End_init) (defScope s_End_init) .none kV_End_init dc_End_init pm_End_init an_End_init cd_End_init ct_End_init), sl_End_init⟩)
    (c_End_init : PySem.W.codeIn K cd_End_init "End.__init__" = true)
    (k_End_init : PySem.W.keepIn K (.ref f_End_init) = true)
    (a_End_put : PySem.W.findIn K (.ref C_End) "put" = some (some (.ref f_End_put)))
    (i_End_put : PySem.W.isFn K (.ref f_End_put) = true)
    (l_End_put : K.lookup f_End_put = some ⟨oc_End_put, od_End_put, .func (PySem.W.fnOf "put" "End.put" (defArgs s_End_put) (defBody s_End_put) (defScope s_End_put) .none kV_End_put dc_End_put pm_End_put an_End_put cd_End_put ct_End_put), sl_End_put⟩)
    (c_End_put : PySem.W.codeIn K cd_End_put "End.put" = true)
    (k_End_put : PySem.W.keepIn K (.ref f_End_put) = true)
    (a_End_frames : PySem.W.findIn K (.ref C_End) "frames" = some (some (.ref f_End_frames)))
    (i_End_frames : PySem.W.isFn K (.ref f_End_frames) = true)
    (l_End_frames : K.lookup f_End_frames = some ⟨oc_End_frames, od_End_frames, .func (PySem.W.fnOf "frames" "End.frames" (defArgs s_End_frames) (defBody s_End_frames) (defScope s_End_frames) .none kV_End_frames dc_End_frames pm_End_frames an_End_frames cd_End_frames ct_End_frames), sl_End_frames⟩)
    (c_End_frames : PySem.W.codeIn K cd_End_frames "End.frames" = true)
    (k_End_frames : PySem.W.keepIn K (.ref f_End_frames) = true)
    (a_End_hear : PySem.W.findIn K (.ref C_End) "hear" = some (some (.ref f_End_hear)))
    (i_End_hear : PySem.W.isFn K (.ref f_End_hear) = true)
    (l_End_hear : K.lookup f_End_hear = some ⟨oc_End_hear, od_End_hear, .func (PySem.W.fnOf "hear" "End.hear" (defArgs s_End_hear) (defBody s_End_hear) (defScope s_End_hear) .none kV_End_hear dc_End_hear pm_End_hear an_End_hear cd_End_hear ct_End_hear), sl_End_hear⟩)
    (c_End_hear : PySem.W.codeIn K cd_End_hear "End.hear" = true)
    (k_End_hear : PySem.W.keepIn K (.ref f_End_hear) = true)
    (a_is_whole : PySem.W.nsIn K mainGlobals "is_whole" = some (some (.ref f_is_whole)))
    (i_is_whole : PySem.W.isFn K (.ref f_is_whole) = true)
    (l_is_whole : K.lookup f_is_whole = some ⟨oc_is_whole, od_is_whole, .func (PySem.W.fnOf "is_whole" "is_whole" (defArgs s_is_whole) (defBody s_is_whole) (defScope s_is_whole) .none kV_is_whole dc_is_whole pm_is_whole an_is_whole cd_is_whole ct_is_whole), sl_is_whole⟩)
    (c_is_whole : PySem.W.codeIn K cd_is_whole "is_whole" = true)
    (k_is_whole : PySem.W.keepIn K (.ref f_is_whole) = true)
    (a_slowest : PySem.W.nsIn K mainGlobals "slowest" = some (some (.ref f_slowest)))
    (i_slowest : PySem.W.isFn K (.ref f_slowest) = true)
    (l_slowest : K.lookup f_slowest = some ⟨oc_slowest, od_slowest, .func (PySem.W.fnOf "slowest" "slowest" (defArgs s_slowest) (defBody s_slowest) (defScope s_slowest) .none kV_slowest dc_slowest pm_slowest an_slowest cd_slowest ct_slowest), sl_slowest⟩)
    (c_slowest : PySem.W.codeIn K cd_slowest "slowest" = true)
    (k_slowest : PySem.W.keepIn K (.ref f_slowest) = true)
    (a_Pace_init : PySem.W.findIn K (.ref C_Pace) "__init__" = some (some (.ref f_Pace_init)))
    (i_Pace_init : PySem.W.isFn K (.ref f_Pace_init) = true)
    (l_Pace_init : K.lookup f_Pace_init = some ⟨oc_Pace_init, od_Pace_init, .func (PySem.W.fnOf "__init__" "Pace.__init__" (defArgs s_Pace_init) (defBody s_Pace_init) (defScope s_Pace_init) .none kV_Pace_init dc_Pace_init pm_Pace_init an_Pace_init cd_Pace_init ct_Pace_init), sl_Pace_init⟩)
    (c_Pace_init : PySem.W.codeIn K cd_Pace_init "Pace.__init__" = true)
    (k_Pace_init : PySem.W.keepIn K (.ref f_Pace_init) = true)
    (a_Pace_put : PySem.W.findIn K (.ref C_Pace) "put" = some (some (.ref f_Pace_put)))
    (i_Pace_put : PySem.W.isFn K (.ref f_Pace_put) = true)
    (l_Pace_put : K.lookup f_Pace_put = some ⟨oc_Pace_put, od_Pace_put, .func (PySem.W.fnOf "put" "Pace.put" (defArgs s_Pace_put) (defBody s_Pace_put) (defScope s_Pace_put) .none kV_Pace_put dc_Pace_put pm_Pace_put an_Pace_put cd_Pace_put ct_Pace_put), sl_Pace_put⟩)
    (c_Pace_put : PySem.W.codeIn K cd_Pace_put "Pace.put" = true)
    (k_Pace_put : PySem.W.keepIn K (.ref f_Pace_put) = true)
    (a_Pace_tick : PySem.W.findIn K (.ref C_Pace) "tick" = some (some (.ref f_Pace_tick)))
    (i_Pace_tick : PySem.W.isFn K (.ref f_Pace_tick) = true)
    (l_Pace_tick : K.lookup f_Pace_tick = some ⟨oc_Pace_tick, od_Pace_tick, .func (PySem.W.fnOf "tick" "Pace.tick" (defArgs s_Pace_tick) (defBody s_Pace_tick) (defScope s_Pace_tick) .none kV_Pace_tick dc_Pace_tick pm_Pace_tick an_Pace_tick cd_Pace_tick ct_Pace_tick), sl_Pace_tick⟩)
    (c_Pace_tick : PySem.W.codeIn K cd_Pace_tick "Pace.tick" = true)
    (k_Pace_tick : PySem.W.keepIn K (.ref f_Pace_tick) = true)
    (a_Pace_is_done : PySem.W.findIn K (.ref C_Pace) "is_done" = some (some (.ref f_Pace_is_done)))
    (i_Pace_is_done : PySem.W.isFn K (.ref f_Pace_is_done) = true)
    (l_Pace_is_done : K.lookup f_Pace_is_done = some ⟨oc_Pace_is_done, od_Pace_is_done, .func (PySem.W.fnOf "is_done" "Pace.is_done" (defArgs s_Pace_is_done) (defBody s_Pace_is_done) (defScope s_Pace_is_done) .none kV_Pace_is_done dc_Pace_is_done pm_Pace_is_done an_Pace_is_done cd_Pace_is_done ct_Pace_is_done), sl_Pace_is_done⟩)
    (c_Pace_is_done : PySem.W.codeIn K cd_Pace_is_done "Pace.is_done" = true)
    (k_Pace_is_done : PySem.W.keepIn K (.ref f_Pace_is_done) = true)
    (a_law_number : PySem.W.nsIn K mainGlobals "_law_number" = some (some (.ref f_law_number)))
    (i_law_number : PySem.W.isFn K (.ref f_law_number) = true)
    (l_law_number : K.lookup f_law_number = some ⟨oc_law_number, od_law_number, .func (PySem.W.fnOf "_law_number" "_law_number" (defArgs s_law_number) (defBody s_law_number) (defScope s_law_number) .none kV_law_number dc_law_number pm_law_number an_law_number cd_law_number ct_law_number), sl_law_number⟩)
    (c_law_number : PySem.W.codeIn K cd_law_number "_law_number" = true)
    (k_law_number : PySem.W.keepIn K (.ref f_law_number) = true)
    (a_law_take : PySem.W.nsIn K mainGlobals "_law_take" = some (some (.ref f_law_take)))
    (i_law_take : PySem.W.isFn K (.ref f_law_take) = true)
    (l_law_take : K.lookup f_law_take = some ⟨oc_law_take, od_law_take, .func (PySem.W.fnOf "_law_take" "_law_take" (defArgs s_law_take) (defBody s_law_take) (defScope s_law_take) .none kV_law_take dc_law_take pm_law_take an_law_take cd_law_take ct_law_take), sl_law_take⟩)
    (c_law_take : PySem.W.codeIn K cd_law_take "_law_take" = true)
    (k_law_take : PySem.W.keepIn K (.ref f_law_take) = true)
    (a_law_refused : PySem.W.nsIn K mainGlobals "_law_refused" = some (some (.ref f_law_refused)))
    (i_law_refused : PySem.W.isFn K (.ref f_law_refused) = true)
    (l_law_refused : K.lookup f_law_refused = some ⟨oc_law_refused, od_law_refused, .func (PySem.W.fnOf "_law_refused" "_law_refused" (defArgs s_law_refused) (defBody s_law_refused) (defScope s_law_refused) .none kV_law_refused dc_law_refused pm_law_refused an_law_refused cd_law_refused ct_law_refused), sl_law_refused⟩)
    (c_law_refused : PySem.W.codeIn K cd_law_refused "_law_refused" = true)
    (k_law_refused : PySem.W.keepIn K (.ref f_law_refused) = true)
    (a_law_slow : PySem.W.nsIn K mainGlobals "_law_slow" = some (some (.ref f_law_slow)))
    (i_law_slow : PySem.W.isFn K (.ref f_law_slow) = true)
    (l_law_slow : K.lookup f_law_slow = some ⟨oc_law_slow, od_law_slow, .func (PySem.W.fnOf "_law_slow" "_law_slow" (defArgs s_law_slow) (defBody s_law_slow) (defScope s_law_slow) .none kV_law_slow dc_law_slow pm_law_slow an_law_slow cd_law_slow ct_law_slow), sl_law_slow⟩)
    (c_law_slow : PySem.W.codeIn K cd_law_slow "_law_slow" = true)
    (k_law_slow : PySem.W.keepIn K (.ref f_law_slow) = true)
    (a_law_late : PySem.W.nsIn K mainGlobals "_law_late" = some (some (.ref f_law_late)))
    (i_law_late : PySem.W.isFn K (.ref f_law_late) = true)
    (l_law_late : K.lookup f_law_late = some ⟨oc_law_late, od_law_late, .func (PySem.W.fnOf "_law_late" "_law_late" (defArgs s_law_late) (defBody s_law_late) (defScope s_law_late) .none kV_law_late dc_law_late pm_law_late an_law_late cd_law_late ct_law_late), sl_law_late⟩)
    (c_law_late : PySem.W.codeIn K cd_law_late "_law_late" = true)
    (k_law_late : PySem.W.keepIn K (.ref f_law_late) = true)
    (a_law : PySem.W.nsIn K mainGlobals "law" = some (some (.ref f_law)))
    (i_law : PySem.W.isFn K (.ref f_law) = true)
    (l_law : K.lookup f_law = some ⟨oc_law, od_law, .func (PySem.W.fnOf "law" "law" (defArgs s_law) (defBody s_law) (defScope s_law) .none kV_law dc_law pm_law an_law cd_law ct_law), sl_law⟩)
    (c_law : PySem.W.codeIn K cd_law "law" = true)
    (k_law : PySem.W.keepIn K (.ref f_law) = true)
    (a_MOST_WAIT : PySem.W.nsIn K mainGlobals "MOST_WAIT" = some (some (.int 1000 t_MOST_WAIT)))
    (a_WINDOW : PySem.W.nsIn K mainGlobals "WINDOW" = some (some (.int 3 t_WINDOW)))
    (z_abs : PySem.W.nsIn K mainGlobals "abs" = some none)
    (z_bool : PySem.W.nsIn K mainGlobals "bool" = some none)
    (z_enumerate : PySem.W.nsIn K mainGlobals "enumerate" = some none)
    (z_int : PySem.W.nsIn K mainGlobals "int" = some none)
    (z_isinstance : PySem.W.nsIn K mainGlobals "isinstance" = some none)
    (z_len : PySem.W.nsIn K mainGlobals "len" = some none)
    (z_max : PySem.W.nsIn K mainGlobals "max" = some none)
    (z_range : PySem.W.nsIn K mainGlobals "range" = some none)
    (z_tuple : PySem.W.nsIn K mainGlobals "tuple" = some none)
    (z_super : PySem.W.nsIn K mainGlobals "super" = some none)
    (opq : PySem.W.nsIn K cStatics "thirdparty.any" = some none)
    (top : (l.prog.main.scope.names.lookup ("super" : Str)).isSome = false)
    (aC_BadName : PySem.W.nsIn K mainGlobals "BadName" = some (some (.ref C_BadName)))
    (xL_BadName : K.lookup C_BadName = some (excClassObj nm_BadName qn_BadName C_BadName N_BadName bs_BadName (.ref C_CallError :: PySem.ESX.exTail) true sn_BadName sub_BadName ab_BadName col_BadName dd_BadName m0_BadName m1_BadName m2_BadName m3_BadName m5_BadName "Exception.__new__"))
    (sa_BadName : PySem.W.findIn K (.ref C_BadName) "__setattr__" = some (some (.builtin "object.__setattr__")))
    (ga_BadName : PySem.W.findIn K (.ref C_BadName) "__getattribute__" = some (some (.builtin "BaseException.__getattribute__")))
    (gg_BadName : PySem.W.findIn K (.ref C_BadName) "__getattr__" = some none)
    (nb_BadName : PySem.W.findIn K (.ref C_BadName) "name" = some none)
    (ini_BadName : PySem.W.findIn K (.ref C_BadName) "__init__" = some (some (.ref f_BadName_init)))
    (tf_BadName : PySem.W.typeIn K (.ref f_BadName_init) = some (.type "function"))
    (kC_BadName : PySem.W.keepIn K (.ref C_BadName) = true)
    (eC_BadName : PySem.W.subIn K (.ref C_BadName) (.type "BaseException") = some true)
    (tC_BadName : PySem.W.typeIn K (.ref C_BadName) = some (.type "type"))
    (hC_BadName : PySem.W.hasDictIn K C_BadName = true)
    (te_BadName : PySem.W.exmOne K (.ref C_BadName) (.ref C_BadName) = some true)
    (al_BadName : PySem.W.ks_superIn K C_BadName C_BadName "__init__" = some (some (.builtin "Exception.__init__")))
    (lf_BadName : K.lookup f_BadName_init = some ⟨xoc_BadName, xod_BadName, .func (PySem.W.ksFn "__init__" "BadName.__init__" PySem.XeBadName.iA PySem.XeBadName.iB PySem.XeBadName.iS .none .none xdc_BadName xpm_BadName xan_BadName (.ref cda_BadName) xct_BadName cc_BadName), xsl_BadName⟩)
    (cf_BadName : PySem.W.codeIn K (.ref cda_BadName) "BadName.__init__" = true)
    (lc_BadName : K.lookup cc_BadName = some ⟨xcl_BadName, xcd_BadName, .cell (some (.ref C_BadName)), xcs_BadName⟩)
    (ld_BadName : K.lookup cda_BadName = some ⟨ycl_BadName, ycd_BadName, .fields yvs_BadName, ycs_BadName⟩)
    (v2_BadName : yvs_BadName[2]? = some (.str yf_BadName yt_BadName))
    (fl_BadName : ((l.prog.main.file : Str) == yf_BadName) = true)
    : ∃ fd : FuncData, (∀ (s : Shared) (v : Value), BindsTo s fd ⟨[v], []⟩ [("_law_script", v)]) ∧ ∀ base : Heap, K.In base → base.Ns mainGlobals mg → FnOk l.prog w K mg base CX0 6 fa fd ["_law_script"] (spLaw K) := by
  have e := hfa.symm.trans (PySem.W.mg_of X G a_law)
  obtain rfl : f_law = fa := by cases e; rfl
  let T : Tx K mg := {
    Pg := l.prog
    C_CallError := C_CallError
    C_BadName := C_BadName
    f_BadName_init := f_BadName_init
    X_BadName := { gC := PySem.W.mg_of X G aC_BadName, cls := ⟨_, _, _, _, _, _, _, _, _, _, _, _, _, _, xL_BadName⟩, sa := sa_BadName, xf := ⟨ga_BadName, gg_BadName, eC_BadName, hC_BadName⟩, noN := nb_BadName, iC := ini_BadName, tC := tf_BadName, kC := kC_BadName, exC := eC_BadName, tyC := tC_BadName, te := te_BadName, sup := PySem.W.mg_none_of X G z_super, opq := opq, al := al_BadName, top := top, fn := ⟨_, _, _, _, _, _, _, _, _, _, _, _, _, _, _, _, _, _, lf_BadName, cf_BadName, lc_BadName, ld_BadName, v2_BadName, fl_BadName⟩ }
    C_End := C_End
    C_Pace := C_Pace
    f_End_init := f_End_init
    fd_End_init := PySem.W.fnOf "__init__" "End.__init__" (defArgs s_End_init) (defBody s_End_init) (defScope s_End_init) .none kV_End_init dc_End_init pm_End_init an_End_init cd_End_init ct_End_init
    f_End_put := f_End_put
    fd_End_put := PySem.W.fnOf "put" "End.put" (defArgs s_End_put) (defBody s_End_put) (defScope s_End_put) .none kV_End_put dc_End_put pm_End_put an_End_put cd_End_put ct_End_put
    f_End_frames := f_End_frames
    fd_End_frames := PySem.W.fnOf "frames" "End.frames" (defArgs s_End_frames) (defBody s_End_frames) (defScope s_End_frames) .none kV_End_frames dc_End_frames pm_End_frames an_End_frames cd_End_frames ct_End_frames
    f_End_hear := f_End_hear
    fd_End_hear := PySem.W.fnOf "hear" "End.hear" (defArgs s_End_hear) (defBody s_End_hear) (defScope s_End_hear) .none kV_End_hear dc_End_hear pm_End_hear an_End_hear cd_End_hear ct_End_hear
    f_is_whole := f_is_whole
    fd_is_whole := PySem.W.fnOf "is_whole" "is_whole" (defArgs s_is_whole) (defBody s_is_whole) (defScope s_is_whole) .none kV_is_whole dc_is_whole pm_is_whole an_is_whole cd_is_whole ct_is_whole
    f_slowest := f_slowest
    fd_slowest := PySem.W.fnOf "slowest" "slowest" (defArgs s_slowest) (defBody s_slowest) (defScope s_slowest) .none kV_slowest dc_slowest pm_slowest an_slowest cd_slowest ct_slowest
    f_Pace_init := f_Pace_init
    fd_Pace_init := PySem.W.fnOf "__init__" "Pace.__init__" (defArgs s_Pace_init) (defBody s_Pace_init) (defScope s_Pace_init) .none kV_Pace_init dc_Pace_init pm_Pace_init an_Pace_init cd_Pace_init ct_Pace_init
    f_Pace_put := f_Pace_put
    fd_Pace_put := PySem.W.fnOf "put" "Pace.put" (defArgs s_Pace_put) (defBody s_Pace_put) (defScope s_Pace_put) .none kV_Pace_put dc_Pace_put pm_Pace_put an_Pace_put cd_Pace_put ct_Pace_put
    f_Pace_tick := f_Pace_tick
    fd_Pace_tick := PySem.W.fnOf "tick" "Pace.tick" (defArgs s_Pace_tick) (defBody s_Pace_tick) (defScope s_Pace_tick) .none kV_Pace_tick dc_Pace_tick pm_Pace_tick an_Pace_tick cd_Pace_tick ct_Pace_tick
    f_Pace_is_done := f_Pace_is_done
    fd_Pace_is_done := PySem.W.fnOf "is_done" "Pace.is_done" (defArgs s_Pace_is_done) (defBody s_Pace_is_done) (defScope s_Pace_is_done) .none kV_Pace_is_done dc_Pace_is_done pm_Pace_is_done an_Pace_is_done cd_Pace_is_done ct_Pace_is_done
    f_law_number := f_law_number
    fd_law_number := PySem.W.fnOf "_law_number" "_law_number" (defArgs s_law_number) (defBody s_law_number) (defScope s_law_number) .none kV_law_number dc_law_number pm_law_number an_law_number cd_law_number ct_law_number
    f_law_take := f_law_take
    fd_law_take := PySem.W.fnOf "_law_take" "_law_take" (defArgs s_law_take) (defBody s_law_take) (defScope s_law_take) .none kV_law_take dc_law_take pm_law_take an_law_take cd_law_take ct_law_take
    f_law_refused := f_law_refused
    fd_law_refused := PySem.W.fnOf "_law_refused" "_law_refused" (defArgs s_law_refused) (defBody s_law_refused) (defScope s_law_refused) .none kV_law_refused dc_law_refused pm_law_refused an_law_refused cd_law_refused ct_law_refused
    f_law_slow := f_law_slow
    fd_law_slow := PySem.W.fnOf "_law_slow" "_law_slow" (defArgs s_law_slow) (defBody s_law_slow) (defScope s_law_slow) .none kV_law_slow dc_law_slow pm_law_slow an_law_slow cd_law_slow ct_law_slow
    f_law_late := f_law_late
    fd_law_late := PySem.W.fnOf "_law_late" "_law_late" (defArgs s_law_late) (defBody s_law_late) (defScope s_law_late) .none kV_law_late dc_law_late pm_law_late an_law_late cd_law_late ct_law_late
    f_law := f_law
    fd_law := PySem.W.fnOf "law" "law" (defArgs s_law) (defBody s_law) (defScope s_law) .none kV_law dc_law pm_law an_law cd_law ct_law
    F_End := ⟨⟨pg_End, hd_End, po_End, sa_End⟩, fun f hf => by
      simp only [List.mem_cons, List.not_mem_nil, or_false] at hf
      rcases hf with rfl | rfl | rfl | rfl
      all_goals assumption⟩
    mg_End := PySem.W.mg_of X G aC_End
    M_End := ⟨mk_End, a_End_init, i_End_init, kc_End⟩
    F_Pace := ⟨⟨pg_Pace, hd_Pace, po_Pace, sa_Pace⟩, fun f hf => by
      simp only [List.mem_cons, List.not_mem_nil, or_false] at hf
      rcases hf with rfl | rfl | rfl | rfl | rfl | rfl
      all_goals assumption⟩
    mg_Pace := PySem.W.mg_of X G aC_Pace
    M_Pace := ⟨mk_Pace, a_Pace_init, i_Pace_init, kc_Pace⟩
    F_End_init := fun_mk (st := s_End_init) l_End_init c_End_init k_End_init
    k_End_init := k_End_init
    b_End_init := (fun_mk (st := s_End_init) l_End_init c_End_init k_End_init).binds (ps := ["self"]) fun _ _ _ _ _ _ us hl => match us, hl with | [_], _ => rfl
    F_End_put := fun_mk (st := s_End_put) l_End_put c_End_put k_End_put
    k_End_put := k_End_put
    b_End_put := (fun_mk (st := s_End_put) l_End_put c_End_put k_End_put).binds (ps := ["self", "word"]) fun _ _ _ _ _ _ us hl => match us, hl with | [_, _], _ => rfl
    m_End_put := ⟨a_End_put, i_End_put, k_End_put⟩
    F_End_frames := fun_mk (st := s_End_frames) l_End_frames c_End_frames k_End_frames
    k_End_frames := k_End_frames
    b_End_frames := (fun_mk (st := s_End_frames) l_End_frames c_End_frames k_End_frames).binds (ps := ["self"]) fun _ _ _ _ _ _ us hl => match us, hl with | [_], _ => rfl
    m_End_frames := ⟨a_End_frames, i_End_frames, k_End_frames⟩
    F_End_hear := fun_mk (st := s_End_hear) l_End_hear c_End_hear k_End_hear
    k_End_hear := k_End_hear
    b_End_hear := (fun_mk (st := s_End_hear) l_End_hear c_End_hear k_End_hear).binds (ps := ["self", "epoch", "frame"]) fun _ _ _ _ _ _ us hl => match us, hl with | [_, _, _], _ => rfl
    m_End_hear := ⟨a_End_hear, i_End_hear, k_End_hear⟩
    F_is_whole := fun_mk (st := s_is_whole) l_is_whole c_is_whole k_is_whole
    k_is_whole := k_is_whole
    b_is_whole := (fun_mk (st := s_is_whole) l_is_whole c_is_whole k_is_whole).binds (ps := ["thing", "low", "high"]) fun _ _ _ _ _ _ us hl => match us, hl with | [_, _, _], _ => rfl
    mg_is_whole := PySem.W.mg_of X G a_is_whole
    F_slowest := fun_mk (st := s_slowest) l_slowest c_slowest k_slowest
    k_slowest := k_slowest
    b_slowest := (fun_mk (st := s_slowest) l_slowest c_slowest k_slowest).binds (ps := ["words", "delay", "losses"]) fun _ _ _ _ _ _ us hl => match us, hl with | [_, _, _], _ => rfl
    mg_slowest := PySem.W.mg_of X G a_slowest
    F_Pace_init := fun_mk (st := s_Pace_init) l_Pace_init c_Pace_init k_Pace_init
    k_Pace_init := k_Pace_init
    b_Pace_init := (fun_mk (st := s_Pace_init) l_Pace_init c_Pace_init k_Pace_init).binds (ps := ["self", "delay", "losses"]) fun _ _ _ _ _ _ us hl => match us, hl with | [_, _, _], _ => rfl
    F_Pace_put := fun_mk (st := s_Pace_put) l_Pace_put c_Pace_put k_Pace_put
    k_Pace_put := k_Pace_put
    b_Pace_put := (fun_mk (st := s_Pace_put) l_Pace_put c_Pace_put k_Pace_put).binds (ps := ["self", "at", "word"]) fun _ _ _ _ _ _ us hl => match us, hl with | [_, _, _], _ => rfl
    m_Pace_put := ⟨a_Pace_put, i_Pace_put, k_Pace_put⟩
    F_Pace_tick := fun_mk (st := s_Pace_tick) l_Pace_tick c_Pace_tick k_Pace_tick
    k_Pace_tick := k_Pace_tick
    b_Pace_tick := (fun_mk (st := s_Pace_tick) l_Pace_tick c_Pace_tick k_Pace_tick).binds (ps := ["self", "wishes"]) fun _ _ _ _ _ _ us hl => match us, hl with | [_, _], _ => rfl
    m_Pace_tick := ⟨a_Pace_tick, i_Pace_tick, k_Pace_tick⟩
    F_Pace_is_done := fun_mk (st := s_Pace_is_done) l_Pace_is_done c_Pace_is_done k_Pace_is_done
    k_Pace_is_done := k_Pace_is_done
    b_Pace_is_done := (fun_mk (st := s_Pace_is_done) l_Pace_is_done c_Pace_is_done k_Pace_is_done).binds (ps := ["self"]) fun _ _ _ _ _ _ us hl => match us, hl with | [_], _ => rfl
    m_Pace_is_done := ⟨a_Pace_is_done, i_Pace_is_done, k_Pace_is_done⟩
    F_law_number := fun_mk (st := s_law_number) l_law_number c_law_number k_law_number
    k_law_number := k_law_number
    b_law_number := (fun_mk (st := s_law_number) l_law_number c_law_number k_law_number).binds (ps := ["_law_script", "_law_index"]) fun _ _ _ _ _ _ us hl => match us, hl with | [_, _], _ => rfl
    mg_law_number := PySem.W.mg_of X G a_law_number
    F_law_take := fun_mk (st := s_law_take) l_law_take c_law_take k_law_take
    k_law_take := k_law_take
    b_law_take := (fun_mk (st := s_law_take) l_law_take c_law_take k_law_take).binds (ps := ["_law_draw", "_law_many"]) fun _ _ _ _ _ _ us hl => match us, hl with | [_, _], _ => rfl
    mg_law_take := PySem.W.mg_of X G a_law_take
    F_law_refused := fun_mk (st := s_law_refused) l_law_refused c_law_refused k_law_refused
    k_law_refused := k_law_refused
    b_law_refused := (fun_mk (st := s_law_refused) l_law_refused c_law_refused k_law_refused).binds (ps := ["_law_delay", "_law_losses"]) fun _ _ _ _ _ _ us hl => match us, hl with | [_, _], _ => rfl
    mg_law_refused := PySem.W.mg_of X G a_law_refused
    F_law_slow := fun_mk (st := s_law_slow) l_law_slow c_law_slow k_law_slow
    k_law_slow := k_law_slow
    b_law_slow := (fun_mk (st := s_law_slow) l_law_slow c_law_slow k_law_slow).binds (ps := []) fun _ _ _ _ _ _ us hl => match us, hl with | [], _ => rfl
    mg_law_slow := PySem.W.mg_of X G a_law_slow
    F_law_late := fun_mk (st := s_law_late) l_law_late c_law_late k_law_late
    k_law_late := k_law_late
    b_law_late := (fun_mk (st := s_law_late) l_law_late c_law_late k_law_late).binds (ps := []) fun _ _ _ _ _ _ us hl => match us, hl with | [], _ => rfl
    mg_law_late := PySem.W.mg_of X G a_law_late
    F_law := fun_mk (st := s_law) l_law c_law k_law
    k_law := k_law
    b_law := (fun_mk (st := s_law) l_law c_law k_law).binds (ps := ["_law_script"]) fun _ _ _ _ _ _ us hl => match us, hl with | [_], _ => rfl
    mg_law := PySem.W.mg_of X G a_law
    t_MOST_WAIT := t_MOST_WAIT
    mg_MOST_WAIT := PySem.W.mg_of X G a_MOST_WAIT
    t_WINDOW := t_WINDOW
    mg_WINDOW := PySem.W.mg_of X G a_WINDOW
    no_abs := PySem.W.mg_none_of X G z_abs
    no_bool := PySem.W.mg_none_of X G z_bool
    no_enumerate := PySem.W.mg_none_of X G z_enumerate
    no_int := PySem.W.mg_none_of X G z_int
    no_isinstance := PySem.W.mg_none_of X G z_isinstance
    no_len := PySem.W.mg_none_of X G z_len
    no_max := PySem.W.mg_none_of X G z_max
    no_range := PySem.W.mg_none_of X G z_range
    no_tuple := PySem.W.mg_none_of X G z_tuple }
  exact ⟨T.fd_law, fun s v => .of_eq rfl, fun base _ _ => law_ok T⟩
theorem walk {l : PySem.W.OpenLaw} {q : Program} {loose : List Str} {XP : (Str → Option Value) → Heap → Prop} {YP : World → Heap → Prop} {d : DefRec} {K : Params → PySem.W.Frag} (hn : l.most = some 63) (hdf : d.params.defaults = [])
    (hY : ∀ (w : World) (h : Heap), YP w h → (K w.params).In h)
    (F : ∀ (w : World) (mg : Str → Option Value) (fa : Addr) (h : Heap), (K w.params).In h → h.Ns mainGlobals mg → mg d.name = some (.ref fa) →
      ∃ fd : FuncData, (∀ (s : Shared) (u : Value), BindsTo s fd ⟨[u], []⟩ [("_law_script", u)]) ∧ ∀ base : Heap, (K w.params).In base → base.Ns mainGlobals mg → FnOk l.prog w (K w.params) mg base CX0 6 fa fd ["_law_script"] (spLaw (K w.params))) :
    PySem.W.WalkO q loose XP YP l.row.toRowW d [] (fun f vs => PySem.call f vs) :=
  L2.walk_of (n := 63) (k := 6) (x := "_law_script") (CX := fun _ => CX0) (sp := fun w => spLaw (K w.params)) hn (by decide) hdf ⟨rfl, by decide, by decide⟩ hY F (fun _ H a ns hl _ hS => spLaw_intro hl hS) fun _ _ _ _ _ z => z
end Lw
open PySem PySem.W PyProof.Rows
set_option maxRecDepth 100000 in
set_option maxHeartbeats 0 in
theorem PySem.Challenge.cw_mastcalls_k44_whole_pacing_holds : PySem.Challenge.rw_mastcalls_k44_whole_pacing.Holds := by
  w_on; o_law; k_head; (case hw => w_witness2)
  k_fill
  refine Lw.walk (l := PySem.Challenge.rw_mastcalls_k44_whole_pacing) rfl rfl (fun w h Y => PySem.W.kIn_of Y) ?F
  case F =>
    intro w mg fa h KX G hmg
    refine' Lw.all_mk KX G hmg ?aC_End ?pg_End ?hd_End ?po_End ?sa_End ?mk_End ?kc_End ?na_End_0 ?na_End_1 ?na_End_2 ?na_End_3 ?aC_Pace ?pg_Pace ?hd_Pace ?po_Pace ?sa_Pace ?mk_Pace ?kc_Pace ?na_Pace_0 ?na_Pace_1 ?na_Pace_2 ?na_Pace_3 ?na_Pace_4 ?na_Pace_5 ?a_End_init ?i_End_init ?l_End_init ?c_End_init ?k_End_init ?a_End_put ?i_End_put ?l_End_put ?c_End_put ?k_End_put ?a_End_frames ?i_End_frames ?l_End_frames ?c_End_frames ?k_End_frames ?a_End_hear ?i_End_hear ?l_End_hear ?c_End_hear ?k_End_hear ?a_is_whole ?i_is_whole ?l_is_whole ?c_is_whole ?k_is_whole ?a_slowest ?i_slowest ?l_slowest ?c_slowest ?k_slowest ?a_Pace_init ?i_Pace_init ?l_Pace_init ?c_Pace_init ?k_Pace_init ?a_Pace_put ?i_Pace_put ?l_Pace_put ?c_Pace_put ?k_Pace_put ?a_Pace_tick ?i_Pace_tick ?l_Pace_tick ?c_Pace_tick ?k_Pace_tick ?a_Pace_is_done ?i_Pace_is_done ?l_Pace_is_done ?c_Pace_is_done ?k_Pace_is_done ?a_law_number ?i_law_number ?l_law_number ?c_law_number ?k_law_number ?a_law_take ?i_law_take ?l_law_take ?c_law_take ?k_law_take ?a_law_refused ?i_law_refused ?l_law_refused ?c_law_refused ?k_law_refused ?a_law_slow ?i_law_slow ?l_law_slow ?c_law_slow ?k_law_slow ?a_law_late ?i_law_late ?l_law_late ?c_law_late ?k_law_late ?a_law ?i_law ?l_law ?c_law ?k_law ?a_MOST_WAIT ?a_WINDOW ?z_abs ?z_bool ?z_enumerate ?z_int ?z_isinstance ?z_len ?z_max ?z_range ?z_tuple ?z_super ?opq ?top ?aC_BadName ?xL_BadName ?sa_BadName ?ga_BadName ?gg_BadName ?nb_BadName ?ini_BadName ?tf_BadName ?kC_BadName ?eC_BadName ?tC_BadName ?hC_BadName ?te_BadName ?al_BadName ?lf_BadName ?cf_BadName ?lc_BadName ?ld_BadName ?v2_BadName ?fl_BadName
    (case aC_End => k_is)
    (case pg_End => k_is)
    (case hd_End => k_is)
    (case po_End => k_is)
    (case sa_End => k_is)
    (case mk_End => k_is)
    (case kc_End => k_is)
    (case na_End_0 => k_is)
    (case na_End_1 => k_is)
    (case na_End_2 => k_is)
    (case na_End_3 => k_is)
    (case aC_Pace => k_is)
    (case pg_Pace => k_is)
    (case hd_Pace => k_is)
    (case po_Pace => k_is)
    (case sa_Pace => k_is)
    (case mk_Pace => k_is)
    (case kc_Pace => k_is)
    (case na_Pace_0 => k_is)
    (case na_Pace_1 => k_is)
    (case na_Pace_2 => k_is)
    (case na_Pace_3 => k_is)
    (case na_Pace_4 => k_is)
    (case na_Pace_5 => k_is)
    (case a_End_init => k_is)
    (case i_End_init => k_is)
    (case l_End_init => k_is)
    (case c_End_init => k_is)
    (case k_End_init => k_is)
    (case a_End_put => k_is)
    (case i_End_put => k_is)
    (case l_End_put => k_is)
    (case c_End_put => k_is)
    (case k_End_put => k_is)
    (case a_End_frames => k_is)
    (case i_End_frames => k_is)
    (case l_End_frames => k_is)
    (case c_End_frames => k_is)
    (case k_End_frames => k_is)
    (case a_End_hear => k_is)
    (case i_End_hear => k_is)
    (case l_End_hear => k_is)
    (case c_End_hear => k_is)
    (case k_End_hear => k_is)
    (case a_is_whole => k_is)
    (case i_is_whole => k_is)
    (case l_is_whole => k_is)
    (case c_is_whole => k_is)
    (case k_is_whole => k_is)
    (case a_slowest => k_is)
    (case i_slowest => k_is)
    (case l_slowest => k_is)
    (case c_slowest => k_is)
    (case k_slowest => k_is)
    (case a_Pace_init => k_is)
    (case i_Pace_init => k_is)
    (case l_Pace_init => k_is)
    (case c_Pace_init => k_is)
    (case k_Pace_init => k_is)
    (case a_Pace_put => k_is)
    (case i_Pace_put => k_is)
    (case l_Pace_put => k_is)
    (case c_Pace_put => k_is)
    (case k_Pace_put => k_is)
    (case a_Pace_tick => k_is)
    (case i_Pace_tick => k_is)
    (case l_Pace_tick => k_is)
    (case c_Pace_tick => k_is)
    (case k_Pace_tick => k_is)
    (case a_Pace_is_done => k_is)
    (case i_Pace_is_done => k_is)
    (case l_Pace_is_done => k_is)
    (case c_Pace_is_done => k_is)
    (case k_Pace_is_done => k_is)
    (case a_law_number => k_is)
    (case i_law_number => k_is)
    (case l_law_number => k_is)
    (case c_law_number => k_is)
    (case k_law_number => k_is)
    (case a_law_take => k_is)
    (case i_law_take => k_is)
    (case l_law_take => k_is)
    (case c_law_take => k_is)
    (case k_law_take => k_is)
    (case a_law_refused => k_is)
    (case i_law_refused => k_is)
    (case l_law_refused => k_is)
    (case c_law_refused => k_is)
    (case k_law_refused => k_is)
    (case a_law_slow => k_is)
    (case i_law_slow => k_is)
    (case l_law_slow => k_is)
    (case c_law_slow => k_is)
    (case k_law_slow => k_is)
    (case a_law_late => k_is)
    (case i_law_late => k_is)
    (case l_law_late => k_is)
    (case c_law_late => k_is)
    (case k_law_late => k_is)
    (case a_law => k_is)
    (case i_law => k_is)
    (case l_law => k_is)
    (case c_law => k_is)
    (case k_law => k_is)
    (case a_MOST_WAIT => k_is)
    (case a_WINDOW => k_is)
    (case z_abs => k_is)
    (case z_bool => k_is)
    (case z_enumerate => k_is)
    (case z_int => k_is)
    (case z_isinstance => k_is)
    (case z_len => k_is)
    (case z_max => k_is)
    (case z_range => k_is)
    (case z_tuple => k_is)
    (case z_super => k_is)
    (case opq => k_is)
    (case top => first | rfl | k_is | decide +kernel)
    (case aC_BadName => k_is)
    (case xL_BadName => k_is)
    (case sa_BadName => k_is)
    (case ga_BadName => k_is)
    (case gg_BadName => k_is)
    (case nb_BadName => k_is)
    (case ini_BadName => k_is)
    (case tf_BadName => k_is)
    (case kC_BadName => k_is)
    (case eC_BadName => k_is)
    (case tC_BadName => k_is)
    (case hC_BadName => k_is)
    (case te_BadName => first | rfl | k_is | decide +kernel)
    (case al_BadName => first | rfl | k_is | decide +kernel)
    (case lf_BadName => k_is)
    (case cf_BadName => k_is)
    (case lc_BadName => k_is)
    (case ld_BadName => k_is)
    (case v2_BadName => first | rfl | k_is | decide +kernel)
    (case fl_BadName => first | rfl | k_is | decide +kernel)
