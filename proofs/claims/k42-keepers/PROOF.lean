import PyProof.Rows.All
import Wide.All
import OpenK.AllK
import Wide.FinOn
import HandS.ForMost
import HandS.Walk
import HandS.Flow
import HandS.Style
import HandS.TupAny
import HandS.Evl
import HandS.Deep
import HandS.Dict
import HandS.DictComp
import KE.KExcSuper
import HandS.ExcSuper
import HandS.ExcField
import HandS.ExcCtx
import HandS.WordsExc
import HandS.IsInst
import HandS.Star
import PySem.Challenge.RW_mastcalls_k42_whole_keepers
set_option Elab.async false
set_option linter.all false
set_option maxRecDepth 100000
set_option maxHeartbeats 2000000
/-! Sx: a state by descriptions: frozen data, owned cells; what an expression evaluates to; statements. -/
namespace Sx
open PySem L2 Evl

/-! ### the frozen part may grow, dicts in it may be locked and unlocked -/
def plainHO (_ : HO) : Bool := true
structure Fx (F F' : Hp) : Prop where
  pl : ∀ a u, F a = some u → plainHO u = true → F' a = some u
theorem Fx.refl (F : Hp) : Fx F F := ⟨fun _ _ h _ => h⟩
theorem Fx.trans {F F1 F2 : Hp} (a : Fx F F1) (b : Fx F1 F2) : Fx F F2 := ⟨fun x u h p => b.pl x u (a.pl x u h p) p⟩
theorem Fx.of {F F' : Hp} (h : Ex F F') : Fx F F' := ⟨fun a u e _ => h a u e⟩

structure VD where
  P : Hp → V → Prop
  mono : ∀ {F F' : Hp} {v : V}, Fx F F' → P F v → P F' v
structure CD where
  P : Hp → Addr → HO → Prop
  mono : ∀ {F F' : Hp} {p : Addr} {o : HO}, Fx F F' → F' p = F p → P F p o → P F' p o
abbrev Env := List (Option VD)
abbrev Cells := List (Addr × CD)
/-- what stands besides: of the frozen part, and more cells -/
structure Fr where
  N : Cells
  P : Hp → Prop
  mono : ∀ {F F' : Hp}, Fx F F' → P F → P F'

/-! ### data -/
mutual
inductive Rp (F : Hp) : V → PyData → Prop
  | non : Rp F .non .none
  | bl (b : Bool) : Rp F (.bl b) (.bool b)
  | int (i : Int) : Rp F (.int i) (.int i)
  | str (x : Str) : Rp F (.str x) (.str x)
  | lst {a : Addr} {xs : List V} {ds : List PyData} : F a = some (.lst xs) → RpL F xs ds → Rp F (.ref a) (.list ds)
  | tup {a : Addr} {xs : List V} {ds : List PyData} : F a = some (.tup xs) → RpL F xs ds → Rp F (.ref a) (.tuple ds)
inductive RpL (F : Hp) : List V → List PyData → Prop
  | nil : RpL F [] []
  | cons {v : V} {vs : List V} {d : PyData} {ds : List PyData} : Rp F v d → RpL F vs ds → RpL F (v :: vs) (d :: ds)
end
mutual
theorem Rp.mono {F F' : Hp} (e : Fx F F') : ∀ (d : PyData) {v : V}, Rp F v d → Rp F' v d
  | .none, _, h => by cases h; exact .non
  | .bool b, _, h => by cases h; exact .bl b
  | .int i, _, h => by cases h; exact .int i
  | .str x, _, h => by cases h; exact .str x
  | .list ds, _, h => by
    cases h with
    | lst h1 h2 => exact .lst (e.pl _ _ h1 rfl) (RpL.mono e ds h2)
  | .tuple ds, _, h => by
    cases h with
    | tup h1 h2 => exact .tup (e.pl _ _ h1 rfl) (RpL.mono e ds h2)
  | .dict _, _, h => by cases h
theorem RpL.mono {F F' : Hp} (e : Fx F F') : ∀ (ds : List PyData) {vs : List V}, RpL F vs ds → RpL F' vs ds
  | [], _, h => by cases h; exact .nil
  | d :: ds, _, h => by
    cases h with
    | cons h1 h2 => exact .cons (Rp.mono e d h1) (RpL.mono e ds h2)
end
mutual
theorem Rp.dp {K : PySem.W.Frag} {F H : Hp} (e : Ex F H) : ∀ (d : PyData) {v : V}, Rp F v d → Dp K H v d
  | .none, _, h => by cases h; exact .non
  | .bool b, _, h => by cases h; exact .bl b
  | .int i, _, h => by cases h; exact .int i
  | .str x, _, h => by cases h; exact .str x
  | .list ds, _, h => by
    cases h with
    | lst h1 h2 => exact .lst (.inl (.inl (e _ _ h1))) (RpL.dp e ds h2)
  | .tuple ds, _, h => by
    cases h with
    | tup h1 h2 => exact .tup (.inl (.inl (e _ _ h1))) (RpL.dp e ds h2)
  | .dict _, _, h => by cases h
theorem RpL.dp {K : PySem.W.Frag} {F H : Hp} (e : Ex F H) : ∀ (ds : List PyData) {vs : List V}, RpL F vs ds → DpAll K H vs ds
  | [], _, h => by cases h; exact .nil
  | d :: ds, _, h => by
    cases h with
    | cons h1 h2 => exact .cons (Rp.dp e d h1) (RpL.dp e ds h2)
end
theorem RpL.length {F : Hp} : ∀ {vs : List V} {ds : List PyData}, RpL F vs ds → vs.length = ds.length
  | _, _, .nil => rfl
  | _, _, .cons _ h => by simp [RpL.length h]
theorem RpL.get {F : Hp} : ∀ {vs : List V} {ds : List PyData} {i : Nat} {d : PyData}, RpL F vs ds → ds[i]? = some d → ∃ v, vs[i]? = some v ∧ Rp F v d
  | _, _, _, _, .nil, e => by simp at e
  | _, _, 0, _, .cons h _, e => by simp at e; subst e; exact ⟨_, rfl, h⟩
  | _, _, i + 1, d, .cons _ t, e => by
    obtain ⟨v, h1, h2⟩ := RpL.get (i := i) (d := d) t (by simpa using e)
    exact ⟨v, by simpa using h1, h2⟩
theorem RpL.getV {F : Hp} : ∀ {vs : List V} {ds : List PyData} {i : Nat} {v : V}, RpL F vs ds → vs[i]? = some v → ∃ d, ds[i]? = some d ∧ Rp F v d
  | _, _, _, _, .nil, e => by simp at e
  | _, _, 0, _, .cons h _, e => by simp at e; subst e; exact ⟨_, rfl, h⟩
  | _, _, i + 1, d, .cons _ t, e => by
    obtain ⟨v, h1, h2⟩ := RpL.getV (i := i) (v := d) t (by simpa using e)
    exact ⟨v, by simpa using h1, h2⟩
theorem RpL.append {F : Hp} : ∀ {vs ws : List V} {ds es : List PyData}, RpL F vs ds → RpL F ws es → RpL F (vs ++ ws) (ds ++ es)
  | _, _, _, _, .nil, s => s
  | _, _, _, _, .cons r t, s => .cons r (RpL.append t s)
theorem RpL.take {F : Hp} : ∀ {vs : List V} {ds : List PyData} (n : Nat), RpL F vs ds → RpL F (vs.take n) (ds.take n)
  | _, _, 0, _ => .nil
  | _, _, _ + 1, .nil => .nil
  | _, _, n + 1, .cons r t => .cons r (RpL.take n t)
theorem RpL.drop {F : Hp} : ∀ {vs : List V} {ds : List PyData} (n : Nat), RpL F vs ds → RpL F (vs.drop n) (ds.drop n)
  | _, _, 0, r => r
  | _, _, _ + 1, .nil => .nil
  | _, _, n + 1, .cons _ t => RpL.drop n t
theorem RpL.set {F : Hp} {v : V} {d : PyData} (r : Rp F v d) : ∀ {vs : List V} {ds : List PyData} (i : Nat), RpL F vs ds → RpL F (vs.set i v) (ds.set i d)
  | _, _, _, .nil => .nil
  | _, _, 0, .cons _ t => .cons r t
  | _, _, i + 1, .cons q t => .cons q (RpL.set r i t)
theorem RpL.reverse {F : Hp} : ∀ {vs : List V} {ds : List PyData}, RpL F vs ds → RpL F vs.reverse ds.reverse
  | _, _, .nil => .nil
  | _, _, .cons r t => by
    rw [List.reverse_cons, List.reverse_cons]
    exact RpL.append (RpL.reverse t) (.cons r .nil)
theorem RpL.ints {F : Hp} : ∀ {vs : List V} {ns : List Int}, RpL F vs (ns.map PyData.int) → vs = ns.map V.int
  | _, [], h => by cases h; rfl
  | _, n :: ns, h => by
    cases h with
    | cons h1 h2 =>
      cases h1
      rw [RpL.ints h2]
      rfl
theorem RpL.bls {F : Hp} : ∀ {vs : List V} {ns : List Bool}, RpL F vs (ns.map PyData.bool) → vs = ns.map V.bl
  | _, [], h => by cases h; rfl
  | _, n :: ns, h => by
    cases h with
    | cons h1 h2 =>
      cases h1
      rw [RpL.bls h2]
      rfl
theorem RpL.strs {F : Hp} : ∀ {vs : List V} {ns : List Str}, RpL F vs (ns.map PyData.str) → vs = ns.map V.str
  | _, [], h => by cases h; rfl
  | _, n :: ns, h => by
    cases h with
    | cons h1 h2 =>
      cases h1
      rw [RpL.strs h2]
      rfl

abbrev DA (F : Hp) (ds : List VD) (vs : List V) : Prop := Paired (fun (x : VD) (v : V) => x.P F v) ds vs
theorem DA.mono {F F' : Hp} (e : Fx F F') {ds : List VD} {vs : List V} (h : DA F ds vs) : DA F' ds vs := Paired.mapP h fun x _ q => x.mono e q
theorem DA.get {F : Hp} : ∀ {ds : List VD} {vs : List V} {i : Nat} {d : VD}, DA F ds vs → ds[i]? = some d → ∃ v, vs[i]? = some v ∧ d.P F v
  | _, _, _, _, .nil, e => by simp at e
  | _, _, 0, _, .cons h _, e => by simp at e; subst e; exact ⟨_, rfl, h⟩
  | _, _, i + 1, d, .cons _ t, e => by
    obtain ⟨v, h1, h2⟩ := DA.get (i := i) (d := d) t (by simpa using e)
    exact ⟨v, by simpa using h1, h2⟩
theorem DA.append {F : Hp} : ∀ {vs ws : List V} {ds es : List VD}, DA F ds vs → DA F es ws → DA F (ds ++ es) (vs ++ ws)
  | _, _, _, _, .nil, s => s
  | _, _, _, _, .cons r t, s => .cons r (DA.append t s)
theorem DA.set {F : Hp} {v : V} {d : VD} (r : d.P F v) : ∀ {vs : List V} {ds : List VD} (i : Nat), DA F ds vs → DA F (ds.set i d) (vs.set i v)
  | _, _, _, .nil => .nil
  | _, _, 0, .cons _ t => .cons r t
  | _, _, i + 1, .cons q t => .cons q (DA.set r i t)

/-! ### descriptions of values -/
def dat (d : PyData) : VD := ⟨fun F v => Rp F v d, fun e h => h.mono e⟩
def val (v0 : V) : VD := ⟨fun _ v => v = v0, fun _ h => h⟩
def vtup (xs : List VD) : VD := ⟨fun F v => ∃ a vs, v = .ref a ∧ F a = some (.tup vs) ∧ DA F xs vs, fun e ⟨a, vs, h1, h2, h3⟩ => ⟨a, vs, h1, e.pl _ _ h2 rfl, h3.mono e⟩⟩
def vlst (xs : List VD) : VD := ⟨fun F v => ∃ a vs, v = .ref a ∧ F a = some (.lst vs) ∧ DA F xs vs, fun e ⟨a, vs, h1, h2, h3⟩ => ⟨a, vs, h1, e.pl _ _ h2 rfl, h3.mono e⟩⟩
/-- a list of ints that is only read: the script -/
def vscr (K : PySem.W.Frag) (ns : List Int) : VD := ⟨fun F v => ∃ a, v = .ref a ∧ SqL K F a (ns.map V.int), fun {F F' v} e ⟨a, h1, h2⟩ => ⟨a, h1, by
  rcases h2 with (h | ⟨o, h⟩) | h
  · exact .inl (.inl (e.pl _ _ h rfl))
  · exact .inl (.inr ⟨o, e.pl _ _ h rfl⟩)
  · exact .inr h⟩⟩
abbrev vi (i : Int) : VD := dat (.int i)
abbrev vb (b : Bool) : VD := dat (.bool b)
abbrev vt (x : Str) : VD := dat (.str x)
abbrev vn : VD := dat .none
theorem DA.of_dat {F : Hp} : ∀ {ds : List PyData} {vs : List V}, DA F (ds.map dat) vs ↔ RpL F vs ds
  | [], vs => by
    constructor
    · intro h; cases h; exact .nil
    · intro h; cases h; exact .nil
  | d :: ds, vs => by
    constructor
    · intro h
      cases h with
      | cons h1 h2 => exact .cons h1 (DA.of_dat.mp h2)
    · intro h
      cases h with
      | cons h1 h2 => exact .cons h1 (DA.of_dat.mpr h2)
theorem vtup_dat {F : Hp} {v : V} {ds : List PyData} : (vtup (ds.map dat)).P F v ↔ (dat (.tuple ds)).P F v := by
  constructor
  · rintro ⟨a, ws, rfl, h1, h2⟩
    exact .tup h1 (DA.of_dat.mp h2)
  · intro h
    cases h with
    | tup h1 h2 => exact ⟨_, _, rfl, h1, DA.of_dat.mpr h2⟩
theorem vlst_dat {F : Hp} {v : V} {ds : List PyData} : (vlst (ds.map dat)).P F v ↔ (dat (.list ds)).P F v := by
  constructor
  · rintro ⟨a, ws, rfl, h1, h2⟩
    exact .lst h1 (DA.of_dat.mp h2)
  · intro h
    cases h with
    | lst h1 h2 => exact ⟨_, _, rfl, h1, DA.of_dat.mpr h2⟩

/-! ### descriptions of cells -/
def cL (xs : List VD) : CD := ⟨fun F p o => F p = none ∧ ∃ vs, o = .lst vs ∧ DA F xs vs, fun e q ⟨h0, vs, h1, h2⟩ => ⟨q.trans h0, vs, h1, h2.mono e⟩⟩
/-- a list of data -/
def cLd (ds : List PyData) : CD := ⟨fun F p o => F p = none ∧ ∃ vs, o = .lst vs ∧ RpL F vs ds, fun e q ⟨h0, vs, h1, h2⟩ => ⟨q.trans h0, vs, h1, h2.mono e⟩⟩
def FA (F : Hp) (ns : List Str) (xs : List VD) (fs : List (Str × V)) : Prop := fs.map (·.1) = ns ∧ DA F xs (fs.map (·.2))
def cI (C : Addr) (ns : List Str) (xs : List VD) : CD := ⟨fun F p o => F p = none ∧ ∃ dx fs, o = .ins C dx fs ∧ FA F ns xs fs, fun e q ⟨h0, dx, fs, h1, h2, h3⟩ => ⟨q.trans h0, dx, fs, h1, h2, h3.mono e⟩⟩

/-! ### frames, states -/
def Fr.and (Φ : Fr) (x : VD) (v : V) : Fr := ⟨Φ.N, fun F => Φ.P F ∧ x.P F v, fun e ⟨h1, h2⟩ => ⟨Φ.mono e h1, x.mono e h2⟩⟩
def Fr.andA (Φ : Fr) (ds : List VD) (vs : List V) : Fr := ⟨Φ.N, fun F => Φ.P F ∧ DA F ds vs, fun e ⟨h1, h2⟩ => ⟨Φ.mono e h1, h2.mono e⟩⟩
def Fr.top : Fr := ⟨[], fun _ => True, fun _ h => h⟩
def Slots (F : Hp) (σ : L2.St) (ρ : Env) : Prop := σ.length = ρ.length ∧ ∀ (i : Nat) (x : VD), ρ[i]? = some (some x) → ∃ v : V, σ[i]? = some (some v) ∧ x.P F v
theorem Slots.mono {F F' : Hp} {σ : L2.St} {ρ : Env} (e : Fx F F') (h : Slots F σ ρ) : Slots F' σ ρ := ⟨h.1, fun i x q => let ⟨v, h1, h2⟩ := h.2 i x q; ⟨v, h1, x.mono e h2⟩⟩
def Fr.slots (Φ : Fr) (σ : L2.St) (ρ : Env) : Fr := ⟨Φ.N, fun F => Φ.P F ∧ Slots F σ ρ, fun e ⟨h1, h2⟩ => ⟨Φ.mono e h1, h2.mono e⟩⟩
/-- more cells besides -/
def Fr.more (Φ : Fr) (c : Addr × CD) : Fr := ⟨c :: Φ.N, Φ.P, Φ.mono⟩
structure Le (Φ Ψ : Fr) : Prop where
  n : Ψ.N.Sublist Φ.N
  p : ∀ F, Φ.P F → Ψ.P F
theorem Le.refl (Φ : Fr) : Le Φ Φ := ⟨List.Sublist.refl _, fun _ h => h⟩
theorem Le.trans {Φ Ψ Χ : Fr} (a : Le Φ Ψ) (b : Le Ψ Χ) : Le Φ Χ := ⟨b.n.trans a.n, fun F h => b.p F (a.p F h)⟩
theorem Le.of {Φ Ψ : Fr} (e : Φ.N = Ψ.N) (h : ∀ F, Φ.P F → Ψ.P F) : Le Φ Ψ := ⟨by rw [e]; exact List.Sublist.refl _, h⟩
theorem Le.and {Φ : Fr} {x : VD} {v : V} : Le (Φ.and x v) Φ := .of rfl fun _ h => h.1
theorem Le.andA {Φ : Fr} {x : List VD} {v : List V} : Le (Φ.andA x v) Φ := .of rfl fun _ h => h.1
theorem Le.slots {Φ : Fr} {x : Env} {v : L2.St} : Le (Φ.slots v x) Φ := .of rfl fun _ h => h.1
theorem Le.more {Φ : Fr} {c : Addr × CD} : Le (Φ.more c) Φ := ⟨List.sublist_cons_self _ _, fun _ h => h⟩

structure SatF (F : Hp) (Φ : Fr) (ρ : Env) (M : Cells) (σ : L2.St) (H : Hp) : Prop where
  ex : Ex F H
  fr : Φ.P F
  sl : Slots F σ ρ
  nd : ((M ++ Φ.N).map (·.1)).Nodup
  ce : ∀ c ∈ M ++ Φ.N, ∃ o, H c.1 = some o ∧ c.2.P F c.1 o
def Sat (Φ : Fr) (ρ : Env) (M : Cells) (σ : L2.St) (H : Hp) : Prop := ∃ F, SatF F Φ ρ M σ H
theorem Sat.weak {Φ Ψ : Fr} {ρ : Env} {M : Cells} {σ : L2.St} {H : Hp} (h : Sat Φ ρ M σ H) (l : Le Φ Ψ) : Sat Ψ ρ M σ H :=
  let ⟨F, s⟩ := h; ⟨F, s.ex, l.p F s.fr, s.sl, List.Pairwise.sublist ((List.Sublist.append (List.Sublist.refl M) l.n).map _) s.nd, fun c hc => s.ce c ((List.Sublist.append (List.Sublist.refl M) l.n).subset hc)⟩
theorem Sat.weak1 {Φ : Fr} {x : VD} {v : V} {ρ : Env} {M : Cells} {σ : L2.St} {H : Hp} (h : Sat (Φ.and x v) ρ M σ H) : Sat Φ ρ M σ H := h.weak Le.and
/-- a new plain object -/
theorem SatF.new {F : Hp} {Φ : Fr} {ρ : Env} {M : Cells} {σ : L2.St} {H : Hp} {p : Addr} {o : HO} (s : SatF F Φ ρ M σ H) (hp : H p = none) : SatF (upd F p o) Φ ρ M σ (upd H p o) ∧ Fx F (upd F p o) := by
  have hF : F p = none := fresh_back s.ex hp
  have fx : Fx F (upd F p o) := Fx.of (Ex.new hF)
  refine ⟨⟨fun a u e => ?_, Φ.mono fx s.fr, s.sl.mono fx, s.nd, fun c hc => ?_⟩, fx⟩
  · by_cases h : a = p
    · subst h; rw [upd_same] at e ⊢; exact e
    · rw [upd_ne h] at e ⊢; exact s.ex a u e
  · obtain ⟨u, h1, h2⟩ := s.ce c hc
    have hne : c.1 ≠ p := ne_of_none h1 hp
    exact ⟨u, by rw [upd_ne hne]; exact h1, c.2.mono fx (upd_ne hne) h2⟩
/-- the heap alone grows -/
theorem SatF.newH {F : Hp} {Φ : Fr} {ρ : Env} {M : Cells} {σ : L2.St} {H : Hp} {p : Addr} {o : HO} (s : SatF F Φ ρ M σ H) (hp : H p = none) : SatF F Φ ρ M σ (upd H p o) := by
  refine ⟨fun a u e => ?_, s.fr, s.sl, s.nd, fun c hc => ?_⟩
  · rw [upd_ne (ne_of_none (s.ex a u e) hp)]; exact s.ex a u e
  · obtain ⟨u, h1, h2⟩ := s.ce c hc
    exact ⟨u, by rw [upd_ne (ne_of_none h1 hp)]; exact h1, h2⟩
/-- a new object, owned -/
theorem SatF.newC {F : Hp} {Φ : Fr} {ρ : Env} {M : Cells} {σ : L2.St} {H : Hp} {p : Addr} {o : HO} {c : CD} (s : SatF F Φ ρ M σ H) (hp : H p = none) (hc : F p = none → c.P F p o) : SatF F Φ ρ ((p, c) :: M) σ (upd H p o) := by
  have s' := s.newH (o := o) hp
  refine ⟨s'.ex, s'.fr, s'.sl, ?_, fun d hd => ?_⟩
  · rw [List.cons_append, List.map_cons, List.nodup_cons]
    refine ⟨fun hm => ?_, s.nd⟩
    obtain ⟨d, hd, e⟩ := List.mem_map.mp hm
    obtain ⟨u, h1, _⟩ := s.ce d hd
    rw [e, hp] at h1
    cases h1
  · rcases List.mem_cons.mp hd with rfl | hd
    · exact ⟨o, upd_same, hc (fresh_back s.ex hp)⟩
    · exact s'.ce d hd

/-! ### cells: one is found; one is put in another's place -/
inductive Put (p : Addr) (c c' : CD) : Cells → Cells → Prop
  | here {l : Cells} : Put p c c' ((p, c) :: l) ((p, c') :: l)
  | there {x : Addr × CD} {l l' : Cells} : Put p c c' l l' → Put p c c' (x :: l) (x :: l')
theorem Put.mem {p : Addr} {c c' : CD} {M M' : Cells} (h : Put p c c' M M') : (p, c) ∈ M := by
  induction h with
  | here => exact List.mem_cons_self
  | there _ ih => exact List.mem_cons_of_mem _ ih
theorem Put.addrs {p : Addr} {c c' : CD} {M M' : Cells} (h : Put p c c' M M') : M'.map (·.1) = M.map (·.1) := by
  induction h with
  | here => rfl
  | there _ ih => simp [ih]
theorem Put.mem' {p : Addr} {c c' : CD} {M M' : Cells} (h : Put p c c' M M') : ∀ d ∈ M', d = (p, c') ∨ d ∈ M := by
  induction h with
  | here =>
    intro d hd
    rcases List.mem_cons.mp hd with e | hd
    · exact .inl e
    · exact .inr (List.mem_cons_of_mem _ hd)
  | there _ ih =>
    intro d hd
    rcases List.mem_cons.mp hd with e | hd
    · exact .inr (by rw [e]; exact List.mem_cons_self)
    · exact (ih d hd).imp_right (List.mem_cons_of_mem _)
theorem Put.uniq {p : Addr} {c c' : CD} {M M' : Cells} (h : Put p c c' M M') (nd : (M.map (·.1)).Nodup) : ∀ d ∈ M', d ≠ (p, c') → d.1 ≠ p := by
  induction h with
  | @here l =>
    intro d hd hne e
    rcases List.mem_cons.mp hd with q | hd
    · exact hne q
    · have := (List.nodup_cons.mp nd).1
      exact this (List.mem_map.mpr ⟨d, hd, e⟩)
  | @there x l l' hp ih =>
    intro d hd hne e
    rcases List.mem_cons.mp hd with q | hd
    · subst q
      have := (List.nodup_cons.mp nd).1
      exact this (List.mem_map.mpr ⟨(p, c), hp.mem, e.symm⟩)
    · exact ih (List.nodup_cons.mp nd).2 d hd hne e
theorem Put.app {p : Addr} {c c' : CD} {M M' : Cells} (h : Put p c c' M M') (N : Cells) : Put p c c' (M ++ N) (M' ++ N) := by
  induction h with
  | here => exact .here
  | there _ ih => exact .there ih
theorem Put.behind {p : Addr} {c c' : CD} {N N' : Cells} (h : Put p c c' N N') : ∀ M : Cells, Put p c c' (M ++ N) (M ++ N')
  | [] => h
  | _ :: M => .there (Put.behind h M)
/-- an owned cell is written -/
theorem SatF.put {F : Hp} {Φ Φ' : Fr} {ρ : Env} {M M' : Cells} {σ : L2.St} {H : Hp} {p : Addr} {o : HO} {c c' : CD} (s : SatF F Φ ρ M σ H) (h : Put p c c' (M ++ Φ.N) (M' ++ Φ'.N)) (hΦ : Φ'.P F) (hF : F p = none) (hc : c'.P F p o) : SatF F Φ' ρ M' σ (upd H p o) := by
  refine ⟨fun a u e => ?_, hΦ, s.sl, by rw [h.addrs]; exact s.nd, fun d hd => ?_⟩
  · have : a ≠ p := ne_of_none e hF
    rw [upd_ne this]; exact s.ex a u e
  · rcases Classical.em (d = (p, c')) with e | e
    · subst e; exact ⟨o, upd_same, hc⟩
    · have hne := h.uniq s.nd d hd e
      obtain ⟨u, h1, h2⟩ := s.ce d ((h.mem' d hd).resolve_left e)
      exact ⟨u, by rw [upd_ne hne]; exact h1, h2⟩
theorem SatF.put1 {F : Hp} {Φ : Fr} {ρ : Env} {M M' : Cells} {σ : L2.St} {H : Hp} {p : Addr} {o : HO} {c c' : CD} (s : SatF F Φ ρ M σ H) (h : Put p c c' M M') (hF : F p = none) (hc : c'.P F p o) : SatF F Φ ρ M' σ (upd H p o) := s.put (h.app _) s.fr hF hc
theorem SatF.at {F : Hp} {Φ : Fr} {ρ : Env} {M : Cells} {σ : L2.St} {H : Hp} {p : Addr} {c : CD} (s : SatF F Φ ρ M σ H) (h : (p, c) ∈ M) : ∃ o, H p = some o ∧ c.P F p o := s.ce _ (List.mem_append_left _ h)
theorem Put.same {p : Addr} {c : CD} : ∀ {M : Cells}, (p, c) ∈ M → Put p c c M M
  | [], h => by cases h
  | x :: l, h => by
    by_cases e : (p, c) = x
    · subst e; exact .here
    · exact .there (Put.same ((List.mem_cons.mp h).resolve_left e))

/-! ### slots -/
inductive SetAt (x : VD) : Env → Nat → Env → Prop
  | here {a : Option VD} {l : Env} : SetAt x (a :: l) 0 (some x :: l)
  | there {a : Option VD} {l l' : Env} {i : Nat} : SetAt x l i l' → SetAt x (a :: l) (i + 1) (a :: l')
theorem SetAt.eq {x : VD} {ρ ρ' : Env} {i : Nat} (h : SetAt x ρ i ρ') : ρ' = ρ.set i (some x) := by
  induction h with
  | here => rfl
  | there _ ih => simp [ih]
theorem Slots.set {F : Hp} {σ : L2.St} {ρ : Env} (h : Slots F σ ρ) {i : Nat} {x : VD} {v : V} (hv : x.P F v) : Slots F (σ.set i (some v)) (ρ.set i (some x)) := by
  refine ⟨by simp [h.1], fun j y e => ?_⟩
  by_cases q : i = j
  · subst q
    by_cases hl : i < ρ.length
    · rw [List.getElem?_set_self hl] at e
      cases e
      exact ⟨v, by rw [List.getElem?_set_self (by rw [h.1]; exact hl)], hv⟩
    · rw [List.getElem?_eq_none (by simp; omega)] at e
      cases e
  · rw [List.getElem?_set_ne q] at e
    obtain ⟨w, h1, h2⟩ := h.2 j y e
    exact ⟨w, by rw [List.getElem?_set_ne q]; exact h1, h2⟩
theorem Slots.wipe {F : Hp} {σ : L2.St} {ρ : Env} (h : Slots F σ ρ) (i : Nat) : Slots F (σ.set i none) (ρ.set i none) := by
  refine ⟨by simp [h.1], fun j y e => ?_⟩
  by_cases q : i = j
  · subst q
    by_cases hl : i < ρ.length
    · rw [List.getElem?_set_self hl] at e
      cases e
    · rw [List.getElem?_eq_none (by simp; omega)] at e
      cases e
  · rw [List.getElem?_set_ne q] at e
    obtain ⟨w, h1, h2⟩ := h.2 j y e
    exact ⟨w, by rw [List.getElem?_set_ne q]; exact h1, h2⟩
inductive At (x : VD) : Env → Nat → Prop
  | here {l : Env} : At x (some x :: l) 0
  | there {a : Option VD} {l : Env} {i : Nat} : At x l i → At x (a :: l) (i + 1)
theorem At.get {x : VD} {ρ : Env} {i : Nat} (h : At x ρ i) : ρ[i]? = some (some x) := by
  induction h with
  | here => rfl
  | there _ ih => simpa using ih

/-! ### what evaluates to what -/
def Ev (te : TE) (ρ : Env) (M : Cells) (x : VD) (M' : Cells) : Prop := ∀ (Φ : Fr) (σ : L2.St) (H : Hp) (Q : VK), Sat Φ ρ M σ H → (∀ v H', Sat (Φ.and x v) ρ M' σ H' → Q v H') → te σ H Q
def EvA (ta : TA) (ρ : Env) (M : Cells) (ds : List VD) (M' : Cells) : Prop := ∀ (Φ : Fr) (σ : L2.St) (H : Hp) (Q : List V → Hp → Prop), Sat Φ ρ M σ H → (∀ v H', Sat (Φ.andA ds v) ρ M' σ H' → Q v H') → ta σ H Q
/-- .. all of them data -/
def EvD (ta : TA) (ρ : Env) (M : Cells) (ds : List PyData) (M' : Cells) : Prop := EvA ta ρ M (ds.map dat) M'
def EvT (tt : TT) (ρ : Env) (M : Cells) (b : Bool) (M' : Cells) : Prop := ∀ (Φ : Fr) (σ : L2.St) (H : Hp) (Q : Bool → Hp → Prop), Sat Φ ρ M σ H → (∀ H', Sat Φ ρ M' σ H' → Q b H') → tt σ H Q
def EvO (to : TO) (ρ : Env) (M : Cells) (o : Option Int) (M' : Cells) : Prop := ∀ (Φ : Fr) (σ : L2.St) (H : Hp) (Q : Option Int → Hp → Prop), Sat Φ ρ M σ H → (∀ H', Sat Φ ρ M' σ H' → Q o H') → to σ H Q
def RV (r : R2) (x y : VD) (M : Cells) (z : VD) (M' : Cells) : Prop := ∀ (Φ : Fr) (ρ : Env) (σ : L2.St) (v w : V) (H : Hp) (Q : VK), Sat ((Φ.and x v).and y w) ρ M σ H → (∀ u H', Sat (Φ.and z u) ρ M' σ H' → Q u H') → r v w H Q
def RU (r : V → Hp → VK → Prop) (x : VD) (M : Cells) (z : VD) (M' : Cells) : Prop := ∀ (Φ : Fr) (ρ : Env) (σ : L2.St) (v : V) (H : Hp) (Q : VK), Sat (Φ.and x v) ρ M σ H → (∀ u H', Sat (Φ.and z u) ρ M' σ H' → Q u H') → r v H Q
def RC (r : List V → Hp → VK → Prop) (ds : List VD) (M : Cells) (z : VD) (M' : Cells) : Prop := ∀ (Φ : Fr) (ρ : Env) (σ : L2.St) (vs : List V) (H : Hp) (Q : VK), Sat (Φ.andA ds vs) ρ M σ H → (∀ u H', Sat (Φ.and z u) ρ M' σ H' → Q u H') → r vs H Q
def RM (r : V → List V → Hp → VK → Prop) (x : VD) (ds : List VD) (M : Cells) (z : VD) (M' : Cells) : Prop := ∀ (Φ : Fr) (ρ : Env) (σ : L2.St) (v : V) (vs : List V) (H : Hp) (Q : VK), Sat ((Φ.and x v).andA ds vs) ρ M σ H → (∀ u H', Sat (Φ.and z u) ρ M' σ H' → Q u H') → r v vs H Q

section
variable {ρ : Env} {M M1 M2 M3 M' : Cells} {ta tb te : TE} {x y z : VD}
theorem Ev.imp {w : VD} (h : Ev te ρ M x M') (k : ∀ F v, x.P F v → w.P F v) : Ev te ρ M w M' := fun Φ σ H Q s q => h Φ σ H Q s fun v H' s' => q v H' (s'.weak (.of rfl fun F p => ⟨p.1, k F v p.2⟩))
theorem Ev.eq {w : VD} (h : Ev te ρ M x M') (k : x = w) : Ev te ρ M w M' := k ▸ h
theorem ev_var {i : Nat} (h : At x ρ i) : Ev (tVar i) ρ M x M := fun Φ σ H Q ⟨F, s⟩ q => by
  obtain ⟨v, h1, h2⟩ := s.sl.2 i x h.get
  exact ⟨v, h1, q v H ⟨F, s.ex, ⟨s.fr, h2⟩, s.sl, s.nd, s.ce⟩⟩
theorem ev_c {v : V} {d : PyData} (h : ∀ F, Rp F v d) : Ev (tC v) ρ M (dat d) M := fun Φ σ H Q ⟨F, s⟩ q => q v H ⟨F, s.ex, ⟨s.fr, h F⟩, s.sl, s.nd, s.ce⟩
theorem ev_int {i : Int} : Ev (tC (.int i)) ρ M (dat (.int i)) M := ev_c fun _ => .int i
theorem ev_bl {i : Bool} : Ev (tC (.bl i)) ρ M (dat (.bool i)) M := ev_c fun _ => .bl i
theorem ev_str {i : Str} : Ev (tC (.str i)) ρ M (dat (.str i)) M := ev_c fun _ => .str i
theorem ev_non : Ev (tC .non) ρ M (dat .none) M := ev_c fun _ => .non
theorem ev_val {v : V} : Ev (tC v) ρ M (val v) M := fun Φ σ H Q ⟨F, s⟩ q => q v H ⟨F, s.ex, ⟨s.fr, rfl⟩, s.sl, s.nd, s.ce⟩
theorem ev_op {r : R2} (ha : Ev ta ρ M x M1) (hb : Ev tb ρ M1 y M2) (hr : RV r x y M2 z M3) : Ev (tOp r ta tb) ρ M z M3 := fun Φ σ H Q s q =>
  ha Φ σ H _ s fun v H1 s1 => hb _ σ H1 _ s1 fun w H2 s2 => hr Φ ρ σ v w H2 Q s2 q
theorem ev_un {r : V → Hp → VK → Prop} (ha : Ev ta ρ M x M1) (hr : RU r x M1 z M2) : Ev (tUn r ta) ρ M z M2 := fun Φ σ H Q s q =>
  ha Φ σ H _ s fun v H1 s1 => hr Φ ρ σ v H1 Q s1 q
theorem ea_nil : EvA tNil ρ M [] M := fun Φ σ H Q ⟨F, s⟩ q => q [] H ⟨F, s.ex, ⟨s.fr, .nil⟩, s.sl, s.nd, s.ce⟩
theorem ea_cons {tr : TA} {ds : List VD} (ha : Ev ta ρ M x M1) (hr : EvA tr ρ M1 ds M2) : EvA (tCons ta tr) ρ M (x :: ds) M2 := fun Φ σ H Q s q =>
  ha Φ σ H _ s fun v H1 s1 => hr _ σ H1 _ s1 fun vs H2 s2 => q (v :: vs) H2 (s2.weak (.of rfl fun F p => ⟨p.1.1, .cons p.1.2 p.2⟩))
theorem ed_nil : EvD tNil ρ M [] M := ea_nil
theorem ed_cons {tr : TA} {d : PyData} {ds : List PyData} (ha : Ev ta ρ M (dat d) M1) (hr : EvD tr ρ M1 ds M2) : EvD (tCons ta tr) ρ M (d :: ds) M2 := ea_cons ha hr
theorem ev_tupD {t : TA} {ds : List PyData} (h : EvD t ρ M ds M') (hl : ds.length ≤ sizeLine) : Ev (tTup t) ρ M (dat (.tuple ds)) M' := fun Φ σ H Q s q =>
  h Φ σ H _ s fun vs H1 ⟨F, s1⟩ => by
    have hr := DA.of_dat.mp s1.fr.2
    refine ⟨by rw [hr.length]; exact hl, fun p hp => ?_⟩
    obtain ⟨s2, fx⟩ := s1.new (o := .tup vs) hp
    exact q _ _ ⟨_, s2.ex, ⟨s2.fr.1, .tup upd_same (hr.mono fx)⟩, s2.sl, s2.nd, s2.ce⟩
theorem ev_lstD {t : TA} {ds : List PyData} (h : EvD t ρ M ds M') (hl : ds.length ≤ sizeLine) : Ev (tLst t) ρ M (dat (.list ds)) M' := fun Φ σ H Q s q =>
  h Φ σ H _ s fun vs H1 ⟨F, s1⟩ => by
    have hr := DA.of_dat.mp s1.fr.2
    refine ⟨by rw [hr.length]; exact hl, fun p hp => ?_⟩
    obtain ⟨s2, fx⟩ := s1.new (o := .lst vs) hp
    exact q _ _ ⟨_, s2.ex, ⟨s2.fr.1, .lst upd_same (hr.mono fx)⟩, s2.sl, s2.nd, s2.ce⟩
theorem ev_tupV {t : TA} {ds : List VD} (h : EvA t ρ M ds M') (hl : ds.length ≤ sizeLine) : Ev (tTup t) ρ M (vtup ds) M' := fun Φ σ H Q s q =>
  h Φ σ H _ s fun vs H1 ⟨F, s1⟩ => by
    have hr := s1.fr.2
    refine ⟨by rw [← Paired.length hr]; exact hl, fun p hp => ?_⟩
    obtain ⟨s2, fx⟩ := s1.new (o := .tup vs) hp
    exact q _ _ ⟨_, s2.ex, ⟨s2.fr.1, ⟨p, vs, rfl, upd_same, hr.mono fx⟩⟩, s2.sl, s2.nd, s2.ce⟩
theorem ev_lstV {t : TA} {ds : List VD} (h : EvA t ρ M ds M') (hl : ds.length ≤ sizeLine) : Ev (tLst t) ρ M (vlst ds) M' := fun Φ σ H Q s q =>
  h Φ σ H _ s fun vs H1 ⟨F, s1⟩ => by
    have hr := s1.fr.2
    refine ⟨by rw [← Paired.length hr]; exact hl, fun p hp => ?_⟩
    obtain ⟨s2, fx⟩ := s1.new (o := .lst vs) hp
    exact q _ _ ⟨_, s2.ex, ⟨s2.fr.1, ⟨p, vs, rfl, upd_same, hr.mono fx⟩⟩, s2.sl, s2.nd, s2.ce⟩
theorem ev_if {t : TT} {b : Bool} (h : EvT t ρ M b M1) (h1 : b = true → Ev ta ρ M1 x M2) (h2 : b = false → Ev tb ρ M1 x M2) : Ev (tIf t ta tb) ρ M x M2 := fun Φ σ H Q s q =>
  h Φ σ H _ s fun H1 s1 => by
    cases b with
    | true =>
      rw [if_pos rfl]
      exact h1 rfl Φ σ H1 Q s1 q
    | false =>
      rw [if_neg Bool.false_ne_true]
      exact h2 rfl Φ σ H1 Q s1 q
end
end Sx

set_option Elab.async false
set_option linter.all false
set_option maxRecDepth 100000
set_option maxHeartbeats 2000000
/-! Sx2: operators, by descriptions. -/
namespace Sx
open PySem L2 Evl

/-! ### what stands as a list, a tuple -/
def IsLst (x : VD) (M : Cells) (ds : List PyData) : Prop := ∀ {F Φ ρ σ H v}, SatF F Φ ρ M σ H → x.P F v → ∃ a ws, v = .ref a ∧ H a = some (.lst ws) ∧ RpL F ws ds
def IsTup (x : VD) (M : Cells) (ds : List PyData) : Prop := ∀ {F Φ ρ σ H v}, SatF F Φ ρ M σ H → x.P F v → ∃ a ws, v = .ref a ∧ H a = some (.tup ws) ∧ RpL F ws ds
def IsLstV (x : VD) (M : Cells) (ds : List VD) : Prop := ∀ {F Φ ρ σ H v}, SatF F Φ ρ M σ H → x.P F v → ∃ a ws, v = .ref a ∧ H a = some (.lst ws) ∧ DA F ds ws
def IsTupV (x : VD) (M : Cells) (ds : List VD) : Prop := ∀ {F Φ ρ σ H v}, SatF F Φ ρ M σ H → x.P F v → ∃ a ws, v = .ref a ∧ H a = some (.tup ws) ∧ DA F ds ws
theorem isl_dat {M : Cells} {ds : List PyData} : IsLst (dat (.list ds)) M ds := fun s h => by
  cases h with
  | lst h1 h2 => exact ⟨_, _, rfl, s.ex _ _ h1, h2⟩
theorem ist_dat {M : Cells} {ds : List PyData} : IsTup (dat (.tuple ds)) M ds := fun s h => by
  cases h with
  | tup h1 h2 => exact ⟨_, _, rfl, s.ex _ _ h1, h2⟩
theorem isl_cell {M : Cells} {ds : List PyData} {p : Addr} (m : (p, cLd ds) ∈ M) : IsLst (val (.ref p)) M ds := fun s h => by
  obtain ⟨o, h1, h2, ws, h3, h4⟩ := s.at m
  exact ⟨p, ws, h, by rw [h1, h3], h4⟩
theorem islv_cell {M : Cells} {ds : List VD} {p : Addr} (m : (p, cL ds) ∈ M) : IsLstV (val (.ref p)) M ds := fun s h => by
  obtain ⟨o, h1, h2, ws, h3, h4⟩ := s.at m
  exact ⟨p, ws, h, by rw [h1, h3], h4⟩
theorem islv_vlst {M : Cells} {ds : List VD} : IsLstV (vlst ds) M ds := fun s ⟨a, ws, h1, h2, h3⟩ => ⟨a, ws, h1, s.ex _ _ h2, h3⟩
theorem istv_vtup {M : Cells} {ds : List VD} : IsTupV (vtup ds) M ds := fun s ⟨a, ws, h1, h2, h3⟩ => ⟨a, ws, h1, s.ex _ _ h2, h3⟩
theorem IsLst.v {x : VD} {M : Cells} {ds : List PyData} (h : IsLst x M ds) : IsLstV x M (ds.map dat) := fun s q => by
  obtain ⟨a, ws, h1, h2, h3⟩ := h s q
  exact ⟨a, ws, h1, h2, DA.of_dat.mpr h3⟩
theorem IsTup.v {x : VD} {M : Cells} {ds : List PyData} (h : IsTup x M ds) : IsTupV x M (ds.map dat) := fun s q => by
  obtain ⟨a, ws, h1, h2, h3⟩ := h s q
  exact ⟨a, ws, h1, h2, DA.of_dat.mpr h3⟩
/-- either -/
def IsSeq (K : PySem.W.Frag) (x : VD) (M : Cells) (ds : List VD) : Prop := ∀ {F Φ ρ σ H v}, SatF F Φ ρ M σ H → x.P F v → ∃ a ws, v = .ref a ∧ (SqL K H a ws ∨ SqT K H a ws) ∧ DA F ds ws
theorem iss_l {K : PySem.W.Frag} {x : VD} {M : Cells} {ds : List VD} (h : IsLstV x M ds) : IsSeq K x M ds := fun s q => by
  obtain ⟨a, ws, h1, h2, h3⟩ := h s q
  exact ⟨a, ws, h1, .inl (sq_of h2), h3⟩
theorem iss_t {K : PySem.W.Frag} {x : VD} {M : Cells} {ds : List VD} (h : IsTupV x M ds) : IsSeq K x M ds := fun s q => by
  obtain ⟨a, ws, h1, h2, h3⟩ := h s q
  exact ⟨a, ws, h1, .inr (st_of h2), h3⟩

/-- the state behind a value that was just made; data said of it -/
theorem Sat.ret {F : Hp} {Φ : Fr} {ρ : Env} {M : Cells} {σ : L2.St} {H : Hp} {x : VD} {v : V} (s : SatF F Φ ρ M σ H) (h : x.P F v) : Sat (Φ.and x v) ρ M σ H := ⟨F, s.ex, ⟨s.fr, h⟩, s.sl, s.nd, s.ce⟩
theorem SatF.weak {F : Hp} {Φ Ψ : Fr} {ρ : Env} {M : Cells} {σ : L2.St} {H : Hp} (s : SatF F Φ ρ M σ H) (l : Le Φ Ψ) : SatF F Ψ ρ M σ H := ⟨s.ex, l.p F s.fr, s.sl, List.Pairwise.sublist ((List.Sublist.append (List.Sublist.refl M) l.n).map _) s.nd, fun c hc => s.ce c ((List.Sublist.append (List.Sublist.refl M) l.n).subset hc)⟩
theorem SatF.base {F : Hp} {Φ : Fr} {ρ : Env} {M : Cells} {σ : L2.St} {H : Hp} {x y : VD} {v w : V} (s : SatF F ((Φ.and x v).and y w) ρ M σ H) : SatF F Φ ρ M σ H := s.weak (.of rfl fun _ h => h.1.1)
theorem Sat.retNew {F : Hp} {Φ : Fr} {ρ : Env} {M : Cells} {σ : L2.St} {H : Hp} {x : VD} {v : V} {p : Addr} {o : HO} (s : SatF F Φ ρ M σ H) (hp : H p = none) (h : ∀ F', Fx F F' → F' p = some o → x.P F' v) : Sat (Φ.and x v) ρ M σ (upd H p o) := by
  obtain ⟨s2, fx⟩ := s.new (o := o) hp
  exact ⟨_, s2.ex, ⟨s2.fr, h _ fx upd_same⟩, s2.sl, s2.nd, s2.ce⟩

/-! ### + -/
def rAddS : R2 := fun x y H Q => ∃ i j, x = .str i ∧ y = .str j ∧ i.length + j.length ≤ sizeLine ∧ Q (.str (i ++ j)) H
def rAddU (K : PySem.W.Frag) : R2 := fun x y H Q => rI0 (fun i j => .int (i + j)) x y H Q ∨ (rAddS x y H Q ∨ (rCat x y H Q ∨ rCatA K x y H Q))
theorem op_addU {X : Cx} : OpR X (binaryOp .Add) (rAddU X.K) := op_add.or (op_add_str.or (op_cat.or op_catA))
section
variable {K : PySem.W.Frag} {ρ : Env} {M M' : Cells} {x y z : VD}
theorem rv_addI {i j : Int} : RV (rAddU K) (dat (.int i)) (dat (.int j)) M (dat (.int (i + j))) M := fun Φ ρ σ v w H Q ⟨F, s⟩ q => by
  cases s.fr.1.2; cases s.fr.2
  exact .inl ⟨i, j, rfl, rfl, q _ _ (Sat.ret s.base (.int _))⟩
theorem rv_addS {i j : Str} (hl : i.length + j.length ≤ sizeLine) : RV (rAddU K) (dat (.str i)) (dat (.str j)) M (dat (.str (i ++ j))) M := fun Φ ρ σ v w H Q ⟨F, s⟩ q => by
  cases s.fr.1.2; cases s.fr.2
  exact .inr (.inl ⟨i, j, rfl, rfl, hl, q _ _ (Sat.ret s.base (.str _))⟩)
theorem rv_cat {as bs : List PyData} (hx : IsLst x M as) (hy : IsLst y M bs) (hl : as.length + bs.length ≤ sizeLine) : RV (rAddU K) x y M (dat (.list (as ++ bs))) M := fun Φ ρ σ v w H Q ⟨F, s⟩ q => by
  obtain ⟨a, vs1, rfl, h1, h2⟩ := hx s s.fr.1.2
  obtain ⟨b, vs2, rfl, h3, h4⟩ := hy s s.fr.2
  refine .inr (.inr (.inl ⟨a, b, vs1, vs2, rfl, rfl, h1, h3, by rw [h2.length, h4.length]; exact hl, fun p hp => q _ _ (Sat.retNew s.base hp fun F' fx e => .lst e ((h2.append h4).mono fx))⟩))
theorem rv_catV {as bs : List VD} (hx : IsLstV x M as) (hy : IsLstV y M bs) (hl : as.length + bs.length ≤ sizeLine) : RV (rAddU K) x y M (vlst (as ++ bs)) M := fun Φ ρ σ v w H Q ⟨F, s⟩ q => by
  obtain ⟨a, vs1, rfl, h1, h2⟩ := hx s s.fr.1.2
  obtain ⟨b, vs2, rfl, h3, h4⟩ := hy s s.fr.2
  refine .inr (.inr (.inl ⟨a, b, vs1, vs2, rfl, rfl, h1, h3, by rw [← Paired.length h2, ← Paired.length h4]; exact hl, fun p hp => q _ _ (Sat.retNew s.base hp fun F' fx e => ⟨p, _, rfl, e, (h2.append h4).mono fx⟩)⟩))
theorem rv_catT {as bs : List PyData} (hx : IsTup x M as) (hy : IsTup y M bs) (hfx : ∀ F v, x.P F v → (dat (.tuple as)).P F v) (hfy : ∀ F v, y.P F v → (dat (.tuple bs)).P F v) (hl : as.length + bs.length ≤ sizeLine) : RV (rAddU K) x y M (dat (.tuple (as ++ bs))) M := fun Φ ρ σ v w H Q ⟨F, s⟩ q => by
  have e1 := hfx F _ s.fr.1.2
  have e2 := hfy F _ s.fr.2
  obtain ⟨a, vs1, rfl, h1, h2⟩ := hx s s.fr.1.2
  obtain ⟨b, vs2, rfl, h3, h4⟩ := hy s s.fr.2
  refine .inr (.inr (.inr ⟨a, b, vs1, vs2, rfl, rfl, st_of h1, st_of h3, by rw [h2.length, h4.length]; exact hl, fun he => ?_, fun _ he => ?_, fun _ _ p hp => q _ _ (Sat.retNew s.base hp fun F' fx e => .tup e ((h2.append h4).mono fx))⟩))
  · subst he
    have : as = [] := List.eq_nil_of_length_eq_zero h2.length.symm
    subst this
    exact q _ _ (Sat.ret s.base e2)
  · subst he
    have : bs = [] := List.eq_nil_of_length_eq_zero h4.length.symm
    subst this
    exact q _ _ (Sat.ret s.base (by rw [List.append_nil]; exact e1))
theorem rv_catTd {as bs : List PyData} (hl : as.length + bs.length ≤ sizeLine) : RV (rAddU K) (dat (.tuple as)) (dat (.tuple bs)) M (dat (.tuple (as ++ bs))) M := rv_catT ist_dat ist_dat (fun _ _ h => h) (fun _ _ h => h) hl

/-! ### the other operators on ints -/
theorem rv_I0 {g : Int → Int → V} {d : Int → Int → PyData} {i j : Int} (h : ∀ F, Rp F (g i j) (d i j)) : RV (rI0 g) (dat (.int i)) (dat (.int j)) M (dat (d i j)) M := fun Φ ρ σ v w H Q ⟨F, s⟩ q => by
  cases s.fr.1.2; cases s.fr.2
  exact ⟨i, j, rfl, rfl, q _ _ (Sat.ret s.base (h F))⟩
theorem rv_int0 {g : Int → Int → Int} {i j : Int} : RV (rI0 fun i j => .int (g i j)) (dat (.int i)) (dat (.int j)) M (dat (.int (g i j))) M := rv_I0 (d := fun i j => .int (g i j)) fun _ => .int _
theorem rv_bl0 {g : Int → Int → Bool} {i j : Int} : RV (rI0 fun i j => .bl (g i j)) (dat (.int i)) (dat (.int j)) M (dat (.bool (g i j))) M := rv_I0 (d := fun i j => .bool (g i j)) fun _ => .bl _
theorem rv_intC {C : Int → Int → Prop} {g : Int → Int → Int} {i j : Int} (hc : C i j) : RV (rI C fun i j => .int (g i j)) (dat (.int i)) (dat (.int j)) M (dat (.int (g i j))) M := fun Φ ρ σ v w H Q ⟨F, s⟩ q => by
  cases s.fr.1.2; cases s.fr.2
  exact ⟨i, j, rfl, rfl, hc, q _ _ (Sat.ret s.base (.int _))⟩
theorem ru_neg {i : Int} : RU (rU fun i => .int (-i)) (dat (.int i)) M (dat (.int (-i))) M := fun Φ ρ σ v H Q ⟨F, s⟩ q => by
  cases s.fr.2
  exact ⟨i, rfl, q _ _ (Sat.ret (s.weak Le.and) (.int _))⟩

/-! ### == -/
/-- data as it stands, its own list cells too -/
def IsDat (K : PySem.W.Frag) (x : VD) (M : Cells) (d : PyData) : Prop := ∀ {F Φ ρ σ H v}, SatF F Φ ρ M σ H → x.P F v → Dp K H v d
def IsDats (K : PySem.W.Frag) (xs : List VD) (M : Cells) (ds : List PyData) : Prop := ∀ {F Φ ρ σ H vs}, SatF F Φ ρ M σ H → DA F xs vs → DpAll K H vs ds
theorem isd_dat {d : PyData} : IsDat K (dat d) M d := fun s h => Rp.dp s.ex d h
theorem isd_cell {ds : List PyData} {p : Addr} (m : (p, cLd ds) ∈ M) : IsDat K (val (.ref p)) M (.list ds) := fun s h => by
  obtain ⟨a, ws, rfl, h1, h2⟩ := isl_cell m s h
  exact .lst (sq_of h1) (RpL.dp s.ex ds h2)
theorem isds_nil : IsDats K [] M [] := fun s h => by cases h; exact .nil
theorem isds_cons {d : PyData} {xs : List VD} {ds : List PyData} (h1 : IsDat K x M d) (h2 : IsDats K xs M ds) : IsDats K (x :: xs) M (d :: ds) := fun s h => by
  cases h with
  | cons q1 q2 => exact .cons (h1 s q1) (h2 s q2)
theorem isd_vtup {xs : List VD} {ds : List PyData} (h : IsDats K xs M ds) : IsDat K (vtup xs) M (.tuple ds) := fun s ⟨a, ws, e, h1, h2⟩ => by
  subst e
  exact .tup (st_of (s.ex _ _ h1)) (h s h2)
theorem isd_vlst {xs : List VD} {ds : List PyData} (h : IsDats K xs M ds) : IsDat K (vlst xs) M (.list ds) := fun s ⟨a, ws, e, h1, h2⟩ => by
  subst e
  exact .lst (sq_of (s.ex _ _ h1)) (h s h2)
/-- of such a depth, its texts of our kind -/
def Shp (n : Nat) (d : PyData) : Prop := d.canLay0 = true ∧ d.depth ≤ n
theorem Shp.ok {n : Nat} {d : PyData} (h : Shp n d) (hn : n ≤ 64) : SeqAt.shaped d = true := by
  unfold SeqAt.shaped
  rw [h.1, decide_eq_true (Nat.le_trans h.2 hn)]
  rfl
theorem shp_int {n : Nat} {i : Int} : Shp n (.int i) := ⟨rfl, Nat.zero_le _⟩
theorem shp_none {n : Nat} : Shp n .none := ⟨rfl, Nat.zero_le _⟩
theorem shp_bool {n : Nat} {i : Bool} : Shp n (.bool i) := ⟨rfl, Nat.zero_le _⟩
theorem shp_str {n : Nat} {x : Str} (h : PyData.strOk x = true) : Shp n (.str x) := ⟨by rw [PyData.canLay0]; exact h, Nat.zero_le _⟩
def ShpA (n : Nat) (ds : List PyData) : Prop := PyData.canLayAll0 ds = true ∧ PyData.depthAll ds ≤ n
theorem shpA_nil {n : Nat} : ShpA n [] := ⟨rfl, Nat.zero_le _⟩
theorem shpA_cons {n : Nat} {d : PyData} {ds : List PyData} (h : Shp n d) (t : ShpA n ds) : ShpA n (d :: ds) := ⟨by rw [PyData.canLayAll0, h.1, t.1]; rfl, by rw [PyData.depthAll]; exact Nat.max_le.mpr ⟨h.2, t.2⟩⟩
theorem shpA_of {n : Nat} : ∀ {ds : List PyData}, (∀ d ∈ ds, Shp n d) → ShpA n ds
  | [], _ => shpA_nil
  | d :: ds, h => shpA_cons (h d List.mem_cons_self) (shpA_of fun e he => h e (List.mem_cons_of_mem _ he))
theorem shp_list {n : Nat} {ds : List PyData} (h : ShpA n ds) : Shp (n + 1) (.list ds) := ⟨by rw [PyData.canLay0]; exact h.1, by rw [PyData.depth]; exact Nat.succ_le_succ h.2⟩
theorem shp_tuple {n : Nat} {ds : List PyData} (h : ShpA n ds) : Shp (n + 1) (.tuple ds) := ⟨by rw [PyData.canLay0]; exact h.1, by rw [PyData.depth]; exact Nat.succ_le_succ h.2⟩
theorem shpA_map {α : Type} {n : Nat} {f : α → PyData} {xs : List α} (h : ∀ x ∈ xs, Shp n (f x)) : ShpA n (xs.map f) := shpA_of fun d hd => by
  obtain ⟨x, hx, rfl⟩ := List.mem_map.mp hd
  exact h x hx
/-- equal as data just if equal -/
def EqOk {α : Type} (f : α → PyData) : Prop := ∀ x y, PyData.eqv (f x) (f y) = true ↔ x = y
theorem eqvAll_map {α : Type} {f : α → PyData} (h : EqOk f) : ∀ xs ys : List α, PyData.eqvAll (xs.map f) (ys.map f) = true ↔ xs = ys
  | [], [] => by simp [PyData.eqvAll]
  | x :: xs, [] => by simp [PyData.eqvAll]
  | [], y :: ys => by simp [PyData.eqvAll]
  | x :: xs, y :: ys => by
    rw [List.map_cons, List.map_cons, PyData.eqvAll, Bool.and_eq_true, h x y, eqvAll_map h xs ys, List.cons.injEq]
theorem eqok_list {α : Type} {f : α → PyData} (h : EqOk f) : EqOk fun xs : List α => .list (xs.map f) := fun xs ys => by
  show PyData.eqv (.list (xs.map f)) (.list (ys.map f)) = true ↔ _
  rw [PyData.eqv]; exact eqvAll_map h xs ys
theorem eqok_tuple {α : Type} {f : α → PyData} (h : EqOk f) : EqOk fun xs : List α => .tuple (xs.map f) := fun xs ys => by
  show PyData.eqv (.tuple (xs.map f)) (.tuple (ys.map f)) = true ↔ _
  rw [PyData.eqv]; exact eqvAll_map h xs ys
theorem eqok_int : EqOk PyData.int := fun x y => by simp [PyData.eqv]
theorem eqok_str : EqOk PyData.str := fun x y => by simp [PyData.eqv]
theorem eqok_bool : EqOk PyData.bool := fun x y => by simp [PyData.eqv]
theorem EqOk.dec {α : Type} [DecidableEq α] {f : α → PyData} (h : EqOk f) (x y : α) : PyData.eqv (f x) (f y) = decide (x = y) := by
  rw [Bool.eq_iff_iff, h x y, decide_eq_true_iff]
def rEqU (K : PySem.W.Frag) : R2 := fun x y H Q => rEqD K x y H Q ∨ rEq x y H Q
def rNeU (K : PySem.W.Frag) : R2 := fun x y H Q => rNeD K x y H Q ∨ rNe x y H Q
theorem op_eqU {X : Cx} (hu : X.A.units + 64 < cLine) : OpR X (compareOp .Eq) (rEqU X.K) := (op_eqD hu).or op_eq
theorem op_neU {X : Cx} (hu : X.A.units + 64 < cLine) : OpR X (compareOp .NotEq) (rNeU X.K) := (op_neD hu).or op_ne
theorem rv_eqD {d e : PyData} (hx : IsDat K x M d) (hy : IsDat K y M e) (sd : Shp 64 d) (se : Shp 64 e) : RV (rEqU K) x y M (dat (.bool (PyData.eqv d e))) M := fun Φ ρ σ v w H Q ⟨F, s⟩ q =>
  .inl ⟨d, e, hx s s.fr.1.2, hy s s.fr.2, sd.ok (Nat.le_refl _), se.ok (Nat.le_refl _), q _ _ (Sat.ret s.base (.bl _))⟩
theorem rv_neD {d e : PyData} (hx : IsDat K x M d) (hy : IsDat K y M e) (sd : Shp 64 d) (se : Shp 64 e) : RV (rNeU K) x y M (dat (.bool (!PyData.eqv d e))) M := fun Φ ρ σ v w H Q ⟨F, s⟩ q =>
  .inl ⟨d, e, hx s s.fr.1.2, hy s s.fr.2, sd.ok (Nat.le_refl _), se.ok (Nat.le_refl _), q _ _ (Sat.ret s.base (.bl _))⟩
theorem eqv_int {i j : Int} : PyData.eqv (.int i) (.int j) = decide (i = j) := by simp [PyData.eqv, Bool.beq_eq_decide_eq]
theorem eqv_str {i j : Str} : PyData.eqv (.str i) (.str j) = decide (i = j) := by simp [PyData.eqv, Bool.beq_eq_decide_eq]
theorem eqv_bool {i j : Bool} : PyData.eqv (.bool i) (.bool j) = decide (i = j) := by simp [PyData.eqv, Bool.beq_eq_decide_eq]
theorem rv_eqI {i j : Int} : RV (rEqU K) (dat (.int i)) (dat (.int j)) M (dat (.bool (decide (i = j)))) M := by
  have h := rv_eqD (K := K) (M := M) (isd_dat (d := .int i)) (isd_dat (d := .int j)) shp_int shp_int
  rw [eqv_int] at h; exact h
theorem rv_neI {i j : Int} : RV (rNeU K) (dat (.int i)) (dat (.int j)) M (dat (.bool (!decide (i = j)))) M := by
  have h := rv_neD (K := K) (M := M) (isd_dat (d := .int i)) (isd_dat (d := .int j)) shp_int shp_int
  rw [eqv_int] at h; exact h
theorem rv_eqS {i j : Str} : RV (rEqU K) (dat (.str i)) (dat (.str j)) M (dat (.bool (decide (i = j)))) M := fun Φ ρ σ v w H Q ⟨F, s⟩ q => by
  cases s.fr.1.2; cases s.fr.2
  refine .inr ⟨rfl, ?_⟩
  have e : decide (V.str i = V.str j) = decide (i = j) := by simp
  rw [e]
  exact q _ _ (Sat.ret s.base (.bl _))
theorem rv_neS {i j : Str} : RV (rNeU K) (dat (.str i)) (dat (.str j)) M (dat (.bool (!decide (i = j)))) M := fun Φ ρ σ v w H Q ⟨F, s⟩ q => by
  cases s.fr.1.2; cases s.fr.2
  refine .inr ⟨rfl, ?_⟩
  have e : decide (V.str i = V.str j) = decide (i = j) := by simp
  rw [e]
  exact q _ _ (Sat.ret s.base (.bl _))
/-! ### is None -/
def rIsN : R2 := fun x y H Q => y = .non ∧ Q (.bl (decide (x = .non))) H
def rNotN : R2 := fun x y H Q => y = .non ∧ Q (.bl (!decide (x = .non))) H
theorem op_isN' {X : Cx} : OpR X (compareOp .Is) rIsN := op_isN
theorem op_notN' {X : Cx} : OpR X (compareOp .IsNot) rNotN := op_notN
def isNoneD : PyData → Bool
  | .none => true
  | _ => false
theorem rp_none {F : Hp} {v : V} {d : PyData} (h : Rp F v d) : decide (v = .non) = isNoneD d := by
  cases h <;> rfl
theorem rv_isN {d : PyData} : RV rIsN (dat d) (dat .none) M (dat (.bool (isNoneD d))) M := fun Φ ρ σ v w H Q ⟨F, s⟩ q => by
  have h := rp_none s.fr.1.2
  cases s.fr.2
  exact ⟨rfl, by rw [h]; exact q _ _ (Sat.ret s.base (.bl _))⟩
theorem rv_notN {d : PyData} : RV rNotN (dat d) (dat .none) M (dat (.bool (!isNoneD d))) M := fun Φ ρ σ v w H Q ⟨F, s⟩ q => by
  have h := rp_none s.fr.1.2
  cases s.fr.2
  exact ⟨rfl, by rw [h]; exact q _ _ (Sat.ret s.base (.bl _))⟩

/-! ### subscripts, slices -/
theorem rpl_atI {F : Hp} {ws : List V} {ds : List PyData} {i : Int} {d : PyData} (h : RpL F ws ds) (e : atI ds i = some d) : ∃ v, atI ws i = some v ∧ Rp F v d := by
  unfold atI at e ⊢
  rw [h.length]
  cases q : ixN ds.length i with
  | none => rw [q] at e; cases e
  | some j =>
    rw [q] at e
    exact h.get e
theorem da_atI {F : Hp} {ws : List V} {ds : List VD} {i : Int} {d : VD} (h : DA F ds ws) (e : atI ds i = some d) : ∃ v, atI ws i = some v ∧ d.P F v := by
  unfold atI at e ⊢
  rw [← Paired.length h]
  cases q : ixN ds.length i with
  | none => rw [q] at e; cases e
  | some j =>
    rw [q] at e
    exact h.get e
theorem rv_ixL {ds : List PyData} {i : Int} {d : PyData} (hx : IsLst x M ds) (e : atI ds i = some d) : RV (rIx K) x (dat (.int i)) M (dat d) M := fun Φ ρ σ v w H Q ⟨F, s⟩ q => by
  obtain ⟨a, ws, rfl, h1, h2⟩ := hx s s.fr.1.2
  cases s.fr.2
  obtain ⟨v, h3, h4⟩ := rpl_atI h2 e
  exact .inl ⟨a, ws, i, v, rfl, rfl, sq_of h1, h3, q _ _ (Sat.ret s.base h4)⟩
theorem rv_ixT {ds : List PyData} {i : Int} {d : PyData} (hx : IsTup x M ds) (e : atI ds i = some d) : RV (rIx K) x (dat (.int i)) M (dat d) M := fun Φ ρ σ v w H Q ⟨F, s⟩ q => by
  obtain ⟨a, ws, rfl, h1, h2⟩ := hx s s.fr.1.2
  cases s.fr.2
  obtain ⟨v, h3, h4⟩ := rpl_atI h2 e
  exact .inr (.inl ⟨a, ws, i, v, rfl, rfl, st_of h1, h3, q _ _ (Sat.ret s.base h4)⟩)
theorem rv_ixLV {ds : List VD} {i : Int} {d : VD} (hx : IsLstV x M ds) (e : atI ds i = some d) : RV (rIx K) x (dat (.int i)) M d M := fun Φ ρ σ v w H Q ⟨F, s⟩ q => by
  obtain ⟨a, ws, rfl, h1, h2⟩ := hx s s.fr.1.2
  cases s.fr.2
  obtain ⟨v, h3, h4⟩ := da_atI h2 e
  exact .inl ⟨a, ws, i, v, rfl, rfl, sq_of h1, h3, q _ _ (Sat.ret s.base h4)⟩
theorem rv_ixTV {ds : List VD} {i : Int} {d : VD} (hx : IsTupV x M ds) (e : atI ds i = some d) : RV (rIx K) x (dat (.int i)) M d M := fun Φ ρ σ v w H Q ⟨F, s⟩ q => by
  obtain ⟨a, ws, rfl, h1, h2⟩ := hx s s.fr.1.2
  cases s.fr.2
  obtain ⟨v, h3, h4⟩ := da_atI h2 e
  exact .inr (.inl ⟨a, ws, i, v, rfl, rfl, st_of h1, h3, q _ _ (Sat.ret s.base h4)⟩)
theorem rv_ixScr {ns : List Int} {i : Int} {n : Int} (e : atI ns i = some n) : RV (rIx K) (vscr K ns) (dat (.int i)) M (dat (.int n)) M := fun Φ ρ σ v w H Q ⟨F, s⟩ q => by
  obtain ⟨a, rfl, h1⟩ := s.fr.1.2
  cases s.fr.2
  refine .inl ⟨a, ns.map V.int, i, .int n, rfl, rfl, ex_l s.ex h1, ?_, q _ _ (Sat.ret s.base (.int _))⟩
  unfold atI at e ⊢
  rw [List.length_map]
  cases q : ixN ns.length i with
  | none => rw [q] at e; cases e
  | some j =>
    rw [q] at e
    show (ns.map V.int)[j]? = _
    have e' : ns[j]? = some n := e
    rw [List.getElem?_map, e']
    rfl
def cutD {α : Type} (xs : List α) (lo hi : Option Int) : List α := (xs.drop (HT.sIx xs.length 0 lo)).take (HT.sIx xs.length xs.length hi - HT.sIx xs.length 0 lo)
theorem rpl_cut {F : Hp} {ws : List V} {ds : List PyData} (h : RpL F ws ds) (lo hi : Option Int) : RpL F (cutV ws lo hi) (cutD ds lo hi) := by
  unfold cutV cutD
  rw [h.length]
  exact (h.drop _).take _
/-- a slice of a list, a tuple, a text -/
def rSlU (K : PySem.W.Frag) : V → Option Int → Option Int → Hp → VK → Prop := fun x lo hi H Q => rSlL K x lo hi H Q ∨ rSlA K x lo hi H Q
theorem sl_U {X : Cx} : SlR X (rSlU X.K) := sl_list.or sl_tupA
theorem eo_none : EvO tNoPart ρ M none M := fun Φ σ H Q s q => q H s
theorem eo_some {te : TE} {i : Int} (h : Ev te ρ M (dat (.int i)) M') : EvO (tPart te) ρ M (some i) M' := fun Φ σ H Q s q => h Φ σ H _ s fun v H1 ⟨F, s1⟩ => by
  cases s1.fr.2
  exact ⟨i, rfl, q H1 ⟨F, s1.weak Le.and⟩⟩
theorem ev_slL {te : TE} {tl th : TO} {M1 M2 M3 : Cells} {lo hi : Option Int} {ds : List PyData} (h : Ev te ρ M x M1) (h1 : EvO tl ρ M1 lo M2) (h2 : EvO th ρ M2 hi M3) (hx : IsLst x M3 ds) : Ev (tSl (rSlU K) te tl th) ρ M (dat (.list (cutD ds lo hi))) M3 := fun Φ σ H Q s q =>
  h Φ σ H _ s fun v H1 s1 => h1 _ σ H1 _ s1 fun H2 s2 => h2 _ σ H2 _ s2 fun H3 ⟨F, s3⟩ => by
    obtain ⟨a, ws, rfl, h1, h2⟩ := hx s3 s3.fr.2
    exact .inl ⟨a, ws, rfl, sq_of h1, fun p hp => q _ _ (Sat.retNew (s3.weak Le.and) hp fun F' fx e => .lst e ((rpl_cut h2 lo hi).mono fx))⟩
theorem cut_whole {ds : List PyData} {lo hi : Option Int} (h1 : HT.sIx ds.length 0 lo = 0) (h2 : HT.sIx ds.length ds.length hi = ds.length) : cutD ds lo hi = ds := by
  unfold cutD
  rw [h1, h2]
  simp
theorem ev_slT {te : TE} {tl th : TO} {M1 M2 M3 : Cells} {lo hi : Option Int} {ds : List PyData} (h : Ev te ρ M (dat (.tuple ds)) M1) (h1 : EvO tl ρ M1 lo M2) (h2 : EvO th ρ M2 hi M3) : Ev (tSl (rSlU K) te tl th) ρ M (dat (.tuple (cutD ds lo hi))) M3 := fun Φ σ H Q s q =>
  h Φ σ H _ s fun v H1 s1 => h1 _ σ H1 _ s1 fun H2 s2 => h2 _ σ H2 _ s2 fun H3 ⟨F, s3⟩ => by
    have e0 := s3.fr.2
    obtain ⟨a, ws, rfl, h1, h2⟩ := ist_dat s3 s3.fr.2
    refine .inr ⟨a, ws, rfl, st_of h1, fun hw => q _ _ (Sat.ret (s3.weak Le.and) ?_), fun hw p hp => q _ _ (Sat.retNew (s3.weak Le.and) hp fun F' fx e => .tup e ((rpl_cut h2 lo hi).mono fx))⟩
    rw [h2.length] at hw
    rw [cut_whole hw.1 hw.2]
    exact e0
end

/-! ### tests -/
section
variable {K : PySem.W.Frag} {ρ : Env} {M M1 M2 M' : Cells} {x y z : VD} {te ta tb : TE} {t u : TT}
theorem et_test {b : Bool} (h : Ev te ρ M (dat (.bool b)) M') : EvT (tTest te) ρ M b M' := fun Φ σ H Q s q => h Φ σ H _ s fun v H1 s1 => by
  have ⟨F, s2⟩ := s1
  cases s2.fr.2
  exact ⟨b, rfl, q H1 s1.weak1⟩
theorem et_B {b : Bool} (h : Ev te ρ M (dat (.bool b)) M') : EvT (tB te) ρ M b M' := fun Φ σ H Q s q => h Φ σ H _ s fun v H1 s1 => by
  have ⟨F, s2⟩ := s1
  cases s2.fr.2
  exact ⟨b, rfl, q H1 s1.weak1⟩
theorem et_yes : EvT tYes ρ M true M := fun Φ σ H Q s q => q H s
/-- the second one is asked where the first one lets -/
theorem et_and {a b : Bool} (h1 : EvT t ρ M a M1) (h2 : a = true → EvT u ρ M1 b M1) : EvT (tAnd t u) ρ M (a && b) M1 := fun Φ σ H Q s q => h1 Φ σ H _ s fun H1 s1 => by
  cases a with
  | true => rw [if_pos rfl]; exact h2 rfl Φ σ H1 Q s1 q
  | false => rw [if_neg Bool.false_ne_true]; exact q H1 s1
theorem et_or {a b : Bool} (h1 : EvT t ρ M a M1) (h2 : a = false → EvT u ρ M1 b M1) : EvT (tOr t u) ρ M (a || b) M1 := fun Φ σ H Q s q => h1 Φ σ H _ s fun H1 s1 => by
  cases a with
  | true => rw [if_pos rfl]; exact q H1 s1
  | false => rw [if_neg Bool.false_ne_true]; exact h2 rfl Φ σ H1 Q s1 q
theorem et_andT {b : Bool} (h1 : EvT t ρ M true M1) (h2 : EvT u ρ M1 b M2) : EvT (tAnd t u) ρ M b M2 := fun Φ σ H Q s q => h1 Φ σ H _ s fun H1 s1 => by
  rw [if_pos rfl]; exact h2 Φ σ H1 Q s1 q
theorem et_andF (h1 : EvT t ρ M false M1) : EvT (tAnd t u) ρ M false M1 := fun Φ σ H Q s q => h1 Φ σ H _ s fun H1 s1 => by
  rw [if_neg Bool.false_ne_true]; exact q H1 s1
theorem et_orF {b : Bool} (h1 : EvT t ρ M false M1) (h2 : EvT u ρ M1 b M2) : EvT (tOr t u) ρ M b M2 := fun Φ σ H Q s q => h1 Φ σ H _ s fun H1 s1 => by
  rw [if_neg Bool.false_ne_true]; exact h2 Φ σ H1 Q s1 q
theorem et_orT (h1 : EvT t ρ M true M1) : EvT (tOr t u) ρ M true M1 := fun Φ σ H Q s q => h1 Φ σ H _ s fun H1 s1 => by
  rw [if_pos rfl]; exact q H1 s1
theorem et_not {a : Bool} (h1 : EvT t ρ M a M') : EvT (tNot t) ρ M (!a) M' := fun Φ σ H Q s q => h1 Φ σ H _ s q
theorem EvT.eq {a b : Bool} (h : EvT t ρ M a M') (e : a = b) : EvT t ρ M b M' := e ▸ h
theorem ev_andV {a b : Bool} (h1 : Ev ta ρ M (dat (.bool a)) M1) (h2 : a = true → Ev tb ρ M1 (dat (.bool b)) M1) : Ev (tAndV ta tb) ρ M (dat (.bool (a && b))) M1 := fun Φ σ H Q s q => h1 Φ σ H _ s fun v H1 s1 => by
  have ⟨F, s2⟩ := s1
  cases s2.fr.2
  refine ⟨a, rfl, ?_⟩
  cases a with
  | true => rw [if_pos rfl]; exact h2 rfl Φ σ H1 Q s1.weak1 q
  | false => rw [if_neg Bool.false_ne_true]; exact q _ H1 s1
theorem ev_orV {a b : Bool} (h1 : Ev ta ρ M (dat (.bool a)) M1) (h2 : a = false → Ev tb ρ M1 (dat (.bool b)) M1) : Ev (tOrV ta tb) ρ M (dat (.bool (a || b))) M1 := fun Φ σ H Q s q => h1 Φ σ H _ s fun v H1 s1 => by
  have ⟨F, s2⟩ := s1
  cases s2.fr.2
  refine ⟨a, rfl, ?_⟩
  cases a with
  | true => rw [if_pos rfl]; exact q _ H1 s1
  | false => rw [if_neg Bool.false_ne_true]; exact h2 rfl Φ σ H1 Q s1.weak1 q
theorem ev_notV {a : Bool} (h1 : Ev ta ρ M (dat (.bool a)) M') : Ev (tNotV ta) ρ M (dat (.bool (!a))) M' := fun Φ σ H Q s q => h1 Φ σ H _ s fun v H1 s1 => by
  have ⟨F, s2⟩ := s1
  cases s2.fr.2
  exact ⟨a, rfl, q _ H1 ⟨F, s2.ex, ⟨s2.fr.1, .bl _⟩, s2.sl, s2.nd, s2.ce⟩⟩
/-- a < b < c -/
theorem ev_chain {r r' : R2} {tc : TE} {a b : Bool} (h1 : Ev ta ρ M x M) (h2 : Ev tb ρ M y M) (hr : RV r x y M (dat (.bool a)) M) (h3 : a = true → Ev tc ρ M z M) (hr' : a = true → RV r' y z M (dat (.bool b)) M) : Ev (tChain r r' ta tb tc) ρ M (dat (.bool (a && b))) M := fun Φ σ H Q s q =>
  h1 Φ σ H _ s fun v H1 s1 => h2 _ σ H1 _ s1 fun w H2 s2 => by
    refine hr (Φ.and y w) ρ σ v w H2 _ (s2.weak (.of rfl fun F p => ⟨⟨⟨p.1.1, p.2⟩, p.1.2⟩, p.2⟩)) fun u H3 s3 => ?_
    have ⟨F, s4⟩ := s3
    cases s4.fr.2
    refine ⟨a, rfl, ?_⟩
    cases a with
    | false =>
      rw [if_neg Bool.false_ne_true]
      exact q _ H3 (s3.weak (.of rfl fun F p => ⟨p.1.1, p.2⟩))
    | true =>
      rw [if_pos rfl]
      refine h3 rfl _ σ H3 _ (s3.weak Le.and) fun c H4 s5 => ?_
      exact hr' rfl Φ ρ σ w c H4 Q s5 q
end
end Sx

set_option Elab.async false
set_option linter.all false
set_option maxRecDepth 100000
set_option maxHeartbeats 2000000
/-! Sx3: attributes, calls, statements, loops, comprehensions, by descriptions. -/
namespace Sx
open PySem L2 Evl

/-! ### attributes -/
inductive FGet (f : Str) (x : VD) : List Str → List VD → Prop
  | here {ns : List Str} {xs : List VD} : FGet f x (f :: ns) (x :: xs)
  | there {g : Str} {y : VD} {ns : List Str} {xs : List VD} : ¬ f = g → FGet f x ns xs → FGet f x (g :: ns) (y :: xs)
inductive FPut (f : Str) (y : VD) : List Str → List VD → List Str → List VD → Prop
  | here {z : VD} {ns : List Str} {xs : List VD} : FPut f y (f :: ns) (z :: xs) (f :: ns) (y :: xs)
  | there {g : Str} {z : VD} {ns ns' : List Str} {xs xs' : List VD} : ¬ g = f → FPut f y ns xs ns' xs' → FPut f y (g :: ns) (z :: xs) (g :: ns') (z :: xs')
  | new : FPut f y [] [] [f] [y]
theorem FA.cons_inv {F : Hp} {n : Str} {ns : List Str} {x : VD} {xs : List VD} {fs : List (Str × V)} (h : FA F (n :: ns) (x :: xs) fs) : ∃ v r, fs = (n, v) :: r ∧ x.P F v ∧ FA F ns xs r := by
  obtain ⟨h1, h2⟩ := h
  cases fs with
  | nil => simp at h1
  | cons a r =>
    obtain ⟨k, v⟩ := a
    simp only [List.map_cons, List.cons.injEq] at h1
    obtain ⟨rfl, h1⟩ := h1
    cases h2 with
    | cons q1 q2 => exact ⟨v, r, rfl, q1, h1, q2⟩
theorem FGet.look {f : Str} {x : VD} {F : Hp} {ns : List Str} {xs : List VD} (h : FGet f x ns xs) : ∀ {fs : List (Str × V)}, FA F ns xs fs → ∃ v, fs.lookup f = some v ∧ x.P F v := by
  induction h with
  | here =>
    intro fs a
    obtain ⟨v, r, rfl, q1, q2⟩ := a.cons_inv
    exact ⟨v, by simp [List.lookup], q1⟩
  | there hne _ ih =>
    intro fs a
    obtain ⟨v, r, rfl, q1, q2⟩ := a.cons_inv
    obtain ⟨w, h1, h2⟩ := ih q2
    refine ⟨w, ?_, h2⟩
    have hb : (f == _) = false := beq_eq_false_iff_ne.mpr hne
    simp only [List.lookup, hb]
    exact h1
theorem FPut.put {f : Str} {y : VD} {F : Hp} {v : V} (hv : y.P F v) {ns ns' : List Str} {xs xs' : List VD} (h : FPut f y ns xs ns' xs') : ∀ {fs : List (Str × V)}, FA F ns xs fs → FA F ns' xs' (putF f v fs) := by
  induction h with
  | here =>
    intro fs a
    obtain ⟨w, r, rfl, q1, q2⟩ := a.cons_inv
    rw [putF, if_pos rfl]
    exact ⟨by simp [q2.1], .cons hv q2.2⟩
  | there hne _ ih =>
    intro fs a
    obtain ⟨w, r, rfl, q1, q2⟩ := a.cons_inv
    rw [putF, if_neg hne]
    have := ih q2
    exact ⟨by simp [this.1], .cons q1 this.2⟩
  | new =>
    intro fs a
    obtain ⟨h1, h2⟩ := a
    cases fs with
    | nil => exact ⟨rfl, .cons hv .nil⟩
    | cons _ _ => simp at h1
theorem FA.lookup_none {F : Hp} {m : Str} : ∀ {ns : List Str} {xs : List VD} {fs : List (Str × V)}, FA F ns xs fs → m ∉ ns → fs.lookup m = none
  | [], xs, fs, h, _ => by
    cases fs with
    | nil => rfl
    | cons _ _ => simp [FA] at h
  | n :: ns, xs, fs, h, hm => by
    have hl := Paired.length h.2
    cases xs with
    | nil =>
      have := congrArg List.length h.1
      simp at this hl
      omega
    | cons x xs =>
      obtain ⟨v, r, rfl, q1, q2⟩ := h.cons_inv
      have hne : ¬ m = n := fun e => hm (e ▸ List.mem_cons_self)
      have hb : (m == n) = false := beq_eq_false_iff_ne.mpr hne
      simp only [List.lookup, hb]
      exact FA.lookup_none q2 fun z => hm (List.mem_cons_of_mem _ z)
theorem FA.len {F : Hp} {ns : List Str} {xs : List VD} {fs : List (Str × V)} (h : FA F ns xs fs) : fs.length = ns.length := by rw [← h.1, List.length_map]

section
variable {K : PySem.W.Frag} {ρ ρ' : Env} {M M1 M2 M3 M' : Cells} {x y z : VD} {te ta tb tv : TE} {t u : TS} {C p : Addr} {f : Str} {ns ns' : List Str} {xs xs' : List VD} {Φ : Fr} {D : Ends}
/-- what the text must have of a class: it is plain, none of the names is its own -/
structure ClsF (K : PySem.W.Frag) (C : Addr) (ns : List Str) : Prop where
  cl : Cls K C
  no : ∀ f ∈ ns, NoAttr K C f
theorem ev_fld (h : Ev ta ρ M (val (.ref p)) M1) (m : (p, cI C ns xs) ∈ M1) (c : ClsF K C ns') (hf : f ∈ ns') (g : FGet f x ns xs) : Ev (tFld K ta f) ρ M x M1 := fun Φ σ H Q s q => h Φ σ H _ s fun v H1 s1 => by
  have ⟨F, s2⟩ := s1
  have e : v = .ref p := s2.fr.2
  obtain ⟨o, h1, h0, dx, fs, rfl, h3⟩ := s2.at m
  obtain ⟨w, h4, h5⟩ := g.look h3
  exact ⟨p, C, dx, fs, w, e, h1, c.cl, c.no f hf, h4, q w H1 ⟨F, s2.ex, ⟨s2.fr.1, h5⟩, s2.sl, s2.nd, s2.ce⟩⟩

/-! ### calls -/
abbrev FSpec := List VD → Cells → (VD → Cells → Prop) → Prop
/-- one outcome alone -/
def Det (x : VD) (M : Cells) : VD → Cells → Prop := fun y N => y = x ∧ N = M
/-- a def's promise -/
def spF (n : Nat) (S : FSpec) : Sp := fun vs H Q _ => ∃ (Φ : Fr) (ρ : Env) (σ : L2.St) (ds : List VD) (M : Cells) (P : VD → Cells → Prop), Sat (Φ.andA ds vs) ρ M σ H ∧ vs.length = n ∧ S ds M P ∧
  ∀ x M' v H', P x M' → Sat (Φ.and x v) ρ M' σ H' → Q v H'
theorem spF_len {n : Nat} {S : FSpec} {vs : List V} {H : Hp} {Q : VK} {E : XK} (h : spF n S vs H Q E) : vs.length = n := let ⟨_, _, _, _, _, _, _, e, _⟩ := h; e
/-- several outcomes -/
def EvR (te : TE) (ρ : Env) (M : Cells) (P : VD → Cells → Prop) : Prop := ∀ (Φ : Fr) (σ : L2.St) (H : Hp) (Q : VK), Sat Φ ρ M σ H → (∀ x M' v H', P x M' → Sat (Φ.and x v) ρ M' σ H' → Q v H') → te σ H Q
theorem EvR.of (h : Ev te ρ M x M') : EvR te ρ M (Det x M') := fun Φ σ H Q s q => h Φ σ H Q s fun v H' s' => q x M' v H' ⟨rfl, rfl⟩ s'
theorem EvR.ev (h : EvR te ρ M (Det x M')) : Ev te ρ M x M' := fun Φ σ H Q s q => h Φ σ H Q s fun x1 M1 v H' ⟨e1, e2⟩ s' => by
  subst e1; subst e2
  exact q v H' s'
theorem EvR.imp {P P' : VD → Cells → Prop} (h : EvR te ρ M P) (k : ∀ x M', P x M' → P' x M') : EvR te ρ M P' := fun Φ σ H Q s q => h Φ σ H Q s fun x M' v H' p s' => q x M' v H' (k x M' p) s'
theorem er_call {n : Nat} {S : FSpec} {P : VD → Cells → Prop} {E : XK} {ta : TA} {ds : List VD} (h : EvA ta ρ M ds M1) (hn : ds.length = n) (hS : S ds M1 P) : EvR (tCall (spF n S) [] E ta) ρ M P := fun Φ σ H Q s q =>
  h Φ σ H _ s fun vs H1 s1 => by
    have ⟨F, s2⟩ := s1
    have hl := Paired.length s2.fr.2
    rw [List.append_nil]
    exact ⟨Φ, ρ, σ, ds, M1, P, s1, by rw [← hl]; exact hn, hS, fun x M' v H' p s' => q x M' v H' p s'⟩
theorem ev_call {n : Nat} {S : FSpec} {E : XK} {ta : TA} {ds : List VD} (h : EvA ta ρ M ds M1) (hn : ds.length = n) (hS : S ds M1 (Det x M2)) : Ev (tCall (spF n S) [] E ta) ρ M x M2 := (er_call h hn hS).ev
theorem er_meth {n : Nat} {S : FSpec} {P : VD → Cells → Prop} {E : XK} {m : Str} {t : TA} {ds : List VD} (ho : Ev ta ρ M (val (.ref p)) M1) (hm : (p, cI C ns xs) ∈ M1) (hf : m ∉ ns) (h : EvA t ρ M1 ds M2) (hn : ds.length + 1 = n) (hS : S (val (.ref p) :: ds) M2 P) : EvR (tMeth C m (spF n S) [] E ta t) ρ M P := fun Φ σ H Q s q =>
  ho Φ σ H _ s fun v H1 s1 => by
    have ⟨F, s2⟩ := s1
    have e : v = .ref p := s2.fr.2
    obtain ⟨o, h1, h0, dx, fs, rfl, h3⟩ := s2.at hm
    refine ⟨p, dx, fs, e, h1, h3.lookup_none hf, h _ σ H1 _ s1 fun vs H2 s3 => ?_⟩
    have ⟨F', s4⟩ := s3
    have hl := Paired.length s4.fr.2
    rw [List.append_nil]
    exact ⟨Φ, ρ, σ, val (.ref p) :: ds, M2, P, s3.weak (.of rfl fun F h => ⟨h.1.1, .cons h.1.2 h.2⟩), by rw [List.length_cons, ← hl]; exact hn, hS, fun x M' v H' p s' => q x M' v H' p s'⟩
theorem ev_meth {n : Nat} {S : FSpec} {E : XK} {m : Str} {t : TA} {ds : List VD} (ho : Ev ta ρ M (val (.ref p)) M1) (hm : (p, cI C ns xs) ∈ M1) (hf : m ∉ ns) (h : EvA t ρ M1 ds M2) (hn : ds.length + 1 = n) (hS : S (val (.ref p) :: ds) M2 (Det x M3)) : Ev (tMeth C m (spF n S) [] E ta t) ρ M x M3 := (er_meth ho hm hf h hn hS).ev
/-- C(..): the new instance anywhere -/
theorem er_make {n : Nat} {S : FSpec} {P : VD → Cells → Prop} {E : XK} {t : TA} {ds : List VD} (h : EvA t ρ M ds M1) (hn : ds.length + 1 = n) (hS : ∀ p, S (val (.ref p) :: ds) ((p, cI C [] []) :: M1) fun y M' => y = vn ∧ P (val (.ref p)) M') : EvR (tMake C (spF n S) [] E t) ρ M P := fun Φ σ H Q s q =>
  h Φ σ H _ s fun vs H1 s1 => fun x dx hx hdx hne => by
    have ⟨F, s2⟩ := s1
    have hl := Paired.length s2.fr.2
    rw [List.append_nil]
    have s3 := (s2.newH (o := .own x) hdx).newC (c := cI C [] []) (o := .ins C dx []) (p := x) (by rw [upd_ne hne.symm]; exact hx) fun e => ⟨e, dx, [], rfl, rfl, .nil⟩
    refine ⟨Φ, ρ, σ, val (.ref x) :: ds, (x, cI C [] []) :: M1, fun y M' => y = vn ∧ P (val (.ref x)) M', ⟨F, s3.weak (.of rfl fun F h => ⟨h.1, .cons rfl h.2⟩)⟩, by rw [List.length_cons, ← hl]; exact hn, hS x, fun y M' v H' hp s' => ?_⟩
    obtain ⟨rfl, hp⟩ := hp
    have ⟨F', s5⟩ := s'
    refine ⟨?_, q (val (.ref x)) M' (.ref x) H' hp ⟨F', s5.ex, ⟨s5.fr.1, rfl⟩, s5.sl, s5.nd, s5.ce⟩⟩
    have e : Rp F' v .none := s5.fr.2
    cases e
    rfl

/-! ### built-in calls, methods of built-in types -/
theorem ev_cb {r : List V → Hp → VK → Prop} {ta : TA} {ds : List VD} (h : EvA ta ρ M ds M1) (hr : RC r ds M1 z M2) : Ev (tCB r ta) ρ M z M2 := fun Φ σ H Q s q => h Φ σ H _ s fun vs H1 s1 => hr Φ ρ σ vs H1 Q s1 q
def IsTy (K : PySem.W.Frag) (T : String) (x : VD) (M : Cells) : Prop := ∀ {F Φ ρ σ H v}, SatF F Φ ρ M σ H → x.P F v → tyV K T v H
theorem ity_l {ds : List VD} (h : IsLstV x M ds) : IsTy K "list" x M := fun s q => by
  obtain ⟨a, ws, rfl, h1, _⟩ := h s q
  exact .inl ⟨rfl, ws, sq_of h1⟩
theorem ity_s {i : Str} : IsTy K "str" (dat (.str i)) M := fun s q => by cases q; exact rfl
theorem ev_bm {T : String} {r : V → List V → Hp → VK → Prop} {ta : TA} {ds : List VD} (ho : Ev tb ρ M x M1) (ty : IsTy K T x M1) (h : EvA ta ρ M1 ds M2) (hr : RM r x ds M2 z M3) : Ev (tBM K T r tb ta) ρ M z M3 := fun Φ σ H Q s q =>
  ho Φ σ H _ s fun v H1 ⟨F, s1⟩ => ⟨ty s1 s1.fr.2, h _ σ H1 _ ⟨F, s1⟩ fun vs H2 s2 => hr Φ ρ σ v vs H2 Q s2 q⟩
theorem ev_bm0 {T : String} {r : V → List V → Hp → VK → Prop} (ho : Ev tb ρ M x M1) (ty : IsTy K T x M1) (hr : RM r x [] M1 z M2) : Ev (tBM0 K T r tb) ρ M z M2 := fun Φ σ H Q s q =>
  ho Φ σ H _ s fun v H1 ⟨F, s1⟩ => ⟨ty s1 s1.fr.2, hr Φ ρ σ v [] H1 Q ⟨F, s1.ex, ⟨s1.fr, .nil⟩, s1.sl, s1.nd, s1.ce⟩ q⟩
/-- xs.append(e) -/
theorem rm_append {ds : List PyData} {d : PyData} (h : Put p (cLd ds) (cLd (ds ++ [d])) M M') (hl : ds.length < sizeLine) : RM rAppend (val (.ref p)) [dat d] M vn M' := fun Φ ρ σ v vs H Q ⟨F, s⟩ q => by
  have e : v = .ref p := s.fr.1.2
  cases s.fr.2 with
  | cons q1 q2 =>
    cases q2
    obtain ⟨o, h1, h0, ws, rfl, h3⟩ := s.at h.mem
    refine ⟨p, ws, _, e, rfl, h1, by rw [h3.length]; exact hl, q .non _ ⟨F, ?_⟩⟩
    have s' := s.put1 (o := .lst (ws ++ [_])) h h0 ⟨h0, _, rfl, h3.append (.cons q1 .nil)⟩
    exact ⟨s'.ex, ⟨s'.fr.1.1, .non⟩, s'.sl, s'.nd, s'.ce⟩
theorem rm_appendV {ds : List VD} {d : VD} (h : Put p (cL ds) (cL (ds ++ [d])) M M') (hl : ds.length < sizeLine) : RM rAppend (val (.ref p)) [d] M vn M' := fun Φ ρ σ v vs H Q ⟨F, s⟩ q => by
  have e : v = .ref p := s.fr.1.2
  cases s.fr.2 with
  | cons q1 q2 =>
    cases q2
    obtain ⟨o, h1, h0, ws, rfl, h3⟩ := s.at h.mem
    refine ⟨p, ws, _, e, rfl, h1, by rw [← Paired.length h3]; exact hl, q .non _ ⟨F, ?_⟩⟩
    have s' := s.put1 (o := .lst (ws ++ [_])) h h0 ⟨h0, _, rfl, h3.append (.cons q1 .nil)⟩
    exact ⟨s'.ex, ⟨s'.fr.1.1, .non⟩, s'.sl, s'.nd, s'.ce⟩
/-- len -/
def rLen (K : PySem.W.Frag) : List V → Hp → VK → Prop := fun xs H Q => ∃ x n, xs = [x] ∧ LenV K x H n ∧ Q (.int n) H
theorem call_len' {X : Cx} : CallR X (.builtin "len") (rLen X.K) := call_len
def rLenD : List V → Hp → VK → Prop := fun xs H Q => ∃ a kvs, xs = [V.ref a] ∧ H a = some (.dK kvs) ∧ Q (.int kvs.length) H
def rLenU (K : PySem.W.Frag) : List V → Hp → VK → Prop := fun xs H Q => rLen K xs H Q ∨ rLenD xs H Q
theorem call_lenU {X : Cx} : CallR X (.builtin "len") (rLenU X.K) := call_len'.or call_lenD
theorem rc1 {ds : List VD} {F : Hp} {vs : List V} (h : DA F [x] vs) : ∃ v, vs = [v] ∧ x.P F v := by
  cases h with
  | cons q1 q2 => cases q2; exact ⟨_, rfl, q1⟩
theorem rc2 {F : Hp} {vs : List V} (h : DA F [x, y] vs) : ∃ v w, vs = [v, w] ∧ x.P F v ∧ y.P F w := by
  cases h with
  | cons q1 q2 =>
    cases q2 with
    | cons q3 q4 => cases q4; exact ⟨_, _, rfl, q1, q3⟩
theorem SatF.base1 {F : Hp} {σ : L2.St} {H : Hp} {ds : List VD} {vs : List V} (s : SatF F (Φ.andA ds vs) ρ M σ H) : SatF F Φ ρ M σ H := s.weak Le.andA
theorem rc_len {ds : List VD} (hx : IsSeq K x M ds) : RC (rLenU K) [x] M (dat (.int ds.length)) M := fun Φ ρ σ vs H Q ⟨F, s⟩ q => by
  obtain ⟨v, rfl, h1⟩ := rc1 (ds := []) s.fr.2
  obtain ⟨a, ws, rfl, h2, h3⟩ := hx s h1
  have hl := Paired.length h3
  refine .inl ⟨_, ws.length, rfl, ?_, q _ _ (Sat.ret s.base1 (by rw [← hl]; exact .int _))⟩
  rcases h2 with h2 | h2
  · exact .inl ⟨ws, h2, rfl⟩
  · exact .inr ⟨ws, h2, rfl⟩
theorem rc_lenL {ds : List PyData} (hx : IsLst x M ds) : RC (rLenU K) [x] M (dat (.int ds.length)) M := by
  have h := rc_len (K := K) (iss_l (K := K) hx.v)
  rw [List.length_map] at h; exact h
theorem rc_lenT {ds : List PyData} (hx : IsTup x M ds) : RC (rLenU K) [x] M (dat (.int ds.length)) M := by
  have h := rc_len (K := K) (iss_t (K := K) hx.v)
  rw [List.length_map] at h; exact h
theorem rc_lenScr {is : List Int} : RC (rLenU K) [vscr K is] M (dat (.int is.length)) M := fun Φ ρ σ vs H Q ⟨F, s⟩ q => by
  obtain ⟨v, rfl, a, rfl, h1⟩ := rc1 (ds := []) s.fr.2
  refine .inl ⟨_, (is.map V.int).length, rfl, .inl ⟨_, ex_l s.ex h1, rfl⟩, q _ _ (Sat.ret s.base1 (by rw [List.length_map]; exact .int _))⟩
theorem rc_lenS {i : Str} (h : i.length ≤ sizeLine) : RC (rLenU K) [dat (.str i)] M (dat (.int i.length)) M := fun Φ ρ σ vs H Q ⟨F, s⟩ q => by
  obtain ⟨v, rfl, h1⟩ := rc1 (ds := []) s.fr.2
  cases h1
  exact .inl ⟨_, i.length, rfl, ⟨h, rfl⟩, q _ _ (Sat.ret s.base1 (.int _))⟩
/-- tuple(xs), list(xs) -/
def rTupOf (K : PySem.W.Frag) : List V → Hp → VK → Prop := fun xs H Q => ∃ p ys, xs = [.ref p] ∧ ((SqL K H p ys ∧ ∀ l, H l = none → Q (.ref l) (upd H l (.tup ys))) ∨ (SqT K H p ys ∧ Q (.ref p) H))
theorem call_tuple_of' {X : Cx} : CallR X (.type "tuple") (rTupOf X.K) := call_tuple_of
def rLstOf (K : PySem.W.Frag) : List V → Hp → VK → Prop := fun xs H Q => ∃ p ys, xs = [.ref p] ∧ (SqL K H p ys ∨ SqT K H p ys) ∧ ∀ l, H l = none → Q (.ref l) (upd H l (.lst ys))
theorem call_list_of' {X : Cx} : CallR X (.type "list") (rLstOf X.K) := call_list_of
theorem rc_tupL {ds : List PyData} (hx : IsLst x M ds) : RC (rTupOf K) [x] M (dat (.tuple ds)) M := fun Φ ρ σ vs H Q ⟨F, s⟩ q => by
  obtain ⟨v, rfl, h1⟩ := rc1 (ds := []) s.fr.2
  obtain ⟨a, ws, rfl, h2, h3⟩ := hx s h1
  exact ⟨a, ws, rfl, .inl ⟨sq_of h2, fun l hl => q _ _ (Sat.retNew s.base1 hl fun F' fx e => .tup e (h3.mono fx))⟩⟩
theorem rc_tupT {ds : List PyData} : RC (rTupOf K) [dat (.tuple ds)] M (dat (.tuple ds)) M := fun Φ ρ σ vs H Q ⟨F, s⟩ q => by
  obtain ⟨v, rfl, h1⟩ := rc1 (ds := []) s.fr.2
  have h1' := h1
  obtain ⟨a, ws, rfl, h2, h3⟩ := ist_dat s h1
  exact ⟨a, ws, rfl, .inr ⟨st_of h2, q _ _ (Sat.ret s.base1 h1')⟩⟩
theorem rc_lstL {ds : List PyData} (hx : IsLst x M ds) : RC (rLstOf K) [x] M (dat (.list ds)) M := fun Φ ρ σ vs H Q ⟨F, s⟩ q => by
  obtain ⟨v, rfl, h1⟩ := rc1 (ds := []) s.fr.2
  obtain ⟨a, ws, rfl, h2, h3⟩ := hx s h1
  exact ⟨a, ws, rfl, .inl (sq_of h2), fun l hl => q _ _ (Sat.retNew s.base1 hl fun F' fx e => .lst e (h3.mono fx))⟩
theorem rc_lstT {ds : List PyData} (hx : IsTup x M ds) : RC (rLstOf K) [x] M (dat (.list ds)) M := fun Φ ρ σ vs H Q ⟨F, s⟩ q => by
  obtain ⟨v, rfl, h1⟩ := rc1 (ds := []) s.fr.2
  obtain ⟨a, ws, rfl, h2, h3⟩ := hx s h1
  exact ⟨a, ws, rfl, .inr (st_of h2), fun l hl => q _ _ (Sat.retNew s.base1 hl fun F' fx e => .lst e (h3.mono fx))⟩
/-- any, all of a list of truth values -/
theorem rc_any {bs : List Bool} (hx : IsLst x M (bs.map PyData.bool)) : RC (rAny K) [x] M (dat (.bool (bs.any id))) M := fun Φ ρ σ vs H Q ⟨F, s⟩ q => by
  obtain ⟨v, rfl, h1⟩ := rc1 (ds := []) s.fr.2
  obtain ⟨a, ws, rfl, h2, h3⟩ := hx s h1
  cases h3.bls
  exact ⟨a, bs, rfl, sq_of h2, q _ _ (Sat.ret s.base1 (.bl _))⟩
theorem rc_all {bs : List Bool} (hx : IsLst x M (bs.map PyData.bool)) : RC (rAll K) [x] M (dat (.bool (bs.all id))) M := fun Φ ρ σ vs H Q ⟨F, s⟩ q => by
  obtain ⟨v, rfl, h1⟩ := rc1 (ds := []) s.fr.2
  obtain ⟨a, ws, rfl, h2, h3⟩ := hx s h1
  cases h3.bls
  exact ⟨a, bs, rfl, sq_of h2, q _ _ (Sat.ret s.base1 (.bl _))⟩
/-- max, min of two ints; abs; int -/
def rMax2 : List V → Hp → VK → Prop := fun xs H Q => ∃ i j, xs = [.int i, .int j] ∧ Q (.int (if j > i then j else i)) H
def rMin2 : List V → Hp → VK → Prop := fun xs H Q => ∃ i j, xs = [.int i, .int j] ∧ Q (.int (if j < i then j else i)) H
def rAbs : List V → Hp → VK → Prop := fun xs H Q => ∃ i, xs = [.int i] ∧ Q (.int (if i < 0 then -i else i)) H
def rInt1 : List V → Hp → VK → Prop := fun xs H Q => (∃ i, xs = [.int i] ∧ Q (.int i) H) ∨ ∃ k, xs = [.bl k] ∧ Q (.int (if k then 1 else 0)) H
theorem call_max2' {X : Cx} (hc : X.calm = true) : CallR X (.builtin "max") rMax2 := call_max2 hc
theorem call_min2' {X : Cx} (hc : X.calm = true) : CallR X (.builtin "min") rMin2 := call_min2 hc
theorem call_abs' {X : Cx} : CallR X (.builtin "abs") rAbs := call_abs
theorem call_int1' {X : Cx} : CallR X (.type "int") rInt1 := call_int1
theorem rc_max2 {i j : Int} : RC rMax2 [dat (.int i), dat (.int j)] M (dat (.int (max i j))) M := fun Φ ρ σ vs H Q ⟨F, s⟩ q => by
  obtain ⟨v, w, rfl, h1, h2⟩ := rc2 s.fr.2
  cases h1; cases h2
  have e : (if j > i then j else i) = max i j := by split <;> omega
  exact ⟨i, j, rfl, by rw [e]; exact q _ _ (Sat.ret s.base1 (.int _))⟩
theorem rc_min2 {i j : Int} : RC rMin2 [dat (.int i), dat (.int j)] M (dat (.int (min i j))) M := fun Φ ρ σ vs H Q ⟨F, s⟩ q => by
  obtain ⟨v, w, rfl, h1, h2⟩ := rc2 s.fr.2
  cases h1; cases h2
  have e : (if j < i then j else i) = min i j := by split <;> omega
  exact ⟨i, j, rfl, by rw [e]; exact q _ _ (Sat.ret s.base1 (.int _))⟩
theorem rc_abs {i : Int} : RC rAbs [dat (.int i)] M (dat (.int (if i < 0 then -i else i))) M := fun Φ ρ σ vs H Q ⟨F, s⟩ q => by
  obtain ⟨v, rfl, h1⟩ := rc1 (ds := []) s.fr.2
  cases h1
  exact ⟨i, rfl, q _ _ (Sat.ret s.base1 (.int _))⟩
theorem rc_int {i : Int} : RC rInt1 [dat (.int i)] M (dat (.int i)) M := fun Φ ρ σ vs H Q ⟨F, s⟩ q => by
  obtain ⟨v, rfl, h1⟩ := rc1 (ds := []) s.fr.2
  cases h1
  exact .inl ⟨i, rfl, q _ _ (Sat.ret s.base1 (.int _))⟩
end

/-! ### statements -/
def Cont (k : L2.St → Hp → Prop) (Φ : Fr) (ρ : Env) (M : Cells) : Prop := ∀ σ H, Sat Φ ρ M σ H → k σ H
/-- a word between -/
def InvK (Φ : Fr) (J : Env → Cells → Prop) : L2.St → Hp → Prop := fun σ H => ∃ ρ M, J ρ M ∧ Sat Φ ρ M σ H
/-- what is wanted of what is handed back -/
def RtQ (Q : VK) (Φ : Fr) (P : VD → Cells → Prop) : Prop := ∀ Φ' ρ σ x M v H, Le Φ' Φ → P x M → Sat (Φ'.and x v) ρ M σ H → Q v H
abbrev fnD (Q : VK) : Ends := { nx := fun _ H' => Q .non H', rt := Q }
section
variable {K : PySem.W.Frag} {ρ ρ' ρ1 : Env} {M M1 M2 M3 M' : Cells} {x y z : VD} {te ta tb tv : TE} {t u : TS} {tc : TT} {C p : Addr} {f : Str} {ns ns' nn : List Str} {xs xs' : List VD} {Φ Ψ : Fr} {D : Ends} {Q : VK} {P : VD → Cells → Prop} {J : Env → Cells → Prop}
theorem c_seq (h : Cont (t { D with nx := u D }) Φ ρ M) : Cont (tSeq t u D) Φ ρ M := h
theorem c_cut (h : Cont (t { D with nx := u D }) Φ ρ M) : Cont (tCut t u D) Φ ρ M := fun σ H s => ⟨u D, h σ H s, fun _ _ h => h⟩
/-- .. by a word -/
theorem c_cutW (J : Env → Cells → Prop) (h : Cont (t { D with nx := InvK Φ J }) Φ ρ M) (k : ∀ ρ' M', J ρ' M' → Cont (u D) Φ ρ' M') : Cont (tCut t u D) Φ ρ M := fun σ H s => ⟨InvK Φ J, h σ H s, fun σ' H' ⟨ρ', M', j, s'⟩ => k ρ' M' j σ' H' s'⟩
theorem c_inv (j : J ρ M) (l : Le Ψ Φ) : Cont (InvK Φ J) Ψ ρ M := fun σ H s => ⟨ρ, M, j, s.weak l⟩
theorem c_ret (h : Ev te ρ M x M1) (hQ : RtQ D.rt Φ P) (hP : P x M1) (l : Le Ψ Φ) : Cont (tRet te D) Ψ ρ M := fun σ H s => h Ψ σ H _ s fun v H1 s1 => hQ Ψ ρ σ x M1 v H1 l hP s1
theorem c_retR {P' : VD → Cells → Prop} (h : EvR te ρ M P') (hQ : RtQ D.rt Φ P) (hP : ∀ x M1, P' x M1 → P x M1) (l : Le Ψ Φ) : Cont (tRet te D) Ψ ρ M := fun σ H s => h Ψ σ H _ s fun x M1 v H1 p s1 => hQ Ψ ρ σ x M1 v H1 l (hP x M1 p) s1
theorem Sat.non (s : Sat Φ ρ M σ H) : Sat (Φ.and vn .non) ρ M σ H := let ⟨F, s⟩ := s; ⟨F, s.ex, ⟨s.fr, .non⟩, s.sl, s.nd, s.ce⟩
theorem c_retN (hQ : RtQ D.rt Φ P) (hP : P vn M) (l : Le Ψ Φ) : Cont (tRetN D) Ψ ρ M := fun σ H s => hQ Ψ ρ σ vn M .non H l hP s.non
theorem c_end (hQ : RtQ Q Φ P) (hP : P vn M) (l : Le Ψ Φ) : Cont (fun _ H' => Q .non H') Ψ ρ M := fun σ H s => hQ Ψ ρ σ vn M .non H l hP s.non
theorem c_next (h : Cont D.nx Φ ρ M) : Cont (tNext D) Φ ρ M := h
theorem c_break (h : Cont D.bk Φ ρ M) : Cont (tBreak D) Φ ρ M := h
theorem c_cont (h : Cont D.ct Φ ρ M) : Cont (tCont D) Φ ρ M := h
theorem Sat.asg {v : V} {σ : L2.St} {H : Hp} {i : Nat} (s : Sat (Φ.and x v) ρ M σ H) (h : SetAt x ρ i ρ') : Sat Φ ρ' M (σ.set i (some v)) H := by
  obtain ⟨F, s⟩ := s
  rw [h.eq]
  exact ⟨F, s.ex, s.fr.1, s.sl.set s.fr.2, s.nd, s.ce⟩
theorem c_asg {i : Nat} (h : Ev te ρ M x M1) (hs : SetAt x ρ i ρ') (k : Cont D.nx Φ ρ' M1) : Cont (tAsg te (gName i) D) Φ ρ M := fun σ H s => h Φ σ H _ s fun v H1 s1 => k _ _ (s1.asg hs)
theorem c_asgR {i : Nat} (h : EvR te ρ M P) (k : ∀ x M1, P x M1 → ∃ ρ', SetAt x ρ i ρ' ∧ Cont D.nx Φ ρ' M1) : Cont (tAsg te (gName i) D) Φ ρ M := fun σ H s => h Φ σ H _ s fun x M1 v H1 p s1 => by
  obtain ⟨ρ', hs, k⟩ := k x M1 p
  exact k _ _ (s1.asg hs)
theorem c_drop (h : Ev te ρ M x M1) (k : Cont D.nx Φ ρ M1) : Cont (tDrop te D) Φ ρ M := fun σ H s => h Φ σ H _ s fun v H1 s1 => k σ H1 s1.weak1
theorem c_dropR (h : EvR te ρ M P) (k : ∀ x M1, P x M1 → Cont D.nx Φ ρ M1) : Cont (tDrop te D) Φ ρ M := fun σ H s => h Φ σ H _ s fun x M1 v H1 p s1 => k x M1 p σ H1 s1.weak1
theorem c_if {b : Bool} (h : EvT tc ρ M b M1) (h1 : b = true → Cont (t D) Φ ρ M1) (h2 : b = false → Cont (u D) Φ ρ M1) : Cont (tIfS tc t u D) Φ ρ M := fun σ H s => h Φ σ H _ s fun H1 s1 => by
  cases b with
  | true => rw [if_pos rfl]; exact h1 rfl σ H1 s1
  | false => rw [if_neg Bool.false_ne_true]; exact h2 rfl σ H1 s1
theorem c_aug {i : Nat} {g : Int → Int → Int} {a b : Int} (h0 : At (dat (.int a)) ρ i) (h : Ev te ρ M (dat (.int b)) M1) (hs : SetAt (dat (.int (g a b))) ρ i ρ') (k : Cont D.nx Φ ρ' M1) : Cont (tAug i te (ipI g) D) Φ ρ M := fun σ H s => by
  have ⟨F, s0⟩ := s
  obtain ⟨v, h1, h2⟩ := s0.sl.2 i _ h0.get
  cases h2
  refine ⟨_, h1, h Φ σ H _ s fun w H1 s1 => ?_⟩
  have ⟨F1, s2⟩ := s1
  cases s2.fr.2
  refine ⟨a, b, rfl, rfl, k _ _ ?_⟩
  rw [hs.eq]
  exact ⟨F1, s2.ex, s2.fr.1, s2.sl.set (.int _), s2.nd, s2.ce⟩
theorem c_fld (hv : Ev tv ρ M y M1) (ho : Ev ta ρ M1 (val (.ref p)) M2) (h : Put p (cI C ns xs) (cI C ns' xs') M2 M3) (g : FPut f y ns xs ns' xs') (c : ClsF K C nn) (hf : f ∈ nn) (hl : ns.length < 1000) (k : Cont D.nx Φ ρ M3) : Cont (sFld K ta tv f D) Φ ρ M := fun σ H s =>
  hv Φ σ H _ s fun v H1 s1 => ho _ σ H1 _ s1 fun w H2 ⟨F, s2⟩ => by
    have e : w = .ref p := s2.fr.2
    obtain ⟨o, h1, h0, dx, fs, rfl, h3⟩ := s2.at h.mem
    refine ⟨p, C, dx, fs, e, h1, c.cl, c.no f hf, by rw [h3.len]; exact hl, k σ _ ⟨F, ?_⟩⟩
    exact (s2.put1 (o := .ins C dx (putF f v fs)) h h0 ⟨h0, dx, _, rfl, g.put s2.fr.1.2 h3⟩).weak (.of rfl fun F h => h.1.1)
end
end Sx

set_option Elab.async false
set_option linter.all false
set_option maxRecDepth 100000
set_option maxHeartbeats 2000000
/-! Sx4: targets, loops, comprehensions, by descriptions; a def's body. -/
namespace Sx
open PySem L2 Evl
section
variable {K : PySem.W.Frag} {ρ ρ' ρ1 ρ2 : Env} {M M1 M2 M3 M' : Cells} {x y z : VD} {te ta tb tv : TE} {t u : TS} {tt : TT} {C p : Addr} {Φ Ψ : Fr} {D : Ends} {P : VD → Cells → Prop} {J : Env → Cells → Prop}
/-! ### targets: what they store, where -/
def Tgt (g : TG) (js : List Nat) (x : VD) (ρ : Env) (ρ' : Env) : Prop := ∀ (Φ : Fr) (M : Cells) (v : V) (σ : L2.St) (H : Hp) (k : L2.St → Hp → Prop), Sat (Φ.and x v) ρ M σ H →
  (∀ σ', (∀ i, i ∉ js → σ'[i]? = σ[i]?) → σ'.length = σ.length → Sat Φ ρ' M σ' H → k σ' H) → g v σ H k
def Tgts (g : TGs) (js : List Nat) (xs : List VD) (ρ : Env) (ρ' : Env) : Prop := ∀ (Φ : Fr) (M : Cells) (vs : List V) (σ : L2.St) (H : Hp) (k : L2.St → Hp → Prop), Sat (Φ.andA xs vs) ρ M σ H →
  (∀ σ', (∀ i, i ∉ js → σ'[i]? = σ[i]?) → σ'.length = σ.length → Sat Φ ρ' M σ' H → k σ' H) → g vs σ H k
theorem tg_name {i : Nat} (h : SetAt x ρ i ρ') : Tgt (gName i) [i] x ρ ρ' := fun Φ M v σ H k s q => q _ (fun j hj => List.getElem?_set_ne (by simpa using Ne.symm (by simpa using hj))) (by simp) (s.asg h)
theorem tgs_nil : Tgts gNil [] [] ρ ρ := fun Φ M vs σ H k ⟨F, s⟩ q => by
  have e := s.fr.2
  cases e
  exact ⟨rfl, q σ (fun _ _ => rfl) rfl ⟨F, s.base1⟩⟩
theorem tgs_cons {g : TG} {gs : TGs} {js ks : List Nat} {xs : List VD} (h : Tgt g js x ρ ρ1) (hs : Tgts gs ks xs ρ1 ρ2) : Tgts (gCons g gs) (js ++ ks) (x :: xs) ρ ρ2 := fun Φ M vs σ H k s q => by
  have ⟨F, s0⟩ := s
  have e := s0.fr.2
  cases vs with
  | nil => cases e
  | cons v r =>
    refine ⟨v, r, rfl, h (Φ.andA xs r) M v σ H _ (s.weak (.of rfl fun F h => by
      cases h.2 with
      | cons q1 q2 => exact ⟨⟨h.1, q2⟩, q1⟩)) fun σ1 hj hl s1 => ?_⟩
    exact hs Φ M r σ1 H k s1 fun σ2 hk hl2 s2 => q σ2 (fun i hi => (hk i (fun z => hi (List.mem_append_right _ z))).trans (hj i fun z => hi (List.mem_append_left _ z))) (hl2.trans hl) s2
theorem tg_tup {gs : TGs} {js : List Nat} {n : Nat} {xs : List VD} (hx : ∀ {M}, IsTupV x M xs) (hs : Tgts gs js xs ρ ρ') (hn : xs.length = n) : Tgt (gTup K n gs) js x ρ ρ' := fun Φ M v σ H k ⟨F, s⟩ q => by
  obtain ⟨a, ws, rfl, h1, h2⟩ := hx s s.fr.2
  exact ⟨a, ws, rfl, st_of h1, by rw [← Paired.length h2]; exact hn, hs Φ M ws σ H k ⟨F, s.ex, ⟨s.fr.1, h2⟩, s.sl, s.nd, s.ce⟩ q⟩
theorem tg_tupD {gs : TGs} {js : List Nat} {n : Nat} {ds : List PyData} (hs : Tgts gs js (ds.map dat) ρ ρ') (hn : ds.length = n) : Tgt (gTup K n gs) js (dat (.tuple ds)) ρ ρ' := tg_tup ist_dat.v hs (by rw [List.length_map]; exact hn)
theorem c_asgG {g : TG} {js : List Nat} (h : Ev te ρ M x M1) (hg : Tgt g js x ρ ρ') (k : Cont D.nx Φ ρ' M1) : Cont (tAsg te g D) Φ ρ M := fun σ H s => h Φ σ H _ s fun v H1 s1 => hg Φ M1 v σ H1 _ s1 fun σ' _ _ s' => k σ' H1 s'
/-- a, b = e1, e2 -/
theorem c_par {i j : Nat} {ta : TA} (h : EvA ta ρ M [x, y] M1) (h1 : SetAt x ρ i ρ1) (h2 : SetAt y ρ1 j ρ2) (k : Cont D.nx Φ ρ2 M1) : Cont (tPar i j ta D) Φ ρ M := fun σ H s => h Φ σ H _ s fun vs H1 s1 => by
  have ⟨F, s0⟩ := s1
  obtain ⟨v, w, rfl, q1, q2⟩ := rc2 s0.fr.2
  refine ⟨v, w, rfl, k _ _ ?_⟩
  have s2 : Sat ((Φ.and y w).and x v) ρ M1 σ H1 := s1.weak (.of rfl fun F h => by
    obtain ⟨v', w', e, q1, q2⟩ := rc2 h.2
    cases e
    exact ⟨⟨h.1, q2⟩, q1⟩)
  exact (s2.asg h1).asg h2
theorem c_par3 {i j l : Nat} {ta : TA} {ρ3 : Env} (h : EvA ta ρ M [x, y, z] M1) (h1 : SetAt x ρ i ρ1) (h2 : SetAt y ρ1 j ρ2) (h3 : SetAt z ρ2 l ρ3) (k : Cont D.nx Φ ρ3 M1) : Cont (tPar3 i j l ta D) Φ ρ M := fun σ H s => h Φ σ H _ s fun vs H1 s1 => by
  have ⟨F, s0⟩ := s1
  obtain ⟨v, w, u', rfl⟩ : ∃ a b c, vs = [a, b, c] := by
    have e := Paired.length s0.fr.2
    match vs, e with
    | [a, b, c], _ => exact ⟨a, b, c, rfl⟩
  refine ⟨v, w, u', rfl, k _ _ ?_⟩
  have s2 : Sat (((Φ.and z u').and y w).and x v) ρ M1 σ H1 := s1.weak (.of rfl fun F h => by
    cases h.2 with
    | cons q1 q2 =>
      cases q2 with
      | cons q3 q4 =>
        cases q4 with
        | cons q5 q6 => exact ⟨⟨⟨h.1, q5⟩, q3⟩, q1⟩)
  exact ((s2.asg h1).asg h2).asg h3

/-! ### what is walked -/
def Walks (J : It) (Ψ : Fr) (its : List VD) : Prop := ∃ (G : Hp → Prop) (Y : Nat → Hp → V → Hp → Prop), Walk J its.length G Y ∧ (∀ Φ ρ M σ H, Le Φ Ψ → Sat Φ ρ M σ H → G H) ∧
  ∀ (i : Nat) (d : VD) (x : V) (H H' : Hp) (Φ : Fr) (ρ : Env) (M : Cells) (σ : L2.St), its[i]? = some d → Le Φ Ψ → Sat Φ ρ M σ H → Y i H x H' → Sat (Φ.and d x) ρ M σ H'
def EvI (wi : TI) (ρ : Env) (M : Cells) (its : List VD) (M' : Cells) : Prop := ∀ (Φ : Fr) (σ : L2.St) (H : Hp) (R : It → Hp → Prop), Sat Φ ρ M σ H → (∀ J H' Ψ, Le Ψ Φ → Sat Ψ ρ M' σ H' → Walks J Ψ its → R J H') → wi σ H R
theorem ei_vec {K : PySem.W.Frag} {ds : List VD} {a : Addr} {ws : List V} (hl : ws.length = ds.length) (hq : ∀ Φ ρ M σ H, Le Φ Ψ → Sat Φ ρ M σ H → SqL K H a ws ∧ ∃ F, SatF F Φ ρ M σ H ∧ DA F ds ws) : Walks (Itl K a) Ψ ds := by
  refine ⟨fun H => SqL K H a ws, YAt ws, hl ▸ walk_list, fun Φ ρ M σ H l s => (hq Φ ρ M σ H l s).1, fun i d x H H' Φ ρ M σ hi l s y => ?_⟩
  obtain ⟨rfl, hx⟩ := y
  obtain ⟨_, F, s0, hd⟩ := hq Φ ρ M σ H' l s
  obtain ⟨v, h1, h2⟩ := hd.get hi
  rw [hx] at h1
  cases h1
  exact ⟨F, s0.ex, ⟨s0.fr, h2⟩, s0.sl, s0.nd, s0.ce⟩
theorem ei_vecT {K : PySem.W.Frag} {ds : List VD} {a : Addr} {ws : List V} (hl : ws.length = ds.length) (hq : ∀ Φ ρ M σ H, Le Φ Ψ → Sat Φ ρ M σ H → SqT K H a ws ∧ ∃ F, SatF F Φ ρ M σ H ∧ DA F ds ws) : Walks (Itt K a) Ψ ds := by
  refine ⟨fun H => SqT K H a ws, YAt ws, hl ▸ walk_tup, fun Φ ρ M σ H l s => (hq Φ ρ M σ H l s).1, fun i d x H H' Φ ρ M σ hi l s y => ?_⟩
  obtain ⟨rfl, hx⟩ := y
  obtain ⟨_, F, s0, hd⟩ := hq Φ ρ M σ H' l s
  obtain ⟨v, h1, h2⟩ := hd.get hi
  rw [hx] at h1
  cases h1
  exact ⟨F, s0.ex, ⟨s0.fr, h2⟩, s0.sl, s0.nd, s0.ce⟩
/-- a fact of the frozen part, kept -/
def Fr.also (Φ : Fr) (G : Hp → Prop) (h : ∀ {F F'}, Fx F F' → G F → G F') : Fr := ⟨Φ.N, fun F => Φ.P F ∧ G F, fun e ⟨h1, h2⟩ => ⟨Φ.mono e h1, h e h2⟩⟩
/-- the description is of a frozen list (tuple) of such items -/
def FzL (x : VD) (ds : List VD) : Prop := ∀ F v, x.P F v → (vlst ds).P F v
def FzT (x : VD) (ds : List VD) : Prop := ∀ F v, x.P F v → (vtup ds).P F v
theorem fzl_dat {ds : List PyData} : FzL (dat (.list ds)) (ds.map dat) := fun F v h => vlst_dat.mpr h
theorem fzl_v {ds : List VD} : FzL (vlst ds) ds := fun F v h => h
theorem fzt_dat {ds : List PyData} : FzT (dat (.tuple ds)) (ds.map dat) := fun F v h => vtup_dat.mpr h
theorem fzt_v {ds : List VD} : FzT (vtup ds) ds := fun F v h => h
theorem fz_walkL {ds : List VD} {v : V} {σ : L2.St} {H : Hp} (s : Sat (Φ.and x v) ρ M σ H) (hx : FzL x ds) : ∃ a ws Ψ, v = .ref a ∧ SqL K H a ws ∧ Le Ψ Φ ∧ Sat Ψ ρ M σ H ∧ Walks (Itl K a) Ψ ds := by
  have ⟨F, s0⟩ := s
  obtain ⟨a, ws, rfl, h1, h2⟩ := hx F v s0.fr.2
  refine ⟨a, ws, Φ.also (fun F => F a = some (.lst ws) ∧ DA F ds ws) fun e h => ⟨e.pl _ _ h.1 rfl, h.2.mono e⟩, rfl, sq_of (s0.ex _ _ h1), .of rfl fun F h => h.1, ⟨F, s0.ex, ⟨s0.fr.1, h1, h2⟩, s0.sl, s0.nd, s0.ce⟩, ?_⟩
  refine ei_vec (ws := ws) (Paired.length h2).symm fun Φ' ρ' M' σ' H' l ⟨F', s'⟩ => ?_
  have := l.p F' s'.fr
  exact ⟨sq_of (s'.ex _ _ this.2.1), F', s', this.2.2⟩
theorem fz_walkT {ds : List VD} {v : V} {σ : L2.St} {H : Hp} (s : Sat (Φ.and x v) ρ M σ H) (hx : FzT x ds) : ∃ a ws Ψ, v = .ref a ∧ SqT K H a ws ∧ Le Ψ Φ ∧ Sat Ψ ρ M σ H ∧ Walks (Itt K a) Ψ ds := by
  have ⟨F, s0⟩ := s
  obtain ⟨a, ws, rfl, h1, h2⟩ := hx F v s0.fr.2
  refine ⟨a, ws, Φ.also (fun F => F a = some (.tup ws) ∧ DA F ds ws) fun e h => ⟨e.pl _ _ h.1 rfl, h.2.mono e⟩, rfl, st_of (s0.ex _ _ h1), .of rfl fun F h => h.1, ⟨F, s0.ex, ⟨s0.fr.1, h1, h2⟩, s0.sl, s0.nd, s0.ce⟩, ?_⟩
  refine ei_vecT (ws := ws) (Paired.length h2).symm fun Φ' ρ' M' σ' H' l ⟨F', s'⟩ => ?_
  have := l.p F' s'.fr
  exact ⟨st_of (s'.ex _ _ this.2.1), F', s', this.2.2⟩
/-- a list or a tuple -/
def iSeq (K : PySem.W.Frag) (tl : TE) : TI := fun σ H R => tl σ H fun x H1 => (∃ a, x = .ref a ∧ (∃ xs, SqL K H1 a xs) ∧ R (Itl K a) H1) ∨ ∃ a, x = .ref a ∧ (∃ xs, SqT K H1 a xs) ∧ R (Itt K a) H1
theorem iter_at {X : Cx} {tg : Expr} {pins : List (Addr × Obj)} {σ : L2.St} {H : Hp} {s1 : Shared} {R : It → Hp → Prop} {a : Addr} {xs : List V} (I1 : Inv X pins σ H s1) (hq : SqL X.K H a xs) (q : R (Itl X.K a) H) :
    wpAny (model X.prog X.w) X.A (pyIter (.ref a)) (PIE X pins σ tg R) X.xe s1 := by
  obtain ⟨its, rv, pl, hz⟩ := I1.list hq
  refine PySem.wpAny_pyIter_list pl.isList ?_
  refine ⟨_, [s1.heap.objs.size], _, _, H, rfl, I1.kept (t' := s1.toks) (fun b o => Heap.get?_push_of_some _), turn_list a _, ⟨_, Heap.get?_push_size _ rfl, rfl, rfl⟩, ?_, q⟩
  intro b hb
  cases List.mem_singleton.mp hb
  exact I1.fpOk (Nat.le_refl _) (I1.hok.fresh (Nat.le_refl _))
theorem iter_at_t {X : Cx} {tg : Expr} {pins : List (Addr × Obj)} {σ : L2.St} {H : Hp} {s1 : Shared} {R : It → Hp → Prop} {a : Addr} {xs : List V} (I1 : Inv X pins σ H s1) (hq : SqT X.K H a xs) (q : R (Itt X.K a) H) :
    wpAny (model X.prog X.w) X.A (pyIter (.ref a)) (PIE X pins σ tg R) X.xe s1 := by
  obtain ⟨its, rv, pl, hz⟩ := I1.tuple hq
  refine PySem.wpAny_pyIter_tuple (show s1.heap.IsTuple a its.toArray from pl) ?_
  refine ⟨_, [s1.heap.objs.size], _, _, H, rfl, I1.kept (t' := s1.toks) (fun b o => Heap.get?_push_of_some _), turn_tuple a _, ⟨_, Heap.get?_push_size _ rfl, rfl, rfl⟩, ?_, q⟩
  intro b hb
  cases List.mem_singleton.mp hb
  exact I1.fpOk (Nat.le_refl _) (I1.hok.fresh (Nat.le_refl _))
theorem pi_seq {X : Cx} {tg l : Expr} {tl : TE} (hl : PE X l tl) : PI X tg l (iSeq X.K tl) := by
  refine ⟨fun pins s σ H R I h => ?_⟩
  refine wpAny_mono (hl.run pins s σ H _ I h) (fun v s1 ⟨x, H1, I1, r1, q1⟩ => ?_) fun _ _ z => z
  rcases q1 with ⟨a, e, ⟨xs, hq⟩, q⟩ | ⟨a, e, ⟨xs, hq⟩, q⟩
  · subst e
    cases r1
    exact iter_at I1 hq q
  · subst e
    cases r1
    exact iter_at_t I1 hq q
theorem ei_seqL {tl : TE} {ds : List VD} (h : Ev tl ρ M x M') (hx : FzL x ds) : EvI (iSeq K tl) ρ M ds M' := fun Φ σ H R s q => h Φ σ H _ s fun v H1 s1 => by
  obtain ⟨a, ws, Ψ, e, h1, h2, h3, h4⟩ := fz_walkL (K := K) s1 hx
  exact .inl ⟨a, e, ⟨ws, h1⟩, q _ _ Ψ h2 h3 h4⟩
theorem ei_seqT {tl : TE} {ds : List VD} (h : Ev tl ρ M x M') (hx : FzT x ds) : EvI (iSeq K tl) ρ M ds M' := fun Φ σ H R s q => h Φ σ H _ s fun v H1 s1 => by
  obtain ⟨a, ws, Ψ, e, h1, h2, h3, h4⟩ := fz_walkT (K := K) s1 hx
  exact .inr ⟨a, e, ⟨ws, h1⟩, q _ _ Ψ h2 h3 h4⟩
def irange (lo : Int) (n : Nat) : List VD := (List.range n).map fun i => dat (.int (lo + (i : Nat)))
theorem ei_rng {lo : Int} {n : Nat} : Walks (Itr lo n) Ψ (irange lo n) := by
  refine ⟨fun _ => True, YFn fun i => .int (lo + i), ?_, fun _ _ _ _ _ _ _ => trivial, fun i d x H H' Φ ρ M σ hi l s y => ?_⟩
  · have : (irange lo n).length = n := by simp [irange]
    rw [this]
    exact walk_range
  · obtain ⟨rfl, rfl⟩ := y
    have ⟨F, s0⟩ := s
    have e : d = dat (.int (lo + (i : Nat))) := by
      unfold irange at hi
      rw [List.getElem?_map] at hi
      cases q : (List.range n)[i]? with
      | none => rw [q] at hi; cases hi
      | some j =>
        rw [q] at hi
        have := List.getElem?_eq_some_iff.mp q
        obtain ⟨h1, h2⟩ := this
        rw [List.getElem_range] at h2
        subst h2
        exact (Option.some.inj hi).symm
    subst e
    exact ⟨F, s0.ex, ⟨s0.fr, .int _⟩, s0.sl, s0.nd, s0.ce⟩
theorem ei_rng1 {ta : TA} {n : Int} (h : EvA ta ρ M [dat (.int n)] M') (hn : -(2 ^ 62) ≤ n ∧ n < 2 ^ 62) : EvI (iRng1 ta) ρ M (irange 0 n.toNat) M' := fun Φ σ H R s q => h Φ σ H _ s fun vs H1 s1 => by
  have ⟨F, s0⟩ := s1
  obtain ⟨v, rfl, h1⟩ := rc1 (ds := []) s0.fr.2
  cases h1
  exact ⟨n, rfl, hn.1, hn.2, q _ H1 Φ (.refl _) (s1.weak Le.andA) ei_rng⟩
theorem ei_rng2 {ta : TA} {m n : Int} (h : EvA ta ρ M [dat (.int m), dat (.int n)] M') (hn : -(2 ^ 62) ≤ m ∧ m < 2 ^ 62 ∧ -(2 ^ 62) ≤ n ∧ n < 2 ^ 62) : EvI (iRng2 ta) ρ M (irange m (n - m).toNat) M' := fun Φ σ H R s q => h Φ σ H _ s fun vs H1 s1 => by
  have ⟨F, s0⟩ := s1
  obtain ⟨v, w, rfl, h1, h2⟩ := rc2 s0.fr.2
  cases h1; cases h2
  exact ⟨m, n, rfl, hn, q _ H1 Φ (.refl _) (s1.weak Le.andA) ei_rng⟩
/-- pairs: a new tuple each -/
theorem ei_pair {G : Hp → Prop} {n : Nat} {J : It} {f g : Nat → Option V} {ds es : List VD} (hn : ds.length = n) (hn2 : es.length = n) (w : Walk J n G (YPair f g)) (hG : ∀ Φ ρ M σ H, Le Φ Ψ → Sat Φ ρ M σ H → G H)
    (h : ∀ Φ ρ M σ H, Le Φ Ψ → Sat Φ ρ M σ H → ∃ F, SatF F Φ ρ M σ H ∧ ∀ (i : Nat) d e v w, ds[i]? = some d → es[i]? = some e → f i = some v → g i = some w → d.P F v ∧ e.P F w) : Walks J Ψ ((ds.zip es).map fun p => vtup [p.1, p.2]) := by
  refine ⟨G, YPair f g, ?_, hG, fun i d x H H' Φ ρ M σ hi l s y => ?_⟩
  · have : ((ds.zip es).map fun p => vtup [p.1, p.2]).length = n := by simp [hn, hn2]
    rw [this]
    exact w
  · obtain ⟨T, v, u, rfl, hT, rfl, h1, h2⟩ := y
    obtain ⟨F, s0, hd⟩ := h Φ ρ M σ H l s
    rw [List.getElem?_map] at hi
    cases q : (ds.zip es)[i]? with
    | none => rw [q] at hi; cases hi
    | some p =>
      obtain ⟨d1, e1⟩ := p
      rw [q] at hi
      cases hi
      rw [List.getElem?_zip_eq_some] at q
      obtain ⟨k1, k2⟩ := hd i d1 e1 v u q.1 q.2 h1 h2
      exact Sat.retNew s0 hT fun F' fx e => ⟨T, [v, u], rfl, e, .cons (d1.mono fx k1) (.cons (e1.mono fx k2) .nil)⟩
theorem ei_enum {ta : TA} {ds : List VD} (h : EvA ta ρ M [x] M') (hx : FzL x ds) : EvI (iEnum K ta) ρ M (((irange 0 ds.length).zip ds).map fun p => vtup [p.1, p.2]) M' := fun Φ σ H R s q => h Φ σ H _ s fun vs H1 s1 => by
  have ⟨F, s0⟩ := s1
  obtain ⟨v, rfl, h1⟩ := rc1 (ds := []) s0.fr.2
  obtain ⟨a, ws, rfl, h1, h2⟩ := hx F v h1
  refine ⟨a, ws, rfl, sq_of (s0.ex _ _ h1), q _ H1 (Φ.also (fun F => F a = some (.lst ws) ∧ DA F ds ws) fun e h => ⟨e.pl _ _ h.1 rfl, h.2.mono e⟩) (.of rfl fun F h => h.1) ⟨F, s0.ex, ⟨s0.fr.1, h1, h2⟩, s0.sl, s0.nd, s0.ce⟩ ?_⟩
  have hl := Paired.length h2
  refine ei_pair (n := ws.length) (by simp [irange, hl]) hl (walk_enum (K := K) (a := a) (xs := ws)) (fun Φ' ρ' M' σ' H' l ⟨F', s'⟩ => sq_of (s'.ex _ _ (l.p F' s'.fr).2.1)) fun Φ' ρ' M' σ' H' l ⟨F', s'⟩ => ⟨F', s', fun i d e v w q1 q2 q3 q4 => ?_⟩
  obtain ⟨v', k1, k2⟩ := (l.p F' s'.fr).2.2.get q2
  rw [q4] at k1
  cases k1
  refine ⟨?_, k2⟩
  cases q3
  unfold irange at q1
  rw [List.getElem?_map] at q1
  cases q : (List.range ds.length)[i]? with
  | none => rw [q] at q1; cases q1
  | some j =>
    rw [q] at q1
    obtain ⟨z1, z2⟩ := List.getElem?_eq_some_iff.mp q
    rw [List.getElem_range] at z2
    subst z2
    cases q1
    show Rp F' (V.int (i : Int)) (PyData.int (0 + (i : Int)))
    rw [Int.zero_add]
    exact .int _
theorem ei_zip {ta : TA} {ds es : List VD} (h : EvA ta ρ M [x, y] M') (hx : FzL x ds) (hy : FzL y es) : EvI (iZip K ta) ρ M ((ds.zip es).map fun p => vtup [p.1, p.2]) M' := fun Φ σ H R s q => h Φ σ H _ s fun vs H1 s1 => by
  have ⟨F, s0⟩ := s1
  obtain ⟨v, w, rfl, h1, h2⟩ := rc2 s0.fr.2
  obtain ⟨a, ws, rfl, h1, h3⟩ := hx F v h1
  obtain ⟨b, us, rfl, h2, h4⟩ := hy F w h2
  refine ⟨a, b, ws, us, rfl, sq_of (s0.ex _ _ h1), sq_of (s0.ex _ _ h2), q _ H1 (Φ.also (fun F => (F a = some (.lst ws) ∧ DA F ds ws) ∧ F b = some (.lst us) ∧ DA F es us) fun e h => ⟨⟨e.pl _ _ h.1.1 rfl, h.1.2.mono e⟩, e.pl _ _ h.2.1 rfl, h.2.2.mono e⟩) (.of rfl fun F h => h.1) ⟨F, s0.ex, ⟨s0.fr.1, ⟨h1, h3⟩, h2, h4⟩, s0.sl, s0.nd, s0.ce⟩ ?_⟩
  have hl := Paired.length h3
  have hl2 := Paired.length h4
  have e1 : (ds.take (min ws.length us.length)).zip (es.take (min ws.length us.length)) = ds.zip es := by
    rw [List.zip_eq_zipWith, List.zip_eq_zipWith, ← List.take_zipWith, List.take_of_length_le (by rw [List.length_zipWith]; omega)]
  rw [← e1]
  refine ei_pair (n := min ws.length us.length) (by rw [List.length_take]; omega) (by rw [List.length_take]; omega) (walk_zip (K := K) (a := a) (b := b) (xs := ws) (ys := us) rfl) (fun Φ' ρ' M' σ' H' l ⟨F', s'⟩ => ⟨sq_of (s'.ex _ _ (l.p F' s'.fr).2.1.1), sq_of (s'.ex _ _ (l.p F' s'.fr).2.2.1)⟩) fun Φ' ρ' M' σ' H' l ⟨F', s'⟩ => ⟨F', s', fun i d e v w q1 q2 q3 q4 => ?_⟩
  have hi : i < min ws.length us.length := by
    have := (List.getElem?_eq_some_iff.mp q1).1
    rw [List.length_take] at this
    omega
  rw [List.getElem?_take_of_lt hi] at q1 q2
  obtain ⟨v', k1, k2⟩ := (l.p F' s'.fr).2.1.2.get q1
  obtain ⟨w', k3, k4⟩ := (l.p F' s'.fr).2.2.2.get q2
  rw [q3] at k1
  rw [q4] at k3
  cases k1; cases k3
  exact ⟨k2, k4⟩

/-! ### for -/
theorem c_for {wi : TI} {g : TG} {tb : TS} {its : List VD} (h : EvI wi ρ M its M1) (I : Nat → Env → Cells → Prop) (h0 : I 0 ρ M1)
    (hs : ∀ Ψ, Le Ψ Φ → ∀ (i : Nat) d ρ' M', its[i]? = some d → I i ρ' M' → ∃ ρ'' js, Tgt g js d ρ' ρ'' ∧ Cont (tb { D with nx := InvK Ψ (I (i + 1)), ct := InvK Ψ (I (i + 1)), bk := D.nx }) Ψ ρ'' M')
    (hd : ∀ ρ' M', I its.length ρ' M' → Cont D.nx Φ ρ' M') : Cont (tFor wi g tb D) Φ ρ M := fun σ H s => h Φ σ H _ s fun J H1 Ψ l s1 ⟨G, Y, w, hG, hY⟩ =>
  for_it w (fun i => InvK Ψ (I i)) ⟨ρ, M1, h0, s1⟩ (fun i σ' H' _ ⟨ρ', M', _, s'⟩ => hG Ψ ρ' M' σ' H' (.refl _) s') (fun i x σ' H' H2 hi ⟨ρ', M', j, s'⟩ y => by
    have hi' : its[i]? = some its[i] := by simp [hi]
    obtain ⟨ρ'', js, hg, k⟩ := hs Ψ l i its[i] ρ' M' hi' j
    exact hg Ψ M' x σ' H2 _ (hY i its[i] x H' H2 Ψ ρ' M' σ' hi' (.refl _) s' y) fun σ2 _ _ s2 => k σ2 H2 s2) fun σ' H' ⟨ρ', M', j, s'⟩ => hd ρ' M' j σ' H' (s'.weak l)

theorem for_k {g : TG} {tb : TS} {js : List Nat} {d : VD} {D' : Ends} (h : Tgt g js d ρ ρ') (k : Cont (tb D') Ψ ρ' M) : ∃ ρ'' js, Tgt g js d ρ ρ'' ∧ Cont (tb D') Ψ ρ'' M := ⟨ρ', js, h, k⟩

/-! ### while -/
theorem c_while {tc : TT} {tb : TS} (I : Nat → Env → Cells → Prop) (m0 : Nat) (h0 : I m0 ρ M)
    (hs : ∀ m ρ' M', I m ρ' M' → ∃ b M1, EvT tc ρ' M' b M1 ∧ (b = true → Cont (tb { D with nx := InvK Φ (fun ρ M => ∃ m', m' < m ∧ I m' ρ M), ct := InvK Φ (fun ρ M => ∃ m', m' < m ∧ I m' ρ M), bk := D.nx }) Φ ρ' M1) ∧ (b = false → Cont D.nx Φ ρ' M1)) :
    Cont (tWhile tc tb D) Φ ρ M := fun σ H s => by
  refine ⟨fun m => InvK Φ (I m), ⟨m0, ρ, M, h0, s⟩, ?_⟩
  rintro m σ' H' ⟨ρ', M', j, s'⟩
  obtain ⟨b, M1, hb, h1, h2⟩ := hs m ρ' M' j
  refine hb Φ σ' H' _ s' fun H1 s1 => ?_
  cases b with
  | true =>
    rw [if_pos rfl]
    exact ⟨_, fun σ2 H2 ⟨ρ2, M2, ⟨m', hm, j2⟩, s2⟩ => ⟨m', hm, ρ2, M2, j2, s2⟩, h1 rfl σ' H1 s1⟩
  | false =>
    rw [if_neg Bool.false_ne_true]
    exact h2 rfl σ' H1 s1

/-! ### comprehensions -/
def wipeE (ρ : Env) : List Nat → Env
  | [] => ρ
  | v :: vs => (wipeE ρ vs).set v none
theorem Slots.wipes {F : Hp} {σ : L2.St} {ρ : Env} (h : Slots F σ ρ) : ∀ vs : List Nat, Slots F (L2.wipe σ vs) (wipeE ρ vs)
  | [] => h
  | v :: vs => (Slots.wipes h vs).wipe v
theorem wipe_get (σ : L2.St) : ∀ (vs : List Nat) (i : Nat), (L2.wipe σ vs)[i]? = if i ∈ vs then (if i < σ.length then some none else none) else σ[i]?
  | [], i => by simp [L2.wipe]
  | v :: vs, i => by
    rw [L2.wipe, List.getElem?_set, wipe_length]
    by_cases h : v = i
    · subst h; simp
    · rw [if_neg h, wipe_get σ vs i]
      have : (i ∈ v :: vs) ↔ i ∈ vs := by
        rw [List.mem_cons]
        constructor
        · rintro (e | e)
          · exact absurd e.symm h
          · exact e
        · exact .inr
      simp only [this]
theorem wipe_eq {σ σ' : L2.St} {js vs : List Nat} (h : ∀ i, i ∉ js → σ'[i]? = (L2.wipe σ vs)[i]?) (hl : σ'.length = (L2.wipe σ vs).length) (hj : ∀ i ∈ js, i ∈ vs) : L2.wipe σ' vs = L2.wipe σ vs := by
  apply List.ext_getElem?
  intro i
  rw [wipe_length] at hl
  rw [wipe_get, wipe_get, hl]
  by_cases hi : i ∈ vs
  · rw [if_pos hi, if_pos hi]
  · rw [if_neg hi, if_neg hi, h i (fun z => hi (hj i z)), wipe_get, if_neg hi]
theorem SatF.wiped {F : Hp} {σ : L2.St} {H : Hp} (s : SatF F Φ ρ M σ H) (vs : List Nat) : SatF F Φ (wipeE ρ vs) M (L2.wipe σ vs) H := ⟨s.ex, s.fr, s.sl.wipes vs, s.nd, s.ce⟩
/-- an owned list of values is frozen -/
theorem SatF.freeze {F : Hp} {σ : L2.St} {H : Hp} {D : Addr} {acc : List VD} (s : SatF F (Φ.more (D, cL acc)) ρ M σ H) : Sat (Φ.and (vlst acc) (.ref D)) ρ M σ H := by
  obtain ⟨o, h1, h0, ws, rfl, h3⟩ := s.ce (D, cL acc) (List.mem_append_right _ List.mem_cons_self)
  have fx : Fx F (upd F D (.lst ws)) := Fx.of (Ex.new h0)
  have hsub : (M ++ Φ.N).Sublist (M ++ (Φ.more (D, cL acc)).N) := List.Sublist.append (List.Sublist.refl M) (List.sublist_cons_self _ _)
  refine ⟨upd F D (.lst ws), fun a u e => ?_, ⟨Φ.mono fx s.fr, D, ws, rfl, upd_same, h3.mono fx⟩, s.sl.mono fx, s.nd.sublist (hsub.map _), fun c hc => ?_⟩
  · by_cases h : a = D
    · subst h; rw [upd_same] at e; cases e; exact h1
    · rw [upd_ne h] at e; exact s.ex a u e
  · obtain ⟨u, k1, k2⟩ := s.ce c (hsub.subset hc)
    have hne : c.1 ≠ D := fun e => by
      have nd := s.nd
      have hmem : c ∈ M ++ Φ.N := hc
      have hp : (M ++ (Φ.more (D, cL acc)).N).Perm ((D, cL acc) :: (M ++ Φ.N)) := List.perm_middle
      have nd2 := (hp.map (·.1)).nodup_iff.mp nd
      rw [List.map_cons, List.nodup_cons] at nd2
      exact nd2.1 (List.mem_map.mpr ⟨c, hmem, e⟩)
    exact ⟨u, k1, c.2.mono fx (upd_ne hne) k2⟩
/-- the general one: I by the turn, what is made so far, the cells -/
theorem er_lc {wi : TI} {g : TG} {tt : TT} {vs : List Nat} {its : List VD} (h : EvI wi ρ M its M1) (I : Nat → List VD → Cells → Prop) (h0 : I 0 [] M1) (hl : its.length ≤ 16000000)
    (hI : ∀ i acc M', I i acc M' → acc.length ≤ i)
    (hs : ∀ (i : Nat) d acc M', its[i]? = some d → I i acc M' → ∃ ρ'' js b M2, Tgt g js d (wipeE ρ vs) ρ'' ∧ (∀ i ∈ js, i ∈ vs) ∧ EvT tt ρ'' M' b M2 ∧ (b = true → EvR te ρ'' M2 fun y M3 => I (i + 1) (acc ++ [y]) M3) ∧ (b = false → I (i + 1) acc M2)) :
    EvR (tLc wi g tt te vs) ρ M fun y M' => ∃ acc, y = vlst acc ∧ I its.length acc M' := fun Φ σ H Q s q => h Φ σ H _ s fun J H1 Ψ l s1 ⟨G, Y, w, hG, hY⟩ => fun Dl hD => by
  have ⟨F1, s2⟩ := s1
  have lm : ∀ c, Le (Ψ.more c) Ψ := fun c => Le.more
  -- the frame's slots are kept aside
  let Ψ0 : Fr := Ψ.slots σ ρ
  refine lc_it w (fun i H' => ∃ acc M', I i acc M' ∧ Sat (Ψ0.more (Dl, cL acc)) (wipeE ρ vs) M' (L2.wipe σ vs) H') ⟨[], M1, h0, ?_⟩ (fun i H' _ ⟨acc, M', _, s'⟩ => hG _ _ _ _ _ (Le.trans Le.more Le.slots) s') (fun i x H' H2 hi ⟨acc, M', j, s'⟩ y => ?_) (fun H' ⟨acc, M', j, s'⟩ => ?_)
  · have s3 := s2.newC (c := cL []) (o := .lst []) hD fun e => ⟨e, [], rfl, .nil⟩
    refine ⟨F1, s3.ex, ⟨s3.fr, s3.sl⟩, s3.sl.wipes vs, ?_, fun c hc => ?_⟩
    · have hp : (M1 ++ (Ψ0.more (Dl, cL [])).N).Perm ((Dl, cL []) :: M1 ++ Ψ.N) := List.perm_middle
      exact (hp.map (·.1)).nodup_iff.mpr s3.nd
    · have hp : (M1 ++ (Ψ0.more (Dl, cL [])).N).Perm ((Dl, cL []) :: M1 ++ Ψ.N) := List.perm_middle
      exact s3.ce c (hp.mem_iff.mp hc)
  · have hi' : its[i]? = some its[i] := by simp [hi]
    obtain ⟨ρ'', js, b, M2, hg, hj, ht, h1, h2⟩ := hs i its[i] acc M' hi' j
    have s3 := hY i its[i] x H' H2 _ _ _ _ hi' (Le.trans Le.more Le.slots) s' y
    refine hg _ M' x _ H2 _ s3 fun σ2 k1 k2 s4 => ⟨wipe_eq k1 k2 hj, ht _ σ2 H2 _ s4 fun H3 s5 => ?_⟩
    -- back to the wiped slots
    have back : ∀ {Φ' : Fr} {acc' : List VD} {M' : Cells} {H' : Hp} {σ3 : L2.St} {ρ3 : Env}, Sat (Ψ0.more (Dl, cL acc')) ρ3 M' σ3 H' → Sat (Ψ0.more (Dl, cL acc')) (wipeE ρ vs) M' (L2.wipe σ vs) H' := fun {_ _ _ _ _ _} ⟨F, z⟩ => ⟨F, z.ex, z.fr, z.fr.2.wipes vs, z.nd, z.ce⟩
    cases b with
    | false =>
      rw [if_neg Bool.false_ne_true]
      exact ⟨acc, M2, h2 rfl, back (Φ' := Ψ) s5⟩
    | true =>
      rw [if_pos rfl]
      refine h1 rfl _ σ2 H3 _ s5 fun y M3 v H4 j4 s6 => ?_
      have ⟨F, s7⟩ := s6
      obtain ⟨o, e1, e0, ws, rfl, e3⟩ := s7.ce (Dl, cL acc) (List.mem_append_right _ List.mem_cons_self)
      refine ⟨ws, e1, ?_, acc ++ [y], M3, j4, back (Φ' := Ψ) (σ3 := σ2) (ρ3 := ρ'') ⟨F, ?_⟩⟩
      · rw [← Paired.length e3]
        have := hI i acc M' j
        have hz : sizeLine = 16777216 := sizeLine_eq
        omega
      · exact s7.put (Φ' := Ψ0.more (Dl, cL (acc ++ [y]))) (c := cL acc) (Put.behind .here M3) s7.fr.1 e0 ⟨e0, _, rfl, e3.append (.cons s7.fr.2 .nil)⟩
  · have ⟨F, s3⟩ := s'
    have s4 : SatF F (Ψ0.more (Dl, cL acc)) ρ M' σ H' := ⟨s3.ex, s3.fr, s3.fr.2, s3.nd, s3.ce⟩
    exact q (vlst acc) M' (.ref Dl) H' ⟨acc, rfl, j⟩ (s4.freeze.weak ⟨by show Φ.N.Sublist Ψ.N; exact l.n, fun F h => ⟨l.p F h.1.1, h.2⟩⟩)
theorem lc_k {g : TG} {tt : TT} {js vs : List Nat} {d : VD} {b : Bool} {Pe : Env → Prop} (h : Tgt g js d ρ ρ') (hj : ∀ i ∈ js, i ∈ vs) (ht : EvT tt ρ' M b M) (k : Pe ρ') :
    ∃ ρ'' js, Tgt g js d ρ ρ'' ∧ (∀ i ∈ js, i ∈ vs) ∧ EvT tt ρ'' M b M ∧ Pe ρ'' := ⟨ρ', js, h, hj, ht, k⟩
/-- data for each item that is let by, nothing else changes -/
theorem ev_lc {α : Type} {wi : TI} {g : TG} {tt : TT} {vs : List Nat} {e : α → VD} {xs : List α} {f : α → Bool} {r : α → PyData} (h : EvI wi ρ M (xs.map e) M1) (hl : xs.length ≤ 16000000)
    (hs : ∀ a, a ∈ xs → ∃ ρ'' js, Tgt g js (e a) (wipeE ρ vs) ρ'' ∧ (∀ i ∈ js, i ∈ vs) ∧ EvT tt ρ'' M1 (f a) M1 ∧ (f a = true → Ev te ρ'' M1 (dat (r a)) M1)) : Ev (tLc wi g tt te vs) ρ M (dat (.list ((xs.filter f).map r))) M1 := by
  refine Ev.imp (EvR.ev ((er_lc h (fun i acc M' => M' = M1 ∧ acc = (((xs.take i).filter f).map r).map dat) ⟨rfl, rfl⟩ (by rw [List.length_map]; exact hl) (fun i acc M' ⟨_, e⟩ => ?_) fun i d acc M' hi ⟨e1, e2⟩ => ?_).imp (P' := Det (vlst (((xs.filter f).map r).map dat)) M1) fun x M' ⟨acc, e, e1, e2⟩ => ?_)) fun F v h => vlst_dat.mp h
  · subst e
    rw [List.length_map, List.length_map]
    exact Nat.le_trans (List.length_filter_le _ _) (by rw [List.length_take]; omega)
  · subst e1; subst e2
    rw [List.getElem?_map] at hi
    cases q : xs[i]? with
    | none => rw [q] at hi; cases hi
    | some a =>
      rw [q] at hi
      cases hi
      have htk : xs.take (i + 1) = xs.take i ++ [a] := by rw [List.take_succ, q]; rfl
      obtain ⟨ρ'', js, h1, hj, h2, h3⟩ := hs a (List.mem_of_getElem? q)
      refine ⟨ρ'', js, f a, M', h1, hj, h2, fun hf => (EvR.of (h3 hf)).imp fun y M3 ⟨z1, z2⟩ => ?_, fun hf => ⟨rfl, ?_⟩⟩
      · subst z1; subst z2
        refine ⟨rfl, ?_⟩
        rw [htk, List.filter_append, List.map_append, List.map_append, List.filter_cons_of_pos hf]
        rfl
      · rw [htk, List.filter_append, List.map_append, List.map_append, List.filter_cons_of_neg (by rw [hf]; exact Bool.false_ne_true)]
        simp
  · subst e
    rw [List.length_map, List.take_length] at e2
    exact ⟨by rw [e2], e1⟩
end

/-! ### a def's body -/
def entry (N : List Str) (ds : List VD) : Env := ds.map some ++ List.replicate (N.length - ds.length) none
theorem slots_entry {F : Hp} {N : List Str} {ds : List VD} {vs : List V} (h : DA F ds vs) : Slots F (L2.start N vs) (entry N ds) := by
  have hl := Paired.length h
  refine ⟨by simp [L2.start, entry, hl], fun i x e => ?_⟩
  unfold entry at e
  by_cases hi : i < ds.length
  · rw [List.getElem?_append_left (by simpa using hi), List.getElem?_map] at e
    cases q : ds[i]? with
    | none => rw [q] at e; cases e
    | some d =>
      rw [q] at e
      cases e
      obtain ⟨v, h1, h2⟩ := h.get q
      refine ⟨v, ?_, h2⟩
      unfold L2.start
      rw [List.getElem?_append_left (by rw [List.length_map]; omega), List.getElem?_map, h1]
      rfl
  · rw [List.getElem?_append_right (by simpa using hi), List.getElem?_replicate] at e
    split at e <;> cases e
theorem fn_start {n : Nat} {S : FSpec} {vs : List V} {H : Hp} {Q : VK} {E : XK} {t : TS} {N : List Str} (h : spF n S vs H Q E)
    (k : ∀ ds M P Φ, ds.length = n → S ds M P → RtQ Q Φ P → Cont (t (fnD Q)) Φ (entry N ds) M) : t { nx := fun _ H' => Q .non H', rt := Q } (L2.start N vs) H := by
  obtain ⟨Φ, ρ, σ, ds, M, P, s, e, hS, hq⟩ := h
  have ⟨F, s0⟩ := s
  refine k ds M P (Φ.slots σ ρ) ((Paired.length s0.fr.2).trans e) hS (fun Φ' ρ' σ' x M' v H' l hp s' => ?_) _ _ ⟨F, s0.ex, ⟨s0.fr.1, s0.sl⟩, slots_entry s0.fr.2, s0.nd, s0.ce⟩
  have s2 := s'.weak (Ψ := (Φ.slots σ ρ).and x v) ⟨l.n, fun F h => ⟨l.p F h.1, h.2⟩⟩
  have ⟨F', s3⟩ := s2
  exact hq x M' v H' hp ⟨F', s3.ex, ⟨s3.fr.1.1, s3.fr.2⟩, s3.fr.1.2, s3.nd, s3.ce⟩
end Sx

set_option Elab.async false
set_option linter.all false
set_option maxRecDepth 100000
set_option maxHeartbeats 2000000
/-! Sx5: more rules; what all our laws have: the script's cells, drawn numbers. -/
namespace Sx
open PySem L2 Evl
/-- a list's item, by values -/
theorem get_list {X : Cx} : PGet X (rIxL X.K) := by
  intro pins s σ H o i ov iv Q I ro ri h
  obtain ⟨p, xs, j, z, rfl, rfl, hq, he, q⟩ := h
  cases ro
  obtain ⟨t, rfl⟩ := ri
  obtain ⟨its, r, pl, hz⟩ := I.list hq
  obtain ⟨k, h1, h2, h3, h4, h5⟩ := atI_get he
  obtain ⟨w, ew, rw'⟩ := r.get h2
  have hl := r.length
  have hn := line63
  by_cases h0 : 0 ≤ j
  · have hj : j.toNat = k := by
      rw [PySem.seqIndex_of h0 h5] at h1
      exact Option.some.inj h1
    exact PySem.wpAny_getItem_list pl.isList h0 (by omega) (by rw [hj]; simpa using ew) ⟨z, H, I, rw', q⟩
  · have hj : (j + (its.toArray.size : Int)).toNat = k := by
      rw [PySem.seqIndex_neg (by omega) h4] at h1
      rw [List.size_toArray, ← hl]
      exact Option.some.inj h1
    exact PySem.wpAny_getItem_list_neg pl.isList (by omega) (by rw [List.size_toArray] <;> omega) (by omega) (by rw [hj]; simpa using ew) ⟨z, H, I, rw', q⟩
section
variable {K : PySem.W.Frag} {ρ ρ' : Env} {M M1 M2 M3 M' : Cells} {x y z : VD} {te ta tb tv : TE} {t u : TS} {p : Addr} {Φ : Fr} {D : Ends}
theorem ixN_lt {n : Nat} {k : Int} {j : Nat} (h : ixN n k = some j) : j < n := (ixN_seq h).2.1
/-- xs[i] op= n, an owned list whose item is an int -/
theorem c_augS {g : Int → Int → Int} {xs : List VD} {k a b : Int} {j : Nat} (ho : Ev ta ρ M (val (.ref p)) M) (hi : Ev tb ρ M (dat (.int k)) M) (hj : ixN xs.length k = some j) (hx : xs[j]? = some (dat (.int a))) (hv : Ev tv ρ M (dat (.int b)) M) (hp : Put p (cL xs) (cL (xs.set j (dat (.int (g a b))))) M M') (kk : Cont D.nx Φ ρ M') :
    Cont (tAugS ta tb tv (rIxL K) (ipI g) rSetL D) Φ ρ M := fun σ H s => ho Φ σ H _ s fun v1 H1 s1 => hi _ σ H1 _ s1 fun v2 H2 s2 => by
  have ⟨F2, z2⟩ := s2
  have e1 : v1 = .ref p := z2.fr.1.2
  cases z2.fr.2
  subst e1
  obtain ⟨o, k1, k0, ws, rfl, k3⟩ := z2.at hp.mem
  obtain ⟨w, q1, q2⟩ := k3.get hx
  refine ⟨p, ws, k, w, rfl, rfl, sq_of k1, ?_, ?_⟩
  · unfold atI
    rw [← Paired.length k3, hj]
    exact q1
  · cases q2
    refine hv _ σ H2 _ s2 fun v3 H3 s3 => ?_
    have ⟨F3, z3⟩ := s3
    cases z3.fr.2
    refine ⟨a, b, rfl, rfl, ?_⟩
    obtain ⟨o, k1, k0, ws, rfl, k3⟩ := z3.at hp.mem
    refine ⟨p, ws, k, j, rfl, rfl, k1, by rw [← Paired.length k3]; exact hj, kk σ _ ⟨F3, ?_⟩⟩
    exact (z3.put1 (o := .lst (ws.set j (.int (g a b)))) hp k0 ⟨k0, _, rfl, DA.set (d := dat (.int (g a b))) (Rp.int _) j k3⟩).weak (.of rfl fun F h => h.1.1.1)
theorem dpAll_ints {H : Hp} : ∀ ns : List Int, DpAll K H (ns.map V.int) (ns.map PyData.int)
  | [] => .nil
  | n :: ns => .cons (.int n) (dpAll_ints ns)
/-- the script, as data -/
theorem isd_scr {ns : List Int} : IsDat K (vscr K ns) M (.list (ns.map .int)) := fun s ⟨a, e, h⟩ => by
  subst e
  exact .lst (ex_l s.ex h) (dpAll_ints ns)
/-- an owned list is made of a written one -/
theorem er_lstC {t : TA} {ds : List VD} (h : EvA t ρ M ds M1) (hl : ds.length ≤ sizeLine) : EvR (tLst t) ρ M fun y M' => ∃ p, y = val (.ref p) ∧ M' = (p, cL ds) :: M1 := fun Φ σ H Q s q =>
  h Φ σ H _ s fun vs H1 ⟨F, s1⟩ => by
    have hr := s1.fr.2
    refine ⟨by rw [← Paired.length hr]; exact hl, fun p hp => ?_⟩
    have s2 := s1.newC (c := cL ds) (o := .lst vs) hp fun e => ⟨e, vs, rfl, hr⟩
    exact q _ _ _ _ ⟨p, rfl, rfl⟩ ⟨F, s2.ex, ⟨s2.fr.1, rfl⟩, s2.sl, s2.nd, s2.ce⟩
theorem er_lstCd {t : TA} {ds : List PyData} (h : EvD t ρ M ds M1) (hl : ds.length ≤ sizeLine) : EvR (tLst t) ρ M fun y M' => ∃ p, y = val (.ref p) ∧ M' = (p, cLd ds) :: M1 := fun Φ σ H Q s q =>
  h Φ σ H _ s fun vs H1 ⟨F, s1⟩ => by
    have hr := DA.of_dat.mp s1.fr.2
    refine ⟨by rw [hr.length]; exact hl, fun p hp => ?_⟩
    have s2 := s1.newC (c := cLd ds) (o := .lst vs) hp fun e => ⟨e, vs, rfl, hr⟩
    exact q _ _ _ _ ⟨p, rfl, rfl⟩ ⟨F, s2.ex, ⟨s2.fr.1, rfl⟩, s2.sl, s2.nd, s2.ce⟩
/-- cells that are no longer needed -/
theorem Sat.drop {σ : L2.St} {H : Hp} (s : Sat Φ ρ M σ H) (h : M'.Sublist M) : Sat Φ ρ M' σ H :=
  let ⟨F, s⟩ := s
  let hs := List.Sublist.append h (List.Sublist.refl Φ.N)
  ⟨F, s.ex, s.fr, s.sl, s.nd.sublist (hs.map _), fun c hc => s.ce c (hs.subset hc)⟩
theorem c_dropC {k : L2.St → Hp → Prop} (h : M'.Sublist M) (c : Cont k Φ ρ M') : Cont k Φ ρ M := fun σ H s => c σ H (s.drop h)
/-- the order of the cells -/
theorem Sat.perm {σ : L2.St} {H : Hp} (s : Sat Φ ρ M σ H) (h : M.Perm M') : Sat Φ ρ M' σ H :=
  let ⟨F, s⟩ := s
  let hs := h.append_right Φ.N
  ⟨F, s.ex, s.fr, s.sl, (hs.map (·.1)).nodup_iff.mp s.nd, fun c hc => s.ce c (hs.mem_iff.mpr hc)⟩
theorem c_perm {k : L2.St → Hp → Prop} (h : M.Perm M') (c : Cont k Φ ρ M') : Cont k Φ ρ M := fun σ H s => c σ H (s.perm h)
/-- what is known of a slot may be said otherwise -/
theorem Sat.slots {σ : L2.St} {H : Hp} (s : Sat Φ ρ M σ H) (h : ∀ F, Slots F σ ρ → Slots F σ ρ') : Sat Φ ρ' M σ H := let ⟨F, s⟩ := s; ⟨F, s.ex, s.fr, h F s.sl, s.nd, s.ce⟩
/-- slots that are no longer needed: forgotten -/
inductive Fgt : Env → Env → Prop
  | nil : Fgt [] []
  | keep {a : Option VD} {l l' : Env} : Fgt l l' → Fgt (a :: l) (a :: l')
  | drop {a : Option VD} {l l' : Env} : Fgt l l' → Fgt (a :: l) (none :: l')
theorem Fgt.len {l l' : Env} (h : Fgt l l') : l'.length = l.length := by
  induction h with
  | nil => rfl
  | keep _ ih => simp [ih]
  | drop _ ih => simp [ih]
theorem Fgt.get {l l' : Env} (h : Fgt l l') : ∀ {i : Nat} {x : VD}, l'[i]? = some (some x) → l[i]? = some (some x) := by
  induction h with
  | nil => intro i x e; exact e
  | keep _ ih =>
    intro i x e
    cases i with
    | zero => exact e
    | succ i => simpa using ih (by simpa using e)
  | drop _ ih =>
    intro i x e
    cases i with
    | zero => simp at e
    | succ i => simpa using ih (by simpa using e)
theorem c_fgt {k : L2.St → Hp → Prop} (h : Fgt ρ ρ') (c : Cont k Φ ρ' M) : Cont k Φ ρ M := fun σ H s => c σ H (s.slots fun F q => ⟨q.1.trans h.len.symm, fun i x e => q.2 i x (h.get e)⟩)
end

/-! ### the numbers of our laws -/
def scrCell (s : List Int) (i : Int) : Int :=
  let c := s.getD (i % s.length).toNat 0
  if (if c < 0 then -c else c) ≥ 10 ^ 60 then c % 10 ^ 18 else c
def lawNum (s : List Int) (i : Int) : Int :=
  if s = [] then (i * 48271 + 12345) % 2147483647
  else (((scrCell s i + 977 * i) * 48271 + 31 * s.length) % 2147483647 * 69621 % 2147483629 * 16807 + i) % 2147483587
def tk (s : List Int) (k m : Int) : Int := lawNum s k % m
theorem tk_nn {s : List Int} {k m : Int} (h : 0 < m) : 0 ≤ tk s k m := Int.emod_nonneg _ (by omega)
theorem tk_lt {s : List Int} {k m : Int} (h : 0 < m) : tk s k m < m := Int.emod_lt_of_pos _ h
abbrev cDraw (K : PySem.W.Frag) (s : List Int) (k : Int) : CD := cL [vscr K s, dat (.int k)]
end Sx

set_option Elab.async false
set_option linter.all false
set_option maxRecDepth 100000
set_option maxHeartbeats 2000000
/-! Sx6: more rules, and small facts of lists. -/
namespace Sx
open PySem L2 Evl
section
variable {K : PySem.W.Frag} {ρ ρ' ρ1 : Env} {M M1 M2 M3 M' : Cells} {x y z : VD} {te ta tb tv : TE} {t u : TS} {p : Addr} {Φ : Fr} {D : Ends} {P : VD → Cells → Prop}
/-! ### several outcomes -/
def EvAR (ta : TA) (ρ : Env) (M : Cells) (P : List VD → Cells → Prop) : Prop := ∀ (Φ : Fr) (σ : L2.St) (H : Hp) (Q : List V → Hp → Prop), Sat Φ ρ M σ H → (∀ ds M' v H', P ds M' → Sat (Φ.andA ds v) ρ M' σ H' → Q v H') → ta σ H Q
theorem ear_nil {P : List VD → Cells → Prop} (h : P [] M) : EvAR tNil ρ M P := fun Φ σ H Q ⟨F, s⟩ q => q [] M [] H h ⟨F, s.ex, ⟨s.fr, .nil⟩, s.sl, s.nd, s.ce⟩
theorem ear_cons {tr : TA} {P : List VD → Cells → Prop} {Pa : VD → Cells → Prop} (ha : EvR ta ρ M Pa) (hr : ∀ x M1, Pa x M1 → EvAR tr ρ M1 fun ds M2 => P (x :: ds) M2) : EvAR (tCons ta tr) ρ M P := fun Φ σ H Q s q =>
  ha Φ σ H _ s fun x M1 v H1 hx s1 => hr x M1 hx _ σ H1 _ s1 fun ds M2 vs H2 hp s2 => q (x :: ds) M2 (v :: vs) H2 hp (s2.weak (.of rfl fun F p => ⟨p.1.1, .cons p.1.2 p.2⟩))
theorem EvAR.of {t : TA} {ds : List VD} {P : List VD → Cells → Prop} (h : EvA t ρ M ds M1) (hp : P ds M1) : EvAR t ρ M P := fun Φ σ H Q s q => h Φ σ H _ s fun vs H1 s1 => q ds M1 vs H1 hp s1
theorem er_tupV {t : TA} (h : EvAR t ρ M fun ds M' => ds.length ≤ sizeLine ∧ P (vtup ds) M') : EvR (tTup t) ρ M P := fun Φ σ H Q s q =>
  h Φ σ H _ s fun ds M1 vs H1 ⟨hl, hp⟩ ⟨F, s1⟩ => by
    have hr := s1.fr.2
    refine ⟨by rw [← Paired.length hr]; exact hl, fun p hp' => ?_⟩
    obtain ⟨s2, fx⟩ := s1.new (o := .tup vs) hp'
    exact q _ M1 _ _ hp ⟨_, s2.ex, ⟨s2.fr.1, ⟨p, vs, rfl, upd_same, hr.mono fx⟩⟩, s2.sl, s2.nd, s2.ce⟩
theorem er_lstV {t : TA} (h : EvAR t ρ M fun ds M' => ds.length ≤ sizeLine ∧ P (vlst ds) M') : EvR (tLst t) ρ M P := fun Φ σ H Q s q =>
  h Φ σ H _ s fun ds M1 vs H1 ⟨hl, hp⟩ ⟨F, s1⟩ => by
    have hr := s1.fr.2
    refine ⟨by rw [← Paired.length hr]; exact hl, fun p hp' => ?_⟩
    obtain ⟨s2, fx⟩ := s1.new (o := .lst vs) hp'
    exact q _ M1 _ _ hp ⟨_, s2.ex, ⟨s2.fr.1, ⟨p, vs, rfl, upd_same, hr.mono fx⟩⟩, s2.sl, s2.nd, s2.ce⟩
theorem c_asgGR {g : TG} (h : EvR te ρ M P) (k : ∀ x M1, P x M1 → ∃ ρ' js, Tgt g js x ρ ρ' ∧ Cont D.nx Φ ρ' M1) : Cont (tAsg te g D) Φ ρ M := fun σ H s => h Φ σ H _ s fun x M1 v H1 hp s1 => by
  obtain ⟨ρ', js, hg, kk⟩ := k x M1 hp
  exact hg Φ M1 v σ H1 _ s1 fun σ' _ _ s' => kk σ' H1 s'
/-- o.f = e, several outcomes -/
theorem c_fldR {C : Addr} {f : Str} {nn : List Str} (hv : EvR tv ρ M P) (k : ∀ y M1, P y M1 → ∃ p ns ns' xs xs' M2 M3, Ev ta ρ M1 (val (.ref p)) M2 ∧ Put p (cI C ns xs) (cI C ns' xs') M2 M3 ∧ FPut f y ns xs ns' xs' ∧ ns.length < 1000 ∧ Cont D.nx Φ ρ M3)
    (c : ClsF K C nn) (hf : f ∈ nn) : Cont (sFld K ta tv f D) Φ ρ M := fun σ H s =>
  hv Φ σ H _ s fun y M1 v H1 hp s1 => by
    obtain ⟨p, ns, ns', xs, xs', M2, M3, ho, h, g, hl, k⟩ := k y M1 hp
    refine ho _ σ H1 _ s1 fun w H2 ⟨F, s2⟩ => ?_
    have e : w = .ref p := s2.fr.2
    obtain ⟨o, h1, h0, dx, fs, rfl, h3⟩ := s2.at h.mem
    refine ⟨p, C, dx, fs, e, h1, c.cl, c.no f hf, by rw [h3.len]; exact hl, k σ _ ⟨F, ?_⟩⟩
    exact (s2.put1 (o := .ins C dx (putF f v fs)) h h0 ⟨h0, dx, _, rfl, g.put s2.fr.1.2 h3⟩).weak (.of rfl fun F h => h.1.1)
theorem fld_k {C : Addr} {f : Str} {ns ns' : List Str} {xs xs' : List VD} (ho : Ev ta ρ M1 (val (.ref p)) M2) (h : Put p (cI C ns xs) (cI C ns' xs') M2 M3) (g : FPut f y ns xs ns' xs') (hl : ns.length < 1000) (k : Cont D.nx Φ ρ M3) :
    ∃ p ns ns' xs xs' M2 M3, Ev ta ρ M1 (val (.ref p)) M2 ∧ Put p (cI C ns xs) (cI C ns' xs') M2 M3 ∧ FPut f y ns xs ns' xs' ∧ ns.length < 1000 ∧ Cont D.nx Φ ρ M3 := ⟨p, ns, ns', xs, xs', M2, M3, ho, h, g, hl, k⟩
/-- what is said of an empty list -/
theorem eqv_nil {ds : List PyData} : PyData.eqv (.list ds) (.list []) = ds.isEmpty := by
  cases ds <;> simp [PyData.eqv, PyData.eqvAll]
theorem eqv_nilT {ds : List PyData} : PyData.eqv (.tuple ds) (.tuple []) = ds.isEmpty := by
  cases ds <;> simp [PyData.eqv, PyData.eqvAll]
theorem c_asgP {i : Nat} (h : Ev te ρ M x M) (hs : SetAt x ρ i ρ') (k : Cont D.nx Φ ρ' M) : Cont (tAsg te (gName i) D) Φ ρ M := c_asg h hs k
theorem rc_lenM {α : Type} {f : α → PyData} {xs : List α} (hx : IsLst x M (xs.map f)) : RC (rLenU K) [x] M (dat (.int (xs.length : Int))) M := by
  have h := rc_lenL (K := K) hx
  rw [List.length_map] at h; exact h
theorem rc_lenMT {α : Type} {f : α → PyData} {xs : List α} : RC (rLenU K) [dat (.tuple (xs.map f))] M (dat (.int (xs.length : Int))) M := by
  have h := rc_lenT (K := K) (M := M) (ist_dat (ds := xs.map f))
  rw [List.length_map] at h; exact h
/-! ### slices -/
theorem cut_map {α β : Type} (f : α → β) (xs : List α) (lo hi : Option Int) : cutD (xs.map f) lo hi = (cutD xs lo hi).map f := by
  unfold cutD
  rw [List.length_map, List.map_take, List.map_drop]
theorem cut_nn {α : Type} (xs : List α) (a b : Nat) : cutD xs (some (a : Int)) (some (b : Int)) = (xs.drop a).take (b - a) := by
  unfold cutD
  rw [HT.sIx_nat, HT.sIx_nat]
  apply List.ext_getElem?
  intro i
  rw [List.getElem?_take, List.getElem?_take, List.getElem?_drop, List.getElem?_drop]
  by_cases h : i < b - a
  · rw [if_pos h]
    by_cases h2 : i < min b xs.length - min a xs.length
    · rw [if_pos h2]
      have : min a xs.length = a := by omega
      rw [this]
    · rw [if_neg h2, List.getElem?_eq_none (by omega)]
  · rw [if_neg h, if_neg (by omega)]
theorem cut_0n {α : Type} (xs : List α) (b : Nat) : cutD xs none (some (b : Int)) = xs.take b := by
  have := cut_nn xs 0 b
  unfold cutD at this ⊢
  rw [HT.sIx_none]
  rw [show ((0 : Nat) : Int) = 0 from rfl] at this
  have e : HT.sIx xs.length 0 (some 0) = 0 := by
    have := HT.sIx_nat xs.length 0 0
    simpa using this
  rw [e] at this
  simpa using this
theorem cut_n0 {α : Type} (xs : List α) (a : Nat) : cutD xs (some (a : Int)) none = xs.drop a := by
  unfold cutD
  rw [HT.sIx_nat, HT.sIx_none]
  apply List.ext_getElem?
  intro i
  rw [List.getElem?_take, List.getElem?_drop, List.getElem?_drop]
  by_cases h2 : i < xs.length - min a xs.length
  · rw [if_pos h2]
    have : min a xs.length = a := by omega
    rw [this]
  · rw [if_neg h2, List.getElem?_eq_none (by omega)]
theorem ev_slT1 {te : TE} {tl th : TO} {d : PyData} {ds : List PyData} (h : Ev te ρ M (dat (.tuple (d :: ds))) M1) (h1 : EvO tl ρ M1 (some 1) M2) (h2 : EvO th ρ M2 none M3) : Ev (tSl (rSlU K) te tl th) ρ M (dat (.tuple ds)) M3 := by
  have := ev_slT (K := K) h h1 h2
  have e : cutD (d :: ds) (some ((1 : Nat) : Int)) none = ds := by rw [cut_n0]; rfl
  rw [show (some (1 : Int)) = some ((1 : Nat) : Int) from rfl, e] at this
  exact this
theorem ei_seqTM {α : Type} {f : α → PyData} {xs : List α} {tl : TE} (h : Ev tl ρ M (dat (.tuple (xs.map f))) M') : EvI (iSeq K tl) ρ M (xs.map fun a => dat (f a)) M' := by
  have := ei_seqT (K := K) h fzt_dat
  rw [List.map_map] at this
  exact this
theorem ei_seqLM {α : Type} {f : α → PyData} {xs : List α} {tl : TE} (h : Ev tl ρ M (dat (.list (xs.map f))) M') : EvI (iSeq K tl) ρ M (xs.map fun a => dat (f a)) M' := by
  have := ei_seqL (K := K) h fzl_dat
  rw [List.map_map] at this
  exact this
theorem any_map_id {α : Type} (xs : List α) (g : α → Bool) : (xs.map g).any id = xs.any g := by
  induction xs with
  | nil => rfl
  | cons x xs ih => simp [ih]
theorem all_map_id {α : Type} (xs : List α) (g : α → Bool) : (xs.map g).all id = xs.all g := by
  induction xs with
  | nil => rfl
  | cons x xs ih => simp [ih]
theorem rc_anyM {α : Type} {g : α → Bool} {xs : List α} : RC (rAny K) [dat (.list (xs.map fun a => .bool (g a)))] M (dat (.bool (xs.any g))) M := by
  have := rc_any (K := K) (M := M) (bs := xs.map g) (x := dat (.list ((xs.map g).map PyData.bool))) isl_dat
  rw [any_map_id, List.map_map] at this
  exact this
theorem rc_allM {α : Type} {g : α → Bool} {xs : List α} : RC (rAll K) [dat (.list (xs.map fun a => .bool (g a)))] M (dat (.bool (xs.all g))) M := by
  have := rc_all (K := K) (M := M) (bs := xs.map g) (x := dat (.list ((xs.map g).map PyData.bool))) isl_dat
  rw [all_map_id, List.map_map] at this
  exact this
theorem c_invF {J : Env → Cells → Prop} {Φ Ψ : Fr} (j : J ρ' M) (h : Fgt ρ ρ') (l : Le Ψ Φ) : Cont (InvK Φ J) Ψ ρ M := c_fgt h (c_inv j l)
theorem asgR_k {k : L2.St → Hp → Prop} {Φ : Fr} {i : Nat} (h : SetAt x ρ i ρ') (c : Cont k Φ ρ' M) : ∃ ρ', SetAt x ρ i ρ' ∧ Cont k Φ ρ' M := ⟨ρ', h, c⟩
theorem asgGR_k {k : L2.St → Hp → Prop} {Φ : Fr} {g : TG} {js : List Nat} (h : Tgt g js x ρ ρ') (c : Cont k Φ ρ' M) : ∃ ρ' js, Tgt g js x ρ ρ' ∧ Cont k Φ ρ' M := ⟨ρ', js, h, c⟩
def TgtsD (gs : TGs) (js : List Nat) (ds : List PyData) (ρ ρ' : Env) : Prop := Tgts gs js (ds.map dat) ρ ρ'
theorem td_nil : TgtsD gNil [] [] ρ ρ := tgs_nil
theorem td_cons {ρ2 : Env} {g : TG} {gs : TGs} {js ks : List Nat} {d : PyData} {ds : List PyData} (h : Tgt g js (dat d) ρ ρ1) (hs : TgtsD gs ks ds ρ1 ρ2) : TgtsD (gCons g gs) (js ++ ks) (d :: ds) ρ ρ2 := tgs_cons h hs
theorem td_tup {gs : TGs} {js : List Nat} {n : Nat} {ds : List PyData} (hs : TgtsD gs js ds ρ ρ') (hn : ds.length = n) : Tgt (gTup K n gs) js (dat (.tuple ds)) ρ ρ' := tg_tupD hs hn
/-! ### enumerate, data -/
theorem ei_enumD {α : Type} {f : α → PyData} {xs : List α} {ta : TA} (h : EvA ta ρ M [x] M') (hx : FzL x ((xs.map f).map dat)) : EvI (iEnum K ta) ρ M (xs.zipIdx.map fun p => vtup [dat (.int (p.2 : Int)), dat (f p.1)]) M' := by
  have h := ei_enum (K := K) h hx
  have e : (((irange 0 ((xs.map f).map dat).length).zip ((xs.map f).map dat)).map fun p => vtup [p.1, p.2]) = xs.zipIdx.map fun p => vtup [dat (.int (p.2 : Int)), dat (f p.1)] := by
    apply List.ext_getElem?
    intro i
    rw [List.getElem?_map, List.getElem?_map, List.getElem?_zipIdx]
    by_cases hi : i < xs.length
    · have h1 : xs[i]? = some xs[i] := by simp [hi]
      have h2 : (irange 0 ((xs.map f).map dat).length)[i]? = some (dat (.int (i : Int))) := by
        unfold irange
        rw [List.getElem?_map, List.getElem?_range (by simpa using hi)]
        simp
      have h3 : ((xs.map f).map dat)[i]? = some (dat (f xs[i])) := by simp [hi]
      have h4 : ((irange 0 ((xs.map f).map dat).length).zip ((xs.map f).map dat))[i]? = some (dat (.int (i : Int)), dat (f xs[i])) := List.getElem?_zip_eq_some.mpr ⟨h2, h3⟩
      rw [h4, h1]
      simp
    · have h1 : xs[i]? = none := by simp; omega
      have h4 : ((irange 0 ((xs.map f).map dat).length).zip ((xs.map f).map dat))[i]? = none := by
        apply List.getElem?_eq_none
        rw [List.length_zip]
        simp
        omega
      rw [h4, h1]
      simp
  rw [e] at h
  exact h
theorem rng_map (lo : Int) (n : Nat) : irange lo n = (List.range n).map fun i => dat (.int (lo + (i : Nat))) := rfl
/-- each item gives one -/
theorem ev_lcY {α : Type} {wi : TI} {g : TG} {vs : List Nat} {e : α → VD} {xs : List α} {r : α → PyData} (h : EvI wi ρ M (xs.map e) M1) (hl : xs.length ≤ 16000000)
    (hs : ∀ a, a ∈ xs → ∃ ρ'' js, Tgt g js (e a) (wipeE ρ vs) ρ'' ∧ (∀ i ∈ js, i ∈ vs) ∧ Ev te ρ'' M1 (dat (r a)) M1) : Ev (tLc wi g tYes te vs) ρ M (dat (.list (xs.map r))) M1 := by
  have := ev_lc (tt := tYes) (f := fun _ => true) (r := r) h hl fun a ha => let ⟨ρ'', js, h1, hj, h2⟩ := hs a ha; ⟨ρ'', js, h1, hj, et_yes, fun _ => h2⟩
  have e : xs.filter (fun _ => true) = xs := by simp
  rw [e] at this
  exact this
theorem lcY_k {g : TG} {js vs : List Nat} {d : VD} (h : Tgt g js d ρ ρ') (hj : ∀ i ∈ js, i ∈ vs) (k : Ev te ρ' M x M) : ∃ ρ'' js, Tgt g js d ρ ρ'' ∧ (∀ i ∈ js, i ∈ vs) ∧ Ev te ρ'' M x M := ⟨ρ', js, h, hj, k⟩
theorem lcF_k {g : TG} {tt : TT} {js vs : List Nat} {d : VD} {b : Bool} (h : Tgt g js d ρ ρ') (hj : ∀ i ∈ js, i ∈ vs) (ht : EvT tt ρ' M b M) (k : b = true → Ev te ρ' M x M) : ∃ ρ'' js, Tgt g js d ρ ρ'' ∧ (∀ i ∈ js, i ∈ vs) ∧ EvT tt ρ'' M b M ∧ (b = true → Ev te ρ'' M x M) := ⟨ρ', js, h, hj, ht, k⟩
end
section
/-! ### some cells are changed, the others stay as they are -/
def Sw (cs cs' : Cells) (M M' : Cells) : Prop := ∃ L, M.Perm (cs ++ L) ∧ M'.Perm (cs' ++ L)
inductive Pk (p : Addr) (c c' : CD) : Cells → Cells → Cells → Cells → Prop
  | here {r r' : Cells} : Pk p c c' ((p, c) :: r) ((p, c') :: r') r r'
  | there {x x' : Addr × CD} {cs cs' r r' : Cells} : Pk p c c' cs cs' r r' → Pk p c c' (x :: cs) (x' :: cs') (x :: r) (x' :: r')
theorem Pk.perm {p : Addr} {c c' : CD} {cs cs' r r' : Cells} (h : Pk p c c' cs cs' r r') : cs.Perm ((p, c) :: r) ∧ cs'.Perm ((p, c') :: r') := by
  induction h with
  | here => exact ⟨.refl _, .refl _⟩
  | there _ ih => exact ⟨(ih.1.cons _).trans (.swap _ _ _), (ih.2.cons _).trans (.swap _ _ _)⟩
theorem sw_nil {M : Cells} : Sw [] [] M M := ⟨M, .refl _, .refl _⟩
theorem sw_pick {p : Addr} {c c' : CD} {cs cs' r r' M M' : Cells} (h : Pk p c c' cs cs' r r') (k : Sw r r' M M') : Sw cs cs' ((p, c) :: M) ((p, c') :: M') := by
  obtain ⟨L, h1, h2⟩ := k
  exact ⟨L, (h1.cons _).trans (h.perm.1.symm.append_right L), (h2.cons _).trans (h.perm.2.symm.append_right L)⟩
theorem sw_skip {x : Addr × CD} {cs cs' M M' : Cells} (k : Sw cs cs' M M') : Sw cs cs' (x :: M) (x :: M') := by
  obtain ⟨L, h1, h2⟩ := k
  exact ⟨x :: L, (h1.cons _).trans List.perm_middle.symm, (h2.cons _).trans List.perm_middle.symm⟩
inductive Rm (c : Addr × CD) : Cells → Cells → Prop
  | here {l : Cells} : Rm c (c :: l) l
  | there {x : Addr × CD} {l l' : Cells} : Rm c l l' → Rm c (x :: l) (x :: l')
theorem Rm.perm {c : Addr × CD} {l l' : Cells} (h : Rm c l l') : l.Perm (c :: l') := by
  induction h with
  | here => exact .refl _
  | there _ ih => exact (ih.cons _).trans (.swap _ _ _)
theorem perm_step {c : Addr × CD} {l l' r : Cells} (h : Rm c l l') (k : l'.Perm r) : l.Perm (c :: r) := h.perm.trans (k.cons c)
/-- behind a def: the order of the cells, and cells of its own -/
def Up (P : VD → Cells → Prop) : VD → Cells → Prop := fun x N => ∃ N1 N', N.Perm N1 ∧ N'.Sublist N1 ∧ P x N'
theorem RtQ.up {Q : VK} {Φ : Fr} {P : VD → Cells → Prop} (h : RtQ Q Φ P) : RtQ Q Φ (Up P) := fun Φ' ρ σ x M v H l ⟨N1, N', h1, h2, hp⟩ s => h Φ' ρ σ x N' v H l hp ((s.perm h1).drop h2)
theorem up_perm {P : VD → Cells → Prop} {x : VD} {N N' : Cells} (h : N.Perm N') (hp : P x N') : Up P x N := ⟨N', N', h, .refl _, hp⟩
theorem up_of {P : VD → Cells → Prop} {x : VD} {N : Cells} (hp : P x N) : Up P x N := ⟨N, N, .refl _, .refl _, hp⟩
theorem up_drop {P : VD → Cells → Prop} {x : VD} {N N' : Cells} (h : N'.Sublist N) (hp : P x N') : Up P x N := ⟨N, N', .refl _, h, hp⟩
end
/-- None or an int -/
def oi : Option Int → PyData
  | none => .none
  | some i => .int i
theorem isNone_oi (o : Option Int) : isNoneD (oi o) = o.isNone := by cases o <;> rfl
theorem eqok_oi : EqOk oi := fun x y => by cases x <;> cases y <;> simp [oi, PyData.eqv]
theorem shp_oi {n : Nat} (o : Option Int) : Shp n (oi o) := by
  cases o with
  | none => exact shp_none
  | some i => exact shp_int
end Sx

set_option Elab.async false
set_option linter.all false
set_option maxRecDepth 100000
set_option maxHeartbeats 2000000
/-! Sx7: dicts. A dict that never changes is a value (vdi); one that does, or is walked, is a cell (cD). -/
namespace Sx
open PySem L2 Evl
section
variable {α β : Type}
def valG (kvs : List (L2.Key × β)) (k : L2.Key) : Option β := (kvs.find? fun kv => decide (kv.1 = k)).map (·.2)
def putG (kvs : List (L2.Key × β)) (k : L2.Key) (v : β) : List (L2.Key × β) :=
  if (kvs.any fun kv => decide (kv.1 = k)) = true then kvs.map (fun kv => if kv.1 = k then (kv.1, v) else kv) else kvs ++ [(k, v)]
def mergeG (kvs more : List (L2.Key × β)) : List (L2.Key × β) := more.foldl (fun acc kv => putG acc kv.1 kv.2) kvs
theorem valG_cons (p : L2.Key × β) (r : List (L2.Key × β)) (k : L2.Key) : valG (p :: r) k = if p.1 = k then some p.2 else valG r k := by
  unfold valG
  rw [List.find?_cons]
  by_cases h : p.1 = k <;> simp [h]
theorem valG_map (f : α → β) (kvs : List (L2.Key × α)) (k : L2.Key) : valG (kvs.map fun p => (p.1, f p.2)) k = (valG kvs k).map f := by
  induction kvs with
  | nil => rfl
  | cons p r ih => rw [List.map_cons, valG_cons, valG_cons, ih]; by_cases h : p.1 = k <;> simp [h]
theorem valG_snoc (k j : L2.Key) (y : β) : ∀ kvs : List (L2.Key × β), valG kvs k = none → valG (kvs ++ [(k, y)]) j = if j = k then some y else valG kvs j
  | [], _ => by
    rw [List.nil_append, valG_cons]
    by_cases h : j = k
    · rw [if_pos h, if_pos h.symm]
    · rw [if_neg h, if_neg (fun e => h e.symm)]
  | p :: r, hn => by
    rw [valG_cons] at hn
    by_cases h : p.1 = k
    · rw [if_pos h] at hn; cases hn
    · rw [if_neg h] at hn
      rw [List.cons_append, valG_cons, valG_cons, valG_snoc k j y r hn]
      by_cases h2 : p.1 = j
      · rw [if_pos h2, if_pos h2, if_neg (fun e => h (h2.trans e))]
      · rw [if_neg h2, if_neg h2]
theorem valG_any (kvs : List (L2.Key × β)) (k : L2.Key) : (kvs.any fun kv => decide (kv.1 = k)) = (valG kvs k).isSome := by
  induction kvs with
  | nil => rfl
  | cons p r ih => rw [List.any_cons, valG_cons, ih]; by_cases h : p.1 = k <;> simp [h]
theorem valG_put (kvs : List (L2.Key × β)) (k j : L2.Key) (y : β) : valG (putG kvs k y) j = if j = k then some y else valG kvs j := by
  unfold putG
  rw [valG_any]
  cases h : valG kvs k with
  | none => rw [if_neg (by simp)]; exact valG_snoc k j y kvs h
  | some z =>
    rw [if_pos (by rfl)]
    have hz : ∀ kvs : List (L2.Key × β), valG (kvs.map fun kv => if kv.1 = k then (kv.1, y) else kv) j = (valG kvs j).map fun x => if j = k then y else x := by
      intro kvs
      induction kvs with
      | nil => rfl
      | cons p r ih =>
        rw [List.map_cons, valG_cons, valG_cons, ih]
        by_cases h1 : p.1 = k
        · simp only [if_pos h1]
          by_cases h2 : p.1 = j
          · rw [if_pos h2, if_pos h2, Option.map_some, if_pos (h2.symm.trans h1)]
          · rw [if_neg h2, if_neg h2]
        · simp only [if_neg h1]
          by_cases h2 : p.1 = j
          · rw [if_pos h2, if_pos h2, Option.map_some, if_neg (fun e => h1 (h2.trans e))]
          · rw [if_neg h2, if_neg h2]
    rw [hz]
    by_cases hj : j = k
    · subst hj; rw [h, Option.map_some, if_pos rfl, if_pos rfl]
    · rw [if_neg hj]
      simp [hj]
theorem length_putG (kvs : List (L2.Key × β)) (k : L2.Key) (v : β) : (putG kvs k v).length ≤ kvs.length + 1 := by
  unfold putG
  split
  · rw [List.length_map]; omega
  · rw [List.length_append, List.length_singleton]; omega
theorem putG_map (f : α → β) (kvs : List (L2.Key × α)) (k : L2.Key) (v : α) : putG (kvs.map fun p => (p.1, f p.2)) k (f v) = (putG kvs k v).map fun p => (p.1, f p.2) := by
  have e : ((kvs.map fun p => (p.1, f p.2)).any fun kv => decide (kv.1 = k)) = (kvs.any fun kv => decide (kv.1 = k)) := by rw [List.any_map]; rfl
  unfold putG
  rw [e]
  split
  · rw [List.map_map, List.map_map]
    apply List.map_congr_left
    intro p _
    simp only [Function.comp]
    by_cases h : p.1 = k <;> simp [h]
  · rw [List.map_append]; rfl
end
def kD : L2.Key → PyData
  | .inl i => .int i
  | .inr x => .str x
theorem kv_of {F : Hp} {k : L2.Key} {v : V} (h : Rp F v (kD k)) : v = kV k := by
  cases k <;> (cases h; rfl)
/-! ### pairs of keys and values -/
abbrev PrV (F : Hp) (p : L2.Key × VD) (q : L2.Key × V) : Prop := p.1 = q.1 ∧ p.2.P F q.2
abbrev DP (F : Hp) : List (L2.Key × VD) → List (L2.Key × V) → Prop := Paired (PrV F)
theorem DP.mono {F F' : Hp} (e : Fx F F') : ∀ {kvs : List (L2.Key × VD)} {vs : List (L2.Key × V)}, DP F kvs vs → DP F' kvs vs
  | _, _, .nil => .nil
  | _, _, .cons h t => .cons ⟨h.1, VD.mono _ e h.2⟩ (DP.mono e t)
inductive OptR (F : Hp) : Option VD → Option V → Prop
  | none : OptR F none none
  | some {x : VD} {v : V} : x.P F v → OptR F (some x) (some v)
theorem DP.val {F : Hp} (k : L2.Key) : ∀ {kvs : List (L2.Key × VD)} {vs : List (L2.Key × V)}, DP F kvs vs → OptR F (valG kvs k) (valV vs k)
  | _, _, .nil => .none
  | _, _, .cons (a := p) (b := q) h t => by
    rw [valG_cons]
    by_cases e : p.1 = k
    · rw [if_pos e, valV_pos (h.1.symm.trans e)]
      exact .some h.2
    · rw [if_neg e, valV_neg (fun z => e (h.1.trans z))]
      exact DP.val k t
theorem OptR.isSome {F : Hp} {o : Option VD} {u : Option V} (h : OptR F o u) : u.isSome = o.isSome := by cases h <;> rfl
theorem OptR.getD {F : Hp} {o : Option VD} {u : Option V} {x : VD} {v : V} (h : OptR F o u) (hx : x.P F v) : (o.getD x).P F (u.getD v) := by
  cases h with
  | none => exact hx
  | some h => exact h
theorem DP.put {F : Hp} (k : L2.Key) {x : VD} {v : V} (hx : x.P F v) {kvs : List (L2.Key × VD)} {vs : List (L2.Key × V)} (h : DP F kvs vs) : DP F (putG kvs k x) (putK vs k v) := by
  have e : (vs.any fun kv => decide (kv.1 = k)) = (kvs.any fun kv => decide (kv.1 = k)) := by
    rw [valG_any kvs, valV_any]; exact (h.val k).isSome
  unfold putG putK
  rw [e]
  split
  · have hz : ∀ {kvs : List (L2.Key × VD)} {vs : List (L2.Key × V)}, DP F kvs vs → DP F (kvs.map fun kv => if kv.1 = k then (kv.1, x) else kv) (vs.map fun kv => if kv.1 = k then (kv.1, v) else kv) := by
     intro kvs vs h
     induction h with
     | nil => exact .nil
     | @cons a b l1 l2 h t ih =>
      refine .cons ?_ ih
      show PrV F (if a.1 = k then (a.1, x) else a) (if b.1 = k then (b.1, v) else b)
      by_cases z : a.1 = k
      · rw [if_pos z, if_pos (h.1.symm.trans z)]; exact ⟨h.1, hx⟩
      · rw [if_neg z, if_neg (fun y => z (h.1.trans y))]; exact h
    exact hz h
  · have hz : ∀ {kvs : List (L2.Key × VD)} {vs : List (L2.Key × V)}, DP F kvs vs → DP F (kvs ++ [(k, x)]) (vs ++ [(k, v)]) := by
     intro kvs vs h
     induction h with
     | nil => exact .cons ⟨rfl, hx⟩ .nil
     | cons h t ih => exact .cons h ih
    exact hz h
theorem DP.merge {F : Hp} : ∀ {more : List (L2.Key × VD)} {ms : List (L2.Key × V)} {kvs : List (L2.Key × VD)} {vs : List (L2.Key × V)}, DP F more ms → DP F kvs vs → DP F (mergeG kvs more) (mergeK vs ms)
  | _, _, _, _, .nil, h => h
  | _, _, _, _, .cons (a := p) (b := q) h t, g => by
    show DP F (mergeG (putG _ p.1 p.2) _) (mergeK (putK _ q.1 q.2) _)
    rw [← h.1]
    exact DP.merge t (g.put p.1 h.2)
theorem DP.len {F : Hp} {kvs : List (L2.Key × VD)} {vs : List (L2.Key × V)} (h : DP F kvs vs) : kvs.length = vs.length := Paired.length h
/-- a dict that stays -/
def vdi (kvs : List (L2.Key × VD)) : VD := ⟨fun F v => ∃ a vs, v = .ref a ∧ F a = some (.dK vs) ∧ DP F kvs vs, fun e ⟨a, vs, h1, h2, h3⟩ => ⟨a, vs, h1, e.pl _ _ h2 rfl, h3.mono e⟩⟩
/-- a dict of one's own -/
def cD (kvs : List (L2.Key × VD)) : CD := ⟨fun F p o => F p = none ∧ ∃ vs, o = .dK vs ∧ DP F kvs vs, fun e q ⟨h0, vs, h1, h2⟩ => ⟨q.trans h0, vs, h1, h2.mono e⟩⟩
/-- .. while a loop walks it -/
def cDl (kvs : List (L2.Key × VD)) : CD := ⟨fun F p o => F p = none ∧ ∃ od vs, o = .frz od (.dK vs) ∧ DP F kvs vs, fun e q ⟨h0, od, vs, h1, h2⟩ => ⟨q.trans h0, od, vs, h1, h2.mono e⟩⟩
def IsDi (x : VD) (M : Cells) (kvs : List (L2.Key × VD)) : Prop := ∀ {F Φ ρ σ H v}, SatF F Φ ρ M σ H → x.P F v → ∃ a vs, v = .ref a ∧ Rd H a (.dK vs) ∧ DP F kvs vs
def IsDu (x : VD) (M : Cells) (kvs : List (L2.Key × VD)) : Prop := ∀ {F Φ ρ σ H v}, SatF F Φ ρ M σ H → x.P F v → ∃ a vs, v = .ref a ∧ H a = some (.dK vs) ∧ DP F kvs vs
section
variable {K : PySem.W.Frag} {ρ ρ' : Env} {M M1 M2 M3 M4 M' : Cells} {x y z : VD} {te td ty tv ta tb : TE} {p : Addr} {Φ : Fr} {D : Ends} {kvs ls : List (L2.Key × VD)} {k : L2.Key} {P : VD → Cells → Prop}
theorem isdu_v : IsDu (vdi kvs) M kvs := fun s ⟨a, vs, h1, h2, h3⟩ => ⟨a, vs, h1, s.ex _ _ h2, h3⟩
theorem isdu_c (m : (p, cD kvs) ∈ M) : IsDu (val (.ref p)) M kvs := fun s h => by
  obtain ⟨o, h1, h0, vs, rfl, h3⟩ := s.at m
  exact ⟨p, vs, h, h1, h3⟩
theorem IsDu.r (h : IsDu x M kvs) : IsDi x M kvs := fun s q => let ⟨a, vs, h1, h2, h3⟩ := h s q; ⟨a, vs, h1, .inl h2, h3⟩
theorem isdi_v : IsDi (vdi kvs) M kvs := IsDu.r isdu_v
theorem isdi_c (m : (p, cD kvs) ∈ M) : IsDi (val (.ref p)) M kvs := IsDu.r (isdu_c m)
theorem isdi_l (m : (p, cDl kvs) ∈ M) : IsDi (val (.ref p)) M kvs := fun s h => by
  obtain ⟨o, h1, h0, od, vs, rfl, h3⟩ := s.at m
  exact ⟨p, vs, h, .inr ⟨od, h1⟩, h3⟩
/-! ### made -/
theorem ev_dnewK : Ev tDNewK ρ M (vdi []) M := fun Φ σ H Q ⟨F, s⟩ q => fun p hp => q _ _ (Sat.retNew s hp fun F' fx e => ⟨p, [], rfl, e, .nil⟩)
theorem er_dnewC : EvR tDNewK ρ M fun y M' => ∃ p, y = val (.ref p) ∧ M' = (p, cD []) :: M := fun Φ σ H Q ⟨F, s⟩ q => fun p hp => by
  have s2 := s.newC (c := cD []) (o := .dK []) hp fun e => ⟨e, [], rfl, .nil⟩
  exact q _ _ _ _ ⟨p, rfl, rfl⟩ ⟨F, s2.ex, ⟨s2.fr, rfl⟩, s2.sl, s2.nd, s2.ce⟩
/-! ### read -/
theorem ev_dget1 (hd : Ev td ρ M x M1) (h1 : IsDi x M1 kvs) (hk : Ev ty ρ M1 (dat (kD k)) M2) (h2 : IsDi x M2 kvs) : Ev (tDGet1 td ty) ρ M ((valG kvs k).getD vn) M2 := fun Φ σ H Q s q => hd Φ σ H _ s fun v H1 s1 => by
  have ⟨F1, z1⟩ := s1
  obtain ⟨a, vs, rfl, e1, -⟩ := h1 z1 z1.fr.2
  refine ⟨a, rfl, .inl ⟨vs, e1⟩, hk _ σ H1 _ s1 fun w H2 s2 => ?_⟩
  have ⟨F2, z2⟩ := s2
  obtain ⟨a', vs2, e, e2, d2⟩ := h2 z2 z2.fr.1.2
  cases e
  cases kv_of z2.fr.2
  exact ⟨valV vs2 k, .inl ⟨vs2, k, e2, rfl, rfl⟩, q _ _ (Sat.ret z2.base ((d2.val k).getD .non))⟩
theorem ev_dget2 (hd : Ev td ρ M x M1) (h1 : IsDi x M1 kvs) (hk : Ev ty ρ M1 (dat (kD k)) M2) (hv : Ev tv ρ M2 y M3) (h2 : IsDi x M3 kvs) : Ev (tDGet2 td ty tv) ρ M ((valG kvs k).getD y) M3 := fun Φ σ H Q s q => hd Φ σ H _ s fun v H1 s1 => by
  have ⟨F1, z1⟩ := s1
  obtain ⟨a, vs, rfl, e1, -⟩ := h1 z1 z1.fr.2
  refine ⟨a, rfl, .inl ⟨vs, e1⟩, hk _ σ H1 _ s1 fun w H2 s2 => hv _ σ H2 _ s2 fun u H3 s3 => ?_⟩
  have ⟨F3, z3⟩ := s3
  obtain ⟨a', vs2, e, e2, d2⟩ := h2 z3 z3.fr.1.1.2
  cases e
  cases kv_of z3.fr.1.2
  exact ⟨valV vs2 k, .inl ⟨vs2, k, e2, rfl, rfl⟩, q _ _ (Sat.ret (z3.base.weak Le.and) ((d2.val k).getD z3.fr.2))⟩
theorem ev_dget (hd : Ev td ρ M x M1) (hk : Ev ty ρ M1 (dat (kD k)) M2) (h2 : IsDi x M2 kvs) (hv : valG kvs k = some y) : Ev (tDGet td ty) ρ M y M2 := fun Φ σ H Q s q => hd Φ σ H _ s fun v H1 s1 => hk _ σ H1 _ s1 fun w H2 s2 => by
  have ⟨F2, z2⟩ := s2
  obtain ⟨a', vs2, rfl, e2, d2⟩ := h2 z2 z2.fr.1.2
  cases kv_of z2.fr.2
  have r := d2.val k
  rw [hv] at r
  generalize hw : valV vs2 k = ow at r
  cases r with
  | some hr => exact ⟨a', _, rfl, .inl ⟨vs2, k, e2, rfl, hw.symm⟩, q _ _ (Sat.ret z2.base hr)⟩
theorem ev_din (hk : Ev ty ρ M (dat (kD k)) M1) (hd : Ev td ρ M1 x M2) (h2 : IsDi x M2 kvs) : Ev (tDIn ty td) ρ M (dat (.bool (valG kvs k).isSome)) M2 := fun Φ σ H Q s q => hk Φ σ H _ s fun w H1 s1 => hd _ σ H1 _ s1 fun v H2 s2 => by
  have ⟨F2, z2⟩ := s2
  obtain ⟨a', vs2, rfl, e2, d2⟩ := h2 z2 z2.fr.2
  cases kv_of z2.fr.1.2
  refine ⟨a', valV vs2 k, rfl, .inl ⟨vs2, k, e2, rfl, rfl⟩, ?_⟩
  rw [(d2.val k).isSome]
  exact q _ _ (Sat.ret z2.base (.bl _))
theorem ev_dnin (hk : Ev ty ρ M (dat (kD k)) M1) (hd : Ev td ρ M1 x M2) (h2 : IsDi x M2 kvs) : Ev (tDNotIn ty td) ρ M (dat (.bool (!(valG kvs k).isSome))) M2 := fun Φ σ H Q s q => hk Φ σ H _ s fun w H1 s1 => hd _ σ H1 _ s1 fun v H2 s2 => by
  have ⟨F2, z2⟩ := s2
  obtain ⟨a', vs2, rfl, e2, d2⟩ := h2 z2 z2.fr.2
  cases kv_of z2.fr.1.2
  refine ⟨a', valV vs2 k, rfl, .inl ⟨vs2, k, e2, rfl, rfl⟩, ?_⟩
  rw [(d2.val k).isSome]
  exact q _ _ (Sat.ret z2.base (.bl _))
/-! ### stored -/
theorem c_dput (hv : Ev tv ρ M x M1) (hd : Ev td ρ M1 (val (.ref p)) M2) (hk : Ev ty ρ M2 (dat (kD k)) M3) (hp : Put p (cD kvs) (cD (putG kvs k x)) M3 M4) (hl : kvs.length < sizeLine) (c : Cont D.nx Φ ρ M4) :
    Cont (sDPut td ty tv D) Φ ρ M := fun σ H s => hv Φ σ H _ s fun v H1 s1 => hd _ σ H1 _ s1 fun w H2 s2 => hk _ σ H2 _ s2 fun u H3 s3 => by
  have ⟨F3, z3⟩ := s3
  have ew : w = .ref p := z3.fr.1.2
  cases kv_of z3.fr.2
  subst ew
  obtain ⟨o, k1, k0, vs, rfl, k3⟩ := z3.at hp.mem
  refine ⟨p, _, rfl, .inl ⟨vs, k, k1, rfl, by rw [← k3.len]; exact hl, rfl⟩, c σ _ ⟨F3, ?_⟩⟩
  exact (z3.put1 (o := .dK (putK vs k v)) hp k0 ⟨k0, _, rfl, k3.put k z3.fr.1.1.2⟩).weak (.of rfl fun F h => h.1.1.1)
end
end Sx

set_option Elab.async false
set_option linter.all false
set_option maxRecDepth 100000
set_option maxHeartbeats 2000000
/-! SxEb: an attribute is stored on an exception whose class stands over a class of ours over Exception. -/
namespace PySem
namespace XeB
open Builtin Builtin.ObjectAttr PySem.ESX
section
variable {prog : Program} {w : World} {A : Around} {R : Result → Shared → Prop} {hp : Heap} {g : Array GenState} {dw : Drawn} {t : Nat} {os : OsState}
theorem has_it {C D : Addr} {b : Value} (hb : exTail.contains b = true) : (Value.ref C :: Value.ref D :: exTail).contains b = true := by
  rw [List.contains_cons, List.contains_cons, hb, Bool.or_true, Bool.or_true]
theorem mro2 {K : W.Frag} {C D : Addr} {cd : ClassData} (hcd : W.clsIn K C = some cd) (hm : cd.mro = .ref C :: .ref D :: exTail) {b : Value} (hb : (Value.ref C :: Value.ref D :: exTail).contains b = true) : W.mroIn K C b = some true := by
  unfold W.mroIn
  rw [hcd, Option.bind_some, hm, if_neg (show ¬ (List.isEmpty (Value.ref C :: Value.ref D :: exTail) = true) from Bool.false_ne_true), hb]
theorem put_new {K : W.Frag} {name : Str} {tk : Tok} {v : Value} {x C D : Addr} {fv : Array Value} {cd : ClassData}
    (X : K.In hp) (hx : hp.get? x = some { cls := .ref C, data := .fields fv }) (hcd : W.clsIn K C = some cd) (hm : cd.mro = .ref C :: .ref D :: exTail) (hh : cd.hasDict = true) (ha : W.findIn K (.ref C) name = some none)
    (fin : ∀ h' tk' dx, (∀ b o, b ≠ x → hp.get? b = some o → h'.get? b = some o) → hp.objs.size ≤ dx → dx ≠ x → h'.get? x = some { cls := .ref C, dict := some dx, data := .fields fv } →
      h'.Ns1 dx (fun y => if y = name then some v else none) → R (.ok (.ret .none)) ⟨h', g, dw, tk', os⟩) :
    codeAny (model prog w) A (.call (.builtin "object.__setattr__") ⟨[.ref x, .str name tk, v], []⟩) R ⟨hp, g, dw, t, os⟩ := by
  have J : W.InstAt hp x { cls := .ref C, data := .fields fv } C none := ⟨hx, rfl, rfl, trivial⟩
  have ne : x ≠ hp.objs.size := Nat.ne_of_lt (Heap.lt_size hx)
  have S0 := F.store_object
  have so : W.Looks (model prog w) hp (isInstance (.ref x) (.type "object")) true := J.type.andThen (W.looks_mroIn X (mro2 hcd hm (has_it (by decide +kernel))))
  have lm : W.Looks (model prog w) hp (mroOf (.ref C)) cd.mro := (W.looks_clsIn X hcd).andThen .now
  have l3 : W.Looks (model prog w) hp (storeTaker? none) none := .now
  have lc : W.Looks (model prog w) hp (classData C) cd := W.looks_clsIn X hcd
  have pass : refuseLoop (.ref x) "__setattr__" cd.mro = pure () := by
    rw [hm, refuseLoop_ref, refuseLoop_ref]
    exact F.store_Exception.passes _
  refine codeAny_call_builtin S0.slot.plain S0.entry (@W.check_slot (model prog w) _ _ ⟨hp, g, dw, t, os⟩ "object.__setattr__" "object" "__setattr__" (.ref x) [.str name tk, v] [] _ S0.kind S0.split so (S0.args (.ref x) (.str name tk) v) ?_)
  rw [W.osa_eq, refuse_eq]
  refine wpAny_bind (wpAny_bind (J.type.at (wpAny_bind (lm.at ?_)))); rw [pass]
  refine wpAny_pure (wpAny_bind (J.type.at (wpAny_bind ((W.looks_findIn X ha).at (wpAny_bind (l3.at ?_))))))
  obtain ⟨nm, bs, mro, ns, qn, hd, sn, sb, ab, col, del⟩ := cd
  dsimp only at hh
  subst hh
  unfold storeInOwnDict ownDictForStores
  repeat (first | with_reducible refine HandSPX.store_in_new ?_ ?_ | with_reducible refine wpAny_loadPart_at hx ?_ | with_reducible refine lc.at ?_ | wp_step)
  · exact ⟨_, #[], _, (Heap.get?_update_ne _ _ _ _ ne.symm).trans (Heap.get?_push_at rfl rfl), rfl, fun e he => absurd he (by simp), fun _ => rfl⟩
  · intro h' tk' hn' hs
    have hx1 : (hp.push { cls := .type "dict", data := .dict #[] }).get? x = some { cls := .ref C, data := .fields fv } := Heap.get?_push_of_some _ hx
    refine fin h' tk' hp.objs.size (fun b o hb ho => ?_) (Nat.le_refl _) ne.symm ((hs.2 x ne).trans (Heap.get?_update_self _ hx1 rfl)) hn'
    exact (hs.2 b (Nat.ne_of_lt (Heap.lt_size ho))).trans ((Heap.get?_update_ne _ _ _ _ hb).trans (Heap.get?_push_of_some _ ho))
theorem has_same {D : Addr} (Y : String) : (Value.ref D :: exTail).contains (.type Y) = exTail.contains (.type Y) := by
  rw [List.contains_cons]
  simp
theorem mod_keeps {K : W.Frag} {mg : Str → Option Value} {h h' : Heap} (M0 : L2.Mod K mg h) (k : ∀ b o, h.get? b = some o → h'.get? b = some o) : L2.Mod K mg h' :=
  let ⟨mb, h1, h2⟩ := M0.blt
  ⟨M0.kin.keeps k, M0.glob.keeps k, ⟨mb, h1.keeps k, h2⟩, M0.nolimit.keeps k⟩
theorem mod_at {X : L2.Cx} {pins : List (Addr × Obj)} {σ : L2.St} {H : L2.Hp} {s : Shared} (I : L2.Inv X pins σ H s) : L2.Mod X.K X.mg s.heap := mod_keeps I.mod I.bk
/-- a made exception with one field -/
structure OwnMade (h h' : Heap) (e C d : Addr) (f : Str) (v : Value) : Prop where
  keep : ∀ b o, h.get? b = some o → h'.get? b = some o
  new : h.objs.size ≤ e
  obj : ∃ oe vs, h'.get? e = some oe ∧ oe.cls = .ref C ∧ oe.dict = some d ∧ oe.data = .fields vs ∧ vs[1]? = some .none
  dbig : h.objs.size ≤ d
  dne : d ≠ e
  ns : h'.Ns1 d (fun y => if y = f then some v else none)
end
section
open L2 PySem.HandSPX
/-- C(e) -/
def tMk (C : Addr) (f : Str) (ta : TA) : St → Hp → XK → Prop := fun σ H Q => ta σ H fun vs H1 => ∃ v, vs = [v] ∧ ∀ d, H1 d = none → Q (.ref C) (some d) (upd H1 d (.xd [(f, v)]))
theorem relO_one {v : V} {v' : Value} (r : RelV v v') (f g : Str) : RelO (List.lookup g [(f, v)]) (if g = f then some v' else none) := by
  by_cases h : g = f
  · subst h
    rw [if_pos rfl]
    simp only [List.lookup, beq_self_eq_true]
    exact r
  · have q : (g == f) = false := by simpa using h
    rw [if_neg h]
    simp only [List.lookup, q]
    trivial
theorem mk_fin {X : Cx} {pins : List (Addr × Obj)} {σ : St} {H1 : Hp} {Q : XK} {s1 : Shared} {C : Addr} {f : Str} {v : V} {v' : Value} (I1 : Inv X pins σ H1 s1) (rv : RelV v v')
    (exC : W.subIn X.K (.ref C) (.type "BaseException") = some true) (tyC : W.typeIn X.K (.ref C) = some (.type "type")) (q1 : ∀ d, H1 d = none → Q (.ref C) (some d) (upd H1 d (.xd [(f, v)])))
    (mk : ∀ (R : Result → Shared → Prop), (∀ h' tk e d, OwnMade s1.heap h' e C d f v' → R (.ok (.ret (.ref e))) { s1 with heap := h', toks := tk }) → codeAny (model X.prog X.w) X.A (.call (.ref C) ⟨[v'], []⟩) R s1) :
    wpAny (model X.prog X.w) X.A (call (.ref C) [v']) (MkP X pins σ Q) X.xe s1 := by
  obtain ⟨hp, g, dr, tk, os⟩ := s1
  refine wpAny_call (mk _ fun h' tk' e d M => ?_)
  show MkP X pins σ Q (.ref e) ⟨h', g, dr, tk', os⟩
  obtain ⟨oe, fv, hoe, hc, hd, hdat, h1⟩ := M.obj
  obtain ⟨G', g1, g2⟩ := restrict h' fun b => decide (b ≠ e)
  have gk : ∀ b, b ≠ e → G'.get? b = h'.get? b := fun b hb => g1 b (decide_eq_true hb)
  have ge : G'.get? e = none := g2 e (by simp)
  have old : ∀ b o, hp.get? b = some o → G'.get? b = some o := fun b o q => (gk b (Nat.ne_of_lt (Nat.lt_of_lt_of_le (Heap.lt_size q) M.new))).trans (M.keep b o q)
  have ob : ObjOk X.prog X.w (upd H1 d (.xd [(f, v)])) G' d (.xd [(f, v)]) := ⟨_, M.ns.at (fun o q => (gk d M.dne).trans q), fun y => relO_one rv f y⟩
  have J : Inv X pins σ (upd H1 d (.xd [(f, v)])) ⟨G', g, dr, tk', os⟩ := I1.laid (t' := tk') old M.dbig ob
  refine ⟨e, oe, fv, ⟨G', g, dr, tk', os⟩, _, .ref C, some d, rfl, J, fun b o q => ?_, ge, hoe, ?_, hdat, h1, ?_, rfl, I1.bare, raises_own exC tyC, q1 d (I1.hok.fresh M.dbig)⟩
  · by_cases hb : b = e
    · have q' : G'.get? b = some o := q
      rw [hb, ge] at q'; cases q'
    · exact (gk b hb).symm.trans q
  · exact ⟨hc, hd⟩
  · rw [upd_ne (Ne.symm M.dne)]; exact I1.hok.fresh M.new
end
end XeB
end PySem

set_option Elab.async false
set_option linter.all false
set_option maxRecDepth 100000
set_option maxHeartbeats 2000000
/-! Sx8: defs that may raise; raise, try. -/
namespace Sx
open PySem L2 Evl PyProof.Rows
/-! ### calls within a try, or of a def that raises itself: the wish W of what leaves -/
section
variable {X : Cx} {CX : CXT} {k : Nat} {f C : Addr} {fd : FuncData} {ps : List Str} {sp : Sp} {E : L2.St → XK} {x m : Str} {p pos apos : Pos} {e o : Expr} {es : List Expr} {ta : TE} {t : TA}
theorem pe_callS0 (F : FnOk X.prog X.w X.K X.mg X.base CX k f fd ps sp) (hr : Room k X.A) (hg : Gl X x) (hm : X.mg x = some (.ref f)) (hk : PySem.W.keepIn X.K (.ref f) = true) (hb : Binds X.K fd ps []) (hx : ∀ σ, PassesAt CX X σ (E σ))
    (hdb : (x == ("__debug__" : Str)) = false := by decide) : PE X (.Call (.Name x p) [] [] pos) (tCallS sp E tNil) :=
  ⟨fun pins s σ H Q I h => wpAny_Call_Name_kw (ld_glob I hg hm (PySem.W.callWith_K0 I.kIn hk (run_fnS (us := []) F hr hb (hx σ) I .nil h)) hdb)⟩
def tMethS (C : Addr) (m : Str) (sp : Sp) (E : L2.St → XK) (ta : TE) (t : TA) : TE := fun σ H Q => ta σ H fun x H1 => ∃ a dx fs, x = .ref a ∧ H1 a = some (.ins C dx fs) ∧ fs.lookup m = none ∧
  t σ H1 fun vs H2 => sp (x :: vs) H2 Q (E σ)
theorem pe_methS {pl : Sem Bool} (he : PE X o ta) (c : Cls X.K C) (hm : Meth X.K C m f) (F : FnOk X.prog X.w X.K X.mg X.base CX k f fd ps sp) (hr : Room k X.A) (hb : Binds X.K fd ps []) (hx : ∀ σ, PassesAt CX X σ (E σ)) (ha : PA X (e :: es) t)
    (hst : starEach (e :: es) X.env = (false, eval e X.env) :: starEach es X.env := by rfl) (hpl : (backTo pos (starEach es X.env)).any (·.1) = false := by rfl)
    (ht : eval (.Call (.Attribute o m apos) (e :: es) [] pos) X.env = (do let ov ← eval o X.env; standAt apos.atName; let (f, first) ← holding [ov] (getMethod ov m pl); callWith pos f first (backTo pos (starEach (e :: es) X.env)) (backToKw pos (keywordEach [] X.env))) := by rfl) :
    PE X (.Call (.Attribute o m apos) (e :: es) [] pos) (tMethS C m sp E ta t) := ⟨fun pins s σ H Q I h => by
  refine PySem.W.methodCall_KW (pl := pl) (thn (he.run pins s σ H _ I h) fun u s1 ⟨y, H1, I1, ry, a, dx, fs, ey, ea, l, q⟩ => ?_) ht
  subst ey; obtain rfl : u = Value.ref a := ry
  refine getmeth_ok I1 ea c hm l (PySem.W.callWith_K (first := [.ref a]) (h₀ := X.base) I.ok.mod.kin hm.kp (thn (ha.run pos pins s1 σ H1 _ I1 q) fun us s2 ⟨vs, H2, I2, r, q2⟩ => ⟨I2.kIn, ?_⟩) hst hpl)
  exact run_fnS (us := .ref a :: us) (vs := .ref a :: vs) F hr hb (hx σ) I2 (.cons rfl r) q2⟩
theorem pe_methS0 {pl : Sem Bool} (he : PE X o ta) (c : Cls X.K C) (hm : Meth X.K C m f) (F : FnOk X.prog X.w X.K X.mg X.base CX k f fd ps sp) (hr : Room k X.A) (hb : Binds X.K fd ps []) (hx : ∀ σ, PassesAt CX X σ (E σ))
    (ht : eval (.Call (.Attribute o m apos) [] [] pos) X.env = (do let ov ← eval o X.env; standAt apos.atName; let (f, first) ← holding [ov] (getMethod ov m pl); callWith pos f first (backTo pos (starEach [] X.env)) (backToKw pos (keywordEach [] X.env))) := by rfl) :
    PE X (.Call (.Attribute o m apos) [] [] pos) (tMethS C m sp E ta tNil) := ⟨fun pins s σ H Q I h => by
  refine PySem.W.methodCall_KW (pl := pl) (thn (he.run pins s σ H _ I h) fun u s1 ⟨y, H1, I1, ry, a, dx, fs, ey, ea, l, q⟩ => ?_) ht
  subst ey; obtain rfl : u = Value.ref a := ry
  refine getmeth_ok I1 ea c hm l (PySem.W.callWith_K0 I1.kIn hm.kp ?_)
  exact run_fnS (us := [.ref a]) (vs := [.ref a]) F hr hb (hx σ) I1 (.cons rfl .nil) q⟩
def tMakeS (C : Addr) (sp : Sp) (E : L2.St → XK) (t : TA) : TE := fun σ H Q => t σ H fun vs H1 => ∀ x dx, H1 x = none → H1 dx = none → dx ≠ x →
  sp (.ref x :: vs) (upd (upd H1 dx (.own x)) x (.ins C dx [])) (fun v H2 => v = .non ∧ Q (.ref x) H2) (E σ)
theorem run_makeS {pins : List (Addr × Obj)} {σ : L2.St} {H : Hp} {s : Shared} {Q : VK} {us : List Value} {vs : List V} (M : Mk X.K C f) (F : FnOk X.prog X.w X.K X.mg X.base CX k f fd ps sp) (hr : Room (k + 1) X.A) (hb : Binds X.K fd ps [])
    (hx : PassesAt CX X σ (E σ)) (I : Inv X pins σ H s) (r : Vals vs us)
    (h : ∀ x dx, H x = none → H dx = none → dx ≠ x → sp (.ref x :: vs) (upd (upd H dx (.own x)) x (.ins C dx [])) (fun v H2 => v = .non ∧ Q (.ref x) H2) (E σ)) :
    wpAny (model X.prog X.w) X.A (call (.ref C) us) (EP X pins σ Q) X.xe s := by
  have z1 := Nat.le_succ s.heap.objs.size
  have hq := h (s.heap.objs.size + 1) s.heap.objs.size (I.hok.fresh z1) (I.hok.fresh (Nat.le_refl _)) (Nat.ne_of_lt (Nat.lt_succ_self _))
  have J := Inv.made (C := C) I
  have r2 : Vals (V.ref (s.heap.objs.size + 1) :: vs) (Value.ref (s.heap.objs.size + 1) :: us) := .cons rfl r
  have hl : (Value.ref (s.heap.objs.size + 1) :: us ++ []).length = ps.length := by
    rw [List.append_nil, ← r2.length]; exact F.len _ _ _ _ hq
  have b := hb _ (Value.ref (s.heap.objs.size + 1) :: us) J.kIn hl
  rw [List.append_nil] at b
  refine wpAny_call (make_map (f := f) I.kIn M.makes M.init (beq_iff_eq.mp M.fn) (codeAny_mono (F.run _ X.stack _ _ ⟨Value.ref (s.heap.objs.size + 1) :: us, []⟩ _ _ _ (E σ) (hr.make C us []) (J.env0.make C us []) b r2 hq) fun r s' hq' => ?_))
  match r, hq' with
  | .error e, hq' => exact hx pins _ _ e s' J hq'
  | .ok (.ret u), hq' =>
    obtain ⟨v, H', I3, rv, ev, q3⟩ := J.after hq'
    subst ev
    exact ⟨rv, ⟨V.ref (s.heap.objs.size + 1), H', I3, rfl, q3⟩⟩
  | .ok .next, hq' => exact False.elim hq'
  | .ok .brk, hq' => exact False.elim hq'
  | .ok .cont, hq' => exact False.elim hq'
theorem pe_makeS (M : Mk X.K C f) (F : FnOk X.prog X.w X.K X.mg X.base CX k f fd ps sp) (hr : Room (k + 1) X.A) (hg : Gl X x) (hm : X.mg x = some (.ref C)) (hb : Binds X.K fd ps []) (hx : ∀ σ, PassesAt CX X σ (E σ))
    (ha : PA X (e :: es) t) (hdb : (x == ("__debug__" : Str)) = false := by decide) (he : starEach (e :: es) X.env = (false, eval e X.env) :: starEach es X.env := by rfl) (hpl : (backTo pos (starEach es X.env)).any (·.1) = false := by rfl) :
    PE X (.Call (.Name x p) (e :: es) [] pos) (tMakeS C sp E t) :=
  ⟨fun pins s σ H Q I h => wpAny_Call_Name_kw (ld_glob I hg hm (PySem.W.callWith_K (h₀ := X.base) I.ok.mod.kin M.kp (thn (ha.run pos pins s σ H _ I h) fun us s1 ⟨vs, H1, I1, r, q⟩ => ⟨I1.kIn, run_makeS M F hr hb (hx σ) I1 r q⟩) he hpl) hdb)⟩
end
/-! ### the wish, told by descriptions -/
def cX (f : Str) (y : VD) : CD := ⟨fun F p o => F p = none ∧ ∃ v, o = .xd [(f, v)] ∧ y.P F v, fun e q ⟨h0, v, h1, h2⟩ => ⟨q.trans h0, v, h1, y.mono e h2⟩⟩
abbrev W0 : WX := fun _ _ _ _ => False
abbrev PXT := Env → Addr → Str → VD → Cells → Prop
/-- W is content with the exceptions that PE tells -/
def RtX (W : WX) (Φ : Fr) (PE : PXT) : Prop := ∀ Φ' ρ σ C f y dd M H, Le Φ' Φ → PE ρ C f y M → Sat Φ' ρ ((dd, cX f y) :: M) σ H → W (.ref C) (some dd) σ H
/-- an expression below a frame, several outcomes -/
def EvL (Φ0 : Fr) (te : TE) (ρ : Env) (M : Cells) (P : VD → Cells → Prop) : Prop := ∀ (Φ : Fr) (σ : L2.St) (H : Hp) (Q : VK), Le Φ Φ0 → Sat Φ ρ M σ H → (∀ x M' v H', P x M' → Sat (Φ.and x v) ρ M' σ H' → Q v H') → te σ H Q
/-- a def that may raise: its promise -/
abbrev XSpec := List VD → Cells → (VD → Cells → Prop) → (Addr → Str → VD → Cells → Prop) → Prop
def spX (n : Nat) (S : XSpec) : Sp := fun vs H Q E => ∃ (Φ : Fr) (ρ : Env) (σ : L2.St) (ds : List VD) (M : Cells) (P : VD → Cells → Prop) (PE : Addr → Str → VD → Cells → Prop), Sat (Φ.andA ds vs) ρ M σ H ∧ vs.length = n ∧ S ds M P PE ∧
  (∀ x M' v H', P x M' → Sat (Φ.and x v) ρ M' σ H' → Q v H') ∧ ∀ C f y dd M' H', PE C f y M' → Sat Φ ρ ((dd, cX f y) :: M') σ H' → E (.ref C) (some dd) H'
theorem spX_len {n : Nat} {S : XSpec} {vs : List V} {H : Hp} {Q : VK} {E : XK} (h : spX n S vs H Q E) : vs.length = n := let ⟨_, _, _, _, _, _, _, _, e, _⟩ := h; e
section
variable {K : PySem.W.Frag} {ρ ρ' ρ1 : Env} {M M1 M2 M' : Cells} {x y z : VD} {te ta tb : TE} {t : TA} {C p : Addr} {f : Str} {Φ Ψ : Fr} {D : Ends} {Q : VK} {P : VD → Cells → Prop} {PE : PXT} {W : WX} {n : Nat} {ds : List VD}
theorem EvR.l (h : EvR te ρ M P) : EvL Φ te ρ M P := fun Φ' σ H Q _ s q => h Φ' σ H Q s q
theorem Ev.l (h : Ev te ρ M x M') (hp : P x M') : EvL Φ te ρ M P := fun Φ' σ H Q _ s q => h Φ' σ H Q s fun v H' s' => q x M' v H' hp s'
theorem EvL.imp {P' : VD → Cells → Prop} (h : EvL Φ te ρ M P) (k : ∀ x M', P x M' → P' x M') : EvL Φ te ρ M P' := fun Φ' σ H Q l s q => h Φ' σ H Q l s fun x M' v H' hp s' => q x M' v H' (k x M' hp) s'
theorem EvL.le (h : EvL Φ te ρ M P) (l : Le Ψ Φ) : EvL Ψ te ρ M P := fun Φ' σ H Q l' s q => h Φ' σ H Q (l'.trans l) s q
theorem rtx0 : RtX W0 Φ (fun _ _ _ _ _ => False) := fun _ _ _ _ _ _ _ _ _ _ z _ => z.elim
theorem RtX.le (h : RtX W Φ PE) (l : Le Ψ Φ) : RtX W Ψ PE := fun Φ' ρ σ C f y dd M H l' hp s => h Φ' ρ σ C f y dd M H (l'.trans l) hp s
theorem evl_call {S : XSpec} {PE' : Addr → Str → VD → Cells → Prop} (ha : EvA t ρ M ds M1) (hn : ds.length = n) (hS : S ds M1 P PE') (hX : RtX W Φ PE) (hP : ∀ C f y M', PE' C f y M' → PE ρ C f y M') : EvL Φ (tCallS (spX n S) (WE W) t) ρ M P := fun Φ' σ H Q l s q =>
  ha Φ' σ H _ s fun vs H1 s1 => ⟨Φ', ρ, σ, ds, M1, P, PE', s1, let ⟨F, s2⟩ := s1; (Paired.length s2.fr.2).symm.trans hn, hS, fun x M' v H' hp s' => q x M' v H' hp s', fun C f y dd M' H' hp s' => hX Φ' ρ σ C f y dd M' H' l (hP C f y M' hp) s'⟩
theorem evl_meth {m : Str} {S : XSpec} {PE' : Addr → Str → VD → Cells → Prop} {ns : List Str} {xs : List VD} (ho : Ev ta ρ M (val (.ref p)) M1) (hc : (p, cI C ns xs) ∈ M1) (hno : ¬ m ∈ ns) (ha : EvA t ρ M1 ds M2) (hn : ds.length + 1 = n) (hS : S (val (.ref p) :: ds) M2 P PE') (hX : RtX W Φ PE) (hP : ∀ C f y M', PE' C f y M' → PE ρ C f y M') : EvL Φ (tMethS C m (spX n S) (WE W) ta t) ρ M P := fun Φ' σ H Q l s q =>
  ho Φ' σ H _ s fun v H1 s1 => by
    have ⟨F, z⟩ := s1
    have e : v = .ref p := z.fr.2
    subst e
    obtain ⟨o, h1, h0, dx, fs, rfl, h3⟩ := z.at hc
    refine ⟨p, dx, fs, rfl, h1, h3.lookup_none hno, ha _ σ H1 _ s1 fun vs H2 s2 => ?_⟩
    have s3 : Sat (Φ'.andA (val (.ref p) :: ds) (.ref p :: vs)) ρ M2 σ H2 := s2.weak (.of rfl fun F p => ⟨p.1.1, .cons p.1.2 p.2⟩)
    exact ⟨Φ', ρ, σ, _, M2, P, PE', s3, let ⟨F, s2⟩ := s3; (Paired.length s2.fr.2).symm.trans hn, hS, fun x M' v H' hp s' => q x M' v H' hp s', fun C f y dd M' H' hp s' => hX Φ' ρ σ C f y dd M' H' l (hP C f y M' hp) s'⟩
theorem evl_make {S : XSpec} {PE' : Addr → Str → VD → Cells → Prop} (h : EvA t ρ M ds M1) (hn : ds.length + 1 = n) (hS : ∀ p, S (val (.ref p) :: ds) ((p, cI C [] []) :: M1) (fun y M' => y = vn ∧ P (val (.ref p)) M') PE') (hX : RtX W Φ PE) (hP : ∀ C f y M', PE' C f y M' → PE ρ C f y M') : EvL Φ (tMakeS C (spX n S) (WE W) t) ρ M P := fun Φ' σ H Q l s q =>
  h Φ' σ H _ s fun vs H1 s1 => fun x dx hx hdx hne => by
    have ⟨F, s2⟩ := s1
    have hl := Paired.length s2.fr.2
    have s3 := (s2.newH (o := .own x) hdx).newC (c := cI C [] []) (o := .ins C dx []) (p := x) (by rw [upd_ne hne.symm]; exact hx) fun e => ⟨e, dx, [], rfl, rfl, .nil⟩
    refine ⟨Φ', ρ, σ, val (.ref x) :: ds, (x, cI C [] []) :: M1, fun y M' => y = vn ∧ P (val (.ref x)) M', PE', ⟨F, s3.weak (.of rfl fun F h => ⟨h.1, .cons rfl h.2⟩)⟩, by rw [List.length_cons, ← hl]; exact hn, hS x, fun y M' v H' hp s' => ?_, fun C f y dd M' H' hp s' => hX Φ' ρ σ C f y dd M' H' l (hP C f y M' hp) s'⟩
    obtain ⟨rfl, hp⟩ := hp
    have ⟨F', s5⟩ := s'
    refine ⟨?_, q (val (.ref x)) M' (.ref x) H' hp ⟨F', s5.ex, ⟨s5.fr.1, rfl⟩, s5.sl, s5.nd, s5.ce⟩⟩
    have e : Rp F' v .none := s5.fr.2
    cases e
    rfl
/-! ### statements -/
theorem c_asgL {i : Nat} (h : EvL Φ te ρ M P) (k : ∀ x M1, P x M1 → ∃ ρ', SetAt x ρ i ρ' ∧ Cont D.nx Φ ρ' M1) : Cont (tAsg te (gName i) D) Φ ρ M := fun σ H s => h Φ σ H _ (.refl _) s fun x M1 v H1 p s1 => by
  obtain ⟨ρ', hs, k⟩ := k x M1 p
  exact k _ _ (s1.asg hs)
theorem c_dropL (h : EvL Φ te ρ M P) (k : ∀ x M1, P x M1 → Cont D.nx Φ ρ M1) : Cont (tDrop te D) Φ ρ M := fun σ H s => h Φ σ H _ (.refl _) s fun x M1 v H1 p s1 => k x M1 p σ H1 s1.weak1
theorem c_retL {P' : VD → Cells → Prop} (h : EvL Ψ te ρ M P') (hQ : RtQ D.rt Φ P) (hP : ∀ x M1, P' x M1 → P x M1) (l : Le Ψ Φ) : Cont (tRet te D) Ψ ρ M := fun σ H s => h Ψ σ H _ (.refl _) s fun x M1 v H1 p s1 => hQ Ψ ρ σ x M1 v H1 l (hP x M1 p) s1
def tRaise (C : Addr) (f : Str) (W : WX) (t : TA) : TS := fun _ σ H => XeB.tMk C f t σ H fun cls d H' => W cls d σ H'
theorem c_raise (h : EvA t ρ M [y] M1) (hX : RtX W Φ PE) (hP : PE ρ C f y M1) (l : Le Ψ Φ) : Cont (tRaise C f W t D) Ψ ρ M := fun σ H s => h Ψ σ H _ s fun vs H1 s1 => by
  have ⟨F, z⟩ := s1
  obtain ⟨v, rfl, hv⟩ := rc1 (ds := []) z.fr.2
  refine ⟨v, rfl, fun d hd => ?_⟩
  have z2 := z.newC (c := cX f y) (o := .xd [(f, v)]) hd fun e => ⟨e, v, rfl, hv⟩
  exact hX Ψ ρ σ C f y d M1 _ l hP ⟨F, z2.ex, z2.fr.1, z2.sl, z2.nd, z2.ce⟩
theorem Sat.unset {σ : L2.St} {H : Hp} (s : Sat Φ ρ M σ H) (i : Nat) : Sat Φ (ρ.set i none) M (σ.set i none) H := let ⟨F, s⟩ := s
  ⟨F, s.ex, s.fr, ⟨by rw [List.length_set, List.length_set]; exact s.sl.1, fun j x e => by
    rw [List.getElem?_set] at e
    by_cases h : i = j
    · rw [if_pos h] at e
      split at e <;> cases e
    · rw [if_neg h] at e
      rw [List.getElem?_set, if_neg h]
      exact s.sl.2 j x e⟩, s.nd, s.ce⟩
theorem c_unset {k : L2.St → Hp → Prop} {i : Nat} (c : Cont k Φ (ρ.set i none) M) : Cont (fun σ' H' => k (σ'.set i none) H') Φ ρ M := fun σ H s => c _ H (s.unset i)
abbrev tTryAs (K : PySem.W.Frag) (c : Value) (i : Nat) (ts : Addr → Value → Option Addr → TS) (Wout : WX) (tb : WX → TS) : TS := fun D σ H => tb (wAs K c i ts Wout D) D σ H
abbrev sEnds (D : Ends) (i : Nat) : Ends := { nx := fun σ' H' => D.nx (σ'.set i none) H', rt := D.rt, bk := fun σ' H' => D.bk (σ'.set i none) H', ct := fun σ' H' => D.ct (σ'.set i none) H' }
theorem c_tryAs {i : Nat} {c : Value} {ts : Addr → Value → Option Addr → TS} {Wout : WX} {tb : WX → TS} (PE : PXT) (hb : ∀ W, RtX W Φ PE → Cont (tb W D) Φ ρ M)
    (hs : ∀ Ψ ρ' C f y M' dd, Le Ψ Φ → PE ρ' C f y M' → PySem.W.exmOne K (.ref C) c = some true ∧ ∀ a, Cont (ts a (.ref C) (some dd) (sEnds D i)) Ψ (ρ'.set i (some (val (.ref a)))) ((dd, cX f y) :: M')) : Cont (tTryAs K c i ts Wout tb D) Φ ρ M :=
  hb (wAs K c i ts Wout D) fun Ψ ρ' σ C f y dd M' H l hp s => by
    obtain ⟨h1, h2⟩ := hs Ψ ρ' C f y M' dd l hp
    refine ⟨true, h1, fun _ a _ => h2 a _ _ ?_, fun z => Bool.noConfusion z⟩
    have ⟨F, z⟩ := s
    exact ⟨F, z.ex, z.fr, z.sl.set (x := val (.ref a)) (v := .ref a) rfl, z.nd, z.ce⟩
/-- the caught one's field -/
theorem ev_xf {a dd : Addr} (h : Ev te ρ M (val (.ref a)) M1) (hm : (dd, cX f y) ∈ M1) : Ev (tXf a (.ref C) (some dd) C f te) ρ M y M1 := fun Φ σ H Q s q => h Φ σ H _ s fun v H1 s1 => by
  have ⟨F, z⟩ := s1
  obtain ⟨o, k1, k0, w, rfl, k3⟩ := z.at hm
  refine ⟨z.fr.2, rfl, dd, _, w, rfl, k1, ?_, q _ _ (Sat.ret (z.weak Le.and) k3)⟩
  simp [List.lookup]
theorem fn_startX {n : Nat} {S : XSpec} {vs : List V} {H : Hp} {Q : VK} {E : XK} {t : WX → TS} {N : List Str} (h : spX n S vs H Q E)
    (k : ∀ W ds M P PE Φ, ds.length = n → S ds M P PE → RtQ Q Φ P → RtX W Φ (fun _ => PE) → Cont (t W (fnD Q)) Φ (entry N ds) M) : t (fun cls d _ H => E cls d H) { nx := fun _ H' => Q .non H', rt := Q } (L2.start N vs) H := by
  obtain ⟨Φ, ρ, σ, ds, M, P, PE, s, e, hS, hq, hx⟩ := h
  have ⟨F, s0⟩ := s
  refine k _ ds M P PE (Φ.slots σ ρ) ((Paired.length s0.fr.2).trans e) hS (fun Φ' ρ' σ' x M' v H' l hp s' => ?_) (fun Φ' ρ' σ' C f y dd M' H' l hp s' => ?_) _ _ ⟨F, s0.ex, ⟨s0.fr.1, s0.sl⟩, slots_entry s0.fr.2, s0.nd, s0.ce⟩
  · have s2 := s'.weak (Ψ := (Φ.slots σ ρ).and x v) ⟨l.n, fun F h => ⟨l.p F h.1, h.2⟩⟩
    have ⟨F', s3⟩ := s2
    exact hq x M' v H' hp ⟨F', s3.ex, ⟨s3.fr.1.1, s3.fr.2⟩, s3.fr.1.2, s3.nd, s3.ce⟩
  · have s2 := s'.weak l
    have ⟨F', s3⟩ := s2
    exact hx C f y dd M' H' hp ⟨F', s3.ex, s3.fr.1, s3.fr.2, s3.nd, s3.ce⟩
end
end Sx

set_option Elab.async false
set_option linter.all false
set_option maxRecDepth 100000
set_option maxHeartbeats 2000000
/-! Sx9: isinstance, a star in a display, a list's place set, dict displays, str(n), dict(rows). -/
namespace Sx
open PySem L2 Evl StX
section
variable {K : PySem.W.Frag} {ρ ρ' ρ1 : Env} {M M1 M2 M3 M4 M' : Cells} {x y z : VD} {te ta tb ty tv : TE} {t : TA} {p : Addr} {Φ : Fr} {D : Ends} {P : VD → Cells → Prop} {ds es : List VD}
/-! ### isinstance of data -/
def tyD : PyData → String
  | .none => "NoneType"
  | .bool _ => "bool"
  | .int _ => "int"
  | .str _ => "str"
  | .list _ => "list"
  | .tuple _ => "tuple"
  | .dict _ => "dict"
theorem rc_isi {d : PyData} {c : String} {b : Bool} (h : kitB (tyD d) c = some b) : RC (rIsi K) [dat d, val (.ty c)] M (dat (.bool b)) M := fun Φ ρ σ vs H Q ⟨F, s⟩ q => by
  obtain ⟨v, w, rfl, h1, h2⟩ := rc2 s.fr.2
  have e2 : w = .ty c := h2
  subst e2
  refine ⟨v, _, .type (tyD d), .type c, b, rfl, .ty c, .base ?_, kit_ty h, q _ _ (Sat.ret (s.weak Le.andA) (.bl b))⟩
  cases h1 with
  | non => exact .non
  | bl b => exact .bl _
  | int i => exact .int _
  | str x => exact .str _
  | lst h1 h2 => exact .lst (s.ex _ _ h1)
  | tup h1 h2 => exact .tup (s.ex _ _ h1)
/-! ### (*xs, y) -/
theorem ea_starT {ds' : List PyData} (h : Ev te ρ M x M1) (hx : IsTup x M1 ds') (hr : EvA t ρ M1 es M2) : EvA (tStar K te t) ρ M (ds'.map dat ++ es) M2 := fun Φ σ H Q s q => h Φ σ H _ s fun v H1 s1 => by
  have ⟨F, z⟩ := s1
  obtain ⟨a, ws, rfl, h1, h2⟩ := hx z z.fr.2
  refine ⟨a, ws, rfl, .inl (st_of h1), ?_⟩
  have s2 : Sat (Φ.andA (ds'.map dat) ws) ρ M1 σ H1 := ⟨F, z.ex, ⟨z.fr.1, DA.of_dat.mpr h2⟩, z.sl, z.nd, z.ce⟩
  exact hr _ σ H1 _ s2 fun vs H2 s3 => q _ _ (s3.weak (.of rfl fun F p => ⟨p.1.1, DA.append p.1.2 p.2⟩))
/-! ### xs[i] = v -/
theorem c_setL {xs : List VD} {k : Int} {j : Nat} (hv : Ev te ρ M x M1) (ho : Ev ta ρ M1 (val (.ref p)) M2) (hi : Ev tb ρ M2 (dat (.int k)) M3) (hj : ixN xs.length k = some j) (hp : Put p (cL xs) (cL (xs.set j x)) M3 M4) (kk : Cont D.nx Φ ρ M4) :
    Cont (tAsg te (gSub ta tb rSetL) D) Φ ρ M := fun σ H s => hv Φ σ H _ s fun v H1 s1 => ho _ σ H1 _ s1 fun w H2 s2 => hi _ σ H2 _ s2 fun u H3 s3 => by
  have ⟨F, z⟩ := s3
  have e1 : w = .ref p := z.fr.1.2
  cases z.fr.2
  subst e1
  obtain ⟨o, k1, k0, ws, rfl, k3⟩ := z.at hp.mem
  refine ⟨p, ws, k, j, rfl, rfl, k1, by rw [← Paired.length k3]; exact hj, kk σ _ ⟨F, ?_⟩⟩
  exact (z.put1 (o := .lst (ws.set j v)) hp k0 ⟨k0, _, rfl, DA.set z.fr.1.1.2 j k3⟩).weak (.of rfl fun F h => h.1.1.1)
theorem c_setLd {xs : List PyData} {d : PyData} {k : Int} {j : Nat} (hv : Ev te ρ M (dat d) M1) (ho : Ev ta ρ M1 (val (.ref p)) M2) (hi : Ev tb ρ M2 (dat (.int k)) M3) (hj : ixN xs.length k = some j) (hp : Put p (cLd xs) (cLd (xs.set j d)) M3 M4) (kk : Cont D.nx Φ ρ M4) :
    Cont (tAsg te (gSub ta tb rSetL) D) Φ ρ M := fun σ H s => hv Φ σ H _ s fun v H1 s1 => ho _ σ H1 _ s1 fun w H2 s2 => hi _ σ H2 _ s2 fun u H3 s3 => by
  have ⟨F, z⟩ := s3
  have e1 : w = .ref p := z.fr.1.2
  cases z.fr.2
  subst e1
  obtain ⟨o, k1, k0, ws, rfl, k3⟩ := z.at hp.mem
  refine ⟨p, ws, k, j, rfl, rfl, k1, by rw [k3.length]; exact hj, kk σ _ ⟨F, ?_⟩⟩
  have r : RpL F (ws.set j v) (xs.set j d) := by
    have := DA.set (d := dat d) z.fr.1.1.2 j (DA.of_dat.mpr k3)
    rw [← List.map_set] at this
    exact DA.of_dat.mp this
  exact (z.put1 (o := .lst (ws.set j v)) hp k0 ⟨k0, _, rfl, r⟩).weak (.of rfl fun F h => h.1.1.1)
theorem ed_starT {ds' es' : List PyData} (h : Ev te ρ M x M1) (hx : IsTup x M1 ds') (hr : EvD t ρ M1 es' M2) : EvD (tStar K te t) ρ M (ds' ++ es') M2 := by
  have := ea_starT (K := K) h hx hr
  rw [← List.map_append] at this
  exact this
/-! ### a dict with texts as keys -/
theorem valG_here {β : Type} {k : L2.Key} {y : β} {l : List (L2.Key × β)} : valG ((k, y) :: l) k = some y := by rw [valG_cons, if_pos rfl]
theorem ev_dgetS {td : TE} {kvs : List (L2.Key × VD)} {k : Str} (hd : Ev td ρ M x M1) (hk : Ev ty ρ M1 (dat (.str k)) M2) (h2 : IsDi x M2 kvs) (hv : valG kvs (.inr k) = some y) : Ev (tDGet td ty) ρ M y M2 := ev_dget (k := .inr k) hd hk h2 hv
theorem c_dputS {td : TE} {kvs kvs' : List (L2.Key × VD)} {k : Str} (hv : Ev tv ρ M x M1) (hd : Ev td ρ M1 (val (.ref p)) M2) (hk : Ev ty ρ M2 (dat (.str k)) M3) (hp : Put p (cD kvs) (cD kvs') M3 M4) (he : putG kvs (.inr k) x = kvs') (hl : kvs.length < sizeLine) (c : Cont D.nx Φ ρ M4) :
    Cont (sDPut td ty tv D) Φ ρ M := c_dput (k := .inr k) hv hd hk (he ▸ hp) hl c
/-! ### dict displays -/
theorem SatF.inN {F : Hp} {σ : L2.St} {H : Hp} {c : Addr × CD} (s : SatF F Φ ρ (c :: M) σ H) : SatF F (Φ.more c) ρ M σ H := by
  have hp : (M ++ (Φ.more c).N).Perm (c :: (M ++ Φ.N)) := List.perm_middle
  exact ⟨s.ex, s.fr, s.sl, (hp.map (·.1)).nodup_iff.mpr s.nd, fun d hd => s.ce d (hp.mem_iff.mp hd)⟩
theorem SatF.outN {F : Hp} {σ : L2.St} {H : Hp} {c : Addr × CD} (s : SatF F (Φ.more c) ρ M σ H) : SatF F Φ ρ (c :: M) σ H := by
  have hp : (M ++ (Φ.more c).N).Perm (c :: (M ++ Φ.N)) := List.perm_middle
  exact ⟨s.ex, s.fr, s.sl, (hp.map (·.1)).nodup_iff.mp s.nd, fun d hd => s.ce d (hp.mem_iff.mpr hd)⟩
def Fr.andP (Φ : Fr) (kvs : List (L2.Key × VD)) (ps : List (V × V)) : Fr := ⟨Φ.N, fun F => Φ.P F ∧ ∃ vs : List (L2.Key × V), ps = vs.map (fun kv => (kV kv.1, kv.2)) ∧ DP F kvs vs, fun e ⟨h, vs, h1, h2⟩ => ⟨Φ.mono e h, vs, h1, h2.mono e⟩⟩
def EvPs (trs : List (TE × TE)) (ρ : Env) (M : Cells) (kvs : List (L2.Key × VD)) (M' : Cells) : Prop := ∀ (Φ : Fr) (σ : L2.St) (H : Hp) (Q : List (V × V) → Hp → Prop), Sat Φ ρ M σ H → (∀ ps H', Sat (Φ.andP kvs ps) ρ M' σ H' → Q ps H') → tPairs trs σ H Q
theorem ep_nil : EvPs [] ρ M [] M := fun Φ σ H Q ⟨F, s⟩ q => q [] H ⟨F, s.ex, ⟨s.fr, [], rfl, .nil⟩, s.sl, s.nd, s.ce⟩
theorem ep_cons {trs : List (TE × TE)} {k : L2.Key} {kvs : List (L2.Key × VD)} (hk : Ev ta ρ M (dat (kD k)) M1) (hv : Ev tb ρ M1 x M2) (hr : EvPs trs ρ M2 kvs M3) : EvPs ((ta, tb) :: trs) ρ M ((k, x) :: kvs) M3 := fun Φ σ H Q s q =>
  hk Φ σ H _ s fun v H1 s1 => hv _ σ H1 _ s1 fun w H2 s2 => hr _ σ H2 _ s2 fun ps H3 s3 => q _ H3 (by
    have e : v = kV k := let ⟨F, z⟩ := s3; kv_of z.fr.1.1.2
    subst e
    exact s3.weak (.of rfl fun F h => ⟨h.1.1.1, let ⟨vs, h1, h2⟩ := h.2; ⟨(k, w) :: vs, by rw [h1]; rfl, .cons ⟨rfl, h.1.2⟩ h2⟩⟩))
theorem er_disp {trs : List (TE × TE)} {kvs : List (L2.Key × VD)} (h : EvPs trs ρ M kvs M1) (hl : kvs.length ≤ 15) : EvR (tDisp trs) ρ M fun y M' => ∃ p, y = val (.ref p) ∧ M' = (p, cD (mergeG [] kvs)) :: M1 := fun Φ σ H Q ⟨F, s⟩ q => fun p hp =>
  h (Φ.more (p, cD [])) σ _ _ ⟨F, (s.newC (c := cD []) (o := .dK []) hp fun e => ⟨e, [], rfl, .nil⟩).inN⟩ fun ps H2 ⟨F2, z⟩ => by
    obtain ⟨vs, e1, e2⟩ := z.fr.2
    have z1 : SatF F2 (Φ.more (p, cD [])) ρ M1 σ H2 := ⟨z.ex, z.fr.1, z.sl, z.nd, z.ce⟩
    have z2 := z1.outN
    obtain ⟨o, k1, k0, ws, rfl, k3⟩ := z2.at List.mem_cons_self
    cases k3
    refine ⟨k1, vs, e1, by rw [← e2.len]; exact hl, ?_⟩
    have z3 := z2.put1 (o := .dK (mergeK [] vs)) (c' := cD (mergeG [] kvs)) .here k0 ⟨k0, _, rfl, DP.merge e2 .nil⟩
    exact q _ _ _ _ ⟨p, rfl, rfl⟩ ⟨F2, z3.ex, ⟨z3.fr, rfl⟩, z3.sl, z3.nd, z3.ce⟩
/-! ### str(n) -/
abbrev rStrInt : List V → Hp → VK → Prop := fun xs H Q => ∃ i, xs = [.int i] ∧ i.natAbs.log2 < 1920 ∧ Q (.str (toString i)) H
theorem call_str_int' {X : Cx} : CallR X (.type "str") rStrInt := call_str_int
theorem rc_strI {i : Int} (h : i.natAbs.log2 < 1920) : RC rStrInt [dat (.int i)] M (dat (.str (toString i))) M := fun Φ ρ σ vs H Q ⟨F, s⟩ q => by
  obtain ⟨v, rfl, h1⟩ := rc1 (ds := []) s.fr.2
  cases h1
  exact ⟨i, rfl, h, q _ _ (Sat.ret (s.weak Le.andA) (.str _))⟩
end
end Sx

set_option Elab.async false
set_option linter.all false
set_option maxRecDepth 100000
set_option maxHeartbeats 2000000
namespace PySem
/-! ### the own exception BadName: its __init__ says super().__init__(..) and keeps name -/
namespace XeBadName
open PySem.W PySem.Calls PyProof.Rows PySem.HandSPX PySem.ESX
def iA : Arguments := { posonlyargs := [], args := [{ arg := "self", annotation := none, pos := ⟨6, 17, 6, 21⟩ }, { arg := "name", annotation := none, pos := ⟨6, 23, 6, 27⟩ }], vararg := none, kwonlyargs := [], kw_defaults := [], kwarg := none, defaults := [] }
def iB : List Stmt := [.Expr (.Call (.Attribute (.Call (.Name "super" ⟨7, 8, 7, 13⟩) [] [] ⟨7, 8, 7, 15⟩) "__init__" ⟨7, 8, 7, 24⟩) [.Constant (.str "a bad name") 0 ⟨7, 25, 7, 37⟩] [] ⟨7, 8, 7, 38⟩) ⟨7, 8, 7, 38⟩, .Assign [.Attribute (.Name "self" ⟨8, 8, 8, 12⟩) "name" ⟨8, 8, 8, 17⟩] (.Name "name" ⟨8, 20, 8, 24⟩) ⟨8, 8, 8, 24⟩]
def iS : Scope := { kind := .function, names := [(PySem.Str.ofString "self", .local), (PySem.Str.ofString "name", .local), (PySem.Str.ofString "__class__", .free), (PySem.Str.ofString "super", .globalImplicit)], isGenerator := false, isCoroutine := false, more := [] }
/-- what the written part says of the class, at C (over the one at D), and of its __init__, at fI -/
structure Txt (P : Program) (K : Frag) (mg : Str → Option Value) (C D fI : Addr) : Prop where
  gC : mg "BadName" = some (.ref C)
  cls : ∃ nm q N bs sn sub ab col dd k0 k1 k2 k3 k5, K.lookup C = some (excClassObj nm q C N bs (.ref D :: exTail) true sn sub ab col dd k0 k1 k2 k3 k5 "Exception.__new__")
  sa : findIn K (.ref C) "__setattr__" = some (some (.builtin "object.__setattr__"))
  xf : L2.XfC K C
  noN : findIn K (.ref C) "name" = some none
  iC : findIn K (.ref C) "__init__" = some (some (.ref fI))
  tC : typeIn K (.ref fI) = some (.type "function")
  kC : keepIn K (.ref C) = true
  exC : subIn K (.ref C) (.type "BaseException") = some true
  tyC : typeIn K (.ref C) = some (.type "type")
  te : exmOne K (.ref C) (.ref C) = some true
  sup : mg "super" = none
  opq : nsIn K cStatics "thirdparty.any" = some none
  al : ks_superIn K C C "__init__" = some (some (.builtin "Exception.__init__"))
  top : (P.main.scope.names.lookup ("super" : Str)).isSome = false
  fn : ∃ (oc : Value) (od : Option Addr) (doc pm : Value) (an : Option Addr) (cda cc : Addr) (ct : Value) (osl : Array (Option Value)) (cl : Value) (cld : Option Addr) (csl : Array (Option Value)) (ccl : Value) (cdd : Option Addr) (vs : Array Value) (ccs : Array (Option Value)) (file : Str) (tf : Tok),
    K.lookup fI = some ⟨oc, od, .func (ksFn "__init__" "BadName.__init__" iA iB iS .none .none doc pm an (.ref cda) ct cc), osl⟩ ∧ codeIn K (.ref cda) "BadName.__init__" = true ∧
    K.lookup cc = some ⟨cl, cld, .cell (some (.ref C)), csl⟩ ∧ K.lookup cda = some ⟨ccl, cdd, .fields vs, ccs⟩ ∧ vs[2]? = some (.str file tf) ∧ ((P.main.file : Str) == file) = true
/-- what __init__ leaves of a fresh exception at x -/
structure InitEnd (h h' : Heap) (x C dx t1 : Addr) (v : Value) : Prop where
  keep : ∀ b o, b ≠ x → h.get? b = some o → h'.get? b = some o
  obj : h'.get? x = some { cls := .ref C, dict := some dx, data := .fields #[.ref t1, .none, .none, .none, .bool false, .none] }
  dbig : h.objs.size ≤ dx
  dne : dx ≠ x
  ns : h'.Ns1 dx (fun y => if y = "name" then some v else none)
section
variable {prog : Program} {w : World} {A : Around} {E : Value → Shared → Prop} {R : Result → Shared → Prop} {s : Shared} {K : Frag} {mg : Str → Option Value} {C D fI : Addr}
theorem own_init (T : Txt prog K mg C D fI) {x t0 : Addr} {v : Value} (M0 : L2.Mod K mg s.heap) (hx : s.heap.get? x = some (excO C t0)) (hnx : K.lookup x = none) (hroom : A.depth < recursionLimit)
    (hq : ∀ h' tk dx t1, InitEnd s.heap h' x C dx t1 v → R (.ok (.ret .none)) { s with heap := h', toks := tk }) :
    codeAny (model prog w) A (.call (.ref fI) ⟨[.ref x, v], []⟩) R s := by
  obtain ⟨oc, od, doc, pm, an, cda, cc, ct, osl, cl, cld, csl, ccl, cdd, vs, ccs, file, tf, ho, hcd, hcc, hcda, hvs, hfile⟩ := T.fn
  obtain ⟨nm, q, N, bs, sn, sub, ab, col, dd, k0, k1, k2, k3, k5, hC⟩ := T.cls
  have hcl : clsIn K C = some { name := nm, bases := bs, mro := .ref C :: .ref D :: exTail, ns := N, qualname := q, hasDict := true, slotNames := sn, subclasses := sub, abstract := ab, collection := col, hasDel := false } := by unfold clsIn; rw [hC] <;> rfl
  refine ks_codeAny_call_defAt (fd := ksFn "__init__" "BadName.__init__" iA iB iS .none .none doc pm an (.ref cda) ct cc) (body := iB) (binds := [("self", .ref x), ("name", v)]) hroom (M0.kin _ _ ho) rfl M0.nolimit (codeRec_of M0.kin hcd) rfl
    (BindsTo.of_eq (by first | rfl | with_unfolding_all rfl)) (show ∀ x ∈ iS.names, x.2 ≠ .cell by decide) (fun z hz => by
      rcases List.mem_cons.mp hz with rfl | hz
      · rfl
      · cases List.mem_singleton.mp hz; rfl) (fun h₁ hns k => ?_) rfl rfl rfl
  have X₁ : K.In h₁ := M0.kin.keeps k
  have hx₁ := k _ _ hx
  obtain ⟨mb, hmb, hbt⟩ := M0.blt
  obtain ⟨hp, gs, dr, tk0, os⟩ := s
  have hC1 := X₁ _ _ hC
  have Ix : InstAt h₁ x (excO C t0) C none := ⟨hx₁, rfl, rfl, trivial⟩
  have nxC : x ≠ C := ks_ne X₁ Ix hcl
  show wpAt _ _ _ (execs iB (ksEnv "BadName.__init__" iS hp.objs.size fI (.ref cda) cc)) _ _ _
  refine ks_wpAt_execs_cons (ks_wpAt_Expr_any (ks_wpAt_MethodCall ?_))
  refine ks_wpAt_super_base (env := ksEnv "BadName.__init__" iS hp.objs.size fI (.ref cda) cc) (by rfl) (by rfl) (by decide +kernel) rfl (X₁ _ _ ho) rfl (by rfl) rfl (X₁ _ _ hcda) rfl hvs hfile T.top ?_
  refine ks_loadName_global rfl (by rfl) (loadGlobal_builtin (env := ksEnv "BadName.__init__" iS hp.objs.size fI (.ref cda) cc) (M0.glob.keeps k) T.sup (hmb.keeps k) ((hbt "super" (by decide +kernel)).trans (by decide +kernel)) ⟨rfl, ?_⟩)
  refine wpAny_loadName_free rfl (by rfl) rfl ⟨_, X₁ _ _ hcc, rfl⟩ ?_
  refine wpAny_loadName_local rfl (by rfl) hns (v := .ref x) (by rfl) ?_
  refine ks_wpAny_isType_cls hC1 rfl ⟨rfl, ?_⟩
  refine ks_wpAny_call_super hC1 rfl hx₁ rfl (fun c e => by cases e) (looks_mroIn X₁ (XeB.mro2 hcl rfl (by rw [List.contains_cons]; simp))) (fun h₂ e₂ k₂ => ?_)
  have X₂ : K.In h₂ := X₁.keeps k₂
  have I2 : InstAt h₂ x (excO C t0) C none := ⟨k₂ _ _ hx₁, rfl, rfl, trivial⟩
  have al := T.al
  unfold ks_superIn at al
  rw [hcl, Option.bind_some] at al
  refine getMethod_super e₂ (looks_opaque X₂ T.opq) (l₀ := .ref C :: .ref D :: exTail) ((looks_clsIn X₂ hcl).andThen .now) rfl X₂ al nxC (by decide +kernel) (I2.type.andThen (looks_mroIn X₂ (XeB.mro2 hcl rfl (XeB.has_it (by decide +kernel))))) ?_
  have k₃ : ∀ b o, h₂.get? b = some o → (h₂.push (bw x)).get? b = some o := fun b o e => Heap.get?_push_of_some _ e
  have X₃ : K.In (h₂.push (bw x)) := X₂.keeps k₃
  refine callWith_bound (x := x) (spliced_more (Calls.Constant_str (spliced_none ?_)))
  refine ⟨Heap.get?_push_at rfl rfl, ?_⟩
  refine call_bw (X₃ _ _ hC) (k₃ _ _ (k₂ _ _ hx₁)) (Heap.get?_push_at rfl rfl) (by show 1 ≤ sizeLine; decide) (fun h₄ t1 k₄ hx₄ => ?_)
  have kk : ∀ b o, b ≠ x → h₁.get? b = some o → h₄.get? b = some o := fun b o hb e => k₄ b o hb (k₃ b o (k₂ b o e))
  have X₄ : K.In h₄ := fun a o e => kk a o (fun z => by rw [z, hnx] at e; cases e) (X₁ a o e)
  have hns₄ : h₄.Ns hp.objs.size (fun y => List.lookup y [(("self" : Str), Value.ref x), (("name" : Str), v)].reverse) := by
    obtain ⟨o, es, ep, h1, r⟩ := hns
    exact ⟨o, es, ep, kk _ _ (Nat.ne_of_gt (Heap.lt_size hx)) h1, r⟩
  refine ks_wpAt_execs_cons (wpAt_of_wpAny (plainObj_wpAny_Assign_Attribute ?_))
  refine ldL (v := v) hns₄ (by rfl) (ldL (v := .ref x) hns₄ (by rfl) ?_)
  refine set_plain X₄ (ox := excO C t1) (od := none) ⟨hx₄, rfl, rfl, trivial⟩ T.sa ?_
  refine XeB.put_new X₄ hx₄ hcl rfl rfl T.noN (fun h₅ tk₅ dx k₅ dn dne hx₅ hn₅ => ?_)
  refine wpAt_of_wpAny (wpAny_execs_nil (hq h₅ tk₅ dx t1 ⟨fun b o hb e => k₅ b o hb (kk b o hb (k b o e)), hx₅, Nat.le_of_lt (Nat.lt_of_lt_of_le hns₄.lt dn), dne, hn₅⟩))
theorem own_made (T : Txt prog K mg C D fI) {v : Value} (M0 : L2.Mod K mg s.heap) (hroom : A.depth + 1 < recursionLimit)
    (hq : ∀ h' tk e d, XeB.OwnMade s.heap h' e C d "name" v → R (.ok (.ret (.ref e))) { s with heap := h', toks := tk }) :
    codeAny (model prog w) A (.call (.ref C) ⟨[v], []⟩) R s := by
  obtain ⟨nm, q, N, bs, sn, sub, ab, col, dd, k0, k1, k2, k3, k5, hC⟩ := T.cls
  obtain ⟨hp, g, dr, tk, os⟩ := s
  have k : ∀ b o, hp.get? b = some o → ((hp.push (kdv_tup [v])).push (excO C hp.objs.size)).get? b = some o := fun b o e => Heap.get?_push_of_some _ (Heap.get?_push_of_some _ e)
  have at1 : ((hp.push (kdv_tup [v])).push (excO C hp.objs.size)).get? (hp.objs.size + 1) = some (excO C hp.objs.size) := by heap_get
  have no1 : K.lookup (hp.objs.size + 1) = none := by
    cases e : K.lookup (hp.objs.size + 1) with
    | none => rfl
    | some o => exact absurd (Nat.lt_of_succ_lt (Heap.lt_size (M0.kin _ _ e))) (Nat.lt_irrefl _)
  refine call_own F.excBase_Exception (fun Y => XeB.has_same Y) (M0.kin _ _ hC) (looks_findIn M0.kin T.iC) (fun self => bind_fn M0.kin self T.tC) (by show 1 ≤ sizeLine; decide) ?_
  refine own_init (s := ⟨(hp.push (kdv_tup [v])).push (excO C hp.objs.size), g, dr, tk, os⟩) T (XeB.mod_keeps M0 k) at1 no1 hroom fun h' tk' dx t1 i => ⟨rfl, hq h' tk' (hp.objs.size + 1) dx ⟨fun b o e => i.keep b o (Nat.ne_of_lt (Nat.lt_succ_of_lt (Heap.lt_size e))) (k b o e), Nat.le_succ _, ⟨_, _, i.obj, rfl, rfl, rfl, rfl⟩, ?_, i.dne, i.ns⟩⟩
  have z := i.dbig
  rw [Heap.size_push, Heap.size_push] at z
  exact Nat.le_trans (Nat.le_trans (Nat.le_succ _) (Nat.le_succ _)) z
end
section
open L2
variable {X : Cx} {C D fI : Addr}
theorem pmk {a : Expr} {ta : TA} {p pos : Pos} {k : Nat} (T : Txt X.prog X.K X.mg C D fI) (hr : Room k X.A) (ha : PA X [a] ta) (hg : Gl X "BadName" := by rfl)
    (he : starEach (a :: []) X.env = (false, eval a X.env) :: starEach [] X.env := by rfl) (hpl : (backTo pos (starEach [] X.env)).any (·.1) = false := by rfl) :
    PMk X (.Call (.Name "BadName" p) [a] [] pos) (XeB.tMk C "name" ta) := by
  intro pins s σ H Q I h
  refine wpAny_Call_Name_kw (ld_glob I hg T.gC ?_)
  refine PySem.W.callWith_K (h₀ := X.base) I.ok.mod.kin T.kC (thn (ha.run pos pins s σ H _ I h) fun us s1 hh => ?_) he hpl
  obtain ⟨vs, H1, I1, r1, v, ev, q1⟩ := hh
  subst ev
  refine ⟨I1.kIn, ?_⟩
  cases r1 with
  | cons rv rn =>
    cases rn
    exact XeB.mk_fin I1 rv T.exC T.tyC q1 fun R q => own_made T (XeB.mod_at I1) (by have := hr.dp; omega) q
end
end XeBadName

end PySem
namespace Lw
open PySem L2 Sx
/-! ### the data: records, rows, letters -/
abbrev Row := List (Int × Int)
inductive Rc where
  | pr (e : Int)
  | tk (e : Int) (p : Nat) (x : Int)
def Rc.e : Rc → Int
  | .pr e => e
  | .tk e _ _ => e
def encR : Rc → PyData
  | .pr e => .tuple [.str "promise", .int e]
  | .tk e p x => .tuple [.str "take", .int e, .int (p : Int), .int x]
abbrev encP (q : Int × Int) : PyData := .tuple [.int q.1, .int q.2]
def putRow (row : Row) (p : Nat) (y : Int × Int) : Row := row.take p ++ [y] ++ row.drop (p + 1)
def stepR (s : Int × Row) : Rc → Int × Row
  | .pr e => (max s.1 e, s.2)
  | .tk e p x => (max s.1 e, putRow s.2 p (e, x))
def foldR (rs : List Rc) : Int × Row := rs.foldl stepR (-1, [])
inductive Lt where
  | ask (e : Int)
  | wr (e : Int) (p : Nat) (x : Int)
def Lt.e : Lt → Int
  | .ask e => e
  | .wr e _ _ => e
def encL : Lt → PyData
  | .ask e => .tuple [.str "ask", .int e, .int 2]
  | .wr e p x => .tuple [.str "write", .int e, .int 2, .int (p : Int), .int x]
abbrev aRef (e k : Int) : PyData := .tuple [.str "refused", .int e, .int 2, .int k]
abbrev aTold (e : Int) (row : Row) : PyData := .tuple [.str "told", .int e, .int 2, .tuple (row.map encP)]
abbrev aTaken (e : Int) (p : Nat) : PyData := .tuple [.str "taken", .int e, .int 2, .int (p : Int)]
def fits (row : Row) (e : Int) (p : Nat) : Bool := decide (p ≤ row.length) && (decide (p = 0) || decide ((row[p - 1]?).map (·.1) = some e))
def newAt (row : Row) (e : Int) (p : Nat) (x : Int) : Bool := decide (p = row.length) || decide (row[p]? ≠ some (e, x))
/-- what a letter brings: a record, an answer -/
def recOf (s : Int × Row) : Lt → Option Rc
  | .ask e => if e < s.1 then none else if s.1 < e then some (.pr e) else none
  | .wr e p x => if e < s.1 then none else if fits s.2 e p = true then (if newAt s.2 e p x = true then some (.tk e p x) else none) else none
def ansOf (s : Int × Row) : Lt → Option PyData
  | .ask e => if e < s.1 then some (aRef e s.1) else some (aTold e s.2)
  | .wr e p x => if e < s.1 then some (aRef e s.1) else if fits s.2 e p = true then some (aTaken e p) else none
def stepO (s : Int × Row) : Option Rc → Int × Row
  | none => s
  | some r => stepR s r
/-- the state that the law keeps by itself -/
def comeS (s : Int × Row) : Lt → Int × Row
  | .ask e => if e < s.1 then s else (e, s.2)
  | .wr e p x => if e < s.1 then s else if fits s.2 e p = true then (if newAt s.2 e p x = true then (e, putRow s.2 p (e, x)) else s) else s
theorem come_step (s : Int × Row) (l : Lt) : comeS s l = stepO s (recOf s l) := by
  cases l with
  | ask e =>
    dsimp only [comeS, recOf]
    by_cases h : e < s.1
    · rw [if_pos h, if_pos h]; rfl
    · rw [if_neg h, if_neg h]
      by_cases h2 : s.1 < e
      · rw [if_pos h2]
        show _ = (max s.1 e, s.2)
        rw [show max s.1 e = e by omega]
      · rw [if_neg h2]
        show _ = s
        rw [show e = s.1 by omega]
  | wr e p x =>
    dsimp only [comeS, recOf]
    by_cases h : e < s.1
    · rw [if_pos h, if_pos h]; rfl
    · rw [if_neg h, if_neg h]
      split
      · split
        · show _ = (max s.1 e, putRow s.2 p (e, x))
          rw [show max s.1 e = e by omega]
        · rfl
      · rfl
theorem fold_snoc (rs : List Rc) (r : Rc) : foldR (rs ++ [r]) = stepR (foldR rs) r := by unfold foldR; rw [List.foldl_append]; rfl
theorem fold_take {rs : List Rc} {i : Nat} {r : Rc} (h : rs[i]? = some r) : foldR (rs.take (i + 1)) = stepR (foldR (rs.take i)) r := by
  rw [List.take_succ, h]
  exact fold_snoc _ _
theorem putRow_lt {row : Row} {p : Nat} {y : Int × Int} (h : p < row.length) : putRow row p y = row.set p y := by
  unfold putRow
  rw [List.set_eq_take_append_cons_drop, if_pos h, List.append_assoc]
  rfl
theorem putRow_ge {row : Row} {p : Nat} {y : Int × Int} (h : ¬ p < row.length) : putRow row p y = row ++ [y] := by
  unfold putRow
  rw [List.take_of_length_le (by omega), List.drop_eq_nil_of_le (by omega), List.append_nil]
theorem putRow_len (row : Row) (p : Nat) (y : Int × Int) : (putRow row p y).length ≤ row.length + 1 := by
  by_cases h : p < row.length
  · rw [putRow_lt h, List.length_set]; omega
  · rw [putRow_ge h, List.length_append, List.length_singleton]; omega
theorem step_len (s : Int × Row) (r : Rc) : (stepR s r).2.length ≤ s.2.length + 1 := by
  cases r with
  | pr e => exact Nat.le_succ _
  | tk e p x => exact putRow_len _ _ _
theorem fold_len : ∀ (rs : List Rc) (s : Int × Row), (rs.foldl stepR s).2.length ≤ s.2.length + rs.length
  | [], s => Nat.le_refl _
  | r :: rs, s => by
    have h1 := fold_len rs (stepR s r)
    have h2 := step_len s r
    rw [List.foldl_cons, List.length_cons]
    omega
theorem foldR_len (rs : List Rc) : (foldR rs).2.length ≤ rs.length := by
  have := fold_len rs (-1, [])
  unfold foldR
  simpa using this
/-! ### the objects -/
abbrev rN : List Str := ["epoch", "row"]
abbrev kN : List Str := ["number", "records", "loose", "waiting"]
abbrev rl (row : Row) : CD := cLd (row.map encP)
abbrev recI (C a : Addr) (e : Int) : CD := cI C rN [dat (.int e), val (.ref a)]
abbrev recC (C q a : Addr) (s : Int × Row) : Cells := [(q, recI C a s.1), (a, rl s.2)]
structure KS where
  recs : List Rc
  loose : List Rc
  wait : List PyData
abbrev kpI (C : Addr) (k : KS) : CD := cI C kN [dat (.int 2), dat (.tuple (k.recs.map encR)), dat (.tuple (k.loose.map encR)), dat (.tuple k.wait)]
def KS.s (k : KS) : Int × Row := foldR (k.recs ++ k.loose)
def handleK (k : KS) (l : Lt) : KS := ⟨k.recs, k.loose ++ (recOf k.s l).toList, k.wait ++ (ansOf k.s l).toList⟩
def isW : PyData → Int → Int → Bool
  | .int i, lo, hi => decide (lo ≤ i) && decide (i ≤ hi)
  | _, _, _ => false
abbrev stD (s : Int × Row) : List (L2.Key × VD) := [(.inr "epoch", dat (.int s.1)), (.inr "row", dat (.list (s.2.map encP)))]
def oR : Option Rc → PyData
  | none => .none
  | some r => encR r
def oA : Option PyData → PyData
  | none => .none
  | some a => a
theorem put_ep (s : Int × Row) (e : Int) : putG (stD s) (.inr "epoch") (dat (.int e)) = stD (e, s.2) := by rfl
theorem put_row (s : Int × Row) (r : Row) : putG (stD s) (.inr "row") (dat (.list (r.map encP))) = stD (s.1, r) := by rfl
theorem get_ep (s : Int × Row) : valG (stD s) (.inr "epoch") = some (dat (.int s.1)) := by rfl
theorem get_row (s : Int × Row) : valG (stD s) (.inr "row") = some (dat (.list (s.2.map encP))) := by rfl

def top (i : Nat) : Stmt := PySem.Challenge.pw_mastcalls_k42_whole_keepers.main.body.getD i (.Pass ⟨0, 0, 0, 0⟩)
abbrev s_BadName_init : Stmt := (inClass (top 2) 0)
abbrev s_is_whole : Stmt := (top 4)
abbrev s_Record_init : Stmt := (inClass (top 6) 0)
abbrev s_Record_put : Stmt := (inClass (top 6) 1)
abbrev s_Record_fits : Stmt := (inClass (top 6) 2)
abbrev s_Keeper_init : Stmt := (inClass (top 7) 0)
abbrev s_Keeper_kept : Stmt := (inClass (top 7) 1)
abbrev s_Keeper_handle : Stmt := (inClass (top 7) 2)
abbrev s_Keeper_take : Stmt := (inClass (top 7) 3)
abbrev s_Keeper_flush : Stmt := (inClass (top 7) 4)
abbrev s_Keeper_fall : Stmt := (inClass (top 7) 5)
abbrev s_most_of : Stmt := (top 8)
abbrev s_law_number : Stmt := (top 10)
abbrev s_law_take : Stmt := (top 11)
abbrev s_law_come : Stmt := (top 12)
abbrev s_law_row : Stmt := (top 13)
abbrev s_law : Stmt := (top 14)
theorem sc_is_whole : FnScope ["thing", "low", "high"] ["thing", "low", "high"] (defScope s_is_whole) := ⟨rfl, rfl, rfl, by decide +kernel, rfl, by decide +kernel, by decide +kernel⟩
theorem sc_Record_init : FnScope ["self", "records", "record"] ["self", "records"] (defScope s_Record_init) := ⟨rfl, rfl, rfl, by decide +kernel, rfl, by decide +kernel, by decide +kernel⟩
theorem sc_Record_put : FnScope ["self", "record", "pair"] ["self", "record"] (defScope s_Record_put) := ⟨rfl, rfl, rfl, by decide +kernel, rfl, by decide +kernel, by decide +kernel⟩
theorem sc_Record_fits : FnScope ["self", "epoch", "place"] ["self", "epoch", "place"] (defScope s_Record_fits) := ⟨rfl, rfl, rfl, by decide +kernel, rfl, by decide +kernel, by decide +kernel⟩
theorem sc_Keeper_init : FnScope ["self", "number"] ["self", "number"] (defScope s_Keeper_init) := ⟨rfl, rfl, rfl, by decide +kernel, rfl, by decide +kernel, by decide +kernel⟩
theorem sc_Keeper_kept : FnScope ["self"] ["self"] (defScope s_Keeper_kept) := ⟨rfl, rfl, rfl, by decide +kernel, rfl, by decide +kernel, by decide +kernel⟩
theorem sc_Keeper_handle : FnScope ["self", "letter", "known", "epoch"] ["self", "letter"] (defScope s_Keeper_handle) := ⟨rfl, rfl, rfl, by decide +kernel, rfl, by decide +kernel, by decide +kernel⟩
theorem sc_Keeper_take : FnScope ["self", "known", "epoch", "place", "entry"] ["self", "known", "epoch", "place", "entry"] (defScope s_Keeper_take) := ⟨rfl, rfl, rfl, by decide +kernel, rfl, by decide +kernel, by decide +kernel⟩
theorem sc_Keeper_flush : FnScope ["self", "found"] ["self"] (defScope s_Keeper_flush) := ⟨rfl, rfl, rfl, by decide +kernel, rfl, by decide +kernel, by decide +kernel⟩
theorem sc_Keeper_fall : FnScope ["self", "many"] ["self", "many"] (defScope s_Keeper_fall) := ⟨rfl, rfl, rfl, by decide +kernel, rfl, by decide +kernel, by decide +kernel⟩
theorem sc_most_of : FnScope ["many"] ["many"] (defScope s_most_of) := ⟨rfl, rfl, rfl, by decide +kernel, rfl, by decide +kernel, by decide +kernel⟩
theorem sc_law_number : FnScope ["_law_script", "_law_index", "_law_cell", "_law_blend"] ["_law_script", "_law_index"] (defScope s_law_number) := ⟨rfl, rfl, rfl, by decide +kernel, rfl, by decide +kernel, by decide +kernel⟩
theorem sc_law_take : FnScope ["_law_draw", "_law_many"] ["_law_draw", "_law_many"] (defScope s_law_take) := ⟨rfl, rfl, rfl, by decide +kernel, rfl, by decide +kernel, by decide +kernel⟩
theorem sc_law_come : FnScope ["_law_state", "_law_letter", "_law_epoch", "_law_record", "_law_answer", "_law_place", "_law_entry"] ["_law_state", "_law_letter"] (defScope s_law_come) := ⟨rfl, rfl, rfl, by decide +kernel, rfl, by decide +kernel, by decide +kernel⟩
theorem sc_law_row : FnScope ["_law_records", "_law_state", "_law_record"] ["_law_records"] (defScope s_law_row) := ⟨rfl, rfl, rfl, by decide +kernel, rfl, by decide +kernel, by decide +kernel⟩
theorem sc_law : FnScope ["_law_script", "_law_draw", "_law_keeper", "_law_state", "_law_settled", "_law_loose", "_law_waiting", "_law_turn", "_law_kind", "_law_epoch", "_law_letter", "_law_record", "_law_answer", "_law_many", "_law_known", "_law_wrong", "fault"] ["_law_script"] (defScope s_law) := ⟨rfl, rfl, rfl, by decide +kernel, rfl, by decide +kernel, by decide +kernel⟩
/-! what the walk asks of the text as the top has left it -/
structure Tx (K : PySem.W.Frag) (mg : Str → Option Value) where
  Pg : Program
  C_CallError : Addr
  C_BadName : Addr
  f_BadName_init : Addr
  C_Record : Addr
  C_Keeper : Addr
  X_BadName : PySem.XeBadName.Txt Pg K mg C_BadName C_CallError f_BadName_init
  f_is_whole : Addr
  fd_is_whole : FuncData
  f_Record_init : Addr
  fd_Record_init : FuncData
  f_Record_put : Addr
  fd_Record_put : FuncData
  f_Record_fits : Addr
  fd_Record_fits : FuncData
  f_Keeper_init : Addr
  fd_Keeper_init : FuncData
  f_Keeper_kept : Addr
  fd_Keeper_kept : FuncData
  f_Keeper_handle : Addr
  fd_Keeper_handle : FuncData
  f_Keeper_take : Addr
  fd_Keeper_take : FuncData
  f_Keeper_flush : Addr
  fd_Keeper_flush : FuncData
  f_Keeper_fall : Addr
  fd_Keeper_fall : FuncData
  f_most_of : Addr
  fd_most_of : FuncData
  f_law_number : Addr
  fd_law_number : FuncData
  f_law_take : Addr
  fd_law_take : FuncData
  f_law_come : Addr
  fd_law_come : FuncData
  f_law_row : Addr
  fd_law_row : FuncData
  f_law : Addr
  fd_law : FuncData
  F_Record : ClsF K C_Record ["epoch", "row"]
  mg_Record : mg "Record" = some (.ref C_Record)
  M_Record : Mk K C_Record f_Record_init
  F_Keeper : ClsF K C_Keeper ["number", "records", "loose", "waiting"]
  mg_Keeper : mg "Keeper" = some (.ref C_Keeper)
  M_Keeper : Mk K C_Keeper f_Keeper_init
  F_is_whole : Fun K "is_whole" "is_whole" s_is_whole f_is_whole fd_is_whole
  k_is_whole : PySem.W.keepIn K (.ref f_is_whole) = true
  b_is_whole : Binds K fd_is_whole ["thing", "low", "high"] []
  mg_is_whole : mg "is_whole" = some (.ref f_is_whole)
  F_Record_init : Fun K "__init__" "Record.__init__" s_Record_init f_Record_init fd_Record_init
  k_Record_init : PySem.W.keepIn K (.ref f_Record_init) = true
  b_Record_init : Binds K fd_Record_init ["self", "records"] []
  F_Record_put : Fun K "put" "Record.put" s_Record_put f_Record_put fd_Record_put
  k_Record_put : PySem.W.keepIn K (.ref f_Record_put) = true
  b_Record_put : Binds K fd_Record_put ["self", "record"] []
  m_Record_put : Meth K C_Record "put" f_Record_put
  F_Record_fits : Fun K "fits" "Record.fits" s_Record_fits f_Record_fits fd_Record_fits
  k_Record_fits : PySem.W.keepIn K (.ref f_Record_fits) = true
  b_Record_fits : Binds K fd_Record_fits ["self", "epoch", "place"] []
  m_Record_fits : Meth K C_Record "fits" f_Record_fits
  F_Keeper_init : Fun K "__init__" "Keeper.__init__" s_Keeper_init f_Keeper_init fd_Keeper_init
  k_Keeper_init : PySem.W.keepIn K (.ref f_Keeper_init) = true
  b_Keeper_init : Binds K fd_Keeper_init ["self", "number"] []
  F_Keeper_kept : Fun K "kept" "Keeper.kept" s_Keeper_kept f_Keeper_kept fd_Keeper_kept
  k_Keeper_kept : PySem.W.keepIn K (.ref f_Keeper_kept) = true
  b_Keeper_kept : Binds K fd_Keeper_kept ["self"] []
  m_Keeper_kept : Meth K C_Keeper "kept" f_Keeper_kept
  F_Keeper_handle : Fun K "handle" "Keeper.handle" s_Keeper_handle f_Keeper_handle fd_Keeper_handle
  k_Keeper_handle : PySem.W.keepIn K (.ref f_Keeper_handle) = true
  b_Keeper_handle : Binds K fd_Keeper_handle ["self", "letter"] []
  m_Keeper_handle : Meth K C_Keeper "handle" f_Keeper_handle
  F_Keeper_take : Fun K "take" "Keeper.take" s_Keeper_take f_Keeper_take fd_Keeper_take
  k_Keeper_take : PySem.W.keepIn K (.ref f_Keeper_take) = true
  b_Keeper_take : Binds K fd_Keeper_take ["self", "known", "epoch", "place", "entry"] []
  m_Keeper_take : Meth K C_Keeper "take" f_Keeper_take
  F_Keeper_flush : Fun K "flush" "Keeper.flush" s_Keeper_flush f_Keeper_flush fd_Keeper_flush
  k_Keeper_flush : PySem.W.keepIn K (.ref f_Keeper_flush) = true
  b_Keeper_flush : Binds K fd_Keeper_flush ["self"] []
  m_Keeper_flush : Meth K C_Keeper "flush" f_Keeper_flush
  F_Keeper_fall : Fun K "fall" "Keeper.fall" s_Keeper_fall f_Keeper_fall fd_Keeper_fall
  k_Keeper_fall : PySem.W.keepIn K (.ref f_Keeper_fall) = true
  b_Keeper_fall : Binds K fd_Keeper_fall ["self", "many"] []
  m_Keeper_fall : Meth K C_Keeper "fall" f_Keeper_fall
  F_most_of : Fun K "most_of" "most_of" s_most_of f_most_of fd_most_of
  k_most_of : PySem.W.keepIn K (.ref f_most_of) = true
  b_most_of : Binds K fd_most_of ["many"] []
  mg_most_of : mg "most_of" = some (.ref f_most_of)
  F_law_number : Fun K "_law_number" "_law_number" s_law_number f_law_number fd_law_number
  k_law_number : PySem.W.keepIn K (.ref f_law_number) = true
  b_law_number : Binds K fd_law_number ["_law_script", "_law_index"] []
  mg_law_number : mg "_law_number" = some (.ref f_law_number)
  F_law_take : Fun K "_law_take" "_law_take" s_law_take f_law_take fd_law_take
  k_law_take : PySem.W.keepIn K (.ref f_law_take) = true
  b_law_take : Binds K fd_law_take ["_law_draw", "_law_many"] []
  mg_law_take : mg "_law_take" = some (.ref f_law_take)
  F_law_come : Fun K "_law_come" "_law_come" s_law_come f_law_come fd_law_come
  k_law_come : PySem.W.keepIn K (.ref f_law_come) = true
  b_law_come : Binds K fd_law_come ["_law_state", "_law_letter"] []
  mg_law_come : mg "_law_come" = some (.ref f_law_come)
  F_law_row : Fun K "_law_row" "_law_row" s_law_row f_law_row fd_law_row
  k_law_row : PySem.W.keepIn K (.ref f_law_row) = true
  b_law_row : Binds K fd_law_row ["_law_records"] []
  mg_law_row : mg "_law_row" = some (.ref f_law_row)
  F_law : Fun K "law" "law" s_law f_law fd_law
  k_law : PySem.W.keepIn K (.ref f_law) = true
  b_law : Binds K fd_law ["_law_script"] []
  mg_law : mg "law" = some (.ref f_law)
  no_abs : mg "abs" = none
  no_bool : mg "bool" = none
  no_int : mg "int" = none
  no_isinstance : mg "isinstance" = none
  no_len : mg "len" = none
  no_max : mg "max" = none
  no_range : mg "range" = none
  no_tuple : mg "tuple" = none
def S_law_number (K : PySem.W.Frag) {mg : Str → Option Value} (T : Tx K mg) : FSpec := fun ds M P => ∃ (s : List Int) (i : Int), ds = [vscr K s, dat (.int i)] ∧ P (dat (.int (lawNum s i))) M
def S_law_take (K : PySem.W.Frag) {mg : Str → Option Value} (T : Tx K mg) : FSpec := fun ds M P => ∃ (s : List Int) (k m : Int) (p : Addr) (M' : Cells), ds = [val (.ref p), dat (.int m)] ∧ 0 < m ∧ Put p (cDraw K s k) (cDraw K s (k + 1)) M M' ∧ P (dat (.int (tk s (k + 1) m))) M'

def S_is_whole (K : PySem.W.Frag) {mg : Str → Option Value} (T : Tx K mg) : FSpec := fun ds M P => ∃ (d : PyData) (lo hi : Int), ds = [dat d, dat (.int lo), dat (.int hi)] ∧ ((∃ i, d = .int i) ∨ ∃ s, d = .str s) ∧ P (dat (.bool (isW d lo hi))) M
def S_Record_put (K : PySem.W.Frag) {mg : Str → Option Value} (T : Tx K mg) : FSpec := fun ds M P => ∃ q a s r M', ds = [val (.ref q), dat (encR r)] ∧ s.2.length ≤ 100000 ∧ Sw (recC T.C_Record q a s) (recC T.C_Record q a (stepR s r)) M M' ∧ P vn M'
def S_Record_init (K : PySem.W.Frag) {mg : Str → Option Value} (T : Tx K mg) : FSpec := fun ds M P => ∃ q rs M0, ds = [val (.ref q), dat (.tuple (rs.map encR))] ∧ M = (q, cI T.C_Record [] []) :: M0 ∧ rs.length ≤ 10000 ∧ ∀ a, P vn ((q, recI T.C_Record a (foldR rs).1) :: (a, rl (foldR rs).2) :: M0)
def S_Record_fits (K : PySem.W.Frag) {mg : Str → Option Value} (T : Tx K mg) : FSpec := fun ds M P => ∃ q a s e p, ds = [val (.ref q), dat (.int e), dat (.int (p : Nat))] ∧ s.2.length ≤ 100000 ∧ Sw (recC T.C_Record q a s) (recC T.C_Record q a s) M M ∧ P (dat (.bool (fits s.2 e p))) M
def S_Keeper_init (K : PySem.W.Frag) {mg : Str → Option Value} (T : Tx K mg) : FSpec := fun ds M P => ∃ p M0, ds = [val (.ref p), dat (.int 2)] ∧ M = (p, cI T.C_Keeper [] []) :: M0 ∧ P vn ((p, kpI T.C_Keeper ⟨[], [], []⟩) :: M0)
def S_Keeper_kept (K : PySem.W.Frag) {mg : Str → Option Value} (T : Tx K mg) : FSpec := fun ds M P => ∃ p k, ds = [val (.ref p)] ∧ k.recs.length + k.loose.length ≤ 10000 ∧ (p, kpI T.C_Keeper k) ∈ M ∧ ∀ q a, P (val (.ref q)) ((q, recI T.C_Record a k.s.1) :: (a, rl k.s.2) :: M)
def S_Keeper_take (K : PySem.W.Frag) {mg : Str → Option Value} (T : Tx K mg) : FSpec := fun ds M P => ∃ p k q a e pl x M', ds = [val (.ref p), val (.ref q), dat (.int e), dat (.int (pl : Nat)), dat (.int x)] ∧ k.recs.length + k.loose.length + k.wait.length ≤ 10000 ∧ ¬ e < k.s.1 ∧ Sw ((p, kpI T.C_Keeper k) :: recC T.C_Record q a k.s) ((p, kpI T.C_Keeper (handleK k (.wr e pl x))) :: recC T.C_Record q a k.s) M M' ∧ P vn M'
def S_Keeper_handle (K : PySem.W.Frag) {mg : Str → Option Value} (T : Tx K mg) : FSpec := fun ds M P => ∃ p k l M', ds = [val (.ref p), dat (encL l)] ∧ k.recs.length + k.loose.length + k.wait.length ≤ 10000 ∧ Sw [(p, kpI T.C_Keeper k)] [(p, kpI T.C_Keeper (handleK k l))] M M' ∧ P vn M'
def S_Keeper_flush (K : PySem.W.Frag) {mg : Str → Option Value} (T : Tx K mg) : FSpec := fun ds M P => ∃ p k M', ds = [val (.ref p)] ∧ k.recs.length + k.loose.length ≤ 10000 ∧ Sw [(p, kpI T.C_Keeper k)] [(p, kpI T.C_Keeper ⟨k.recs ++ k.loose, [], []⟩)] M M' ∧ P (dat (.tuple k.wait)) M'
def S_Keeper_fall (K : PySem.W.Frag) {mg : Str → Option Value} (T : Tx K mg) : XSpec := fun ds M P PE => ∃ p k d, ds = [val (.ref p), dat d] ∧ ((∃ i, d = .int i) ∨ ∃ s, d = .str s) ∧ k.recs.length + k.loose.length ≤ 10000 ∧ Sw [(p, kpI T.C_Keeper k)] [(p, kpI T.C_Keeper k)] M M ∧ ((isW d 0 k.loose.length = false ∧ PE T.C_BadName "name" (dat d) M) ∨ ∃ m M', d = .int (m : Nat) ∧ m ≤ k.loose.length ∧ Sw [(p, kpI T.C_Keeper k)] [(p, kpI T.C_Keeper ⟨k.recs ++ k.loose.take m, [], []⟩)] M M' ∧ P vn M')
def S_most_of (K : PySem.W.Frag) {mg : Str → Option Value} (T : Tx K mg) : FSpec := fun ds M P => ∃ m : Int, ds = [dat (.int m)] ∧ P (dat (.int (m / 2 + 1))) M
def S_law_come (K : PySem.W.Frag) {mg : Str → Option Value} (T : Tx K mg) : FSpec := fun ds M P => ∃ p s l M', ds = [val (.ref p), dat (encL l)] ∧ s.2.length ≤ 10000 ∧ Sw [(p, cD (stD s))] [(p, cD (stD (comeS s l)))] M M' ∧ P (dat (.tuple [oR (recOf s l), oA (ansOf s l)])) M'
def S_law_row (K : PySem.W.Frag) {mg : Str → Option Value} (T : Tx K mg) : FSpec := fun ds M P => ∃ rs, ds = [dat (.list (rs.map encR))] ∧ rs.length ≤ 10000 ∧ ∀ p, P (val (.ref p)) ((p, cD (stD (foldR rs))) :: M)
def SLaw (K : PySem.W.Frag) : FSpec := fun ds M P => ∃ s : List Int, ds = [vscr K s] ∧ M = [] ∧ s.length ≤ 63 ∧ ∀ M', P (dat (.bool true)) M'
def S_law (K : PySem.W.Frag) {mg : Str → Option Value} (T : Tx K mg) : FSpec := SLaw K

abbrev rd_law_number_8 (K : PySem.W.Frag) {mg : Str → Option Value} (T : Tx K mg) : TS := (tRet (tCB (rInt1) (tCons (tOp (rI (fun _ j => 0 < j) fun i j => .int (i % j)) (tOp (rAddU K) (tOp (rI CMul fun i j => .int (i * j)) (tOp (rI (fun _ j => 0 < j) fun i j => .int (i % j)) (tOp (rI CMul fun i j => .int (i * j)) (tVar 3) (tC (.int 69621))) (tC (.int 2147483629))) (tC (.int 16807))) (tVar 1)) (tC (.int 2147483587))) tNil)))
abbrev rd_law_number_7 (K : PySem.W.Frag) {mg : Str → Option Value} (T : Tx K mg) : TS := tSeq (tAsg (tOp (rI (fun _ j => 0 < j) fun i j => .int (i % j)) (tOp (rAddU K) (tOp (rI CMul fun i j => .int (i * j)) (tOp (rAddU K) (tVar 2) (tOp (rI CMul fun i j => .int (i * j)) (tC (.int 977)) (tVar 1))) (tC (.int 48271))) (tOp (rI CMul fun i j => .int (i * j)) (tC (.int 31)) (tCB (rLenU K) (tCons (tVar 0) tNil)))) (tC (.int 2147483647))) (gName 3)) (rd_law_number_8 K T)
abbrev rd_law_number_6 (K : PySem.W.Frag) {mg : Str → Option Value} (T : Tx K mg) : TS := tNext
abbrev rd_law_number_5 (K : PySem.W.Frag) {mg : Str → Option Value} (T : Tx K mg) : TS := (tAsg (tOp (rI (fun _ j => 0 < j) fun i j => .int (i % j)) (tVar 2) (tOp (rI CPow fun i j => .int (i ^ j.toNat)) (tC (.int 10)) (tC (.int 18)))) (gName 2))
abbrev rd_law_number_4 (K : PySem.W.Frag) {mg : Str → Option Value} (T : Tx K mg) : TS := Evl.tCut (tIfS (tTest (tOp (rI0 fun i j => .bl (decide (j ≤ i))) (tCB (rAbs) (tCons (tVar 2) tNil)) (tOp (rI CPow fun i j => .int (i ^ j.toNat)) (tC (.int 10)) (tC (.int 60))))) (rd_law_number_5 K T) (rd_law_number_6 K T)) (rd_law_number_7 K T)
abbrev rd_law_number_3 (K : PySem.W.Frag) {mg : Str → Option Value} (T : Tx K mg) : TS := tSeq (tAsg (tOp (rIx K) (tVar 0) (tOp (rI (fun _ j => 0 < j) fun i j => .int (i % j)) (tVar 1) (tCB (rLenU K) (tCons (tVar 0) tNil)))) (gName 2)) (rd_law_number_4 K T)
abbrev rd_law_number_2 (K : PySem.W.Frag) {mg : Str → Option Value} (T : Tx K mg) : TS := tNext
abbrev rd_law_number_1 (K : PySem.W.Frag) {mg : Str → Option Value} (T : Tx K mg) : TS := (tRet (tCB (rInt1) (tCons (tOp (rI (fun _ j => 0 < j) fun i j => .int (i % j)) (tOp (rAddU K) (tOp (rI CMul fun i j => .int (i * j)) (tVar 1) (tC (.int 48271))) (tC (.int 12345))) (tC (.int 2147483647))) tNil)))
abbrev rd_law_number_0 (K : PySem.W.Frag) {mg : Str → Option Value} (T : Tx K mg) : TS := Evl.tCut (tIfS (tTest (tOp (rEqU K) (tVar 0) (tLst tNil))) (rd_law_number_1 K T) (rd_law_number_2 K T)) (rd_law_number_3 K T)
abbrev rd_law_take_1 (K : PySem.W.Frag) {mg : Str → Option Value} (T : Tx K mg) : TS := (tRet (tOp (rI (fun _ j => 0 < j) fun i j => .int (i % j)) (tCB (rInt1) (tCons (tCall (spF 2 (S_law_number K T)) [] E0 (tCons (tOp (rIx K) (tVar 0) (tC (.int 0))) (tCons (tCB (rInt1) (tCons (tOp (rIx K) (tVar 0) (tC (.int 1))) tNil)) tNil))) tNil)) (tVar 1)))
abbrev rd_law_take_0 (K : PySem.W.Frag) {mg : Str → Option Value} (T : Tx K mg) : TS := tSeq (tAugS (tVar 0) (tC (.int 1)) (tC (.int 1)) (rIxL K) (ipI fun i j => i + j) rSetL) (rd_law_take_1 K T)
abbrev rd_is_whole_0 (K : PySem.W.Frag) {mg : Str → Option Value} (T : Tx K mg) : TS := (tRet (tAndV (tCB (rIsi K) (tCons (tVar 0) (tCons (tC (.ty "int")) tNil))) (tAndV (tNotV (tCB (rIsi K) (tCons (tVar 0) (tCons (tC (.ty "bool")) tNil)))) (tChain (rI0 fun i j => .bl (decide (i ≤ j))) (rI0 fun i j => .bl (decide (i ≤ j))) (tVar 1) (tVar 0) (tVar 2)))))
abbrev rd_Record_put_6 (K : PySem.W.Frag) {mg : Str → Option Value} (T : Tx K mg) : TS := tNext
abbrev rd_Record_put_5 (K : PySem.W.Frag) {mg : Str → Option Value} (T : Tx K mg) : TS := (tDrop (tBM K "list" rAppend (tFld K (tVar 0) "row") (tCons (tVar 2) tNil)))
abbrev rd_Record_put_4 (K : PySem.W.Frag) {mg : Str → Option Value} (T : Tx K mg) : TS := (tAsg (tVar 2) (gSub (tFld K (tVar 0) "row") (tOp (rIx K) (tVar 1) (tC (.int 2))) rSetL))
abbrev rd_Record_put_3 (K : PySem.W.Frag) {mg : Str → Option Value} (T : Tx K mg) : TS := (tIfS (tTest (tOp (rI0 fun i j => .bl (decide (i < j))) (tOp (rIx K) (tVar 1) (tC (.int 2))) (tCB (rLenU K) (tCons (tFld K (tVar 0) "row") tNil)))) (rd_Record_put_4 K T) (rd_Record_put_5 K T))
abbrev rd_Record_put_2 (K : PySem.W.Frag) {mg : Str → Option Value} (T : Tx K mg) : TS := tSeq (tAsg (tTup (tCons (tOp (rIx K) (tVar 1) (tC (.int 1))) (tCons (tOp (rIx K) (tVar 1) (tC (.int 3))) tNil))) (gName 2)) (rd_Record_put_3 K T)
abbrev rd_Record_put_1 (K : PySem.W.Frag) {mg : Str → Option Value} (T : Tx K mg) : TS := (tIfS (tTest (tOp (rEqU K) (tOp (rIx K) (tVar 1) (tC (.int 0))) (tC (.str "take")))) (rd_Record_put_2 K T) (rd_Record_put_6 K T))
abbrev rd_Record_put_0 (K : PySem.W.Frag) {mg : Str → Option Value} (T : Tx K mg) : TS := tSeq (sFld K (tVar 0) (tCB rMax2 (tCons (tFld K (tVar 0) "epoch") (tCons (tOp (rIx K) (tVar 1) (tC (.int 1))) tNil))) "epoch") (rd_Record_put_1 K T)
abbrev rd_Record_init_3 (K : PySem.W.Frag) {mg : Str → Option Value} (T : Tx K mg) : TS := (tDrop (tMeth T.C_Record "put" (spF 2 (S_Record_put K T)) [] E0 (tVar 0) (tCons (tVar 2) tNil)))
abbrev rd_Record_init_2 (K : PySem.W.Frag) {mg : Str → Option Value} (T : Tx K mg) : TS := (tFor (iSeq K (tVar 1)) (gName 2) (rd_Record_init_3 K T))
abbrev rd_Record_init_1 (K : PySem.W.Frag) {mg : Str → Option Value} (T : Tx K mg) : TS := tSeq (sFld K (tVar 0) (tLst tNil) "row") (rd_Record_init_2 K T)
abbrev rd_Record_init_0 (K : PySem.W.Frag) {mg : Str → Option Value} (T : Tx K mg) : TS := tSeq (sFld K (tVar 0) (tUn (rU fun i => .int (-i)) (tC (.int 1))) "epoch") (rd_Record_init_1 K T)
abbrev rd_Record_fits_3 (K : PySem.W.Frag) {mg : Str → Option Value} (T : Tx K mg) : TS := (tRet (tOrV (tOp (rEqU K) (tVar 2) (tC (.int 0))) (tOp (rEqU K) (tOp (rIx K) (tOp (rIx K) (tFld K (tVar 0) "row") (tOp (rI0 fun i j => .int (i - j)) (tVar 2) (tC (.int 1)))) (tC (.int 0))) (tVar 1))))
abbrev rd_Record_fits_2 (K : PySem.W.Frag) {mg : Str → Option Value} (T : Tx K mg) : TS := tNext
abbrev rd_Record_fits_1 (K : PySem.W.Frag) {mg : Str → Option Value} (T : Tx K mg) : TS := (tRet (tC (.bl false)))
abbrev rd_Record_fits_0 (K : PySem.W.Frag) {mg : Str → Option Value} (T : Tx K mg) : TS := Evl.tCut (tIfS (tTest (tOp (rI0 fun i j => .bl (decide (j < i))) (tVar 2) (tCB (rLenU K) (tCons (tFld K (tVar 0) "row") tNil)))) (rd_Record_fits_1 K T) (rd_Record_fits_2 K T)) (rd_Record_fits_3 K T)
abbrev rd_Keeper_init_3 (K : PySem.W.Frag) {mg : Str → Option Value} (T : Tx K mg) : TS := (sFld K (tVar 0) (tTup tNil) "waiting")
abbrev rd_Keeper_init_2 (K : PySem.W.Frag) {mg : Str → Option Value} (T : Tx K mg) : TS := tSeq (sFld K (tVar 0) (tTup tNil) "loose") (rd_Keeper_init_3 K T)
abbrev rd_Keeper_init_1 (K : PySem.W.Frag) {mg : Str → Option Value} (T : Tx K mg) : TS := tSeq (sFld K (tVar 0) (tTup tNil) "records") (rd_Keeper_init_2 K T)
abbrev rd_Keeper_init_0 (K : PySem.W.Frag) {mg : Str → Option Value} (T : Tx K mg) : TS := tSeq (sFld K (tVar 0) (tVar 1) "number") (rd_Keeper_init_1 K T)
abbrev rd_Keeper_kept_0 (K : PySem.W.Frag) {mg : Str → Option Value} (T : Tx K mg) : TS := (tRet (tMake T.C_Record (spF 2 (S_Record_init K T)) [] E0 (tCons (tOp (rAddU K) (tFld K (tVar 0) "records") (tFld K (tVar 0) "loose")) tNil)))
abbrev rd_Keeper_take_6 (K : PySem.W.Frag) {mg : Str → Option Value} (T : Tx K mg) : TS := (sFld K (tVar 0) (tTup (StX.tStar K (tFld K (tVar 0) "waiting") (tCons (tTup (tCons (tC (.str "taken")) (tCons (tVar 2) (tCons (tFld K (tVar 0) "number") (tCons (tVar 3) tNil))))) tNil))) "waiting")
abbrev rd_Keeper_take_5 (K : PySem.W.Frag) {mg : Str → Option Value} (T : Tx K mg) : TS := tNext
abbrev rd_Keeper_take_4 (K : PySem.W.Frag) {mg : Str → Option Value} (T : Tx K mg) : TS := (sFld K (tVar 0) (tTup (StX.tStar K (tFld K (tVar 0) "loose") (tCons (tTup (tCons (tC (.str "take")) (tCons (tVar 2) (tCons (tVar 3) (tCons (tVar 4) tNil))))) tNil))) "loose")
abbrev rd_Keeper_take_3 (K : PySem.W.Frag) {mg : Str → Option Value} (T : Tx K mg) : TS := Evl.tCut (tIfS (tOr (tTest (tOp (rEqU K) (tVar 3) (tCB (rLenU K) (tCons (tFld K (tVar 1) "row") tNil)))) (tTest (tOp (rNeU K) (tOp (rIx K) (tFld K (tVar 1) "row") (tVar 3)) (tTup (tCons (tVar 2) (tCons (tVar 4) tNil)))))) (rd_Keeper_take_4 K T) (rd_Keeper_take_5 K T)) (rd_Keeper_take_6 K T)
abbrev rd_Keeper_take_2 (K : PySem.W.Frag) {mg : Str → Option Value} (T : Tx K mg) : TS := tNext
abbrev rd_Keeper_take_1 (K : PySem.W.Frag) {mg : Str → Option Value} (T : Tx K mg) : TS := tRetN
abbrev rd_Keeper_take_0 (K : PySem.W.Frag) {mg : Str → Option Value} (T : Tx K mg) : TS := Evl.tCut (tIfS (tNot (tB (tMeth T.C_Record "fits" (spF 3 (S_Record_fits K T)) [] E0 (tVar 1) (tCons (tVar 2) (tCons (tVar 3) tNil))))) (rd_Keeper_take_1 K T) (rd_Keeper_take_2 K T)) (rd_Keeper_take_3 K T)
abbrev rd_Keeper_handle_8 (K : PySem.W.Frag) {mg : Str → Option Value} (T : Tx K mg) : TS := (tDrop (tMeth T.C_Keeper "take" (spF 5 (S_Keeper_take K T)) [] E0 (tVar 0) (tCons (tVar 2) (tCons (tVar 3) (tCons (tOp (rIx K) (tVar 1) (tC (.int 3))) (tCons (tOp (rIx K) (tVar 1) (tC (.int 4))) tNil))))))
abbrev rd_Keeper_handle_7 (K : PySem.W.Frag) {mg : Str → Option Value} (T : Tx K mg) : TS := (sFld K (tVar 0) (tTup (StX.tStar K (tFld K (tVar 0) "waiting") (tCons (tTup (tCons (tC (.str "told")) (tCons (tVar 3) (tCons (tFld K (tVar 0) "number") (tCons (tCB (rTupOf K) (tCons (tFld K (tVar 2) "row") tNil)) tNil))))) tNil))) "waiting")
abbrev rd_Keeper_handle_6 (K : PySem.W.Frag) {mg : Str → Option Value} (T : Tx K mg) : TS := tNext
abbrev rd_Keeper_handle_5 (K : PySem.W.Frag) {mg : Str → Option Value} (T : Tx K mg) : TS := (sFld K (tVar 0) (tTup (StX.tStar K (tFld K (tVar 0) "loose") (tCons (tTup (tCons (tC (.str "promise")) (tCons (tVar 3) tNil))) tNil))) "loose")
abbrev rd_Keeper_handle_4 (K : PySem.W.Frag) {mg : Str → Option Value} (T : Tx K mg) : TS := Evl.tCut (tIfS (tTest (tOp (rI0 fun i j => .bl (decide (j < i))) (tVar 3) (tFld K (tVar 2) "epoch"))) (rd_Keeper_handle_5 K T) (rd_Keeper_handle_6 K T)) (rd_Keeper_handle_7 K T)
abbrev rd_Keeper_handle_3 (K : PySem.W.Frag) {mg : Str → Option Value} (T : Tx K mg) : TS := (tIfS (tTest (tOp (rEqU K) (tOp (rIx K) (tVar 1) (tC (.int 0))) (tC (.str "ask")))) (rd_Keeper_handle_4 K T) (rd_Keeper_handle_8 K T))
abbrev rd_Keeper_handle_2 (K : PySem.W.Frag) {mg : Str → Option Value} (T : Tx K mg) : TS := (sFld K (tVar 0) (tTup (StX.tStar K (tFld K (tVar 0) "waiting") (tCons (tTup (tCons (tC (.str "refused")) (tCons (tVar 3) (tCons (tFld K (tVar 0) "number") (tCons (tFld K (tVar 2) "epoch") tNil))))) tNil))) "waiting")
abbrev rd_Keeper_handle_1 (K : PySem.W.Frag) {mg : Str → Option Value} (T : Tx K mg) : TS := (tIfS (tTest (tOp (rI0 fun i j => .bl (decide (i < j))) (tVar 3) (tFld K (tVar 2) "epoch"))) (rd_Keeper_handle_2 K T) (rd_Keeper_handle_3 K T))
abbrev rd_Keeper_handle_0 (K : PySem.W.Frag) {mg : Str → Option Value} (T : Tx K mg) : TS := tSeq (tPar 2 3 (tCons (tMeth T.C_Keeper "kept" (spF 1 (S_Keeper_kept K T)) [] E0 (tVar 0) tNil) (tCons (tOp (rIx K) (tVar 1) (tC (.int 1))) tNil))) (rd_Keeper_handle_1 K T)
abbrev rd_Keeper_flush_4 (K : PySem.W.Frag) {mg : Str → Option Value} (T : Tx K mg) : TS := (tRet (tVar 1))
abbrev rd_Keeper_flush_3 (K : PySem.W.Frag) {mg : Str → Option Value} (T : Tx K mg) : TS := tSeq (sFld K (tVar 0) (tTup tNil) "waiting") (rd_Keeper_flush_4 K T)
abbrev rd_Keeper_flush_2 (K : PySem.W.Frag) {mg : Str → Option Value} (T : Tx K mg) : TS := tSeq (sFld K (tVar 0) (tTup tNil) "loose") (rd_Keeper_flush_3 K T)
abbrev rd_Keeper_flush_1 (K : PySem.W.Frag) {mg : Str → Option Value} (T : Tx K mg) : TS := tSeq (tAsg (tFld K (tVar 0) "waiting") (gName 1)) (rd_Keeper_flush_2 K T)
abbrev rd_Keeper_flush_0 (K : PySem.W.Frag) {mg : Str → Option Value} (T : Tx K mg) : TS := tSeq (sFld K (tVar 0) (tOp (rAddU K) (tFld K (tVar 0) "records") (tFld K (tVar 0) "loose")) "records") (rd_Keeper_flush_1 K T)
abbrev rd_Keeper_fall_5 (K : PySem.W.Frag) {mg : Str → Option Value} (T : Tx K mg) (W : WX) : TS := (sFld K (tVar 0) (tTup tNil) "waiting")
abbrev rd_Keeper_fall_4 (K : PySem.W.Frag) {mg : Str → Option Value} (T : Tx K mg) (W : WX) : TS := tSeq (sFld K (tVar 0) (tTup tNil) "loose") (rd_Keeper_fall_5 K T W)
abbrev rd_Keeper_fall_3 (K : PySem.W.Frag) {mg : Str → Option Value} (T : Tx K mg) (W : WX) : TS := tSeq (sFld K (tVar 0) (tOp (rAddU K) (tFld K (tVar 0) "records") (tSl (rSlU K) (tFld K (tVar 0) "loose") tNoPart (tPart (tVar 1)))) "records") (rd_Keeper_fall_4 K T W)
abbrev rd_Keeper_fall_2 (K : PySem.W.Frag) {mg : Str → Option Value} (T : Tx K mg) (W : WX) : TS := tNext
abbrev rd_Keeper_fall_1 (K : PySem.W.Frag) {mg : Str → Option Value} (T : Tx K mg) (W : WX) : TS := (tRaise T.C_BadName "name" W (tCons (tVar 1) tNil))
abbrev rd_Keeper_fall_0 (K : PySem.W.Frag) {mg : Str → Option Value} (T : Tx K mg) (W : WX) : TS := Evl.tCut (tIfS (tNot (tB (tCall (spF 3 (S_is_whole K T)) [] E0 (tCons (tVar 1) (tCons (tC (.int 0)) (tCons (tCB (rLenU K) (tCons (tFld K (tVar 0) "loose") tNil)) tNil)))))) (rd_Keeper_fall_1 K T W) (rd_Keeper_fall_2 K T W)) (rd_Keeper_fall_3 K T W)
abbrev rd_most_of_0 (K : PySem.W.Frag) {mg : Str → Option Value} (T : Tx K mg) : TS := (tRet (tOp (rAddU K) (tOp (rI CDiv fun i j => .int (i / j)) (tVar 0) (tC (.int 2))) (tC (.int 1))))
abbrev rd_law_come_20 (K : PySem.W.Frag) {mg : Str → Option Value} (T : Tx K mg) : TS := (tRet (tTup (tCons (tVar 3) (tCons (tTup (tCons (tC (.str "taken")) (tCons (tVar 2) (tCons (tC (.int 2)) (tCons (tVar 5) tNil))))) tNil))))
abbrev rd_law_come_19 (K : PySem.W.Frag) {mg : Str → Option Value} (T : Tx K mg) : TS := tNext
abbrev rd_law_come_18 (K : PySem.W.Frag) {mg : Str → Option Value} (T : Tx K mg) : TS := (sDPut (tVar 0) (tC (.str "epoch")) (tVar 2))
abbrev rd_law_come_17 (K : PySem.W.Frag) {mg : Str → Option Value} (T : Tx K mg) : TS := tSeq (sDPut (tVar 0) (tC (.str "row")) (tOp (rAddU K) (tOp (rAddU K) (tSl (rSlU K) (tDGet (tVar 0) (tC (.str "row"))) tNoPart (tPart (tVar 5))) (tLst (tCons (tTup (tCons (tVar 2) (tCons (tVar 6) tNil))) tNil))) (tSl (rSlU K) (tDGet (tVar 0) (tC (.str "row"))) (tPart (tOp (rAddU K) (tVar 5) (tC (.int 1)))) tNoPart))) (rd_law_come_18 K T)
abbrev rd_law_come_16 (K : PySem.W.Frag) {mg : Str → Option Value} (T : Tx K mg) : TS := tSeq (tAsg (tTup (tCons (tC (.str "take")) (tCons (tVar 2) (tCons (tVar 5) (tCons (tVar 6) tNil))))) (gName 3)) (rd_law_come_17 K T)
abbrev rd_law_come_15 (K : PySem.W.Frag) {mg : Str → Option Value} (T : Tx K mg) : TS := Evl.tCut (tIfS (tOr (tTest (tOp (rEqU K) (tVar 5) (tCB (rLenU K) (tCons (tDGet (tVar 0) (tC (.str "row"))) tNil)))) (tTest (tOp (rNeU K) (tOp (rIx K) (tDGet (tVar 0) (tC (.str "row"))) (tVar 5)) (tTup (tCons (tVar 2) (tCons (tVar 6) tNil)))))) (rd_law_come_16 K T) (rd_law_come_19 K T)) (rd_law_come_20 K T)
abbrev rd_law_come_14 (K : PySem.W.Frag) {mg : Str → Option Value} (T : Tx K mg) : TS := tSeq (tAsg (tC .non) (gName 3)) (rd_law_come_15 K T)
abbrev rd_law_come_13 (K : PySem.W.Frag) {mg : Str → Option Value} (T : Tx K mg) : TS := tNext
abbrev rd_law_come_12 (K : PySem.W.Frag) {mg : Str → Option Value} (T : Tx K mg) : TS := (tRet (tTup (tCons (tC .non) (tCons (tC .non) tNil))))
abbrev rd_law_come_11 (K : PySem.W.Frag) {mg : Str → Option Value} (T : Tx K mg) : TS := Evl.tCut (tIfS (tOr (tTest (tOp (rI0 fun i j => .bl (decide (j < i))) (tVar 5) (tCB (rLenU K) (tCons (tDGet (tVar 0) (tC (.str "row"))) tNil)))) (tAnd (tTest (tOp (rI0 fun i j => .bl (decide (j < i))) (tVar 5) (tC (.int 0)))) (tTest (tOp (rNeU K) (tOp (rIx K) (tOp (rIx K) (tDGet (tVar 0) (tC (.str "row"))) (tOp (rI0 fun i j => .int (i - j)) (tVar 5) (tC (.int 1)))) (tC (.int 0))) (tVar 2))))) (rd_law_come_12 K T) (rd_law_come_13 K T)) (rd_law_come_14 K T)
abbrev rd_law_come_10 (K : PySem.W.Frag) {mg : Str → Option Value} (T : Tx K mg) : TS := tSeq (tPar 5 6 (tCons (tOp (rIx K) (tVar 1) (tC (.int 3))) (tCons (tOp (rIx K) (tVar 1) (tC (.int 4))) tNil))) (rd_law_come_11 K T)
abbrev rd_law_come_9 (K : PySem.W.Frag) {mg : Str → Option Value} (T : Tx K mg) : TS := tNext
abbrev rd_law_come_8 (K : PySem.W.Frag) {mg : Str → Option Value} (T : Tx K mg) : TS := (tRet (tTup (tCons (tVar 3) (tCons (tVar 4) tNil))))
abbrev rd_law_come_7 (K : PySem.W.Frag) {mg : Str → Option Value} (T : Tx K mg) : TS := tSeq (sDPut (tVar 0) (tC (.str "epoch")) (tVar 2)) (rd_law_come_8 K T)
abbrev rd_law_come_6 (K : PySem.W.Frag) {mg : Str → Option Value} (T : Tx K mg) : TS := tSeq (tAsg (tTup (tCons (tC (.str "told")) (tCons (tVar 2) (tCons (tC (.int 2)) (tCons (tCB (rTupOf K) (tCons (tDGet (tVar 0) (tC (.str "row"))) tNil)) tNil))))) (gName 4)) (rd_law_come_7 K T)
abbrev rd_law_come_5 (K : PySem.W.Frag) {mg : Str → Option Value} (T : Tx K mg) : TS := tSeq (tAsg (tIf (tTest (tOp (rI0 fun i j => .bl (decide (j < i))) (tVar 2) (tDGet (tVar 0) (tC (.str "epoch"))))) (tTup (tCons (tC (.str "promise")) (tCons (tVar 2) tNil))) (tC .non)) (gName 3)) (rd_law_come_6 K T)
abbrev rd_law_come_4 (K : PySem.W.Frag) {mg : Str → Option Value} (T : Tx K mg) : TS := Evl.tCut (tIfS (tTest (tOp (rEqU K) (tOp (rIx K) (tVar 1) (tC (.int 0))) (tC (.str "ask")))) (rd_law_come_5 K T) (rd_law_come_9 K T)) (rd_law_come_10 K T)
abbrev rd_law_come_3 (K : PySem.W.Frag) {mg : Str → Option Value} (T : Tx K mg) : TS := tNext
abbrev rd_law_come_2 (K : PySem.W.Frag) {mg : Str → Option Value} (T : Tx K mg) : TS := (tRet (tTup (tCons (tC .non) (tCons (tTup (tCons (tC (.str "refused")) (tCons (tVar 2) (tCons (tC (.int 2)) (tCons (tDGet (tVar 0) (tC (.str "epoch"))) tNil))))) tNil))))
abbrev rd_law_come_1 (K : PySem.W.Frag) {mg : Str → Option Value} (T : Tx K mg) : TS := Evl.tCut (tIfS (tTest (tOp (rI0 fun i j => .bl (decide (i < j))) (tVar 2) (tDGet (tVar 0) (tC (.str "epoch"))))) (rd_law_come_2 K T) (rd_law_come_3 K T)) (rd_law_come_4 K T)
abbrev rd_law_come_0 (K : PySem.W.Frag) {mg : Str → Option Value} (T : Tx K mg) : TS := tSeq (tAsg (tOp (rIx K) (tVar 1) (tC (.int 1))) (gName 2)) (rd_law_come_1 K T)
abbrev rd_law_row_6 (K : PySem.W.Frag) {mg : Str → Option Value} (T : Tx K mg) : TS := (tRet (tVar 1))
abbrev rd_law_row_5 (K : PySem.W.Frag) {mg : Str → Option Value} (T : Tx K mg) : TS := tNext
abbrev rd_law_row_4 (K : PySem.W.Frag) {mg : Str → Option Value} (T : Tx K mg) : TS := (sDPut (tVar 1) (tC (.str "row")) (tOp (rAddU K) (tOp (rAddU K) (tSl (rSlU K) (tDGet (tVar 1) (tC (.str "row"))) tNoPart (tPart (tOp (rIx K) (tVar 2) (tC (.int 2))))) (tLst (tCons (tTup (tCons (tOp (rIx K) (tVar 2) (tC (.int 1))) (tCons (tOp (rIx K) (tVar 2) (tC (.int 3))) tNil))) tNil))) (tSl (rSlU K) (tDGet (tVar 1) (tC (.str "row"))) (tPart (tOp (rAddU K) (tOp (rIx K) (tVar 2) (tC (.int 2))) (tC (.int 1)))) tNoPart)))
abbrev rd_law_row_3 (K : PySem.W.Frag) {mg : Str → Option Value} (T : Tx K mg) : TS := (tIfS (tTest (tOp (rEqU K) (tOp (rIx K) (tVar 2) (tC (.int 0))) (tC (.str "take")))) (rd_law_row_4 K T) (rd_law_row_5 K T))
abbrev rd_law_row_2 (K : PySem.W.Frag) {mg : Str → Option Value} (T : Tx K mg) : TS := tSeq (sDPut (tVar 1) (tC (.str "epoch")) (tCB rMax2 (tCons (tDGet (tVar 1) (tC (.str "epoch"))) (tCons (tOp (rIx K) (tVar 2) (tC (.int 1))) tNil)))) (rd_law_row_3 K T)
abbrev rd_law_row_1 (K : PySem.W.Frag) {mg : Str → Option Value} (T : Tx K mg) : TS := Evl.tCut (tFor (iSeq K (tVar 0)) (gName 2) (rd_law_row_2 K T)) (rd_law_row_6 K T)
abbrev rd_law_row_0 (K : PySem.W.Frag) {mg : Str → Option Value} (T : Tx K mg) : TS := tSeq (tAsg (tDisp (((tC (.str "epoch")), (tUn (rU fun i => .int (-i)) (tC (.int 1)))) :: (((tC (.str "row")), (tLst tNil)) :: []))) (gName 1)) (rd_law_row_1 K T)
abbrev rd_law_35 (K : PySem.W.Frag) {mg : Str → Option Value} (T : Tx K mg) : TS := (tRet (tOp (rEqU K) (tLc (iSeq K (tTup (tCons (tC (.int 1)) (tCons (tC (.int 2)) (tCons (tC (.int 3)) (tCons (tC (.int 4)) (tCons (tC (.int 5)) tNil))))))) (gName 13) tYes (tCall (spF 1 (S_most_of K T)) [] E0 (tCons (tVar 13) tNil)) [13]) (tLst (tCons (tC (.int 1)) (tCons (tC (.int 2)) (tCons (tC (.int 2)) (tCons (tC (.int 3)) (tCons (tC (.int 3)) tNil))))))))
abbrev rd_law_34 (K : PySem.W.Frag) {mg : Str → Option Value} (T : Tx K mg) (a : Addr) (cls : Value) (dx : Option Addr) : TS := tNext
abbrev rd_law_33 (K : PySem.W.Frag) {mg : Str → Option Value} (T : Tx K mg) (a : Addr) (cls : Value) (dx : Option Addr) : TS := (tRet (tC (.bl false)))
abbrev rd_law_32 (K : PySem.W.Frag) {mg : Str → Option Value} (T : Tx K mg) (a : Addr) (cls : Value) (dx : Option Addr) : TS := (tIfS (tTest (tOp (rNeU K) (tXf a cls dx T.C_BadName "name" (tVar 16)) (tVar 15))) (rd_law_33 K T a cls dx) (rd_law_34 K T a cls dx))
abbrev rd_law_31 (K : PySem.W.Frag) {mg : Str → Option Value} (T : Tx K mg) (W : WX) : TS := (tRet (tC (.bl false)))
abbrev rd_law_30 (K : PySem.W.Frag) {mg : Str → Option Value} (T : Tx K mg) (W : WX) : TS := tSeq (tDrop (tMethS T.C_Keeper "fall" (spX 2 (S_Keeper_fall K T)) (WE W) (tVar 2) (tCons (tVar 15) tNil))) (rd_law_31 K T W)
abbrev rd_law_29 (K : PySem.W.Frag) {mg : Str → Option Value} (T : Tx K mg) : TS := (tTryAs K (.ref T.C_BadName) 16 (fun a cls dx => (rd_law_32 K T a cls dx)) W0 (fun W => (rd_law_30 K T W)))
abbrev rd_law_28 (K : PySem.W.Frag) {mg : Str → Option Value} (T : Tx K mg) : TS := Evl.tCut (tFor (iSeq K (tTup (tCons (tUn (rU fun i => .int (-i)) (tC (.int 1))) (tCons (tOp (rAddU K) (tCB (rLenU K) (tCons (tVar 5) tNil)) (tC (.int 1))) (tCons (tC (.str "0")) tNil))))) (gName 15) (rd_law_29 K T)) (rd_law_35 K T)
abbrev rd_law_27 (K : PySem.W.Frag) {mg : Str → Option Value} (T : Tx K mg) : TS := tNext
abbrev rd_law_26 (K : PySem.W.Frag) {mg : Str → Option Value} (T : Tx K mg) : TS := (tRet (tC (.bl false)))
abbrev rd_law_25 (K : PySem.W.Frag) {mg : Str → Option Value} (T : Tx K mg) : TS := (tIfS (tTest (tOp (rNeU K) (tFld K (tVar 2) "waiting") (tCB (rTupOf K) (tCons (tVar 6) tNil)))) (rd_law_26 K T) (rd_law_27 K T))
abbrev rd_law_24 (K : PySem.W.Frag) {mg : Str → Option Value} (T : Tx K mg) : TS := tNext
abbrev rd_law_23 (K : PySem.W.Frag) {mg : Str → Option Value} (T : Tx K mg) : TS := (tRet (tC (.bl false)))
abbrev rd_law_22 (K : PySem.W.Frag) {mg : Str → Option Value} (T : Tx K mg) : TS := Evl.tCut (tIfS (tOr (tTest (tOp (rNeU K) (tTup (tCons (tFld K (tVar 14) "epoch") (tCons (tFld K (tVar 14) "row") tNil))) (tTup (tCons (tDGet (tVar 3) (tC (.str "epoch"))) (tCons (tDGet (tVar 3) (tC (.str "row"))) tNil))))) (tOr (tTest (tOp (rNeU K) (tFld K (tVar 2) "records") (tCB (rTupOf K) (tCons (tVar 4) tNil)))) (tTest (tOp (rNeU K) (tFld K (tVar 2) "loose") (tCB (rTupOf K) (tCons (tVar 5) tNil)))))) (rd_law_23 K T) (rd_law_24 K T)) (rd_law_25 K T)
abbrev rd_law_21 (K : PySem.W.Frag) {mg : Str → Option Value} (T : Tx K mg) : TS := tSeq (tAsg (tMeth T.C_Keeper "kept" (spF 1 (S_Keeper_kept K T)) [] E0 (tVar 2) tNil) (gName 14)) (rd_law_22 K T)
abbrev rd_law_20 (K : PySem.W.Frag) {mg : Str → Option Value} (T : Tx K mg) : TS := tNext
abbrev rd_law_19 (K : PySem.W.Frag) {mg : Str → Option Value} (T : Tx K mg) : TS := (tAsg (tCall (spF 1 (S_law_row K T)) [] E0 (tCons (tVar 4) tNil)) (gName 3))
abbrev rd_law_18 (K : PySem.W.Frag) {mg : Str → Option Value} (T : Tx K mg) : TS := tSeq (tPar3 4 5 6 (tCons (tOp (rAddU K) (tVar 4) (tSl (rSlU K) (tVar 5) tNoPart (tPart (tVar 13)))) (tCons (tLst tNil) (tCons (tLst tNil) tNil)))) (rd_law_19 K T)
abbrev rd_law_17 (K : PySem.W.Frag) {mg : Str → Option Value} (T : Tx K mg) : TS := tSeq (tDrop (tMethS T.C_Keeper "fall" (spX 2 (S_Keeper_fall K T)) (WE W0) (tVar 2) (tCons (tVar 13) tNil))) (rd_law_18 K T)
abbrev rd_law_16 (K : PySem.W.Frag) {mg : Str → Option Value} (T : Tx K mg) : TS := tSeq (tAsg (tCall (spF 2 (S_law_take K T)) [] E0 (tCons (tVar 1) (tCons (tOp (rAddU K) (tCB (rLenU K) (tCons (tVar 5) tNil)) (tC (.int 1))) tNil))) (gName 13)) (rd_law_17 K T)
abbrev rd_law_15 (K : PySem.W.Frag) {mg : Str → Option Value} (T : Tx K mg) : TS := (tIfS (tTest (tOp (rEqU K) (tCall (spF 2 (S_law_take K T)) [] E0 (tCons (tVar 1) (tCons (tC (.int 2)) tNil))) (tC (.int 0)))) (rd_law_16 K T) (rd_law_20 K T))
abbrev rd_law_14 (K : PySem.W.Frag) {mg : Str → Option Value} (T : Tx K mg) : TS := (tPar3 4 5 6 (tCons (tOp (rAddU K) (tVar 4) (tVar 5)) (tCons (tLst tNil) (tCons (tLst tNil) tNil))))
abbrev rd_law_13 (K : PySem.W.Frag) {mg : Str → Option Value} (T : Tx K mg) : TS := tNext
abbrev rd_law_12 (K : PySem.W.Frag) {mg : Str → Option Value} (T : Tx K mg) : TS := (tRet (tC (.bl false)))
abbrev rd_law_11 (K : PySem.W.Frag) {mg : Str → Option Value} (T : Tx K mg) : TS := Evl.tCut (tIfS (tTest (tOp (rNeU K) (tMeth T.C_Keeper "flush" (spF 1 (S_Keeper_flush K T)) [] E0 (tVar 2) tNil) (tCB (rTupOf K) (tCons (tVar 6) tNil)))) (rd_law_12 K T) (rd_law_13 K T)) (rd_law_14 K T)
abbrev rd_law_10 (K : PySem.W.Frag) {mg : Str → Option Value} (T : Tx K mg) : TS := (tIfS (tTest (tOp (rEqU K) (tVar 8) (tC (.int 6)))) (rd_law_11 K T) (rd_law_15 K T))
abbrev rd_law_9 (K : PySem.W.Frag) {mg : Str → Option Value} (T : Tx K mg) : TS := (tAsg (tOp (rAddU K) (tVar 6) (tIf (tTest (tOp rNotN (tVar 12) (tC .non))) (tLst (tCons (tVar 12) tNil)) (tLst tNil))) (gName 6))
abbrev rd_law_8 (K : PySem.W.Frag) {mg : Str → Option Value} (T : Tx K mg) : TS := tSeq (tAsg (tOp (rAddU K) (tVar 5) (tIf (tTest (tOp rNotN (tVar 11) (tC .non))) (tLst (tCons (tVar 11) tNil)) (tLst tNil))) (gName 5)) (rd_law_9 K T)
abbrev rd_law_7 (K : PySem.W.Frag) {mg : Str → Option Value} (T : Tx K mg) : TS := tSeq (tDrop (tMeth T.C_Keeper "handle" (spF 2 (S_Keeper_handle K T)) [] E0 (tVar 2) (tCons (tVar 10) tNil))) (rd_law_8 K T)
abbrev rd_law_6 (K : PySem.W.Frag) {mg : Str → Option Value} (T : Tx K mg) : TS := tSeq (tAsg (tCall (spF 2 (S_law_come K T)) [] E0 (tCons (tVar 3) (tCons (tVar 10) tNil))) (gTup K 2 (gCons (gName 11) (gCons (gName 12) gNil)))) (rd_law_7 K T)
abbrev rd_law_5 (K : PySem.W.Frag) {mg : Str → Option Value} (T : Tx K mg) : TS := tSeq (tAsg (tIf (tTest (tOp (rEqU K) (tVar 8) (tC (.int 0)))) (tTup (tCons (tC (.str "ask")) (tCons (tVar 9) (tCons (tC (.int 2)) tNil)))) (tTup (tCons (tC (.str "write")) (tCons (tVar 9) (tCons (tC (.int 2)) (tCons (tCall (spF 2 (S_law_take K T)) [] E0 (tCons (tVar 1) (tCons (tC (.int 4)) tNil))) (tCons (tCall (spF 2 (S_law_take K T)) [] E0 (tCons (tVar 1) (tCons (tC (.int 3)) tNil))) tNil))))))) (gName 10)) (rd_law_6 K T)
abbrev rd_law_4 (K : PySem.W.Frag) {mg : Str → Option Value} (T : Tx K mg) : TS := Evl.tCut (tIfS (tTest (tOp (rI0 fun i j => .bl (decide (i < j))) (tVar 8) (tC (.int 6)))) (rd_law_5 K T) (rd_law_10 K T)) (rd_law_21 K T)
abbrev rd_law_3 (K : PySem.W.Frag) {mg : Str → Option Value} (T : Tx K mg) : TS := tSeq (tPar 8 9 (tCons (tCall (spF 2 (S_law_take K T)) [] E0 (tCons (tVar 1) (tCons (tC (.int 8)) tNil))) (tCons (tCall (spF 2 (S_law_take K T)) [] E0 (tCons (tVar 1) (tCons (tC (.int 4)) tNil))) tNil))) (rd_law_4 K T)
abbrev rd_law_2 (K : PySem.W.Frag) {mg : Str → Option Value} (T : Tx K mg) : TS := Evl.tCut (tFor (iRng1 (tCons (tOp (rAddU K) (tC (.int 30)) (tCall (spF 2 (S_law_take K T)) [] E0 (tCons (tVar 1) (tCons (tC (.int 30)) tNil)))) tNil)) (gName 7) (rd_law_3 K T)) (rd_law_28 K T)
abbrev rd_law_1 (K : PySem.W.Frag) {mg : Str → Option Value} (T : Tx K mg) : TS := tSeq (tAsg (tTup (tCons (tMake T.C_Keeper (spF 2 (S_Keeper_init K T)) [] E0 (tCons (tC (.int 2)) tNil)) (tCons (tCall (spF 1 (S_law_row K T)) [] E0 (tCons (tLst tNil) tNil)) (tCons (tLst tNil) (tCons (tLst tNil) (tCons (tLst tNil) tNil)))))) (gTup K 5 (gCons (gName 2) (gCons (gName 3) (gCons (gName 4) (gCons (gName 5) (gCons (gName 6) gNil))))))) (rd_law_2 K T)
abbrev rd_law_0 (K : PySem.W.Frag) {mg : Str → Option Value} (T : Tx K mg) : TS := tSeq (tAsg (tLst (tCons (tVar 0) (tCons (tC (.int 0)) tNil))) (gName 1)) (rd_law_1 K T)
/-! ### steps -/
local macro_rules | `(tactic| walk_at "shp") => `(tactic| first
  | exact shp_int
  | exact shp_none
  | exact shp_bool
  | exact shp_oi _
  | (apply shp_str; first | decide +kernel | assumption)
  | (apply shp_list; walk_at "shpA")
  | (apply shp_tuple; walk_at "shpA")
  | assumption)
local macro_rules | `(tactic| walk_at "shpA") => `(tactic| first
  | exact shpA_nil
  | (apply shpA_cons; (· walk_at "shp"); walk_at "shpA")
  | (apply shpA_map; intro _ _; walk_at "shp"))
/-- what is left beside: closed, or left -/
local macro_rules | `(tactic| walk_at "side") => `(tactic| first
  | (with_reducible show Shp _ _); walk_at "shp"
  | (with_reducible show _ ≤ sizeLine); first | decide | (show _ ≤ 16777216; omega) | (show _ ≤ 16777216; simp only [List.length_map, List.length_append, List.length_cons, List.length_nil]; omega)
  | (with_reducible show _ < sizeLine); first | decide | (show _ < 16777216; omega) | (show _ < 16777216; simp only [List.length_map, List.length_append, List.length_cons, List.length_nil]; omega)
  | (with_reducible show CMul _ _); first | exact Or.inr ⟨by decide, by decide⟩ | exact Or.inl ⟨by decide, by decide⟩ | exact Or.inl ⟨by omega, by omega⟩ | exact Or.inr ⟨by omega, by omega⟩
  | (with_reducible show CPow _ _); exact ⟨by decide, by decide, by decide⟩
  | (with_reducible show CDiv _ _); first | exact ⟨by decide, by decide⟩ | exact ⟨by omega, by omega⟩
  | (with_reducible show Le _ _); first | with_reducible exact Le.refl _ | with_reducible assumption
  | (with_reducible show L2.atI _ _ = _); first | with_reducible assumption | exact rfl | exact atI_nat rfl
  | (with_reducible show _ < _); first | with_reducible assumption | decide | omega
  | (with_reducible show _ ≤ _); first | with_reducible assumption | decide | omega
  | (with_reducible show _ ∧ _); omega
  | (with_reducible show ∀ i, i ∈ _ → i ∈ _); decide
  | (with_reducible show (_ : Nat) = _); first | exact rfl | omega)
local macro_rules | `(tactic| walk_at "rm") => `(tactic| first
  | exact Rm.here
  | (apply Rm.there; walk_at "rm"))
local macro_rules | `(tactic| walk_at "perm") => `(tactic| first
  | with_reducible exact List.Perm.refl _
  | (apply perm_step; (· walk_at "rm"); walk_at "perm")
  | exact List.Perm.refl _)
local macro_rules | `(tactic| walk_at "pk") => `(tactic| first
  | with_reducible exact Pk.here
  | ((with_reducible apply Pk.there); walk_at "pk"))
/-- a part of a reading: what it gives. One word for all kinds -/
local macro_rules | `(tactic| walk_at "sx") => `(tactic| first
  -- an expression
  | with_reducible exact ev_int
  | with_reducible exact ev_bl
  | with_reducible exact ev_str
  | with_reducible exact ev_non
  | (with_reducible apply ev_var) <;> walk_at "sx"
  | (with_reducible apply ev_op) <;> walk_at "sx"
  | (with_reducible apply ev_fld) <;> walk_at "sx"
  | (with_reducible apply ev_cb) <;> walk_at "sx"
  | (with_reducible apply ev_tupD) <;> walk_at "sx"
  | (with_reducible apply ev_lstD) <;> walk_at "sx"
  | (with_reducible apply ev_tupV) <;> walk_at "sx"
  | (with_reducible apply ev_lstV) <;> walk_at "sx"
  | (with_reducible apply ev_slL) <;> walk_at "sx"
  | (with_reducible apply ev_slT1) <;> walk_at "sx"
  | (with_reducible apply ev_slT) <;> walk_at "sx"
  | (with_reducible apply ev_un) <;> walk_at "sx"
  | (with_reducible apply ev_chain) <;> walk_at "sx"
  | (with_reducible apply ev_andV) <;> walk_at "sx"
  | (with_reducible apply ev_orV) <;> walk_at "sx"
  | (with_reducible apply ev_notV) <;> walk_at "sx"
  | (with_reducible apply ev_lcY) <;> walk_at "sx"
  | (with_reducible apply ev_lc) <;> walk_at "sx"
  | ((with_reducible show ∀ a, a ∈ _ → ∃ ρ'' js, _); intro a ha; dsimp only [wipeE, List.set]; (first | with_reducible apply lcY_k | with_reducible apply lcF_k) <;> walk_at "sx")
  | (with_reducible apply ev_call) <;> walk_at "sx"
  | (with_reducible apply ev_meth) <;> walk_at "sx"
  | (with_reducible apply ev_bm) <;> walk_at "sx"
  | (with_reducible show Ev _ _ _ _ _); walk_at "own"
  -- a test
  | with_reducible exact et_yes
  | (with_reducible apply et_test) <;> walk_at "sx"
  | (with_reducible apply et_B) <;> walk_at "sx"
  | (with_reducible apply et_not) <;> walk_at "sx"
  | (with_reducible apply et_and) <;> walk_at "sx"
  | (with_reducible apply et_or) <;> walk_at "sx"
  -- arguments
  | with_reducible exact ea_nil
  | (with_reducible apply ea_cons) <;> walk_at "sx"
  | with_reducible exact ed_nil
  | (with_reducible apply ed_cons) <;> walk_at "sx"
  | with_reducible exact eo_none
  | (with_reducible apply eo_some) <;> walk_at "sx"
  -- what an operation gives
  | with_reducible exact rv_addI
  | with_reducible exact rv_int0
  | with_reducible exact rv_bl0
  | with_reducible exact rv_eqI
  | with_reducible exact rv_neI
  | with_reducible exact rv_eqS
  | with_reducible exact rv_neS
  | with_reducible exact rv_isN
  | with_reducible exact rv_notN
  | (with_reducible apply rv_intC) <;> walk_at "sx"
  | (with_reducible apply rv_addS) <;> walk_at "sx"
  | (with_reducible apply rv_ixL isl_dat) <;> walk_at "sx"
  | (with_reducible apply rv_ixT ist_dat) <;> walk_at "sx"
  | (with_reducible apply rv_ixL) <;> walk_at "sx"
  | (with_reducible apply rv_ixLV) <;> walk_at "sx"
  | (apply rv_ixT ist_dat) <;> walk_at "sx"
  | (with_reducible apply rv_ixTV istv_vtup) <;> walk_at "sx"
  | (with_reducible apply rv_ixScr) <;> walk_at "sx"
  | (apply rv_ixL isl_dat) <;> walk_at "sx"
  | (with_reducible apply rv_ixL) <;> walk_at "sx"
  | (apply rv_cat) <;> walk_at "sx"
  | (with_reducible apply rv_eqD) <;> walk_at "sx"
  | (with_reducible apply rv_neD) <;> walk_at "sx"
  | with_reducible exact ru_neg
  | with_reducible exact rc_int
  | with_reducible exact rc_abs
  | with_reducible exact rc_max2
  | with_reducible exact rc_min2
  | with_reducible exact rc_lenScr
  | with_reducible exact rc_lenM isl_dat
  | ((with_reducible apply rc_lenM); (with_reducible apply isl_cell) <;> walk_at "sx")
  | with_reducible exact rc_lenMT
  | (with_reducible apply rc_lenL) <;> walk_at "sx"
  | (apply rc_lenT ist_dat)
  | (with_reducible apply rc_tupL) <;> walk_at "sx"
  | (apply rc_tupT)
  | (with_reducible apply rc_lstL) <;> walk_at "sx"
  | (apply rc_lstT ist_dat)
  | with_reducible exact rc_anyM
  | with_reducible exact rc_allM
  | ((with_reducible apply rm_append) <;> walk_at "sx")
  -- lists, tuples, data
  | with_reducible exact isl_dat
  | with_reducible exact isd_dat
  | with_reducible exact isd_scr
  | (with_reducible apply isl_cell) <;> walk_at "sx"
  | (with_reducible apply islv_cell) <;> walk_at "sx"
  | with_reducible exact islv_vlst
  | (with_reducible apply isd_cell) <;> walk_at "sx"
  | (with_reducible apply isd_vtup) <;> walk_at "sx"
  | (with_reducible apply isd_vlst) <;> walk_at "sx"
  | with_reducible exact isds_nil
  | (with_reducible apply isds_cons) <;> walk_at "sx"
  | with_reducible exact fzl_dat
  | with_reducible exact fzl_v
  | with_reducible exact fzt_dat
  | with_reducible exact fzt_v
  | (with_reducible apply ity_l) <;> walk_at "sx"
  | with_reducible exact ity_s
  | (with_reducible apply IsLst.v) <;> walk_at "sx"
  -- places
  | with_reducible exact At.here
  | (with_reducible apply At.there) <;> walk_at "sx"
  | with_reducible exact SetAt.here
  | (with_reducible apply SetAt.there) <;> walk_at "sx"
  | with_reducible exact List.mem_cons_self
  | (with_reducible apply List.mem_cons_of_mem) <;> walk_at "sx"
  | ((with_reducible show (_ : Addr × CD) ∈ _); with_reducible assumption)
  | with_reducible exact Put.here
  | (with_reducible apply Put.there) <;> walk_at "sx"
  | ((with_reducible show Put _ _ _ _ _); with_reducible assumption)
  | ((with_reducible show Sw _ _ _ _); with_reducible assumption)
  | with_reducible exact sw_nil
  | ((with_reducible apply sw_pick); (· walk_at "pk"); walk_at "sx")
  | ((with_reducible apply sw_skip); walk_at "sx")
  | with_reducible exact FGet.here
  | ((with_reducible apply FGet.there); (· decide +kernel); walk_at "sx")
  | with_reducible exact FPut.here
  | with_reducible exact FPut.new
  | ((with_reducible apply FPut.there); (· decide +kernel); walk_at "sx")
  | (with_reducible show ClsF _ _ _); with_reducible assumption
  | (with_reducible show RtQ _ _ _); assumption
  | (with_reducible show (_ : Str) ∈ _); decide +kernel
  | (with_reducible show ¬ (_ : Str) ∈ _); decide +kernel
  -- what is walked, targets
  | (with_reducible apply ei_rng1) <;> walk_at "sx"
  | (with_reducible apply ei_rng2) <;> walk_at "sx"
  | (with_reducible apply ei_enumD) <;> walk_at "sx"
  | (with_reducible apply ei_enum) <;> walk_at "sx"
  | (with_reducible apply ei_zip) <;> walk_at "sx"
  | (with_reducible apply ei_seqLM) <;> walk_at "sx"
  | (with_reducible apply ei_seqTM) <;> walk_at "sx"
  | (with_reducible apply ei_seqL) <;> walk_at "sx"
  | (with_reducible apply ei_seqT) <;> walk_at "sx"
  | (with_reducible apply tg_name) <;> walk_at "sx"
  | (with_reducible apply tg_tup istv_vtup) <;> walk_at "sx"
  | (with_reducible apply td_tup) <;> walk_at "sx"
  | with_reducible exact td_nil
  | (with_reducible apply td_cons) <;> walk_at "sx"
  | with_reducible exact tgs_nil
  | (with_reducible apply tgs_cons) <;> walk_at "sx"
  -- beside
  | walk_at "spec"
  | walk_at "side"
  | walk_at "leave")
/-- a question of another kind is left -/
local macro_rules | `(tactic| walk_at "leave") => `(tactic| first
  | with_reducible show Cont _ _ _ _
  | with_reducible show Shp _ _
  | with_reducible show _ ≤ _
  | with_reducible show _ < _
  | with_reducible show CMul _ _
  | with_reducible show CDiv _ _
  | with_reducible show CPow _ _
  | with_reducible show _ = _
  | with_reducible show Le _ _
  | ((with_reducible show _ = true → _); with_reducible assumption)
  | ((with_reducible show _ = true → _); intro _; walk_at "sx")
  | ((with_reducible show _ = false → _); intro _; walk_at "sx"))
/-- a plain statement -/
local macro_rules | `(tactic| walk_at "st") => `(tactic| first
  | (with_reducible apply c_seq); walk_at "st"
  | (with_reducible apply c_asg) <;> (first | walk_at "sx" | skip)
  | (with_reducible apply c_asgG) <;> (first | walk_at "sx" | skip)
  | (with_reducible apply c_par) <;> (first | walk_at "sx" | skip)
  | (with_reducible apply c_par3) <;> (first | walk_at "sx" | skip)
  | (with_reducible apply c_aug) <;> (first | walk_at "sx" | skip)
  | (with_reducible apply c_augS) <;> (first | walk_at "sx" | skip)
  | (with_reducible apply c_fld) <;> (first | walk_at "sx" | skip)
  | (with_reducible apply c_drop) <;> (first | walk_at "sx" | skip)
  | with_reducible apply c_next
  | with_reducible apply c_break
  | with_reducible apply c_cont)
/-- a value is handed back; a word is met again -/
local macro_rules | `(tactic| walk_at "ret") => `(tactic| (with_reducible apply c_ret) <;> (first | walk_at "sx" | skip))
local macro_rules | `(tactic| walk_at "inv") => `(tactic| (with_reducible apply c_inv) <;> (first | walk_at "side" | skip))
local macro_rules | `(tactic| walk_at "seq") => `(tactic| with_reducible apply c_seq)
local macro_rules | `(tactic| walk_at "cut") => `(tactic| with_reducible apply c_cut)
local macro_rules | `(tactic| walk_at "if") => `(tactic| ((with_reducible apply c_if); (case' h => first | walk_at "sx" | skip)))
local macro_rules | `(tactic| walk_at "fgt") => `(tactic| first
  | exact Fgt.nil
  | (with_reducible apply Fgt.keep; walk_at "fgt")
  | (with_reducible apply Fgt.drop; walk_at "fgt"))

theorem law_number_body {K : PySem.W.Frag} {mg : Str → Option Value} (T : Tx K mg) : ∀ Q ds M P Φ, ds.length = 2 → S_law_number K T ds M P → RtQ Q Φ P → Cont (rd_law_number_0 K T (fnD Q)) Φ (entry ["_law_script", "_law_index", "_law_cell", "_law_blend"] ds) M := by
  rintro Q ds M P Φ - ⟨s, i, rfl, hP⟩ hQ
  show Cont _ _ [some (vscr K s), some (dat (.int i)), none, none] _
  have he : (PyData.list (List.map PyData.int s)).eqv (PyData.list []) = decide (s = []) := EqOk.dec (eqok_list eqok_int) s []
  apply c_cut
  refine c_if (by walk_at "sx") ?_ ?_
  · rw [he]
    intro h
    have hs := of_decide_eq_true h
    walk_at "ret"
    have : lawNum s i = (i * 48271 + 12345) % 2147483647 := by unfold lawNum; rw [if_pos hs]
    rw [this] at hP
    exact hP
  · rw [he]
    intro h
    have hs := of_decide_eq_false h
    have hl : (0 : Int) < s.length := by
      cases s with
      | nil => exact absurd rfl hs
      | cons _ _ => simp
    have h0 : 0 ≤ i % s.length := Int.emod_nonneg _ (by omega)
    have h1 : i % s.length < s.length := Int.emod_lt_of_pos _ hl
    have hat : L2.atI s (i % s.length) = some (s.getD (i % s.length).toNat 0) := by
      have hj : (i % s.length).toNat < s.length := by omega
      have e : ((i % s.length).toNat : Int) = i % s.length := by omega
      have e2 := atI_nat (xs := s) (j := (i % s.length).toNat) (v := s.getD (i % s.length).toNat 0) (by simp [List.getD, hj])
      rw [e] at e2
      exact e2
    apply c_next
    walk_at "st"
    refine c_cutW (fun ρ' M' => ρ' = [some (vscr K s), some (dat (.int i)), some (dat (.int (scrCell s i))), none] ∧ M' = M) ?_ ?_
    · refine c_if (by walk_at "sx") ?_ ?_
      · intro hb
        have hb := of_decide_eq_true hb
        walk_at "st"
        walk_at "inv"
        refine ⟨?_, rfl⟩
        have : scrCell s i = s.getD (i % s.length).toNat 0 % 10 ^ (18 : Int).toNat := by
          unfold scrCell
          exact if_pos hb
        rw [this]
      · intro hb
        have hb := of_decide_eq_false hb
        apply c_next
        walk_at "inv"
        refine ⟨?_, rfl⟩
        have : scrCell s i = s.getD (i % s.length).toNat 0 := by
          unfold scrCell
          exact if_neg hb
        rw [this]
    · rintro ρ' M' ⟨rfl, rfl⟩
      walk_at "st"
      walk_at "ret"
      have : lawNum s i = (((scrCell s i + 977 * i) * 48271 + 31 * s.length) % 2147483647 * 69621 % 2147483629 * 16807 + i) % 2147483587 := by unfold lawNum; rw [if_neg hs]
      rw [this] at hP
      exact hP
theorem number_ev {K : PySem.W.Frag} {mg : Str → Option Value} {T : Tx K mg} {s : List Int} {i : Int} {M : Cells} : S_law_number K T [vscr K s, dat (.int i)] M (Det (dat (.int (lawNum s i))) M) := ⟨s, i, rfl, rfl, rfl⟩
theorem take_ev {K : PySem.W.Frag} {mg : Str → Option Value} {T : Tx K mg} {s : List Int} {k m : Int} {p : Addr} {M M' : Cells} (h : Put p (cDraw K s k) (cDraw K s (k + 1)) M M') (hm : 0 < m) :
    S_law_take K T [val (.ref p), dat (.int m)] M (Det (dat (.int (tk s (k + 1) m))) M') := ⟨s, k, m, p, M', rfl, hm, h, rfl, rfl⟩
local macro_rules | `(tactic| walk_at "spec") => `(tactic| first
  | with_reducible exact number_ev
  | (with_reducible apply take_ev) <;> walk_at "sx")
theorem law_take_body {K : PySem.W.Frag} {mg : Str → Option Value} (T : Tx K mg) : ∀ Q ds M P Φ, ds.length = 2 → S_law_take K T ds M P → RtQ Q Φ P → Cont (rd_law_take_0 K T (fnD Q)) Φ (entry ["_law_draw", "_law_many"] ds) M := by
  rintro Q ds M P Φ - ⟨s, k, m, p, M', rfl, hm, hput, hP⟩ hQ
  show Cont _ _ [some (val (.ref p)), some (dat (.int m))] _
  apply c_seq
  refine c_augS (j := 1) (a := k) (p := p) (by walk_at "sx") (by walk_at "sx") rfl rfl (by walk_at "sx") hput ?_
  have hm' : (p, cDraw K s (k + 1)) ∈ M' := by
    clear hP hQ
    induction hput with
    | here => exact List.mem_cons_self
    | there _ ih => exact List.mem_cons_of_mem _ ih
  have hl : IsLstV (val (.ref p)) M' [vscr K s, dat (.int (k + 1))] := islv_cell hm'
  walk_at "ret"
  exact hP

end Lw


set_option Elab.async false
set_option linter.all false
set_option maxRecDepth 100000
set_option maxHeartbeats 4000000
namespace Lw
open PySem L2 Sx
/-! ### steps -/
local macro_rules | `(tactic| walk_at "shp") => `(tactic| first
  | exact shp_int
  | exact shp_none
  | exact shp_bool
  | exact shp_oi _
  | (apply shp_str; first | decide +kernel | assumption)
  | (apply shp_list; walk_at "shpA")
  | (apply shp_tuple; walk_at "shpA")
  | assumption)
local macro_rules | `(tactic| walk_at "shpA") => `(tactic| first
  | exact shpA_nil
  | (apply shpA_cons; (· walk_at "shp"); walk_at "shpA")
  | (apply shpA_map; intro _ _; walk_at "shp"))
/-- what is left beside: closed, or left -/
local macro_rules | `(tactic| walk_at "side") => `(tactic| first
  | (with_reducible show Shp _ _); walk_at "shp"
  | (with_reducible show _ ≤ sizeLine); first | decide | (show _ ≤ 16777216; omega) | (show _ ≤ 16777216; simp only [List.length_map, List.length_append, List.length_cons, List.length_nil]; omega)
  | (with_reducible show _ < sizeLine); first | decide | (show _ < 16777216; omega) | (show _ < 16777216; simp only [List.length_map, List.length_append, List.length_cons, List.length_nil]; omega)
  | (with_reducible show CMul _ _); first | exact Or.inr ⟨by decide, by decide⟩ | exact Or.inl ⟨by decide, by decide⟩ | exact Or.inl ⟨by omega, by omega⟩ | exact Or.inr ⟨by omega, by omega⟩
  | (with_reducible show CPow _ _); exact ⟨by decide, by decide, by decide⟩
  | (with_reducible show CDiv _ _); first | exact ⟨by decide, by decide⟩ | exact ⟨by omega, by omega⟩
  | (with_reducible show Le _ _); first | with_reducible exact Le.refl _ | with_reducible assumption
  | (with_reducible show L2.atI _ _ = _); first | with_reducible assumption | exact rfl | exact atI_nat rfl
  | (with_reducible show _ < _); first | with_reducible assumption | decide | omega
  | (with_reducible show _ ≤ _); first | with_reducible assumption | decide | omega
  | (with_reducible show _ ∧ _); omega
  | (with_reducible show ∀ i, i ∈ _ → i ∈ _); decide
  | (with_reducible show (_ : Nat) = _); first | exact rfl | omega)
local macro_rules | `(tactic| walk_at "rm") => `(tactic| first
  | exact Rm.here
  | (apply Rm.there; walk_at "rm"))
local macro_rules | `(tactic| walk_at "perm") => `(tactic| first
  | with_reducible exact List.Perm.refl _
  | (apply perm_step; (· walk_at "rm"); walk_at "perm")
  | exact List.Perm.refl _)
local macro_rules | `(tactic| walk_at "pk") => `(tactic| first
  | with_reducible exact Pk.here
  | ((with_reducible apply Pk.there); walk_at "pk"))
/-- a part of a reading: what it gives. One word for all kinds -/
local macro_rules | `(tactic| walk_at "sx") => `(tactic| first
  -- an expression
  | with_reducible exact ev_int
  | with_reducible exact ev_bl
  | with_reducible exact ev_str
  | with_reducible exact ev_non
  | (with_reducible apply ev_var) <;> walk_at "sx"
  | (with_reducible apply ev_op) <;> walk_at "sx"
  | (with_reducible apply ev_fld) <;> walk_at "sx"
  | (with_reducible apply ev_cb) <;> walk_at "sx"
  | (with_reducible apply ev_tupD) <;> walk_at "sx"
  | (with_reducible apply ev_lstD) <;> walk_at "sx"
  | (with_reducible apply ev_tupV) <;> walk_at "sx"
  | (with_reducible apply ev_lstV) <;> walk_at "sx"
  | (with_reducible apply ev_slL) <;> walk_at "sx"
  | (with_reducible apply ev_slT1) <;> walk_at "sx"
  | (with_reducible apply ev_slT) <;> walk_at "sx"
  | (with_reducible apply ev_un) <;> walk_at "sx"
  | (with_reducible apply ev_chain) <;> walk_at "sx"
  | (with_reducible apply ev_andV) <;> walk_at "sx"
  | (with_reducible apply ev_orV) <;> walk_at "sx"
  | (with_reducible apply ev_notV) <;> walk_at "sx"
  | (with_reducible apply ev_lcY) <;> walk_at "sx"
  | (with_reducible apply ev_lc) <;> walk_at "sx"
  | ((with_reducible show ∀ a, a ∈ _ → ∃ ρ'' js, _); intro a ha; dsimp only [wipeE, List.set]; (first | with_reducible apply lcY_k | with_reducible apply lcF_k) <;> walk_at "sx")
  | (with_reducible apply ev_call) <;> walk_at "sx"
  | (with_reducible apply ev_meth) <;> walk_at "sx"
  | (with_reducible apply ev_bm) <;> walk_at "sx"
  | (with_reducible show Ev _ _ _ _ _); walk_at "own"
  -- a test
  | with_reducible exact et_yes
  | (with_reducible apply et_test) <;> walk_at "sx"
  | (with_reducible apply et_B) <;> walk_at "sx"
  | (with_reducible apply et_not) <;> walk_at "sx"
  | (with_reducible apply et_and) <;> walk_at "sx"
  | (with_reducible apply et_or) <;> walk_at "sx"
  -- arguments
  | with_reducible exact ea_nil
  | (with_reducible apply ea_cons) <;> walk_at "sx"
  | with_reducible exact ed_nil
  | (with_reducible apply ed_cons) <;> walk_at "sx"
  | with_reducible exact eo_none
  | (with_reducible apply eo_some) <;> walk_at "sx"
  -- what an operation gives
  | with_reducible exact rv_addI
  | with_reducible exact rv_int0
  | with_reducible exact rv_bl0
  | with_reducible exact rv_eqI
  | with_reducible exact rv_neI
  | with_reducible exact rv_eqS
  | with_reducible exact rv_neS
  | with_reducible exact rv_isN
  | with_reducible exact rv_notN
  | (with_reducible apply rv_intC) <;> walk_at "sx"
  | (with_reducible apply rv_addS) <;> walk_at "sx"
  | (with_reducible apply rv_ixL isl_dat) <;> walk_at "sx"
  | (with_reducible apply rv_ixT ist_dat) <;> walk_at "sx"
  | (with_reducible apply rv_ixL) <;> walk_at "sx"
  | (with_reducible apply rv_ixLV) <;> walk_at "sx"
  | (apply rv_ixT ist_dat) <;> walk_at "sx"
  | (with_reducible apply rv_ixTV istv_vtup) <;> walk_at "sx"
  | (with_reducible apply rv_ixScr) <;> walk_at "sx"
  | (apply rv_ixL isl_dat) <;> walk_at "sx"
  | (with_reducible apply rv_ixL) <;> walk_at "sx"
  | (apply rv_cat) <;> walk_at "sx"
  | (with_reducible apply rv_eqD) <;> walk_at "sx"
  | (with_reducible apply rv_neD) <;> walk_at "sx"
  | with_reducible exact ru_neg
  | with_reducible exact rc_int
  | with_reducible exact rc_abs
  | with_reducible exact rc_max2
  | with_reducible exact rc_min2
  | with_reducible exact rc_lenScr
  | with_reducible exact rc_lenM isl_dat
  | ((with_reducible apply rc_lenM); (with_reducible apply isl_cell) <;> walk_at "sx")
  | with_reducible exact rc_lenMT
  | (with_reducible apply rc_lenL) <;> walk_at "sx"
  | (apply rc_lenT ist_dat)
  | (with_reducible apply rc_tupL) <;> walk_at "sx"
  | (apply rc_tupT)
  | (with_reducible apply rc_lstL) <;> walk_at "sx"
  | (apply rc_lstT ist_dat)
  | with_reducible exact rc_anyM
  | with_reducible exact rc_allM
  | ((with_reducible apply rm_append) <;> walk_at "sx")
  -- lists, tuples, data
  | with_reducible exact isl_dat
  | with_reducible exact isd_dat
  | with_reducible exact isd_scr
  | (with_reducible apply isl_cell) <;> walk_at "sx"
  | (with_reducible apply islv_cell) <;> walk_at "sx"
  | with_reducible exact islv_vlst
  | (with_reducible apply isd_cell) <;> walk_at "sx"
  | (with_reducible apply isd_vtup) <;> walk_at "sx"
  | (with_reducible apply isd_vlst) <;> walk_at "sx"
  | with_reducible exact isds_nil
  | (with_reducible apply isds_cons) <;> walk_at "sx"
  | with_reducible exact fzl_dat
  | with_reducible exact fzl_v
  | with_reducible exact fzt_dat
  | with_reducible exact fzt_v
  | (with_reducible apply ity_l) <;> walk_at "sx"
  | with_reducible exact ity_s
  | (with_reducible apply IsLst.v) <;> walk_at "sx"
  -- places
  | with_reducible exact At.here
  | (with_reducible apply At.there) <;> walk_at "sx"
  | with_reducible exact SetAt.here
  | (with_reducible apply SetAt.there) <;> walk_at "sx"
  | with_reducible exact List.mem_cons_self
  | (with_reducible apply List.mem_cons_of_mem) <;> walk_at "sx"
  | ((with_reducible show (_ : Addr × CD) ∈ _); with_reducible assumption)
  | with_reducible exact Put.here
  | (with_reducible apply Put.there) <;> walk_at "sx"
  | ((with_reducible show Put _ _ _ _ _); with_reducible assumption)
  | ((with_reducible show Sw _ _ _ _); with_reducible assumption)
  | with_reducible exact sw_nil
  | ((with_reducible apply sw_pick); (· walk_at "pk"); walk_at "sx")
  | ((with_reducible apply sw_skip); walk_at "sx")
  | with_reducible exact FGet.here
  | ((with_reducible apply FGet.there); (· decide +kernel); walk_at "sx")
  | with_reducible exact FPut.here
  | with_reducible exact FPut.new
  | ((with_reducible apply FPut.there); (· decide +kernel); walk_at "sx")
  | (with_reducible show ClsF _ _ _); with_reducible assumption
  | (with_reducible show RtQ _ _ _); assumption
  | (with_reducible show (_ : Str) ∈ _); decide +kernel
  | (with_reducible show ¬ (_ : Str) ∈ _); decide +kernel
  -- what is walked, targets
  | (with_reducible apply ei_rng1) <;> walk_at "sx"
  | (with_reducible apply ei_rng2) <;> walk_at "sx"
  | (with_reducible apply ei_enumD) <;> walk_at "sx"
  | (with_reducible apply ei_enum) <;> walk_at "sx"
  | (with_reducible apply ei_zip) <;> walk_at "sx"
  | (with_reducible apply ei_seqLM) <;> walk_at "sx"
  | (with_reducible apply ei_seqTM) <;> walk_at "sx"
  | (with_reducible apply ei_seqL) <;> walk_at "sx"
  | (with_reducible apply ei_seqT) <;> walk_at "sx"
  | (with_reducible apply tg_name) <;> walk_at "sx"
  | (with_reducible apply tg_tup istv_vtup) <;> walk_at "sx"
  | (with_reducible apply td_tup) <;> walk_at "sx"
  | with_reducible exact td_nil
  | (with_reducible apply td_cons) <;> walk_at "sx"
  | with_reducible exact tgs_nil
  | (with_reducible apply tgs_cons) <;> walk_at "sx"
  -- beside
  | walk_at "spec"
  | walk_at "side"
  | walk_at "leave")
/-- a question of another kind is left -/
local macro_rules | `(tactic| walk_at "leave") => `(tactic| first
  | with_reducible show Cont _ _ _ _
  | with_reducible show Shp _ _
  | with_reducible show _ ≤ _
  | with_reducible show _ < _
  | with_reducible show CMul _ _
  | with_reducible show CDiv _ _
  | with_reducible show CPow _ _
  | with_reducible show _ = _
  | with_reducible show Le _ _
  | ((with_reducible show _ = true → _); with_reducible assumption)
  | ((with_reducible show _ = true → _); intro _; walk_at "sx")
  | ((with_reducible show _ = false → _); intro _; walk_at "sx"))
/-- a plain statement -/
local macro_rules | `(tactic| walk_at "st") => `(tactic| first
  | (with_reducible apply c_seq); walk_at "st"
  | (with_reducible apply c_asg) <;> (first | walk_at "sx" | skip)
  | (with_reducible apply c_asgG) <;> (first | walk_at "sx" | skip)
  | (with_reducible apply c_par) <;> (first | walk_at "sx" | skip)
  | (with_reducible apply c_par3) <;> (first | walk_at "sx" | skip)
  | (with_reducible apply c_aug) <;> (first | walk_at "sx" | skip)
  | (with_reducible apply c_augS) <;> (first | walk_at "sx" | skip)
  | (with_reducible apply c_fld) <;> (first | walk_at "sx" | skip)
  | (with_reducible apply c_drop) <;> (first | walk_at "sx" | skip)
  | with_reducible apply c_next
  | with_reducible apply c_break
  | with_reducible apply c_cont)
/-- a value is handed back; a word is met again -/
local macro_rules | `(tactic| walk_at "ret") => `(tactic| (with_reducible apply c_ret) <;> (first | walk_at "sx" | skip))
local macro_rules | `(tactic| walk_at "inv") => `(tactic| (with_reducible apply c_inv) <;> (first | walk_at "side" | skip))
local macro_rules | `(tactic| walk_at "seq") => `(tactic| with_reducible apply c_seq)
local macro_rules | `(tactic| walk_at "cut") => `(tactic| with_reducible apply c_cut)
local macro_rules | `(tactic| walk_at "if") => `(tactic| ((with_reducible apply c_if); (case' h => first | walk_at "sx" | skip)))
local macro_rules | `(tactic| walk_at "fgt") => `(tactic| first
  | exact Fgt.nil
  | (with_reducible apply Fgt.keep; walk_at "fgt")
  | (with_reducible apply Fgt.drop; walk_at "fgt"))

theorem is_whole_body {K : PySem.W.Frag} {mg : Str → Option Value} (T : Tx K mg) : ∀ Q ds M P Φ, ds.length = 3 → S_is_whole K T ds M P → RtQ Q Φ P → Cont (rd_is_whole_0 K T (fnD Q)) Φ (entry ["thing", "low", "high"] ds) M := by
  rintro Q ds M P Φ - ⟨d, lo, hi, rfl, hd, hP⟩ hQ
  show Cont _ _ [some (dat d), some (dat (.int lo)), some (dat (.int hi))] _
  rcases hd with ⟨i, rfl⟩ | ⟨s, rfl⟩
  · refine c_ret (x := dat (.bool (isW (.int i) lo hi))) ?h1 hQ hP (Le.refl _)
    case h1 =>
      have e : isW (.int i) lo hi = (true && (!false && (decide (lo ≤ i) && decide (i ≤ hi)))) := by simp [isW]
      rw [e]
      refine ev_andV (a := true) ?_ fun _ => ev_andV (a := !false) ?_ fun _ => ?_
      · exact ev_cb (ea_cons (ev_var .here) (ea_cons ev_val ea_nil)) (rc_isi rfl)
      · exact ev_notV (ev_cb (ea_cons (ev_var .here) (ea_cons ev_val ea_nil)) (rc_isi rfl))
      · walk_at "sx"
  · refine c_ret (x := dat (.bool (isW (.str s) lo hi))) ?h2 hQ hP (Le.refl _)
    case h2 =>
      show Ev _ _ _ (dat (.bool (false && false))) _
      refine ev_andV (a := false) ?_ fun z => Bool.noConfusion z
      exact ev_cb (ea_cons (ev_var .here) (ea_cons ev_val ea_nil)) (rc_isi rfl)
theorem most_of_body {K : PySem.W.Frag} {mg : Str → Option Value} (T : Tx K mg) : ∀ Q ds M P Φ, ds.length = 1 → S_most_of K T ds M P → RtQ Q Φ P → Cont (rd_most_of_0 K T (fnD Q)) Φ (entry ["many"] ds) M := by
  rintro Q ds M P Φ - ⟨m, rfl, hP⟩ hQ
  show Cont _ _ [some (dat (.int m))] _
  refine c_ret (x := dat (.int (m / 2 + 1))) ?h1 hQ hP (Le.refl _)
  case h1 => walk_at "sx"
theorem enc_head (r : Rc) : ∃ ds, encR r = .tuple ds ∧ L2.atI ds 0 = some (.str (match r with | .pr _ => "promise" | .tk _ _ _ => "take")) ∧ L2.atI ds 1 = some (.int r.e) := by
  cases r with
  | pr e => exact ⟨_, rfl, rfl, rfl⟩
  | tk e p x => exact ⟨_, rfl, rfl, rfl⟩
theorem Record_put_body {K : PySem.W.Frag} {mg : Str → Option Value} (T : Tx K mg) : ∀ Q ds M P Φ, ds.length = 2 → S_Record_put K T ds M P → RtQ Q Φ P → Cont (rd_Record_put_0 K T (fnD Q)) Φ (entry ["self", "record", "pair"] ds) M := by
  rintro Q ds M P Φ - ⟨q, a, s, r, M', rfl, hl, ⟨L, h1, h2⟩, hP⟩ hQ
  have hC := T.F_Record
  show Cont _ _ [some (val (.ref q)), some (dat (encR r)), none] _
  have hQ := hQ.up
  refine c_perm h1 ?_
  show Cont _ _ _ ((q, _) :: (a, _) :: L)
  obtain ⟨e, row⟩ := s
  have hl : row.length ≤ 100000 := hl
  cases r with
  | pr e' =>
    show Cont _ _ [some (val (.ref q)), some (dat (.tuple [.str "promise", .int e'])), none] _
    walk_at "st"
    walk_at "if"
    case h1 => intro hb; exact absurd hb (by decide +kernel)
    case h2 =>
      intro hb
      walk_at "st"
      refine c_end hQ ?_ (Le.refl _)
      exact up_perm h2.symm hP
  | tk e' p x =>
    show Cont _ _ [some (val (.ref q)), some (dat (.tuple [.str "take", .int e', .int (p : Int), .int x])), none] _
    walk_at "st"
    walk_at "if"
    case h2 => intro hb; exact absurd hb (by decide +kernel)
    case h1 =>
      intro hb
      walk_at "st"
      walk_at "if"
      case h1 =>
        intro hb
        have hlt : p < row.length := by simpa using hb
        have hj : ixN (row.map encP).length (p : Int) = some p := by rw [List.length_map]; exact Evl.ixN_nat hlt
        have e1 : (row.map encP).set p (.tuple [.int e', .int x]) = (putRow row p (e', x)).map encP := by rw [putRow_lt hlt, List.map_set]
        with_reducible apply c_setLd (hj := hj) <;> (first | walk_at "sx" | skip)
        · exact rfl
        rw [e1]
        refine c_end hQ ?_ (Le.refl _)
        exact up_perm h2.symm hP
      case h2 =>
        intro hb
        have hlt : ¬ p < row.length := by simpa using hb
        have e1 : row.map encP ++ [.tuple [.int e', .int x]] = (putRow row p (e', x)).map encP := by rw [putRow_ge hlt, List.map_append]; rfl
        walk_at "st"
        rw [e1]
        refine c_end hQ ?_ (Le.refl _)
        exact up_perm h2.symm hP
theorem fits_is {row : Row} {e : Int} {p : Nat} : fits row e p = true ↔ p ≤ row.length ∧ (p = 0 ∨ (row[p - 1]?).map (·.1) = some e) := by simp [fits]
theorem Record_fits_body {K : PySem.W.Frag} {mg : Str → Option Value} (T : Tx K mg) : ∀ Q ds M P Φ, ds.length = 3 → S_Record_fits K T ds M P → RtQ Q Φ P → Cont (rd_Record_fits_0 K T (fnD Q)) Φ (entry ["self", "epoch", "place"] ds) M := by
  rintro Q ds M P Φ - ⟨q, a, s, e, p, rfl, hl, ⟨L, h1, h2⟩, hP⟩ hQ
  have hC := T.F_Record
  show Cont _ _ [some (val (.ref q)), some (dat (.int e)), some (dat (.int (p : Int)))] _
  have hQ := hQ.up
  refine c_perm h1 ?_
  show Cont _ _ _ ((q, _) :: (a, _) :: L)
  obtain ⟨ep, row⟩ := s
  have hl : row.length ≤ 100000 := hl
  walk_at "cut"
  walk_at "if"
  case h1 =>
    intro hb
    have hlt : row.length < p := by simpa using hb
    have e1 : fits row e p = false := by
      rw [Bool.eq_false_iff]; intro z; have := (fits_is.mp z).1; omega
    refine c_ret (x := dat (.bool false)) (P := Up P) ev_bl hQ ?_ (Le.refl _)
    exact up_perm h2.symm (by rw [← e1]; exact hP)
  case h2 =>
    intro hb
    have hlt : ¬ row.length < p := by simpa using hb
    walk_at "st"
    show Cont (rd_Record_fits_3 K T (fnD Q)) Φ _ _
    refine c_ret (D := fnD Q) (M1 := (q, recI T.C_Record a ep) :: (a, rl row) :: L) (x := dat (.bool (fits row e p))) (P := Up P) ?h3 hQ (up_perm h2.symm hP) (Le.refl _)
    case h3 =>
      by_cases h0 : p = 0
      · subst h0
        have e1 : fits row e 0 = (decide (((0 : Nat) : Int) = 0) || false) := by simp [fits]
        rw [e1]
        refine ev_orV (by walk_at "sx") fun z => ?_
        simp at z
      · obtain ⟨y, hy⟩ : ∃ y, row[p - 1]? = some y := ⟨_, List.getElem?_eq_getElem (by omega)⟩
        have e1 : fits row e p = (decide ((p : Int) = 0) || decide (y.1 = e)) := by
          have : p ≤ row.length := by omega
          have h0' : ¬ (p : Int) = 0 := by omega
          simp [fits, h0, hy, this]
        have hat : L2.atI (row.map encP) ((p : Int) - 1) = some (encP y) := by
          rw [show (p : Int) - 1 = ((p - 1 : Nat) : Int) by omega]
          exact atI_nat (by rw [List.getElem?_map, hy]; rfl)
        rw [e1]
        refine ev_orV (by walk_at "sx") fun _ => ?_
        walk_at "sx"
theorem put_ev {K : PySem.W.Frag} {mg : Str → Option Value} {T : Tx K mg} {q a : Addr} {s : Int × Row} {r : Rc} {M M' : Cells} (h : Sw (recC T.C_Record q a s) (recC T.C_Record q a (stepR s r)) M M') (hl : s.2.length ≤ 100000) :
    S_Record_put K T [val (.ref q), dat (encR r)] M (Det vn M') := ⟨q, a, s, r, M', rfl, hl, h, rfl, rfl⟩
local macro_rules | `(tactic| walk_at "spec") => `(tactic| first
  | with_reducible exact number_ev
  | (with_reducible apply take_ev) <;> walk_at "sx"
  | (with_reducible apply put_ev) <;> walk_at "sx")

theorem Record_init_body {K : PySem.W.Frag} {mg : Str → Option Value} (T : Tx K mg) : ∀ Q ds M P Φ, ds.length = 2 → S_Record_init K T ds M P → RtQ Q Φ P → Cont (rd_Record_init_0 K T (fnD Q)) Φ (entry ["self", "records", "record"] ds) M := by
  rintro Q ds M P Φ - ⟨q, rs, M0, rfl, rfl, hl, hP⟩ hQ
  have hC := T.F_Record
  show Cont _ _ [some (val (.ref q)), some (dat (.tuple (rs.map encR))), none] _
  have hQ := hQ.up
  walk_at "st"
  apply c_seq
  refine c_fldR (er_lstCd ed_nil (by decide)) ?_ hC (by decide +kernel)
  rintro y M1 ⟨a, rfl, rfl⟩
  apply fld_k <;> (first | walk_at "sx" | skip)
  with_reducible apply c_perm (M' := (q, recI T.C_Record a (foldR []).1) :: (a, rl (foldR []).2) :: M0)
  · walk_at "perm"
  with_reducible apply c_for (I := fun i ρ' M' => ∃ x2, ρ' = [some (val (.ref q)), some (dat (.tuple (rs.map encR))), x2] ∧ M' = (q, recI T.C_Record a (foldR (rs.take i)).1) :: (a, rl (foldR (rs.take i)).2) :: M0)
  case h => walk_at "sx"
  case h0 => exact ⟨none, rfl, rfl⟩
  case hd =>
    rintro ρ' M' ⟨x2, rfl, rfl⟩
    rw [List.length_map, List.take_length]
    refine c_end hQ ?_ (Le.refl _)
    exact up_perm (List.Perm.refl _) (hP a)
  case hs =>
    rintro Ψ hΨ i d ρ' M' hi ⟨x2, rfl, rfl⟩
    rw [List.getElem?_map] at hi
    cases hr : rs[i]? with
    | none => rw [hr] at hi; cases hi
    | some r =>
      rw [hr] at hi
      cases hi
      have hlen : (foldR (rs.take i)).2.length ≤ 100000 := Nat.le_trans (foldR_len _) (by rw [List.length_take]; omega)
      apply for_k <;> (first | walk_at "sx" | skip)
      walk_at "st"
      rw [← fold_take hr]
      exact c_inv ⟨_, rfl, rfl⟩ (Le.refl _)
  all_goals trace_state
theorem Keeper_init_body {K : PySem.W.Frag} {mg : Str → Option Value} (T : Tx K mg) : ∀ Q ds M P Φ, ds.length = 2 → S_Keeper_init K T ds M P → RtQ Q Φ P → Cont (rd_Keeper_init_0 K T (fnD Q)) Φ (entry ["self", "number"] ds) M := by
  rintro Q ds M P Φ - ⟨p, M0, rfl, rfl, hP⟩ hQ
  have hC := T.F_Keeper
  show Cont _ _ [some (val (.ref p)), some (dat (.int 2))] _
  walk_at "st"
  walk_at "st"
  walk_at "st"
  walk_at "st"
  exact c_end hQ hP (Le.refl _)
theorem fits_ev {K : PySem.W.Frag} {mg : Str → Option Value} {T : Tx K mg} {q a : Addr} {s : Int × Row} {e : Int} {p : Nat} {M : Cells} (h : Sw (recC T.C_Record q a s) (recC T.C_Record q a s) M M) (hl : s.2.length ≤ 100000) :
    S_Record_fits K T [val (.ref q), dat (.int e), dat (.int (p : Int))] M (Det (dat (.bool (fits s.2 e p))) M) := ⟨q, a, s, e, p, rfl, hl, h, rfl, rfl⟩
theorem Keeper_kept_body {K : PySem.W.Frag} {mg : Str → Option Value} (T : Tx K mg) : ∀ Q ds M P Φ, ds.length = 1 → S_Keeper_kept K T ds M P → RtQ Q Φ P → Cont (rd_Keeper_kept_0 K T (fnD Q)) Φ (entry ["self"] ds) M := by
  rintro Q ds M P Φ - ⟨p, k, rfl, hl, hm, hP⟩ hQ
  have hC := T.F_Keeper
  show Cont _ _ [some (val (.ref p))] _
  refine c_retR (P' := fun y N => ∃ q a, y = val (.ref q) ∧ N = (q, recI T.C_Record a k.s.1) :: (a, rl k.s.2) :: M) ?_ hQ ?_ (Le.refl _)
  · refine er_make (ds := [dat (.tuple ((k.recs ++ k.loose).map encR))]) ?_ rfl fun q => ⟨q, k.recs ++ k.loose, M, rfl, rfl, by rw [List.length_append]; exact hl, fun a => ⟨rfl, q, a, rfl, rfl⟩⟩
    rw [List.map_append]
    refine ea_cons (ev_op (by walk_at "sx") (by walk_at "sx") (rv_catTd ?_)) ea_nil
    rw [List.length_map, List.length_map]
    show _ ≤ 16777216
    omega
  · rintro x M1 ⟨q, a, rfl, rfl⟩
    exact hP q a

end Lw


set_option Elab.async false
set_option linter.all false
set_option maxRecDepth 100000
set_option maxHeartbeats 4000000
namespace Lw
open PySem L2 Sx
/-! ### steps -/
local macro_rules | `(tactic| walk_at "shp") => `(tactic| first
  | exact shp_int
  | exact shp_none
  | exact shp_bool
  | exact shp_oi _
  | (apply shp_str; first | decide +kernel | assumption)
  | (apply shp_list; walk_at "shpA")
  | (apply shp_tuple; walk_at "shpA")
  | assumption)
local macro_rules | `(tactic| walk_at "shpA") => `(tactic| first
  | exact shpA_nil
  | (apply shpA_cons; (· walk_at "shp"); walk_at "shpA")
  | (apply shpA_map; intro _ _; walk_at "shp"))
/-- what is left beside: closed, or left -/
local macro_rules | `(tactic| walk_at "side") => `(tactic| first
  | (with_reducible show Shp _ _); walk_at "shp"
  | (with_reducible show _ ≤ sizeLine); first | decide | (show _ ≤ 16777216; omega) | (show _ ≤ 16777216; simp only [List.length_map, List.length_append, List.length_cons, List.length_nil]; omega)
  | (with_reducible show _ < sizeLine); first | decide | (show _ < 16777216; omega) | (show _ < 16777216; simp only [List.length_map, List.length_append, List.length_cons, List.length_nil]; omega)
  | (with_reducible show CMul _ _); first | exact Or.inr ⟨by decide, by decide⟩ | exact Or.inl ⟨by decide, by decide⟩ | exact Or.inl ⟨by omega, by omega⟩ | exact Or.inr ⟨by omega, by omega⟩
  | (with_reducible show CPow _ _); exact ⟨by decide, by decide, by decide⟩
  | (with_reducible show CDiv _ _); first | exact ⟨by decide, by decide⟩ | exact ⟨by omega, by omega⟩
  | (with_reducible show Le _ _); first | with_reducible exact Le.refl _ | with_reducible assumption
  | (with_reducible show L2.atI _ _ = _); first | with_reducible assumption | exact rfl | exact atI_nat rfl
  | (with_reducible show _ < _); first | with_reducible assumption | decide | omega
  | (with_reducible show _ ≤ _); first | with_reducible assumption | decide | omega
  | (with_reducible show _ ∧ _); omega
  | (with_reducible show ∀ i, i ∈ _ → i ∈ _); decide
  | (with_reducible show (_ : Nat) = _); first | exact rfl | omega)
local macro_rules | `(tactic| walk_at "rm") => `(tactic| first
  | exact Rm.here
  | (apply Rm.there; walk_at "rm"))
local macro_rules | `(tactic| walk_at "perm") => `(tactic| first
  | with_reducible exact List.Perm.refl _
  | (apply perm_step; (· walk_at "rm"); walk_at "perm")
  | exact List.Perm.refl _)
local macro_rules | `(tactic| walk_at "pk") => `(tactic| first
  | with_reducible exact Pk.here
  | ((with_reducible apply Pk.there); walk_at "pk"))
/-- a part of a reading: what it gives. One word for all kinds -/
local macro_rules | `(tactic| walk_at "sx") => `(tactic| first
  -- an expression
  | with_reducible exact ev_int
  | with_reducible exact ev_bl
  | with_reducible exact ev_str
  | with_reducible exact ev_non
  | (with_reducible apply ev_var) <;> walk_at "sx"
  | (with_reducible apply ev_op) <;> walk_at "sx"
  | (with_reducible apply ev_fld) <;> walk_at "sx"
  | (with_reducible apply ev_cb) <;> walk_at "sx"
  | (with_reducible apply ev_tupD) <;> walk_at "sx"
  | (with_reducible apply ev_lstD) <;> walk_at "sx"
  | (with_reducible apply ev_tupV) <;> walk_at "sx"
  | (with_reducible apply ev_lstV) <;> walk_at "sx"
  | (with_reducible apply ev_slL) <;> walk_at "sx"
  | (with_reducible apply ev_slT1) <;> walk_at "sx"
  | (with_reducible apply ev_slT) <;> walk_at "sx"
  | (with_reducible apply ev_un) <;> walk_at "sx"
  | (with_reducible apply ev_chain) <;> walk_at "sx"
  | (with_reducible apply ev_andV) <;> walk_at "sx"
  | (with_reducible apply ev_orV) <;> walk_at "sx"
  | (with_reducible apply ev_notV) <;> walk_at "sx"
  | (with_reducible apply ev_lcY) <;> walk_at "sx"
  | (with_reducible apply ev_lc) <;> walk_at "sx"
  | ((with_reducible show ∀ a, a ∈ _ → ∃ ρ'' js, _); intro a ha; dsimp only [wipeE, List.set]; (first | with_reducible apply lcY_k | with_reducible apply lcF_k) <;> walk_at "sx")
  | (with_reducible apply ev_call) <;> walk_at "sx"
  | (with_reducible apply ev_meth) <;> walk_at "sx"
  | (with_reducible apply ev_bm) <;> walk_at "sx"
  | (with_reducible show Ev _ _ _ _ _); walk_at "own"
  -- a test
  | with_reducible exact et_yes
  | (with_reducible apply et_test) <;> walk_at "sx"
  | (with_reducible apply et_B) <;> walk_at "sx"
  | (with_reducible apply et_not) <;> walk_at "sx"
  | (with_reducible apply et_and) <;> walk_at "sx"
  | (with_reducible apply et_or) <;> walk_at "sx"
  -- arguments
  | with_reducible exact ea_nil
  | (with_reducible apply ea_cons) <;> walk_at "sx"
  | with_reducible exact ed_nil
  | (with_reducible apply ed_cons) <;> walk_at "sx"
  | with_reducible exact eo_none
  | (with_reducible apply eo_some) <;> walk_at "sx"
  -- what an operation gives
  | with_reducible exact rv_addI
  | with_reducible exact rv_int0
  | with_reducible exact rv_bl0
  | with_reducible exact rv_eqI
  | with_reducible exact rv_neI
  | with_reducible exact rv_eqS
  | with_reducible exact rv_neS
  | with_reducible exact rv_isN
  | with_reducible exact rv_notN
  | (with_reducible apply rv_intC) <;> walk_at "sx"
  | (with_reducible apply rv_addS) <;> walk_at "sx"
  | (with_reducible apply rv_ixL isl_dat) <;> walk_at "sx"
  | (with_reducible apply rv_ixT ist_dat) <;> walk_at "sx"
  | (with_reducible apply rv_ixL) <;> walk_at "sx"
  | (with_reducible apply rv_ixLV) <;> walk_at "sx"
  | (apply rv_ixT ist_dat) <;> walk_at "sx"
  | (with_reducible apply rv_ixTV istv_vtup) <;> walk_at "sx"
  | (with_reducible apply rv_ixScr) <;> walk_at "sx"
  | (apply rv_ixL isl_dat) <;> walk_at "sx"
  | (with_reducible apply rv_ixL) <;> walk_at "sx"
  | (apply rv_cat) <;> walk_at "sx"
  | (with_reducible apply rv_eqD) <;> walk_at "sx"
  | (with_reducible apply rv_neD) <;> walk_at "sx"
  | with_reducible exact ru_neg
  | with_reducible exact rc_int
  | with_reducible exact rc_abs
  | with_reducible exact rc_max2
  | with_reducible exact rc_min2
  | with_reducible exact rc_lenScr
  | with_reducible exact rc_lenM isl_dat
  | ((with_reducible apply rc_lenM); (with_reducible apply isl_cell) <;> walk_at "sx")
  | with_reducible exact rc_lenMT
  | (with_reducible apply rc_lenL) <;> walk_at "sx"
  | (apply rc_lenT ist_dat)
  | (with_reducible apply rc_tupL) <;> walk_at "sx"
  | (apply rc_tupT)
  | (with_reducible apply rc_lstL) <;> walk_at "sx"
  | (apply rc_lstT ist_dat)
  | with_reducible exact rc_anyM
  | with_reducible exact rc_allM
  | ((with_reducible apply rm_append) <;> walk_at "sx")
  -- lists, tuples, data
  | with_reducible exact isl_dat
  | with_reducible exact isd_dat
  | with_reducible exact isd_scr
  | (with_reducible apply isl_cell) <;> walk_at "sx"
  | (with_reducible apply islv_cell) <;> walk_at "sx"
  | with_reducible exact islv_vlst
  | (with_reducible apply isd_cell) <;> walk_at "sx"
  | (with_reducible apply isd_vtup) <;> walk_at "sx"
  | (with_reducible apply isd_vlst) <;> walk_at "sx"
  | with_reducible exact isds_nil
  | (with_reducible apply isds_cons) <;> walk_at "sx"
  | with_reducible exact fzl_dat
  | with_reducible exact fzl_v
  | with_reducible exact fzt_dat
  | with_reducible exact fzt_v
  | (with_reducible apply ity_l) <;> walk_at "sx"
  | with_reducible exact ity_s
  | (with_reducible apply IsLst.v) <;> walk_at "sx"
  -- places
  | with_reducible exact At.here
  | (with_reducible apply At.there) <;> walk_at "sx"
  | with_reducible exact SetAt.here
  | (with_reducible apply SetAt.there) <;> walk_at "sx"
  | with_reducible exact List.mem_cons_self
  | (with_reducible apply List.mem_cons_of_mem) <;> walk_at "sx"
  | ((with_reducible show (_ : Addr × CD) ∈ _); with_reducible assumption)
  | with_reducible exact Put.here
  | (with_reducible apply Put.there) <;> walk_at "sx"
  | ((with_reducible show Put _ _ _ _ _); with_reducible assumption)
  | ((with_reducible show Sw _ _ _ _); with_reducible assumption)
  | with_reducible exact sw_nil
  | ((with_reducible apply sw_pick); (· walk_at "pk"); walk_at "sx")
  | ((with_reducible apply sw_skip); walk_at "sx")
  | with_reducible exact FGet.here
  | ((with_reducible apply FGet.there); (· decide +kernel); walk_at "sx")
  | with_reducible exact FPut.here
  | with_reducible exact FPut.new
  | ((with_reducible apply FPut.there); (· decide +kernel); walk_at "sx")
  | (with_reducible show ClsF _ _ _); with_reducible assumption
  | (with_reducible show RtQ _ _ _); assumption
  | (with_reducible show (_ : Str) ∈ _); decide +kernel
  | (with_reducible show ¬ (_ : Str) ∈ _); decide +kernel
  -- what is walked, targets
  | (with_reducible apply ei_rng1) <;> walk_at "sx"
  | (with_reducible apply ei_rng2) <;> walk_at "sx"
  | (with_reducible apply ei_enumD) <;> walk_at "sx"
  | (with_reducible apply ei_enum) <;> walk_at "sx"
  | (with_reducible apply ei_zip) <;> walk_at "sx"
  | (with_reducible apply ei_seqLM) <;> walk_at "sx"
  | (with_reducible apply ei_seqTM) <;> walk_at "sx"
  | (with_reducible apply ei_seqL) <;> walk_at "sx"
  | (with_reducible apply ei_seqT) <;> walk_at "sx"
  | (with_reducible apply tg_name) <;> walk_at "sx"
  | (with_reducible apply tg_tup istv_vtup) <;> walk_at "sx"
  | (with_reducible apply td_tup) <;> walk_at "sx"
  | with_reducible exact td_nil
  | (with_reducible apply td_cons) <;> walk_at "sx"
  | with_reducible exact tgs_nil
  | (with_reducible apply tgs_cons) <;> walk_at "sx"
  -- beside
  | walk_at "spec"
  | walk_at "side"
  | walk_at "leave")
/-- a question of another kind is left -/
local macro_rules | `(tactic| walk_at "leave") => `(tactic| first
  | with_reducible show Cont _ _ _ _
  | with_reducible show Shp _ _
  | with_reducible show _ ≤ _
  | with_reducible show _ < _
  | with_reducible show CMul _ _
  | with_reducible show CDiv _ _
  | with_reducible show CPow _ _
  | with_reducible show _ = _
  | with_reducible show Le _ _
  | ((with_reducible show _ = true → _); with_reducible assumption)
  | ((with_reducible show _ = true → _); intro _; walk_at "sx")
  | ((with_reducible show _ = false → _); intro _; walk_at "sx"))
/-- a plain statement -/
local macro_rules | `(tactic| walk_at "st") => `(tactic| first
  | (with_reducible apply c_seq); walk_at "st"
  | (with_reducible apply c_asg) <;> (first | walk_at "sx" | skip)
  | (with_reducible apply c_asgG) <;> (first | walk_at "sx" | skip)
  | (with_reducible apply c_par) <;> (first | walk_at "sx" | skip)
  | (with_reducible apply c_par3) <;> (first | walk_at "sx" | skip)
  | (with_reducible apply c_aug) <;> (first | walk_at "sx" | skip)
  | (with_reducible apply c_augS) <;> (first | walk_at "sx" | skip)
  | (with_reducible apply c_fld) <;> (first | walk_at "sx" | skip)
  | (with_reducible apply c_drop) <;> (first | walk_at "sx" | skip)
  | with_reducible apply c_next
  | with_reducible apply c_break
  | with_reducible apply c_cont)
/-- a value is handed back; a word is met again -/
local macro_rules | `(tactic| walk_at "ret") => `(tactic| (with_reducible apply c_ret) <;> (first | walk_at "sx" | skip))
local macro_rules | `(tactic| walk_at "inv") => `(tactic| (with_reducible apply c_inv) <;> (first | walk_at "side" | skip))
local macro_rules | `(tactic| walk_at "seq") => `(tactic| with_reducible apply c_seq)
local macro_rules | `(tactic| walk_at "cut") => `(tactic| with_reducible apply c_cut)
local macro_rules | `(tactic| walk_at "if") => `(tactic| ((with_reducible apply c_if); (case' h => first | walk_at "sx" | skip)))
local macro_rules | `(tactic| walk_at "fgt") => `(tactic| first
  | exact Fgt.nil
  | (with_reducible apply Fgt.keep; walk_at "fgt")
  | (with_reducible apply Fgt.drop; walk_at "fgt"))

/-! ### more steps: stars, dicts, tuples -/
local macro_rules | `(tactic| walk_at "sx") => `(tactic| first
  | (with_reducible apply ed_starT) <;> walk_at "sx"
  | (with_reducible apply ev_dgetS) <;> walk_at "sx"
  | with_reducible exact isdi_v
  | (with_reducible apply isdi_c) <;> walk_at "sx"
  | (with_reducible apply rv_catTd) <;> walk_at "sx"
  | with_reducible exact ist_dat
  | ((with_reducible show ¬ (_ : Int) < _); with_reducible assumption)
  | ((with_reducible show valG _ _ = _); walk_at "get")
  | ((with_reducible show putG _ _ _ = _); walk_at "get"))

local macro_rules | `(tactic| walk_at "get") => `(tactic| first | exact get_ep _ | exact get_row _ | exact put_ep _ _ | exact put_row _ _)
local macro_rules | `(tactic| walk_at "spec") => `(tactic| first
  | with_reducible exact number_ev
  | (with_reducible apply take_ev) <;> walk_at "sx"
  | (with_reducible apply put_ev) <;> walk_at "sx"
  | (with_reducible apply fits_ev) <;> walk_at "sx")
theorem eqok_P : EqOk encP := fun x y => by
  obtain ⟨a, b⟩ := x
  obtain ⟨c, d⟩ := y
  simp [PyData.eqv, PyData.eqvAll]
theorem new_is {row : Row} {e : Int} {p : Nat} {x : Int} {y : Int × Int} (hy : row[p]? = some y) : newAt row e p x = (decide ((p : Int) = (row.length : Int)) || !PyData.eqv (encP y) (encP (e, x))) := by
  have h2 : decide ((p : Int) = (row.length : Int)) = decide (p = row.length) := decide_eq_decide.mpr (by omega)
  have h3 : decide (row[p]? ≠ some (e, x)) = !decide (y = (e, x)) := by
    rw [hy]
    by_cases h : y = (e, x) <;> simp [h]
  unfold newAt
  rw [eqok_P.dec, h2, h3]
theorem Keeper_take_body {K : PySem.W.Frag} {mg : Str → Option Value} (T : Tx K mg) : ∀ Q ds M P Φ, ds.length = 5 → S_Keeper_take K T ds M P → RtQ Q Φ P → Cont (rd_Keeper_take_0 K T (fnD Q)) Φ (entry ["self", "known", "epoch", "place", "entry"] ds) M := by
  rintro Q ds M P Φ - ⟨p, k, q, a, e, pl, x, M', rfl, hl, he, ⟨L, h1, h2⟩, hP⟩ hQ
  have hC := T.F_Keeper
  have hC2 := T.F_Record
  show Cont _ _ [some (val (.ref p)), some (val (.ref q)), some (dat (.int e)), some (dat (.int (pl : Int))), some (dat (.int x))] _
  have hQ := hQ.up
  refine c_perm h1 ?_
  show Cont _ _ _ ((p, _) :: (q, _) :: (a, _) :: L)
  have hrl : k.s.2.length ≤ 100000 := Nat.le_trans (foldR_len _) (by rw [List.length_append]; omega)
  generalize hs : k.s = s at *
  walk_at "cut"
  walk_at "if"
  case h1 =>
    intro hb
    have hf : fits s.2 e pl = false := by simpa using hb
    have e1 : handleK k (.wr e pl x) = k := by
      unfold handleK
      rw [hs]
      simp only [recOf, ansOf, if_neg he, hf, Option.toList]
      simp
    rw [e1] at h2
    refine c_retN hQ ?_ (Le.refl _)
    exact up_perm h2.symm hP
  case h2 =>
    intro hb
    have hf : fits s.2 e pl = true := by simpa using hb
    have hle : pl ≤ s.2.length := (fits_is.mp hf).1
    walk_at "st"
    with_reducible apply c_cutW (fun ρ' N => ρ' = [some (val (.ref p)), some (val (.ref q)), some (dat (.int e)), some (dat (.int (pl : Int))), some (dat (.int x))] ∧ N = (p, kpI T.C_Keeper ⟨k.recs, k.loose ++ (recOf s (.wr e pl x)).toList, k.wait⟩) :: (q, recI T.C_Record a s.1) :: (a, rl s.2) :: L)
    case h =>
      with_reducible apply c_if (b := newAt s.2 e pl x) (M1 := (p, kpI T.C_Keeper k) :: (q, recI T.C_Record a s.1) :: (a, rl s.2) :: L)
      case h =>
        by_cases hp : pl = s.2.length
        · have e1 : newAt s.2 e pl x = true := by simp [newAt, hp]
          rw [e1]
          apply et_orT
          apply EvT.eq
          · walk_at "sx"
          · exact decide_eq_true (by omega)
        · obtain ⟨y, hy⟩ : ∃ y, s.2[pl]? = some y := ⟨_, List.getElem?_eq_getElem (by omega)⟩
          have hat : L2.atI (s.2.map encP) (pl : Int) = some (encP y) := atI_nat (by rw [List.getElem?_map, hy]; rfl)
          rw [new_is hy]
          walk_at "sx"
      case h1 =>
        intro hb
        have e1 : recOf s (.wr e pl x) = some (.tk e pl x) := by simp only [recOf, if_neg he, hf, hb, if_true]
        rw [e1]
        walk_at "st"
        refine c_inv ⟨rfl, ?_⟩ (Le.refl _)
        rw [show k.loose.map encR ++ [.tuple [.str "take", .int e, .int (pl : Int), .int x]] = (k.loose ++ [Rc.tk e pl x]).map encR by rw [List.map_append]; rfl]
        rfl
      case h2 =>
        intro hb
        have e1 : recOf s (.wr e pl x) = none := by simp only [recOf, if_neg he, hf, hb, if_true, Bool.false_eq_true, if_false]
        rw [e1]
        walk_at "st"
        refine c_inv ⟨rfl, ?_⟩ (Le.refl _)
        simp only [Option.toList, List.append_nil]
    case k =>
      rintro ρ' N ⟨rfl, rfl⟩
      walk_at "st"
      refine c_end hQ ?_ (Le.refl _)
      have e1 : handleK k (.wr e pl x) = ⟨k.recs, k.loose ++ (recOf s (.wr e pl x)).toList, k.wait ++ [aTaken e pl]⟩ := by
        unfold handleK
        rw [hs]
        simp only [ansOf, if_neg he, hf, if_true, Option.toList]
      rw [e1] at h2
      exact up_perm h2.symm hP
theorem c_parR {ta : TA} {ρ : Sx.Env} {M : Cells} {Φ : Fr} {D : Ends} {P : List VD → Cells → Prop} {i j : Nat} (h : EvAR ta ρ M P) (k : ∀ ds M1, P ds M1 → ∃ x y ρ1 ρ2, ds = [x, y] ∧ SetAt x ρ i ρ1 ∧ SetAt y ρ1 j ρ2 ∧ Cont D.nx Φ ρ2 M1) : Cont (tPar i j ta D) Φ ρ M := fun σ H s => h Φ σ H _ s fun ds M1 vs H1 hp s1 => by
  obtain ⟨x, y, ρ1, ρ2, rfl, h1, h2, kk⟩ := k ds M1 hp
  have ⟨F, s0⟩ := s1
  obtain ⟨v, w, rfl, q1, q2⟩ := rc2 s0.fr.2
  refine ⟨v, w, rfl, kk _ _ ?_⟩
  have s2 : Sat ((Φ.and y w).and x v) ρ M1 σ H1 := s1.weak (.of rfl fun F h => by
    obtain ⟨v', w', e, q1, q2⟩ := rc2 h.2
    cases e
    exact ⟨⟨h.1, q2⟩, q1⟩)
  exact (s2.asg h1).asg h2
theorem kept_er {K : PySem.W.Frag} {mg : Str → Option Value} {T : Tx K mg} {p : Addr} {k : KS} {M : Cells} (hm : (p, kpI T.C_Keeper k) ∈ M) (hl : k.recs.length + k.loose.length ≤ 10000) :
    S_Keeper_kept K T [val (.ref p)] M (fun y N => ∃ q a, y = val (.ref q) ∧ N = (q, recI T.C_Record a k.s.1) :: (a, rl k.s.2) :: M) := ⟨p, k, rfl, hl, hm, fun q a => ⟨q, a, rfl, rfl⟩⟩
theorem ktake_ev {K : PySem.W.Frag} {mg : Str → Option Value} {T : Tx K mg} {p q a : Addr} {k : KS} {e x : Int} {pl : Nat} {M M' : Cells} (h : Sw ((p, kpI T.C_Keeper k) :: recC T.C_Record q a k.s) ((p, kpI T.C_Keeper (handleK k (.wr e pl x))) :: recC T.C_Record q a k.s) M M')
    (hl : k.recs.length + k.loose.length + k.wait.length ≤ 10000) (he : ¬ e < k.s.1) : S_Keeper_take K T [val (.ref p), val (.ref q), dat (.int e), dat (.int (pl : Int)), dat (.int x)] M (Det vn M') := ⟨p, k, q, a, e, pl, x, M', rfl, hl, he, h, rfl, rfl⟩
local macro_rules | `(tactic| walk_at "spec") => `(tactic| first
  | with_reducible exact number_ev
  | (with_reducible apply take_ev) <;> walk_at "sx"
  | (with_reducible apply put_ev) <;> walk_at "sx"
  | (with_reducible apply fits_ev) <;> walk_at "sx"
  | (with_reducible apply ktake_ev) <;> walk_at "sx")
theorem Keeper_handle_body {K : PySem.W.Frag} {mg : Str → Option Value} (T : Tx K mg) : ∀ Q ds M P Φ, ds.length = 2 → S_Keeper_handle K T ds M P → RtQ Q Φ P → Cont (rd_Keeper_handle_0 K T (fnD Q)) Φ (entry ["self", "letter", "known", "epoch"] ds) M := by
  rintro Q ds M P Φ - ⟨p, k, l, M', rfl, hl, ⟨L, h1, h2⟩, hP⟩ hQ
  have hC := T.F_Keeper
  have hC2 := T.F_Record
  show Cont _ _ [some (val (.ref p)), some (dat (encL l)), none, none] _
  have hQ := hQ.up
  refine c_perm h1 ?_
  show Cont _ _ _ ((p, _) :: L)
  have hrl : k.s.2.length ≤ 100000 := Nat.le_trans (foldR_len _) (by rw [List.length_append]; omega)
  have fin : ∀ {q a : Addr} {ρ : Sx.Env}, Cont (fnD Q).nx Φ ρ ((p, kpI T.C_Keeper (handleK k l)) :: (q, recI T.C_Record a k.s.1) :: (a, rl k.s.2) :: L) := fun {q a ρ} => by
    refine c_dropC (M' := (p, kpI T.C_Keeper (handleK k l)) :: L) (.cons₂ _ (.cons _ (.cons _ (.refl _)))) ?_
    exact c_end hQ (up_perm h2.symm hP) (Le.refl _)
  have hlt : ∀ {q a : Addr}, (∀ {d}, L2.atI (match l with | .ask e => [PyData.str "ask", .int e, .int 2] | .wr e p x => [PyData.str "write", .int e, .int 2, .int (p : Int), .int x]) 1 = some d → d = .int l.e) := fun {q a d} h => by cases l <;> (cases h; rfl)
  have hse : ∃ ds, encL l = .tuple ds ∧ L2.atI ds 1 = some (.int l.e) := by cases l <;> exact ⟨_, rfl, rfl⟩
  obtain ⟨ds, hds, hat⟩ := hse
  rw [hds]
  walk_at "seq"
  refine c_parR (P := fun vs N => ∃ q a, vs = [val (.ref q), dat (.int l.e)] ∧ N = (q, recI T.C_Record a k.s.1) :: (a, rl k.s.2) :: (p, kpI T.C_Keeper k) :: L) ?_ ?_
  · refine ear_cons (er_meth (ds := []) (M1 := (p, kpI T.C_Keeper k) :: L) (M2 := (p, kpI T.C_Keeper k) :: L) (by walk_at "sx") List.mem_cons_self (by decide +kernel) ea_nil rfl (kept_er List.mem_cons_self (by omega))) ?_
    rintro x N ⟨q, a, rfl, rfl⟩
    exact EvAR.of (ds := [dat (.int l.e)]) (by walk_at "sx") ⟨q, a, rfl, rfl⟩
  rintro vs N ⟨q, a, rfl, rfl⟩
  refine ⟨_, _, _, _, rfl, .there (.there .here), .there (.there (.there .here)), ?_⟩
  with_reducible apply c_perm (M' := (p, kpI T.C_Keeper k) :: (q, recI T.C_Record a k.s.1) :: (a, rl k.s.2) :: L)
  · walk_at "perm"
  generalize hs : k.s = s at *
  walk_at "if"
  case h1 =>
    intro hb
    have he : l.e < s.1 := by simpa using hb
    have e1 : handleK k l = ⟨k.recs, k.loose, k.wait ++ [aRef l.e s.1]⟩ := by
      unfold handleK
      rw [hs]
      cases l with
      | ask e => simp only [recOf, ansOf, if_pos (show e < s.1 from he), Option.toList, List.append_nil, Lt.e]
      | wr e pl x => simp only [recOf, ansOf, if_pos (show e < s.1 from he), Option.toList, List.append_nil, Lt.e]
    walk_at "st"
    rw [e1] at fin
    exact fin
  case h2 =>
    intro hb
    have he : ¬ l.e < s.1 := by simpa using hb
    cases l with
    | ask e =>
      cases hds
      walk_at "if"
      case h2 => intro hb; exact absurd hb (by decide +kernel)
      case h1 =>
        intro hb
        have he : ¬ e < s.1 := he
        show Cont (rd_Keeper_handle_4 K T (fnD Q)) Φ [some (val (.ref p)), some (dat (.tuple [.str "ask", .int e, .int 2])), some (val (.ref q)), some (dat (.int e))] _
        walk_at "cut"
        walk_at "if"
        case h1 =>
          intro hb
          have h3 : s.1 < e := by simpa using hb
          have e1 : handleK k (.ask e) = ⟨k.recs, k.loose ++ [.pr e], k.wait ++ [aTold e s.2]⟩ := by
            unfold handleK
            rw [hs]
            simp only [recOf, ansOf, if_neg he, if_pos h3, Option.toList]
          walk_at "st"
          walk_at "st"
          rw [e1, show kpI T.C_Keeper ⟨k.recs, k.loose ++ [Rc.pr e], k.wait ++ [aTold e s.2]⟩ = cI T.C_Keeper kN [dat (.int 2), dat (.tuple (k.recs.map encR)), dat (.tuple (k.loose.map encR ++ [.tuple [.str "promise", .int e]])), dat (.tuple (k.wait ++ [aTold e s.2]))] by
            show cI _ _ [_, _, dat (.tuple ((k.loose ++ [Rc.pr e]).map encR)), _] = _
            rw [List.map_append]; rfl] at fin
          exact fin
        case h2 =>
          intro hb
          have h3 : ¬ s.1 < e := by simpa using hb
          have e1 : handleK k (.ask e) = ⟨k.recs, k.loose, k.wait ++ [aTold e s.2]⟩ := by
            unfold handleK
            rw [hs]
            simp only [recOf, ansOf, if_neg he, if_neg h3, Option.toList, List.append_nil]
          walk_at "st"
          walk_at "st"
          rw [e1] at fin
          exact fin
    | wr e pl x =>
      cases hds
      walk_at "if"
      case h1 => intro hb; exact absurd hb (by decide +kernel)
      case h2 =>
        intro hb
        subst hs
        show Cont (rd_Keeper_handle_8 K T (fnD Q)) Φ [some (val (.ref p)), some (dat (.tuple [.str "write", .int e, .int 2, .int (pl : Int), .int x])), some (val (.ref q)), some (dat (.int e))] _
        have he : ¬ e < k.s.1 := he
        walk_at "st"
        exact fin
theorem Keeper_flush_body {K : PySem.W.Frag} {mg : Str → Option Value} (T : Tx K mg) : ∀ Q ds M P Φ, ds.length = 1 → S_Keeper_flush K T ds M P → RtQ Q Φ P → Cont (rd_Keeper_flush_0 K T (fnD Q)) Φ (entry ["self", "found"] ds) M := by
  rintro Q ds M P Φ - ⟨p, k, M', rfl, hl, ⟨L, h1, h2⟩, hP⟩ hQ
  have hC := T.F_Keeper
  show Cont _ _ [some (val (.ref p)), none] _
  have hQ := hQ.up
  refine c_perm h1 ?_
  show Cont _ _ _ ((p, _) :: L)
  walk_at "st"
  walk_at "st"
  walk_at "st"
  walk_at "st"
  rw [← List.map_append]
  show Cont (rd_Keeper_flush_4 K T (fnD Q)) _ _ _
  refine c_ret (D := fnD Q) (M1 := (p, kpI T.C_Keeper ⟨k.recs ++ k.loose, [], []⟩) :: L) (x := dat (.tuple k.wait)) ?h3 hQ (up_perm h2.symm hP) (Le.refl _)
  case h3 => exact ev_var (.there .here)

end Lw


set_option Elab.async false
set_option linter.all false
set_option maxRecDepth 100000
set_option maxHeartbeats 4000000
namespace Lw
open PySem L2 Sx
/-! ### steps -/
local macro_rules | `(tactic| walk_at "shp") => `(tactic| first
  | exact shp_int
  | exact shp_none
  | exact shp_bool
  | exact shp_oi _
  | (apply shp_str; first | decide +kernel | assumption)
  | (apply shp_list; walk_at "shpA")
  | (apply shp_tuple; walk_at "shpA")
  | assumption)
local macro_rules | `(tactic| walk_at "shpA") => `(tactic| first
  | exact shpA_nil
  | (apply shpA_cons; (· walk_at "shp"); walk_at "shpA")
  | (apply shpA_map; intro _ _; walk_at "shp"))
/-- what is left beside: closed, or left -/
local macro_rules | `(tactic| walk_at "side") => `(tactic| first
  | (with_reducible show Shp _ _); walk_at "shp"
  | (with_reducible show _ ≤ sizeLine); first | decide | (show _ ≤ 16777216; omega) | (show _ ≤ 16777216; simp only [List.length_map, List.length_append, List.length_cons, List.length_nil]; omega)
  | (with_reducible show _ < sizeLine); first | decide | (show _ < 16777216; omega) | (show _ < 16777216; simp only [List.length_map, List.length_append, List.length_cons, List.length_nil]; omega)
  | (with_reducible show CMul _ _); first | exact Or.inr ⟨by decide, by decide⟩ | exact Or.inl ⟨by decide, by decide⟩ | exact Or.inl ⟨by omega, by omega⟩ | exact Or.inr ⟨by omega, by omega⟩
  | (with_reducible show CPow _ _); exact ⟨by decide, by decide, by decide⟩
  | (with_reducible show CDiv _ _); first | exact ⟨by decide, by decide⟩ | exact ⟨by omega, by omega⟩
  | (with_reducible show Le _ _); first | with_reducible exact Le.refl _ | with_reducible assumption
  | (with_reducible show L2.atI _ _ = _); first | with_reducible assumption | exact rfl | exact atI_nat rfl
  | (with_reducible show _ < _); first | with_reducible assumption | decide | omega
  | (with_reducible show _ ≤ _); first | with_reducible assumption | decide | omega
  | (with_reducible show _ ∧ _); omega
  | (with_reducible show ∀ i, i ∈ _ → i ∈ _); decide
  | (with_reducible show (_ : Nat) = _); first | exact rfl | omega)
local macro_rules | `(tactic| walk_at "rm") => `(tactic| first
  | exact Rm.here
  | (apply Rm.there; walk_at "rm"))
local macro_rules | `(tactic| walk_at "perm") => `(tactic| first
  | with_reducible exact List.Perm.refl _
  | (apply perm_step; (· walk_at "rm"); walk_at "perm")
  | exact List.Perm.refl _)
local macro_rules | `(tactic| walk_at "pk") => `(tactic| first
  | with_reducible exact Pk.here
  | ((with_reducible apply Pk.there); walk_at "pk"))
/-- a part of a reading: what it gives. One word for all kinds -/
local macro_rules | `(tactic| walk_at "sx") => `(tactic| first
  -- an expression
  | with_reducible exact ev_int
  | with_reducible exact ev_bl
  | with_reducible exact ev_str
  | with_reducible exact ev_non
  | (with_reducible apply ev_var) <;> walk_at "sx"
  | (with_reducible apply ev_op) <;> walk_at "sx"
  | (with_reducible apply ev_fld) <;> walk_at "sx"
  | (with_reducible apply ev_cb) <;> walk_at "sx"
  | (with_reducible apply ev_tupD) <;> walk_at "sx"
  | (with_reducible apply ev_lstD) <;> walk_at "sx"
  | (with_reducible apply ev_tupV) <;> walk_at "sx"
  | (with_reducible apply ev_lstV) <;> walk_at "sx"
  | (with_reducible apply ev_slL) <;> walk_at "sx"
  | (with_reducible apply ev_slT1) <;> walk_at "sx"
  | (with_reducible apply ev_slT) <;> walk_at "sx"
  | (with_reducible apply ev_un) <;> walk_at "sx"
  | (with_reducible apply ev_chain) <;> walk_at "sx"
  | (with_reducible apply ev_andV) <;> walk_at "sx"
  | (with_reducible apply ev_orV) <;> walk_at "sx"
  | (with_reducible apply ev_notV) <;> walk_at "sx"
  | (with_reducible apply ev_lcY) <;> walk_at "sx"
  | (with_reducible apply ev_lc) <;> walk_at "sx"
  | ((with_reducible show ∀ a, a ∈ _ → ∃ ρ'' js, _); intro a ha; dsimp only [wipeE, List.set]; (first | with_reducible apply lcY_k | with_reducible apply lcF_k) <;> walk_at "sx")
  | (with_reducible apply ev_call) <;> walk_at "sx"
  | (with_reducible apply ev_meth) <;> walk_at "sx"
  | (with_reducible apply ev_bm) <;> walk_at "sx"
  | (with_reducible show Ev _ _ _ _ _); walk_at "own"
  -- a test
  | with_reducible exact et_yes
  | (with_reducible apply et_test) <;> walk_at "sx"
  | (with_reducible apply et_B) <;> walk_at "sx"
  | (with_reducible apply et_not) <;> walk_at "sx"
  | (with_reducible apply et_and) <;> walk_at "sx"
  | (with_reducible apply et_or) <;> walk_at "sx"
  -- arguments
  | with_reducible exact ea_nil
  | (with_reducible apply ea_cons) <;> walk_at "sx"
  | with_reducible exact ed_nil
  | (with_reducible apply ed_cons) <;> walk_at "sx"
  | with_reducible exact eo_none
  | (with_reducible apply eo_some) <;> walk_at "sx"
  -- what an operation gives
  | with_reducible exact rv_addI
  | with_reducible exact rv_int0
  | with_reducible exact rv_bl0
  | with_reducible exact rv_eqI
  | with_reducible exact rv_neI
  | with_reducible exact rv_eqS
  | with_reducible exact rv_neS
  | with_reducible exact rv_isN
  | with_reducible exact rv_notN
  | (with_reducible apply rv_intC) <;> walk_at "sx"
  | (with_reducible apply rv_addS) <;> walk_at "sx"
  | (with_reducible apply rv_ixL isl_dat) <;> walk_at "sx"
  | (with_reducible apply rv_ixT ist_dat) <;> walk_at "sx"
  | (with_reducible apply rv_ixL) <;> walk_at "sx"
  | (with_reducible apply rv_ixLV) <;> walk_at "sx"
  | (apply rv_ixT ist_dat) <;> walk_at "sx"
  | (with_reducible apply rv_ixTV istv_vtup) <;> walk_at "sx"
  | (with_reducible apply rv_ixScr) <;> walk_at "sx"
  | (apply rv_ixL isl_dat) <;> walk_at "sx"
  | (with_reducible apply rv_ixL) <;> walk_at "sx"
  | (apply rv_cat) <;> walk_at "sx"
  | (with_reducible apply rv_eqD) <;> walk_at "sx"
  | (with_reducible apply rv_neD) <;> walk_at "sx"
  | with_reducible exact ru_neg
  | with_reducible exact rc_int
  | with_reducible exact rc_abs
  | with_reducible exact rc_max2
  | with_reducible exact rc_min2
  | with_reducible exact rc_lenScr
  | with_reducible exact rc_lenM isl_dat
  | ((with_reducible apply rc_lenM); (with_reducible apply isl_cell) <;> walk_at "sx")
  | with_reducible exact rc_lenMT
  | (with_reducible apply rc_lenL) <;> walk_at "sx"
  | (apply rc_lenT ist_dat)
  | (with_reducible apply rc_tupL) <;> walk_at "sx"
  | (apply rc_tupT)
  | (with_reducible apply rc_lstL) <;> walk_at "sx"
  | (apply rc_lstT ist_dat)
  | with_reducible exact rc_anyM
  | with_reducible exact rc_allM
  | ((with_reducible apply rm_append) <;> walk_at "sx")
  -- lists, tuples, data
  | with_reducible exact isl_dat
  | with_reducible exact isd_dat
  | with_reducible exact isd_scr
  | (with_reducible apply isl_cell) <;> walk_at "sx"
  | (with_reducible apply islv_cell) <;> walk_at "sx"
  | with_reducible exact islv_vlst
  | (with_reducible apply isd_cell) <;> walk_at "sx"
  | (with_reducible apply isd_vtup) <;> walk_at "sx"
  | (with_reducible apply isd_vlst) <;> walk_at "sx"
  | with_reducible exact isds_nil
  | (with_reducible apply isds_cons) <;> walk_at "sx"
  | with_reducible exact fzl_dat
  | with_reducible exact fzl_v
  | with_reducible exact fzt_dat
  | with_reducible exact fzt_v
  | (with_reducible apply ity_l) <;> walk_at "sx"
  | with_reducible exact ity_s
  | (with_reducible apply IsLst.v) <;> walk_at "sx"
  -- places
  | with_reducible exact At.here
  | (with_reducible apply At.there) <;> walk_at "sx"
  | with_reducible exact SetAt.here
  | (with_reducible apply SetAt.there) <;> walk_at "sx"
  | with_reducible exact List.mem_cons_self
  | (with_reducible apply List.mem_cons_of_mem) <;> walk_at "sx"
  | ((with_reducible show (_ : Addr × CD) ∈ _); with_reducible assumption)
  | with_reducible exact Put.here
  | (with_reducible apply Put.there) <;> walk_at "sx"
  | ((with_reducible show Put _ _ _ _ _); with_reducible assumption)
  | ((with_reducible show Sw _ _ _ _); with_reducible assumption)
  | with_reducible exact sw_nil
  | ((with_reducible apply sw_pick); (· walk_at "pk"); walk_at "sx")
  | ((with_reducible apply sw_skip); walk_at "sx")
  | with_reducible exact FGet.here
  | ((with_reducible apply FGet.there); (· decide +kernel); walk_at "sx")
  | with_reducible exact FPut.here
  | with_reducible exact FPut.new
  | ((with_reducible apply FPut.there); (· decide +kernel); walk_at "sx")
  | (with_reducible show ClsF _ _ _); with_reducible assumption
  | (with_reducible show RtQ _ _ _); assumption
  | (with_reducible show (_ : Str) ∈ _); decide +kernel
  | (with_reducible show ¬ (_ : Str) ∈ _); decide +kernel
  -- what is walked, targets
  | (with_reducible apply ei_rng1) <;> walk_at "sx"
  | (with_reducible apply ei_rng2) <;> walk_at "sx"
  | (with_reducible apply ei_enumD) <;> walk_at "sx"
  | (with_reducible apply ei_enum) <;> walk_at "sx"
  | (with_reducible apply ei_zip) <;> walk_at "sx"
  | (with_reducible apply ei_seqLM) <;> walk_at "sx"
  | (with_reducible apply ei_seqTM) <;> walk_at "sx"
  | (with_reducible apply ei_seqL) <;> walk_at "sx"
  | (with_reducible apply ei_seqT) <;> walk_at "sx"
  | (with_reducible apply tg_name) <;> walk_at "sx"
  | (with_reducible apply tg_tup istv_vtup) <;> walk_at "sx"
  | (with_reducible apply td_tup) <;> walk_at "sx"
  | with_reducible exact td_nil
  | (with_reducible apply td_cons) <;> walk_at "sx"
  | with_reducible exact tgs_nil
  | (with_reducible apply tgs_cons) <;> walk_at "sx"
  -- beside
  | walk_at "spec"
  | walk_at "side"
  | walk_at "leave")
/-- a question of another kind is left -/
local macro_rules | `(tactic| walk_at "leave") => `(tactic| first
  | with_reducible show Cont _ _ _ _
  | with_reducible show Shp _ _
  | with_reducible show _ ≤ _
  | with_reducible show _ < _
  | with_reducible show CMul _ _
  | with_reducible show CDiv _ _
  | with_reducible show CPow _ _
  | with_reducible show _ = _
  | with_reducible show Le _ _
  | ((with_reducible show _ = true → _); with_reducible assumption)
  | ((with_reducible show _ = true → _); intro _; walk_at "sx")
  | ((with_reducible show _ = false → _); intro _; walk_at "sx"))
/-- a plain statement -/
local macro_rules | `(tactic| walk_at "st") => `(tactic| first
  | (with_reducible apply c_seq); walk_at "st"
  | (with_reducible apply c_asg) <;> (first | walk_at "sx" | skip)
  | (with_reducible apply c_asgG) <;> (first | walk_at "sx" | skip)
  | (with_reducible apply c_par) <;> (first | walk_at "sx" | skip)
  | (with_reducible apply c_par3) <;> (first | walk_at "sx" | skip)
  | (with_reducible apply c_aug) <;> (first | walk_at "sx" | skip)
  | (with_reducible apply c_augS) <;> (first | walk_at "sx" | skip)
  | (with_reducible apply c_fld) <;> (first | walk_at "sx" | skip)
  | (with_reducible apply c_drop) <;> (first | walk_at "sx" | skip)
  | with_reducible apply c_next
  | with_reducible apply c_break
  | with_reducible apply c_cont)
/-- a value is handed back; a word is met again -/
local macro_rules | `(tactic| walk_at "ret") => `(tactic| (with_reducible apply c_ret) <;> (first | walk_at "sx" | skip))
local macro_rules | `(tactic| walk_at "inv") => `(tactic| (with_reducible apply c_inv) <;> (first | walk_at "side" | skip))
local macro_rules | `(tactic| walk_at "seq") => `(tactic| with_reducible apply c_seq)
local macro_rules | `(tactic| walk_at "cut") => `(tactic| with_reducible apply c_cut)
local macro_rules | `(tactic| walk_at "if") => `(tactic| ((with_reducible apply c_if); (case' h => first | walk_at "sx" | skip)))
local macro_rules | `(tactic| walk_at "fgt") => `(tactic| first
  | exact Fgt.nil
  | (with_reducible apply Fgt.keep; walk_at "fgt")
  | (with_reducible apply Fgt.drop; walk_at "fgt"))

/-! ### more steps: stars, dicts, tuples -/
local macro_rules | `(tactic| walk_at "sx") => `(tactic| first
  | (with_reducible apply ed_starT) <;> walk_at "sx"
  | (with_reducible apply ev_dgetS) <;> walk_at "sx"
  | with_reducible exact isdi_v
  | (with_reducible apply isdi_c) <;> walk_at "sx"
  | (with_reducible apply rv_catTd) <;> walk_at "sx"
  | with_reducible exact ist_dat
  | ((with_reducible show ¬ (_ : Int) < _); with_reducible assumption)
  | ((with_reducible show valG _ _ = _); walk_at "get")
  | ((with_reducible show putG _ _ _ = _); walk_at "get"))

local macro_rules | `(tactic| walk_at "get") => `(tactic| first | exact get_ep _ | exact get_row _ | exact put_ep _ _ | exact put_row _ _)
local macro_rules | `(tactic| walk_at "spec") => `(tactic| first
  | with_reducible exact number_ev
  | (with_reducible apply take_ev) <;> walk_at "sx"
  | ((with_reducible apply whole_ev); with_reducible assumption))
theorem whole_ev {K : PySem.W.Frag} {mg : Str → Option Value} {T : Tx K mg} {d : PyData} {lo hi : Int} {M : Cells} (hd : (∃ i, d = .int i) ∨ ∃ s, d = .str s) :
    S_is_whole K T [dat d, dat (.int lo), dat (.int hi)] M (Det (dat (.bool (isW d lo hi))) M) := ⟨d, lo, hi, rfl, hd, rfl, rfl⟩
theorem Keeper_fall_body {K : PySem.W.Frag} {mg : Str → Option Value} (T : Tx K mg) : ∀ W Q ds M P PE Φ, ds.length = 2 → S_Keeper_fall K T ds M P PE → RtQ Q Φ P → RtX W Φ (fun _ => PE) → Cont (rd_Keeper_fall_0 K T W (fnD Q)) Φ (entry ["self", "many"] ds) M := by
  rintro W Q ds M P PE Φ - ⟨p, k, d, rfl, hd, hl, ⟨L, h1, h2⟩, hc⟩ hQ hX
  have hC := T.F_Keeper
  show Cont _ _ [some (val (.ref p)), some (dat d)] _
  have hQ := hQ.up
  walk_at "cut"
  have hm : (p, kpI T.C_Keeper k) ∈ M := h1.mem_iff.mpr (List.mem_append_left _ List.mem_cons_self)
  with_reducible apply c_if (b := !isW d 0 (k.loose.length : Int)) (M1 := M)
  case h =>
    apply et_not
    apply et_B
    refine ev_call (ds := [dat d, dat (.int 0), dat (.int (k.loose.length : Int))]) (M1 := M) ?_ rfl (whole_ev hd)
    walk_at "sx"
  case h1 =>
    intro hb
    have hb : isW d 0 (k.loose.length : Int) = false := by simpa using hb
    rcases hc with ⟨_, hP⟩ | ⟨m, M', rfl, hm, _⟩
    · refine c_raise (y := dat d) (PE := fun _ => PE) (ea_cons (ev_var (.there .here)) ea_nil) hX hP (Le.refl _)
    · exfalso
      simp [isW] at hb
      omega
  case h2 =>
    intro hb
    have hb : isW d 0 (k.loose.length : Int) = true := by simpa using hb
    rcases hc with ⟨hb', _⟩ | ⟨m, M', rfl, hml, ⟨L', g1, g2⟩, hP⟩
    · rw [hb'] at hb; cases hb
    · refine c_perm g1 ?_
      show Cont _ _ _ ((p, _) :: L')
      have e0 : cutD (k.loose.map encR) none (some (m : Int)) = (k.loose.take m).map encR := by rw [cut_map, cut_0n]
      walk_at "st"
      walk_at "st"
      case hr =>
        rw [e0, List.length_map, List.length_map, List.length_take]
        show _ ≤ 16777216
        omega
      rw [e0, ← List.map_append]
      walk_at "st"
      walk_at "st"
      refine c_end hQ ?_ (Le.refl _)
      exact up_perm g2.symm hP
/-! ### the law's own parts -/
theorem law_come_body {K : PySem.W.Frag} {mg : Str → Option Value} (T : Tx K mg) : ∀ Q ds M P Φ, ds.length = 2 → S_law_come K T ds M P → RtQ Q Φ P → Cont (rd_law_come_0 K T (fnD Q)) Φ (entry ["_law_state", "_law_letter", "_law_epoch", "_law_record", "_law_answer", "_law_place", "_law_entry"] ds) M := by
  rintro Q ds M P Φ - ⟨p, s, l, M', rfl, hl, ⟨L, h1, h2⟩, hP⟩ hQ
  show Cont _ _ [some (val (.ref p)), some (dat (encL l)), none, none, none, none, none] _
  have hQ := hQ.up
  refine c_perm h1 ?_
  show Cont _ _ _ ((p, _) :: L)
  have hse : ∃ ds, encL l = .tuple ds ∧ L2.atI ds 1 = some (.int l.e) := by cases l <;> exact ⟨_, rfl, rfl⟩
  obtain ⟨ds, hds, hat⟩ := hse
  rw [hds]
  walk_at "st"
  walk_at "cut"
  walk_at "if"
  case h1 =>
    intro hb
    have he : l.e < s.1 := by simpa using hb
    have e1 : recOf s l = none ∧ ansOf s l = some (aRef l.e s.1) ∧ comeS s l = s := by
      cases l with
      | ask e => exact ⟨if_pos he, if_pos he, if_pos he⟩
      | wr e pl x => exact ⟨if_pos he, if_pos he, if_pos he⟩
    rw [e1.1, e1.2.1] at hP
    rw [e1.2.2] at h2
    refine c_ret (D := fnD Q) (M1 := (p, cD (stD s)) :: L) (x := dat (.tuple [.none, aRef l.e s.1])) ?g1 hQ (up_perm h2.symm hP) (Le.refl _)
    case g1 => walk_at "sx"
  case h2 =>
    intro hb
    have he : ¬ l.e < s.1 := by simpa using hb
    walk_at "st"
    cases l with
    | ask e =>
      cases hds
      have he : ¬ e < s.1 := he
      show Cont (rd_law_come_4 K T (fnD Q)) Φ [some (val (.ref p)), some (dat (.tuple [.str "ask", .int e, .int 2])), some (dat (.int e)), none, none, none, none] ((p, cD (stD s)) :: L)
      walk_at "cut"
      walk_at "if"
      case h2 => intro hb; exact absurd hb (by decide +kernel)
      case h1 =>
        intro hb
        have e1 : recOf s (.ask e) = (if s.1 < e then some (.pr e) else none) ∧ ansOf s (.ask e) = some (aTold e s.2) ∧ comeS s (.ask e) = (e, s.2) := ⟨if_neg he, if_neg he, if_neg he⟩
        rw [e1.2.1] at hP
        rw [e1.2.2] at h2
        walk_at "seq"
        refine c_asg (x := dat (oR (recOf s (.ask e)))) (M1 := (p, cD (stD s)) :: L) ?g2 (.there (.there (.there .here))) ?g3
        case g2 =>
          rw [e1.1]
          refine ev_if (b := decide (s.1 < e)) (M1 := (p, cD (stD s)) :: L) ?_ (fun hz => ?_) (fun hz => ?_)
          · walk_at "sx"
          · rw [if_pos (of_decide_eq_true hz)]
            show Ev _ _ _ (dat (.tuple [.str "promise", .int e])) _
            walk_at "sx"
          · rw [if_neg (of_decide_eq_false hz)]
            exact ev_non
        case g3 =>
          walk_at "st"
          with_reducible apply c_seq
          with_reducible apply c_dputS <;> (first | walk_at "sx" | skip)
          · show 2 < sizeLine
            decide
          show Cont (rd_law_come_8 K T (fnD Q)) Φ _ _
          refine c_ret (D := fnD Q) (M1 := (p, cD (stD (e, s.2))) :: L) (x := dat (.tuple [oR (recOf s (.ask e)), aTold e s.2])) ?g4 hQ (up_perm h2.symm hP) (Le.refl _)
          case g4 => walk_at "sx"
    | wr e pl x =>
      cases hds
      have he : ¬ e < s.1 := he
      show Cont (rd_law_come_4 K T (fnD Q)) Φ [some (val (.ref p)), some (dat (.tuple [.str "write", .int e, .int 2, .int (pl : Int), .int x])), some (dat (.int e)), none, none, none, none] ((p, cD (stD s)) :: L)
      walk_at "cut"
      walk_at "if"
      case h1 => intro hb; exact absurd hb (by decide +kernel)
      case h2 =>
        intro hb
        walk_at "st"
        show Cont (rd_law_come_10 K T (fnD Q)) Φ _ _
        walk_at "st"
        walk_at "cut"
        with_reducible apply c_if (b := !fits s.2 e pl) (M1 := (p, cD (stD s)) :: L)
        case h =>
          by_cases h1 : s.2.length < pl
          · have e1 : fits s.2 e pl = false := by
              rw [Bool.eq_false_iff]; intro z; have := (fits_is.mp z).1; omega
            rw [e1]
            apply et_orT
            apply EvT.eq
            · walk_at "sx"
            · exact decide_eq_true (by omega)
          · by_cases h0 : pl = 0
            · subst h0
              have e1 : fits s.2 e 0 = true := by simp [fits]
              rw [e1]
              apply et_orF
              · apply EvT.eq
                · walk_at "sx"
                · exact decide_eq_false (by omega)
              · apply et_andF
                apply EvT.eq
                · walk_at "sx"
                · exact decide_eq_false (by omega)
            · obtain ⟨y, hy⟩ : ∃ y, s.2[pl - 1]? = some y := ⟨_, List.getElem?_eq_getElem (by omega)⟩
              have e1 : (!fits s.2 e pl) = !decide (y.1 = e) := by
                have : pl ≤ s.2.length := by omega
                simp [fits, h0, hy, this]
              have hat : L2.atI (s.2.map encP) ((pl : Int) - 1) = some (encP y) := by
                rw [show (pl : Int) - 1 = ((pl - 1 : Nat) : Int) by omega]
                exact atI_nat (by rw [List.getElem?_map, hy]; rfl)
              rw [e1]
              apply et_orF
              · apply EvT.eq
                · walk_at "sx"
                · exact decide_eq_false (by omega)
              · apply et_andT
                · apply EvT.eq
                  · walk_at "sx"
                  · exact decide_eq_true (by omega)
                · walk_at "sx"
        case h1 =>
          intro hb
          have hf : fits s.2 e pl = false := by simpa using hb
          have e1 : recOf s (.wr e pl x) = none ∧ ansOf s (.wr e pl x) = none ∧ comeS s (.wr e pl x) = s := by
            refine ⟨?_, ?_, ?_⟩ <;> simp only [recOf, ansOf, comeS, if_neg he, hf, Bool.false_eq_true, if_false]
          rw [e1.1, e1.2.1] at hP
          rw [e1.2.2] at h2
          refine c_ret (D := fnD Q) (M1 := (p, cD (stD s)) :: L) (x := dat (.tuple [.none, .none])) ?g5 hQ (up_perm h2.symm hP) (Le.refl _)
          case g5 => walk_at "sx"
        case h2 =>
          intro hb
          have hf : fits s.2 e pl = true := by simpa using hb
          have hle : pl ≤ s.2.length := (fits_is.mp hf).1
          have ea : ansOf s (.wr e pl x) = some (aTaken e pl) := by simp only [ansOf, if_neg he, hf, if_true]
          rw [ea] at hP
          walk_at "st"
          show Cont (rd_law_come_14 K T (fnD Q)) Φ _ _
          walk_at "st"
          with_reducible apply c_cutW (fun ρ' N => ρ' = [some (val (.ref p)), some (dat (.tuple [.str "write", .int e, .int 2, .int (pl : Int), .int x])), some (dat (.int e)), some (dat (oR (recOf s (.wr e pl x)))), none, some (dat (.int (pl : Int))), some (dat (.int x))] ∧ N = (p, cD (stD (comeS s (.wr e pl x)))) :: L)
          case h =>
            with_reducible apply c_if (b := newAt s.2 e pl x) (M1 := (p, cD (stD s)) :: L)
            case h =>
              by_cases hp : pl = s.2.length
              · have e1 : newAt s.2 e pl x = true := by simp [newAt, hp]
                rw [e1]
                apply et_orT
                apply EvT.eq
                · walk_at "sx"
                · exact decide_eq_true (by omega)
              · obtain ⟨y, hy⟩ : ∃ y, s.2[pl]? = some y := ⟨_, List.getElem?_eq_getElem (by omega)⟩
                have hat : L2.atI (s.2.map encP) (pl : Int) = some (encP y) := atI_nat (by rw [List.getElem?_map, hy]; rfl)
                rw [new_is hy]
                walk_at "sx"
            case h1 =>
              intro hb
              have e1 : recOf s (.wr e pl x) = some (.tk e pl x) ∧ comeS s (.wr e pl x) = (e, putRow s.2 pl (e, x)) := by
                refine ⟨?_, ?_⟩ <;> simp only [recOf, comeS, if_neg he, hf, hb, if_true]
              rw [e1.1, e1.2]
              have ec : cutD (s.2.map encP) none (some (pl : Int)) ++ [PyData.tuple [.int e, .int x]] ++ cutD (s.2.map encP) (some ((pl : Int) + 1)) none = (putRow s.2 pl (e, x)).map encP := by
                rw [cut_map, cut_map, cut_0n, show ((pl : Int) + 1) = ((pl + 1 : Nat) : Int) by omega, cut_n0]
                unfold putRow
                rw [List.map_append, List.map_append]
                rfl
              have hpl := putRow_len s.2 pl (e, x)
              walk_at "st"
              with_reducible apply c_seq
              with_reducible apply c_dputS (x := dat (.list ((putRow s.2 pl (e, x)).map encP))) (M1 := (p, cD (stD s)) :: L)
              case hv =>
                rw [← ec]
                walk_at "sx"
                · rw [cut_map, cut_0n, List.length_map, List.length_take]
                  show _ + 1 ≤ 16777216
                  omega
                · rw [← List.length_append, ec, List.length_map]
                  show _ ≤ 16777216
                  omega
              all_goals (first | (show 2 < sizeLine; decide) | walk_at "sx" | skip)
              with_reducible apply c_dputS <;> (first | (show 2 < sizeLine; decide) | walk_at "sx" | skip)
              · show 2 < sizeLine
                decide
              with_reducible apply c_inv
              · exact ⟨rfl, rfl⟩
              · exact Le.refl _
            case h2 =>
              intro hb
              have e1 : recOf s (.wr e pl x) = none ∧ comeS s (.wr e pl x) = s := by
                refine ⟨?_, ?_⟩ <;> simp only [recOf, comeS, if_neg he, hf, hb, if_true, Bool.false_eq_true, if_false]
              rw [e1.1, e1.2]
              walk_at "st"
              exact c_inv ⟨rfl, rfl⟩ (Le.refl _)
          case k =>
            rintro ρ' N ⟨rfl, rfl⟩
            show Cont (rd_law_come_20 K T (fnD Q)) Φ _ _
            refine c_ret (D := fnD Q) (M1 := (p, cD (stD (comeS s (.wr e pl x)))) :: L) (x := dat (.tuple [oR (recOf s (.wr e pl x)), aTaken e pl])) ?g6 hQ (up_perm h2.symm hP) (Le.refl _)
            case g6 => walk_at "sx"

end Lw


set_option Elab.async false
set_option linter.all false
set_option maxRecDepth 100000
set_option maxHeartbeats 4000000
namespace Lw
open PySem L2 Sx
/-! ### steps -/
local macro_rules | `(tactic| walk_at "shp") => `(tactic| first
  | exact shp_int
  | exact shp_none
  | exact shp_bool
  | exact shp_oi _
  | (apply shp_str; first | decide +kernel | assumption)
  | (apply shp_list; walk_at "shpA")
  | (apply shp_tuple; walk_at "shpA")
  | assumption)
local macro_rules | `(tactic| walk_at "shpA") => `(tactic| first
  | exact shpA_nil
  | (apply shpA_cons; (· walk_at "shp"); walk_at "shpA")
  | (apply shpA_map; intro _ _; walk_at "shp"))
/-- what is left beside: closed, or left -/
local macro_rules | `(tactic| walk_at "side") => `(tactic| first
  | (with_reducible show Shp _ _); walk_at "shp"
  | (with_reducible show _ ≤ sizeLine); first | decide | (show _ ≤ 16777216; omega) | (show _ ≤ 16777216; simp only [List.length_map, List.length_append, List.length_cons, List.length_nil]; omega)
  | (with_reducible show _ < sizeLine); first | decide | (show _ < 16777216; omega) | (show _ < 16777216; simp only [List.length_map, List.length_append, List.length_cons, List.length_nil]; omega)
  | (with_reducible show CMul _ _); first | exact Or.inr ⟨by decide, by decide⟩ | exact Or.inl ⟨by decide, by decide⟩ | exact Or.inl ⟨by omega, by omega⟩ | exact Or.inr ⟨by omega, by omega⟩
  | (with_reducible show CPow _ _); exact ⟨by decide, by decide, by decide⟩
  | (with_reducible show CDiv _ _); first | exact ⟨by decide, by decide⟩ | exact ⟨by omega, by omega⟩
  | (with_reducible show Le _ _); first | with_reducible exact Le.refl _ | with_reducible assumption
  | (with_reducible show L2.atI _ _ = _); first | with_reducible assumption | exact rfl | exact atI_nat rfl
  | (with_reducible show _ < _); first | with_reducible assumption | decide | omega
  | (with_reducible show _ ≤ _); first | with_reducible assumption | decide | omega
  | (with_reducible show _ ∧ _); omega
  | (with_reducible show ∀ i, i ∈ _ → i ∈ _); decide
  | (with_reducible show (_ : Nat) = _); first | exact rfl | omega)
local macro_rules | `(tactic| walk_at "rm") => `(tactic| first
  | exact Rm.here
  | (apply Rm.there; walk_at "rm"))
local macro_rules | `(tactic| walk_at "perm") => `(tactic| first
  | with_reducible exact List.Perm.refl _
  | (apply perm_step; (· walk_at "rm"); walk_at "perm")
  | exact List.Perm.refl _)
local macro_rules | `(tactic| walk_at "pk") => `(tactic| first
  | with_reducible exact Pk.here
  | ((with_reducible apply Pk.there); walk_at "pk"))
/-- a part of a reading: what it gives. One word for all kinds -/
local macro_rules | `(tactic| walk_at "sx") => `(tactic| first
  -- an expression
  | with_reducible exact ev_int
  | with_reducible exact ev_bl
  | with_reducible exact ev_str
  | with_reducible exact ev_non
  | (with_reducible apply ev_var) <;> walk_at "sx"
  | (with_reducible apply ev_op) <;> walk_at "sx"
  | (with_reducible apply ev_fld) <;> walk_at "sx"
  | (with_reducible apply ev_cb) <;> walk_at "sx"
  | (with_reducible apply ev_tupD) <;> walk_at "sx"
  | (with_reducible apply ev_lstD) <;> walk_at "sx"
  | (with_reducible apply ev_tupV) <;> walk_at "sx"
  | (with_reducible apply ev_lstV) <;> walk_at "sx"
  | (with_reducible apply ev_slL) <;> walk_at "sx"
  | (with_reducible apply ev_slT1) <;> walk_at "sx"
  | (with_reducible apply ev_slT) <;> walk_at "sx"
  | (with_reducible apply ev_un) <;> walk_at "sx"
  | (with_reducible apply ev_chain) <;> walk_at "sx"
  | (with_reducible apply ev_andV) <;> walk_at "sx"
  | (with_reducible apply ev_orV) <;> walk_at "sx"
  | (with_reducible apply ev_notV) <;> walk_at "sx"
  | (with_reducible apply ev_lcY) <;> walk_at "sx"
  | (with_reducible apply ev_lc) <;> walk_at "sx"
  | ((with_reducible show ∀ a, a ∈ _ → ∃ ρ'' js, _); intro a ha; dsimp only [wipeE, List.set]; (first | with_reducible apply lcY_k | with_reducible apply lcF_k) <;> walk_at "sx")
  | (with_reducible apply ev_call) <;> walk_at "sx"
  | (with_reducible apply ev_meth) <;> walk_at "sx"
  | (with_reducible apply ev_bm) <;> walk_at "sx"
  | (with_reducible show Ev _ _ _ _ _); walk_at "own"
  -- a test
  | with_reducible exact et_yes
  | (with_reducible apply et_test) <;> walk_at "sx"
  | (with_reducible apply et_B) <;> walk_at "sx"
  | (with_reducible apply et_not) <;> walk_at "sx"
  | (with_reducible apply et_and) <;> walk_at "sx"
  | (with_reducible apply et_or) <;> walk_at "sx"
  -- arguments
  | with_reducible exact ea_nil
  | (with_reducible apply ea_cons) <;> walk_at "sx"
  | with_reducible exact ed_nil
  | (with_reducible apply ed_cons) <;> walk_at "sx"
  | with_reducible exact eo_none
  | (with_reducible apply eo_some) <;> walk_at "sx"
  -- what an operation gives
  | with_reducible exact rv_addI
  | with_reducible exact rv_int0
  | with_reducible exact rv_bl0
  | with_reducible exact rv_eqI
  | with_reducible exact rv_neI
  | with_reducible exact rv_eqS
  | with_reducible exact rv_neS
  | with_reducible exact rv_isN
  | with_reducible exact rv_notN
  | (with_reducible apply rv_intC) <;> walk_at "sx"
  | (with_reducible apply rv_addS) <;> walk_at "sx"
  | (with_reducible apply rv_ixL isl_dat) <;> walk_at "sx"
  | (with_reducible apply rv_ixT ist_dat) <;> walk_at "sx"
  | (with_reducible apply rv_ixL) <;> walk_at "sx"
  | (with_reducible apply rv_ixLV) <;> walk_at "sx"
  | (apply rv_ixT ist_dat) <;> walk_at "sx"
  | (with_reducible apply rv_ixTV istv_vtup) <;> walk_at "sx"
  | (with_reducible apply rv_ixScr) <;> walk_at "sx"
  | (apply rv_ixL isl_dat) <;> walk_at "sx"
  | (with_reducible apply rv_ixL) <;> walk_at "sx"
  | (apply rv_cat) <;> walk_at "sx"
  | (with_reducible apply rv_eqD) <;> walk_at "sx"
  | (with_reducible apply rv_neD) <;> walk_at "sx"
  | with_reducible exact ru_neg
  | with_reducible exact rc_int
  | with_reducible exact rc_abs
  | with_reducible exact rc_max2
  | with_reducible exact rc_min2
  | with_reducible exact rc_lenScr
  | with_reducible exact rc_lenM isl_dat
  | ((with_reducible apply rc_lenM); (with_reducible apply isl_cell) <;> walk_at "sx")
  | with_reducible exact rc_lenMT
  | (with_reducible apply rc_lenL) <;> walk_at "sx"
  | (apply rc_lenT ist_dat)
  | (with_reducible apply rc_tupL) <;> walk_at "sx"
  | (apply rc_tupT)
  | (with_reducible apply rc_lstL) <;> walk_at "sx"
  | (apply rc_lstT ist_dat)
  | with_reducible exact rc_anyM
  | with_reducible exact rc_allM
  | ((with_reducible apply rm_append) <;> walk_at "sx")
  -- lists, tuples, data
  | with_reducible exact isl_dat
  | with_reducible exact isd_dat
  | with_reducible exact isd_scr
  | (with_reducible apply isl_cell) <;> walk_at "sx"
  | (with_reducible apply islv_cell) <;> walk_at "sx"
  | with_reducible exact islv_vlst
  | (with_reducible apply isd_cell) <;> walk_at "sx"
  | (with_reducible apply isd_vtup) <;> walk_at "sx"
  | (with_reducible apply isd_vlst) <;> walk_at "sx"
  | with_reducible exact isds_nil
  | (with_reducible apply isds_cons) <;> walk_at "sx"
  | with_reducible exact fzl_dat
  | with_reducible exact fzl_v
  | with_reducible exact fzt_dat
  | with_reducible exact fzt_v
  | (with_reducible apply ity_l) <;> walk_at "sx"
  | with_reducible exact ity_s
  | (with_reducible apply IsLst.v) <;> walk_at "sx"
  -- places
  | with_reducible exact At.here
  | (with_reducible apply At.there) <;> walk_at "sx"
  | with_reducible exact SetAt.here
  | (with_reducible apply SetAt.there) <;> walk_at "sx"
  | with_reducible exact List.mem_cons_self
  | (with_reducible apply List.mem_cons_of_mem) <;> walk_at "sx"
  | ((with_reducible show (_ : Addr × CD) ∈ _); with_reducible assumption)
  | with_reducible exact Put.here
  | (with_reducible apply Put.there) <;> walk_at "sx"
  | ((with_reducible show Put _ _ _ _ _); with_reducible assumption)
  | ((with_reducible show Sw _ _ _ _); with_reducible assumption)
  | with_reducible exact sw_nil
  | ((with_reducible apply sw_pick); (· walk_at "pk"); walk_at "sx")
  | ((with_reducible apply sw_skip); walk_at "sx")
  | with_reducible exact FGet.here
  | ((with_reducible apply FGet.there); (· decide +kernel); walk_at "sx")
  | with_reducible exact FPut.here
  | with_reducible exact FPut.new
  | ((with_reducible apply FPut.there); (· decide +kernel); walk_at "sx")
  | (with_reducible show ClsF _ _ _); with_reducible assumption
  | (with_reducible show RtQ _ _ _); assumption
  | (with_reducible show (_ : Str) ∈ _); decide +kernel
  | (with_reducible show ¬ (_ : Str) ∈ _); decide +kernel
  -- what is walked, targets
  | (with_reducible apply ei_rng1) <;> walk_at "sx"
  | (with_reducible apply ei_rng2) <;> walk_at "sx"
  | (with_reducible apply ei_enumD) <;> walk_at "sx"
  | (with_reducible apply ei_enum) <;> walk_at "sx"
  | (with_reducible apply ei_zip) <;> walk_at "sx"
  | (with_reducible apply ei_seqLM) <;> walk_at "sx"
  | (with_reducible apply ei_seqTM) <;> walk_at "sx"
  | (with_reducible apply ei_seqL) <;> walk_at "sx"
  | (with_reducible apply ei_seqT) <;> walk_at "sx"
  | (with_reducible apply tg_name) <;> walk_at "sx"
  | (with_reducible apply tg_tup istv_vtup) <;> walk_at "sx"
  | (with_reducible apply td_tup) <;> walk_at "sx"
  | with_reducible exact td_nil
  | (with_reducible apply td_cons) <;> walk_at "sx"
  | with_reducible exact tgs_nil
  | (with_reducible apply tgs_cons) <;> walk_at "sx"
  -- beside
  | walk_at "spec"
  | walk_at "side"
  | walk_at "leave")
/-- a question of another kind is left -/
local macro_rules | `(tactic| walk_at "leave") => `(tactic| first
  | with_reducible show Cont _ _ _ _
  | with_reducible show Shp _ _
  | with_reducible show _ ≤ _
  | with_reducible show _ < _
  | with_reducible show CMul _ _
  | with_reducible show CDiv _ _
  | with_reducible show CPow _ _
  | with_reducible show _ = _
  | with_reducible show Le _ _
  | ((with_reducible show _ = true → _); with_reducible assumption)
  | ((with_reducible show _ = true → _); intro _; walk_at "sx")
  | ((with_reducible show _ = false → _); intro _; walk_at "sx"))
/-- a plain statement -/
local macro_rules | `(tactic| walk_at "st") => `(tactic| first
  | (with_reducible apply c_seq); walk_at "st"
  | (with_reducible apply c_asg) <;> (first | walk_at "sx" | skip)
  | (with_reducible apply c_asgG) <;> (first | walk_at "sx" | skip)
  | (with_reducible apply c_par) <;> (first | walk_at "sx" | skip)
  | (with_reducible apply c_par3) <;> (first | walk_at "sx" | skip)
  | (with_reducible apply c_aug) <;> (first | walk_at "sx" | skip)
  | (with_reducible apply c_augS) <;> (first | walk_at "sx" | skip)
  | (with_reducible apply c_fld) <;> (first | walk_at "sx" | skip)
  | (with_reducible apply c_drop) <;> (first | walk_at "sx" | skip)
  | with_reducible apply c_next
  | with_reducible apply c_break
  | with_reducible apply c_cont)
/-- a value is handed back; a word is met again -/
local macro_rules | `(tactic| walk_at "ret") => `(tactic| (with_reducible apply c_ret) <;> (first | walk_at "sx" | skip))
local macro_rules | `(tactic| walk_at "inv") => `(tactic| (with_reducible apply c_inv) <;> (first | walk_at "side" | skip))
local macro_rules | `(tactic| walk_at "seq") => `(tactic| with_reducible apply c_seq)
local macro_rules | `(tactic| walk_at "cut") => `(tactic| with_reducible apply c_cut)
local macro_rules | `(tactic| walk_at "if") => `(tactic| ((with_reducible apply c_if); (case' h => first | walk_at "sx" | skip)))
local macro_rules | `(tactic| walk_at "fgt") => `(tactic| first
  | exact Fgt.nil
  | (with_reducible apply Fgt.keep; walk_at "fgt")
  | (with_reducible apply Fgt.drop; walk_at "fgt"))

/-! ### more steps: stars, dicts, tuples -/
local macro_rules | `(tactic| walk_at "sx") => `(tactic| first
  | (with_reducible apply ed_starT) <;> walk_at "sx"
  | (with_reducible apply ev_dgetS) <;> walk_at "sx"
  | with_reducible exact isdi_v
  | (with_reducible apply isdi_c) <;> walk_at "sx"
  | (with_reducible apply rv_catTd) <;> walk_at "sx"
  | with_reducible exact ist_dat
  | ((with_reducible show ¬ (_ : Int) < _); with_reducible assumption)
  | ((with_reducible show valG _ _ = _); walk_at "get")
  | ((with_reducible show putG _ _ _ = _); walk_at "get"))

local macro_rules | `(tactic| walk_at "get") => `(tactic| first | exact get_ep _ | exact get_row _ | exact put_ep _ _ | exact put_row _ _)
local macro_rules | `(tactic| walk_at "spec") => `(tactic| first
  | with_reducible exact number_ev
  | (with_reducible apply take_ev) <;> walk_at "sx"
  | ((with_reducible apply whole_ev); with_reducible assumption))
theorem law_row_body {K : PySem.W.Frag} {mg : Str → Option Value} (T : Tx K mg) : ∀ Q ds M P Φ, ds.length = 1 → S_law_row K T ds M P → RtQ Q Φ P → Cont (rd_law_row_0 K T (fnD Q)) Φ (entry ["_law_records", "_law_state", "_law_record"] ds) M := by
  rintro Q ds M P Φ - ⟨rs, rfl, hl, hP⟩ hQ
  show Cont _ _ [some (dat (.list (rs.map encR))), none, none] _
  walk_at "seq"
  refine c_asgR (er_disp (M1 := M) (kvs := [(.inr "epoch", dat (.int (-1))), (.inr "row", dat (.list []))]) ?_ (by decide)) ?_
  · exact ep_cons (k := .inr "epoch") ev_str (by walk_at "sx") (ep_cons (k := .inr "row") ev_str (by walk_at "sx") ep_nil)
  rintro y M1 ⟨p, rfl, rfl⟩
  apply asgR_k <;> (first | walk_at "sx" | skip)
  show Cont (rd_law_row_1 K T (fnD Q)) Φ _ ((p, cD (stD (foldR []))) :: M)
  walk_at "cut"
  with_reducible apply c_for (I := fun i ρ' M' => ∃ x2, ρ' = [some (dat (.list (rs.map encR))), some (val (.ref p)), x2] ∧ M' = (p, cD (stD (foldR (rs.take i)))) :: M)
  case h => walk_at "sx"
  case h0 => exact ⟨none, rfl, rfl⟩
  case hd =>
    rintro ρ' M' ⟨x2, rfl, rfl⟩
    rw [List.length_map, List.take_length]
    show Cont (rd_law_row_6 K T (fnD Q)) Φ _ _
    exact c_ret (D := fnD Q) (ev_var (.there .here)) hQ (hP p) (Le.refl _)
  case hs =>
    rintro Ψ hΨ i d ρ' M' hi ⟨x2, rfl, rfl⟩
    rw [List.getElem?_map] at hi
    cases hr : rs[i]? with
    | none => rw [hr] at hi; cases hi
    | some r =>
      rw [hr] at hi
      cases hi
      have hlen : (foldR (rs.take i)).2.length ≤ 100000 := Nat.le_trans (foldR_len _) (by rw [List.length_take]; omega)
      rw [fold_take hr]
      generalize foldR (rs.take i) = s at *
      apply for_k <;> (first | walk_at "sx" | skip)
      cases r with
      | pr e =>
        show Cont (rd_law_row_2 K T _) Ψ [_, _, some (dat (.tuple [.str "promise", .int e]))] _
        with_reducible apply c_seq
        with_reducible apply c_dputS (x := dat (.int (max s.1 e))) (M1 := (p, cD (stD s)) :: M)
        case hv => exact ev_cb (ea_cons (ev_dgetS (ev_var (.there .here)) ev_str (isdi_c List.mem_cons_self) (get_ep s)) (ea_cons (by walk_at "sx") ea_nil)) rc_max2
        all_goals (first | walk_at "sx" | skip)
        walk_at "if"
        case h1 => intro hb; exact absurd hb (by decide +kernel)
        case h2 =>
          intro hb
          walk_at "st"
          with_reducible apply c_inv
          · exact ⟨_, rfl, rfl⟩
          · exact Le.refl _
      | tk e pl x =>
        show Cont (rd_law_row_2 K T _) Ψ [_, _, some (dat (.tuple [.str "take", .int e, .int (pl : Int), .int x]))] _
        have ec : cutD (s.2.map encP) none (some (pl : Int)) ++ [PyData.tuple [.int e, .int x]] ++ cutD (s.2.map encP) (some ((pl : Int) + 1)) none = (putRow s.2 pl (e, x)).map encP := by
          rw [cut_map, cut_map, cut_0n, show ((pl : Int) + 1) = ((pl + 1 : Nat) : Int) by omega, cut_n0]
          unfold putRow
          rw [List.map_append, List.map_append]
          rfl
        have hpl := putRow_len s.2 pl (e, x)
        with_reducible apply c_seq
        with_reducible apply c_dputS (x := dat (.int (max s.1 e))) (M1 := (p, cD (stD s)) :: M)
        case hv => exact ev_cb (ea_cons (ev_dgetS (ev_var (.there .here)) ev_str (isdi_c List.mem_cons_self) (get_ep s)) (ea_cons (by walk_at "sx") ea_nil)) rc_max2
        all_goals (first | walk_at "sx" | skip)
        walk_at "if"
        case h2 => intro hb; exact absurd hb (by decide +kernel)
        case h1 =>
          intro hb
          with_reducible apply c_dputS (x := dat (.list ((putRow s.2 pl (e, x)).map encP))) (M1 := (p, cD (stD (max s.1 e, s.2))) :: M)
          case hv =>
            rw [← ec]
            walk_at "sx"
            · rw [cut_map, cut_0n, List.length_map, List.length_take]
              have hm : min pl s.2.length ≤ 100000 := Nat.le_trans (Nat.min_le_right _ _) hlen
              show min pl s.2.length + 1 ≤ 16777216
              omega
            · rw [← List.length_append, ec, List.length_map]
              show _ ≤ 16777216
              omega
          all_goals (first | walk_at "sx" | skip)
          with_reducible apply c_inv
          · exact ⟨_, rfl, rfl⟩
          · exact Le.refl _

end Lw


set_option Elab.async false
set_option linter.all false
set_option maxRecDepth 100000
set_option maxHeartbeats 4000000
namespace Lw
open PySem L2 Sx
/-! ### steps -/
local macro_rules | `(tactic| walk_at "shp") => `(tactic| first
  | exact shp_int
  | exact shp_none
  | exact shp_bool
  | exact shp_oi _
  | (apply shp_str; first | decide +kernel | assumption)
  | (apply shp_list; walk_at "shpA")
  | (apply shp_tuple; walk_at "shpA")
  | assumption)
local macro_rules | `(tactic| walk_at "shpA") => `(tactic| first
  | exact shpA_nil
  | (apply shpA_cons; (· walk_at "shp"); walk_at "shpA")
  | (apply shpA_map; intro _ _; walk_at "shp"))
/-- what is left beside: closed, or left -/
local macro_rules | `(tactic| walk_at "side") => `(tactic| first
  | (with_reducible show Shp _ _); walk_at "shp"
  | (with_reducible show _ ≤ sizeLine); first | decide | (show _ ≤ 16777216; omega) | (show _ ≤ 16777216; simp only [List.length_map, List.length_append, List.length_cons, List.length_nil]; omega)
  | (with_reducible show _ < sizeLine); first | decide | (show _ < 16777216; omega) | (show _ < 16777216; simp only [List.length_map, List.length_append, List.length_cons, List.length_nil]; omega)
  | (with_reducible show CMul _ _); first | exact Or.inr ⟨by decide, by decide⟩ | exact Or.inl ⟨by decide, by decide⟩ | exact Or.inl ⟨by omega, by omega⟩ | exact Or.inr ⟨by omega, by omega⟩
  | (with_reducible show CPow _ _); exact ⟨by decide, by decide, by decide⟩
  | (with_reducible show CDiv _ _); first | exact ⟨by decide, by decide⟩ | exact ⟨by omega, by omega⟩
  | (with_reducible show Le _ _); first | with_reducible exact Le.refl _ | with_reducible assumption
  | (with_reducible show L2.atI _ _ = _); first | with_reducible assumption | exact rfl | exact atI_nat rfl
  | (with_reducible show _ < _); first | with_reducible assumption | decide | omega
  | (with_reducible show _ ≤ _); first | with_reducible assumption | decide | omega
  | (with_reducible show _ ∧ _); omega
  | (with_reducible show ∀ i, i ∈ _ → i ∈ _); decide
  | (with_reducible show (_ : Nat) = _); first | exact rfl | omega)
local macro_rules | `(tactic| walk_at "rm") => `(tactic| first
  | exact Rm.here
  | (apply Rm.there; walk_at "rm"))
local macro_rules | `(tactic| walk_at "perm") => `(tactic| first
  | with_reducible exact List.Perm.refl _
  | (apply perm_step; (· walk_at "rm"); walk_at "perm")
  | exact List.Perm.refl _)
local macro_rules | `(tactic| walk_at "pk") => `(tactic| first
  | with_reducible exact Pk.here
  | ((with_reducible apply Pk.there); walk_at "pk"))
/-- a part of a reading: what it gives. One word for all kinds -/
local macro_rules | `(tactic| walk_at "sx") => `(tactic| first
  -- an expression
  | with_reducible exact ev_int
  | with_reducible exact ev_bl
  | with_reducible exact ev_str
  | with_reducible exact ev_non
  | (with_reducible apply ev_var) <;> walk_at "sx"
  | (with_reducible apply ev_op) <;> walk_at "sx"
  | (with_reducible apply ev_fld) <;> walk_at "sx"
  | (with_reducible apply ev_cb) <;> walk_at "sx"
  | (with_reducible apply ev_tupD) <;> walk_at "sx"
  | (with_reducible apply ev_lstD) <;> walk_at "sx"
  | (with_reducible apply ev_tupV) <;> walk_at "sx"
  | (with_reducible apply ev_lstV) <;> walk_at "sx"
  | (with_reducible apply ev_slL) <;> walk_at "sx"
  | (with_reducible apply ev_slT1) <;> walk_at "sx"
  | (with_reducible apply ev_slT) <;> walk_at "sx"
  | (with_reducible apply ev_un) <;> walk_at "sx"
  | (with_reducible apply ev_chain) <;> walk_at "sx"
  | (with_reducible apply ev_andV) <;> walk_at "sx"
  | (with_reducible apply ev_orV) <;> walk_at "sx"
  | (with_reducible apply ev_notV) <;> walk_at "sx"
  | (with_reducible apply ev_lcY) <;> walk_at "sx"
  | (with_reducible apply ev_lc) <;> walk_at "sx"
  | ((with_reducible show ∀ a, a ∈ _ → ∃ ρ'' js, _); intro a ha; dsimp only [wipeE, List.set]; (first | with_reducible apply lcY_k | with_reducible apply lcF_k) <;> walk_at "sx")
  | (with_reducible apply ev_call) <;> walk_at "sx"
  | (with_reducible apply ev_meth) <;> walk_at "sx"
  | (with_reducible apply ev_bm) <;> walk_at "sx"
  | (with_reducible show Ev _ _ _ _ _); walk_at "own"
  -- a test
  | with_reducible exact et_yes
  | (with_reducible apply et_test) <;> walk_at "sx"
  | (with_reducible apply et_B) <;> walk_at "sx"
  | (with_reducible apply et_not) <;> walk_at "sx"
  | (with_reducible apply et_and) <;> walk_at "sx"
  | (with_reducible apply et_or) <;> walk_at "sx"
  -- arguments
  | with_reducible exact ea_nil
  | (with_reducible apply ea_cons) <;> walk_at "sx"
  | with_reducible exact ed_nil
  | (with_reducible apply ed_cons) <;> walk_at "sx"
  | with_reducible exact eo_none
  | (with_reducible apply eo_some) <;> walk_at "sx"
  -- what an operation gives
  | with_reducible exact rv_addI
  | with_reducible exact rv_int0
  | with_reducible exact rv_bl0
  | with_reducible exact rv_eqI
  | with_reducible exact rv_neI
  | with_reducible exact rv_eqS
  | with_reducible exact rv_neS
  | with_reducible exact rv_isN
  | with_reducible exact rv_notN
  | (with_reducible apply rv_intC) <;> walk_at "sx"
  | (with_reducible apply rv_addS) <;> walk_at "sx"
  | (with_reducible apply rv_ixL isl_dat) <;> walk_at "sx"
  | (with_reducible apply rv_ixT ist_dat) <;> walk_at "sx"
  | (with_reducible apply rv_ixL) <;> walk_at "sx"
  | (with_reducible apply rv_ixLV) <;> walk_at "sx"
  | (apply rv_ixT ist_dat) <;> walk_at "sx"
  | (with_reducible apply rv_ixTV istv_vtup) <;> walk_at "sx"
  | (with_reducible apply rv_ixScr) <;> walk_at "sx"
  | (apply rv_ixL isl_dat) <;> walk_at "sx"
  | (with_reducible apply rv_ixL) <;> walk_at "sx"
  | (apply rv_cat) <;> walk_at "sx"
  | (with_reducible apply rv_eqD) <;> walk_at "sx"
  | (with_reducible apply rv_neD) <;> walk_at "sx"
  | with_reducible exact ru_neg
  | with_reducible exact rc_int
  | with_reducible exact rc_abs
  | with_reducible exact rc_max2
  | with_reducible exact rc_min2
  | with_reducible exact rc_lenScr
  | with_reducible exact rc_lenM isl_dat
  | ((with_reducible apply rc_lenM); (with_reducible apply isl_cell) <;> walk_at "sx")
  | with_reducible exact rc_lenMT
  | (with_reducible apply rc_lenL) <;> walk_at "sx"
  | (apply rc_lenT ist_dat)
  | (with_reducible apply rc_tupL) <;> walk_at "sx"
  | (apply rc_tupT)
  | (with_reducible apply rc_lstL) <;> walk_at "sx"
  | (apply rc_lstT ist_dat)
  | with_reducible exact rc_anyM
  | with_reducible exact rc_allM
  | ((with_reducible apply rm_append) <;> walk_at "sx")
  -- lists, tuples, data
  | with_reducible exact isl_dat
  | with_reducible exact isd_dat
  | with_reducible exact isd_scr
  | (with_reducible apply isl_cell) <;> walk_at "sx"
  | (with_reducible apply islv_cell) <;> walk_at "sx"
  | with_reducible exact islv_vlst
  | (with_reducible apply isd_cell) <;> walk_at "sx"
  | (with_reducible apply isd_vtup) <;> walk_at "sx"
  | (with_reducible apply isd_vlst) <;> walk_at "sx"
  | with_reducible exact isds_nil
  | (with_reducible apply isds_cons) <;> walk_at "sx"
  | with_reducible exact fzl_dat
  | with_reducible exact fzl_v
  | with_reducible exact fzt_dat
  | with_reducible exact fzt_v
  | (with_reducible apply ity_l) <;> walk_at "sx"
  | with_reducible exact ity_s
  | (with_reducible apply IsLst.v) <;> walk_at "sx"
  -- places
  | with_reducible exact At.here
  | (with_reducible apply At.there) <;> walk_at "sx"
  | with_reducible exact SetAt.here
  | (with_reducible apply SetAt.there) <;> walk_at "sx"
  | with_reducible exact List.mem_cons_self
  | (with_reducible apply List.mem_cons_of_mem) <;> walk_at "sx"
  | ((with_reducible show (_ : Addr × CD) ∈ _); with_reducible assumption)
  | with_reducible exact Put.here
  | (with_reducible apply Put.there) <;> walk_at "sx"
  | ((with_reducible show Put _ _ _ _ _); with_reducible assumption)
  | ((with_reducible show Sw _ _ _ _); with_reducible assumption)
  | with_reducible exact sw_nil
  | ((with_reducible apply sw_pick); (· walk_at "pk"); walk_at "sx")
  | ((with_reducible apply sw_skip); walk_at "sx")
  | with_reducible exact FGet.here
  | ((with_reducible apply FGet.there); (· decide +kernel); walk_at "sx")
  | with_reducible exact FPut.here
  | with_reducible exact FPut.new
  | ((with_reducible apply FPut.there); (· decide +kernel); walk_at "sx")
  | (with_reducible show ClsF _ _ _); with_reducible assumption
  | (with_reducible show RtQ _ _ _); assumption
  | (with_reducible show (_ : Str) ∈ _); decide +kernel
  | (with_reducible show ¬ (_ : Str) ∈ _); decide +kernel
  -- what is walked, targets
  | (with_reducible apply ei_rng1) <;> walk_at "sx"
  | (with_reducible apply ei_rng2) <;> walk_at "sx"
  | (with_reducible apply ei_enumD) <;> walk_at "sx"
  | (with_reducible apply ei_enum) <;> walk_at "sx"
  | (with_reducible apply ei_zip) <;> walk_at "sx"
  | (with_reducible apply ei_seqLM) <;> walk_at "sx"
  | (with_reducible apply ei_seqTM) <;> walk_at "sx"
  | (with_reducible apply ei_seqL) <;> walk_at "sx"
  | (with_reducible apply ei_seqT) <;> walk_at "sx"
  | (with_reducible apply tg_name) <;> walk_at "sx"
  | (with_reducible apply tg_tup istv_vtup) <;> walk_at "sx"
  | (with_reducible apply td_tup) <;> walk_at "sx"
  | with_reducible exact td_nil
  | (with_reducible apply td_cons) <;> walk_at "sx"
  | with_reducible exact tgs_nil
  | (with_reducible apply tgs_cons) <;> walk_at "sx"
  -- beside
  | walk_at "spec"
  | walk_at "side"
  | walk_at "leave")
/-- a question of another kind is left -/
local macro_rules | `(tactic| walk_at "leave") => `(tactic| first
  | with_reducible show Cont _ _ _ _
  | with_reducible show Shp _ _
  | with_reducible show _ ≤ _
  | with_reducible show _ < _
  | with_reducible show CMul _ _
  | with_reducible show CDiv _ _
  | with_reducible show CPow _ _
  | with_reducible show _ = _
  | with_reducible show Le _ _
  | ((with_reducible show _ = true → _); with_reducible assumption)
  | ((with_reducible show _ = true → _); intro _; walk_at "sx")
  | ((with_reducible show _ = false → _); intro _; walk_at "sx"))
/-- a plain statement -/
local macro_rules | `(tactic| walk_at "st") => `(tactic| first
  | (with_reducible apply c_seq); walk_at "st"
  | (with_reducible apply c_asg) <;> (first | walk_at "sx" | skip)
  | (with_reducible apply c_asgG) <;> (first | walk_at "sx" | skip)
  | (with_reducible apply c_par) <;> (first | walk_at "sx" | skip)
  | (with_reducible apply c_par3) <;> (first | walk_at "sx" | skip)
  | (with_reducible apply c_aug) <;> (first | walk_at "sx" | skip)
  | (with_reducible apply c_augS) <;> (first | walk_at "sx" | skip)
  | (with_reducible apply c_fld) <;> (first | walk_at "sx" | skip)
  | (with_reducible apply c_drop) <;> (first | walk_at "sx" | skip)
  | with_reducible apply c_next
  | with_reducible apply c_break
  | with_reducible apply c_cont)
/-- a value is handed back; a word is met again -/
local macro_rules | `(tactic| walk_at "ret") => `(tactic| (with_reducible apply c_ret) <;> (first | walk_at "sx" | skip))
local macro_rules | `(tactic| walk_at "inv") => `(tactic| (with_reducible apply c_inv) <;> (first | walk_at "side" | skip))
local macro_rules | `(tactic| walk_at "seq") => `(tactic| with_reducible apply c_seq)
local macro_rules | `(tactic| walk_at "cut") => `(tactic| with_reducible apply c_cut)
local macro_rules | `(tactic| walk_at "if") => `(tactic| ((with_reducible apply c_if); (case' h => first | walk_at "sx" | skip)))
local macro_rules | `(tactic| walk_at "fgt") => `(tactic| first
  | exact Fgt.nil
  | (with_reducible apply Fgt.keep; walk_at "fgt")
  | (with_reducible apply Fgt.drop; walk_at "fgt"))

/-! ### more steps: stars, dicts, tuples -/
local macro_rules | `(tactic| walk_at "sx") => `(tactic| first
  | (with_reducible apply ed_starT) <;> walk_at "sx"
  | (with_reducible apply ev_dgetS) <;> walk_at "sx"
  | with_reducible exact isdi_v
  | (with_reducible apply isdi_c) <;> walk_at "sx"
  | (with_reducible apply rv_catTd) <;> walk_at "sx"
  | with_reducible exact ist_dat
  | ((with_reducible show ¬ (_ : Int) < _); with_reducible assumption)
  | ((with_reducible show valG _ _ = _); walk_at "get")
  | ((with_reducible show putG _ _ _ = _); walk_at "get"))

local macro_rules | `(tactic| walk_at "get") => `(tactic| first | exact get_ep _ | exact get_row _ | exact put_ep _ _ | exact put_row _ _)
local macro_rules | `(tactic| walk_at "spec") => `(tactic| first
  | with_reducible exact number_ev
  | (with_reducible apply take_ev) <;> walk_at "sx"
  | ((with_reducible apply whole_ev); with_reducible assumption))
/-! ### the law's turns -/
theorem eqok_R : EqOk encR := fun x y => by
  cases x <;> cases y <;> simp [encR, PyData.eqv, PyData.eqvAll]
  all_goals (first | decide +kernel | (constructor <;> (intro h; simp_all) ) | omega | trivial)
/-- data that is equal to itself, and can be laid -/
def Gd (a : PyData) : Prop := Shp 8 a ∧ PyData.eqv a a = true
theorem gd_all : ∀ {ws : List PyData}, (∀ a ∈ ws, Gd a) → PyData.eqvAll ws ws = true
  | [], _ => by simp [PyData.eqvAll]
  | a :: ws, h => by
    have h1 := (h a List.mem_cons_self).2
    have h2 := gd_all (ws := ws) fun b hb => h b (List.mem_cons_of_mem _ hb)
    simp [PyData.eqvAll, h1, h2]
theorem shpA_of {n : Nat} : ∀ {ws : List PyData}, (∀ a ∈ ws, Shp n a) → ShpA n ws
  | [], _ => shpA_nil
  | a :: ws, h => shpA_cons (h a List.mem_cons_self) (shpA_of fun b hb => h b (List.mem_cons_of_mem _ hb))
theorem Shp.up {n m : Nat} {d : PyData} (h : Shp n d) (l : n ≤ m) : Shp m d := ⟨h.1, Nat.le_trans h.2 l⟩
theorem gd_tup {ws : List PyData} (h : ∀ a ∈ ws, Gd a) : Shp 64 (.tuple ws) ∧ PyData.eqv (.tuple ws) (.tuple ws) = true :=
  ⟨Shp.up (shp_tuple (n := 8) (shpA_of fun a ha => (h a ha).1)) (by decide), by rw [PyData.eqv]; exact gd_all h⟩
theorem shp_R {n : Nat} (r : Rc) : Shp (n + 1) (encR r) := by
  cases r with
  | pr e => exact shp_tuple (shpA_cons (shp_str (by decide +kernel)) (shpA_cons shp_int shpA_nil))
  | tk e p x => exact shp_tuple (shpA_cons (shp_str (by decide +kernel)) (shpA_cons shp_int (shpA_cons shp_int (shpA_cons shp_int shpA_nil))))
theorem shp_P {n : Nat} (q : Int × Int) : Shp (n + 1) (encP q) := shp_tuple (shpA_cons shp_int (shpA_cons shp_int shpA_nil))
theorem gd_ans {s : Int × Row} {l : Lt} {a : PyData} (h : ansOf s l = some a) : Gd a := by
  have h1 : ∀ e k, Gd (aRef e k) := fun e k => ⟨shp_tuple (n := 7) (shpA_cons (shp_str (by decide +kernel)) (shpA_cons shp_int (shpA_cons shp_int (shpA_cons shp_int shpA_nil)))), by simp [PyData.eqv, PyData.eqvAll]⟩
  have h2 : ∀ e (p : Nat), Gd (aTaken e p) := fun e p => ⟨shp_tuple (n := 7) (shpA_cons (shp_str (by decide +kernel)) (shpA_cons shp_int (shpA_cons shp_int (shpA_cons shp_int shpA_nil)))), by simp [PyData.eqv, PyData.eqvAll]⟩
  have h3 : ∀ e row, Gd (aTold e row) := fun e row => ⟨shp_tuple (n := 7) (shpA_cons (shp_str (by decide +kernel)) (shpA_cons shp_int (shpA_cons shp_int (shpA_cons (shp_tuple (n := 6) (shpA_map fun q _ => shp_P (n := 5) q)) shpA_nil)))), by
    have z := (eqok_tuple eqok_P row row).2 rfl
    simp only [PyData.eqv, PyData.eqvAll] at z ⊢
    simp [z]⟩
  cases l with
  | ask e =>
    simp only [ansOf] at h
    split at h <;> cases h
    · exact h1 _ _
    · exact h3 _ _
  | wr e p x =>
    simp only [ansOf] at h
    split at h
    · cases h; exact h1 _ _
    · split at h
      · cases h; exact h2 _ _
      · cases h
theorem eqv_st {s : Int × Row} : PyData.eqv (.tuple [.int s.1, .list (s.2.map encP)]) (.tuple [.int s.1, .list (s.2.map encP)]) = true := by
  have z := (eqok_list eqok_P s.2 s.2).2 rfl
  simp only [PyData.eqv, PyData.eqvAll] at z ⊢
  simp [z]
/-- between two turns -/
structure B42 (k : KS) (n : Nat) : Prop where
  a : k.recs.length + k.loose.length ≤ n
  b : k.wait.length ≤ n
  g : ∀ a ∈ k.wait, Gd a
def J42 (K : PySem.W.Frag) (C : Addr) (s : List Int) (pd p : Addr) (n : Nat) : Sx.Env → Cells → Prop := fun ρ' M' =>
  ∃ k q j, ρ' = [some (vscr K s), some (val (.ref pd)), some (val (.ref p)), some (val (.ref q)), some (dat (.list (k.recs.map encR))), some (dat (.list (k.loose.map encR))), some (dat (.list k.wait)), none, none, none, none, none, none, none, none, none, none] ∧
    M' = [(pd, cDraw K s j), (p, kpI C k), (q, cD (stD k.s))] ∧ B42 k n
section
variable {K : PySem.W.Frag} {mg : Str → Option Value} {T : Tx K mg} {s : List Int} {pd p q : Addr} {k : KS} {j : Int} {n : Nat} {x7 x8 x9 x10 x11 x12 x13 x14 : Option VD} {Ψ Φ : Fr} {D : Ends}
theorem check42 (hD : D.nx = InvK Ψ (J42 K T.C_Keeper s pd p n)) (hn : n ≤ 100) (B : B42 k n) :
    Cont (rd_law_21 K T D) Ψ [some (vscr K s), some (val (.ref pd)), some (val (.ref p)), some (val (.ref q)), some (dat (.list (k.recs.map encR))), some (dat (.list (k.loose.map encR))), some (dat (.list k.wait)), x7, x8, x9, x10, x11, x12, x13, x14, none, none] [(pd, cDraw K s j), (p, kpI T.C_Keeper k), (q, cD (stD k.s))] := by
  have hC := T.F_Keeper
  have hC2 := T.F_Record
  have ha := B.a
  have hb' := B.b
  have hrl : k.s.2.length ≤ 100 := Nat.le_trans (foldR_len _) (by rw [List.length_append]; omega)
  walk_at "seq"
  refine c_asgR (er_meth (ds := []) (M1 := [(pd, cDraw K s j), (p, kpI T.C_Keeper k), (q, cD (stD k.s))]) (M2 := [(pd, cDraw K s j), (p, kpI T.C_Keeper k), (q, cD (stD k.s))]) (by walk_at "sx") (.tail _ (.head _)) (by decide +kernel) ea_nil rfl (kept_er (.tail _ (.head _)) (by omega))) ?_
  rintro y M1 ⟨r, a, rfl, rfl⟩
  apply asgR_k <;> (first | walk_at "sx" | skip)
  walk_at "cut"
  walk_at "if"
  all_goals (first | exact Shp.up (n := 3) (shp_tuple (shpA_map fun r _ => shp_R r)) (by decide) | skip)
  case h1 =>
    intro hb
    exfalso
    rw [eqv_st, (eqok_tuple eqok_R _ _).2 rfl, (eqok_tuple eqok_R _ _).2 rfl] at hb
    cases hb
  case h2 =>
    intro hb
    walk_at "st"
    walk_at "if"
    all_goals (first | exact (gd_tup B.g).1 | skip)
    case h1 =>
      intro hb
      rw [(gd_tup B.g).2] at hb
      cases hb
    case h2 =>
      intro hb
      walk_at "st"
      rw [hD]
      refine c_dropC (M' := [(pd, cDraw K s j), (p, kpI T.C_Keeper k), (q, cD (stD k.s))]) (.cons _ (.cons _ (.refl _))) ?_
      with_reducible apply c_invF
      · exact ⟨k, q, j, rfl, rfl, B⟩
      · walk_at "fgt"
      · exact Le.refl _
end

theorem B42.up {k : KS} {n m : Nat} (B : B42 k n) (h : n ≤ m) : B42 k m := ⟨Nat.le_trans B.a h, Nat.le_trans B.b h, B.g⟩
theorem s_handle (k : KS) (l : Lt) : comeS k.s l = (handleK k l).s := by
  rw [come_step]
  unfold KS.s handleK
  dsimp only
  rw [← List.append_assoc]
  show stepO k.s (recOf k.s l) = _
  generalize recOf k.s l = o
  cases o with
  | none => simp [stepO, KS.s]
  | some r => exact (fold_snoc _ _).symm
theorem oR_is (o : Option Rc) : (isNoneD (oR o) = true ∧ o.toList.map encR = []) ∨ (isNoneD (oR o) = false ∧ o.toList.map encR = [oR o]) := by
  cases o with
  | none => exact .inl ⟨rfl, rfl⟩
  | some r => exact .inr ⟨by cases r <;> rfl, rfl⟩
theorem oA_is (s : Int × Row) (l : Lt) : (isNoneD (oA (ansOf s l)) = true ∧ (ansOf s l).toList = []) ∨ (isNoneD (oA (ansOf s l)) = false ∧ (ansOf s l).toList = [oA (ansOf s l)]) := by
  have h : ansOf s l = none ∨ ∃ a, ansOf s l = some a ∧ isNoneD a = false := by
    cases l with
    | ask e =>
      simp only [ansOf]
      split
      · exact .inr ⟨_, rfl, rfl⟩
      · exact .inr ⟨_, rfl, rfl⟩
    | wr e p x =>
      simp only [ansOf]
      split
      · exact .inr ⟨_, rfl, rfl⟩
      · split
        · exact .inr ⟨_, rfl, rfl⟩
        · exact .inl rfl
  rcases h with h | ⟨a, h, h2⟩
  · rw [h]; exact .inl ⟨rfl, rfl⟩
  · rw [h]; exact .inr ⟨h2, rfl⟩
theorem ans_len (o : Option PyData) : o.toList.length ≤ 1 := by cases o <;> simp
theorem rec_len (o : Option Rc) : o.toList.length ≤ 1 := by cases o <;> simp
/-- xs + ([y] if y is not None else []) -/
theorem ev_opt {K : PySem.W.Frag} {ρ : Sx.Env} {M : Cells} {i c : Nat} {xs ys : List PyData} {d : PyData} (h1 : At (dat (.list xs)) ρ i) (h2 : At (dat d) ρ c) (hy : (isNoneD d = true ∧ ys = []) ∨ (isNoneD d = false ∧ ys = [d])) (hl : xs.length + 1 ≤ 16777216) :
    Ev (tOp (rAddU K) (tVar i) (tIf (tTest (tOp rNotN (tVar c) (tC .non))) (tLst (tCons (tVar c) tNil)) (tLst tNil))) ρ M (dat (.list (xs ++ ys))) M := by
  have hl2 : xs.length + ys.length ≤ sizeLine := by
    show _ ≤ 16777216
    rcases hy with ⟨_, rfl⟩ | ⟨_, rfl⟩ <;> simp <;> omega
  refine ev_op (M2 := M) (ev_var h1) (y := dat (.list ys)) ?_ (rv_cat isl_dat isl_dat hl2)
  rcases hy with ⟨h, rfl⟩ | ⟨h, rfl⟩
  · refine ev_if (b := false) (EvT.eq (et_test (ev_op (ev_var h2) ev_non rv_notN)) (by rw [h]; rfl)) (fun h => Bool.noConfusion h) fun _ => ?_
    exact ev_lstD ed_nil (by decide)
  · refine ev_if (b := true) (EvT.eq (et_test (ev_op (ev_var h2) ev_non rv_notN)) (by rw [h]; rfl)) (fun _ => ?_) fun h => Bool.noConfusion h
    exact ev_lstD (ed_cons (ev_var h2) ed_nil) (show 1 ≤ 16777216 by decide)
theorem come_ev {K : PySem.W.Frag} {mg : Str → Option Value} {T : Tx K mg} {p : Addr} {s : Int × Row} {l : Lt} {M M' : Cells} (h : Sw [(p, cD (stD s))] [(p, cD (stD (comeS s l)))] M M') (hl : s.2.length ≤ 10000) :
    S_law_come K T [val (.ref p), dat (encL l)] M (Det (dat (.tuple [oR (recOf s l), oA (ansOf s l)])) M') := ⟨p, s, l, M', rfl, hl, h, rfl, rfl⟩
theorem handle_ev {K : PySem.W.Frag} {mg : Str → Option Value} {T : Tx K mg} {p : Addr} {k : KS} {l : Lt} {M M' : Cells} (h : Sw [(p, kpI T.C_Keeper k)] [(p, kpI T.C_Keeper (handleK k l))] M M') (hl : k.recs.length + k.loose.length + k.wait.length ≤ 10000) :
    S_Keeper_handle K T [val (.ref p), dat (encL l)] M (Det vn M') := ⟨p, k, l, M', rfl, hl, h, rfl, rfl⟩
theorem flush_ev {K : PySem.W.Frag} {mg : Str → Option Value} {T : Tx K mg} {p : Addr} {k : KS} {M M' : Cells} (h : Sw [(p, kpI T.C_Keeper k)] [(p, kpI T.C_Keeper ⟨k.recs ++ k.loose, [], []⟩)] M M') (hl : k.recs.length + k.loose.length ≤ 10000) :
    S_Keeper_flush K T [val (.ref p)] M (Det (dat (.tuple k.wait)) M') := ⟨p, k, M', rfl, hl, h, rfl, rfl⟩
theorem most_ev {K : PySem.W.Frag} {mg : Str → Option Value} {T : Tx K mg} {m : Int} {M : Cells} : S_most_of K T [dat (.int m)] M (Det (dat (.int (m / 2 + 1))) M) := ⟨m, rfl, rfl, rfl⟩
local macro_rules | `(tactic| walk_at "spec") => `(tactic| first
  | with_reducible exact number_ev
  | (with_reducible apply take_ev) <;> walk_at "sx"
  | (with_reducible apply come_ev) <;> walk_at "sx"
  | (with_reducible apply handle_ev) <;> walk_at "sx"
  | (with_reducible apply flush_ev) <;> walk_at "sx"
  | with_reducible exact most_ev)
section
variable {K : PySem.W.Frag} {mg : Str → Option Value} {T : Tx K mg} {s : List Int} {pd p q : Addr} {k : KS} {j e i8 : Int} {n : Nat} {x7 x8 x9 x10 x11 x12 x13 x14 : Option VD} {Ψ Φ : Fr} {D : Ends}
theorem letter42 (hD : D.nx = InvK Ψ (J42 K T.C_Keeper s pd p (n + 1))) (hn : n + 1 ≤ 100) (B : B42 k n) (l : Lt) {De : Ends} (hDe : De.nx = fun σ H => rd_law_21 K T D σ H) :
    Cont (rd_law_6 K T De) Ψ [some (vscr K s), some (val (.ref pd)), some (val (.ref p)), some (val (.ref q)), some (dat (.list (k.recs.map encR))), some (dat (.list (k.loose.map encR))), some (dat (.list k.wait)), x7, x8, x9, some (dat (encL l)), x11, x12, x13, x14, none, none] [(pd, cDraw K s j), (p, kpI T.C_Keeper k), (q, cD (stD k.s))] := by
  have hC := T.F_Keeper
  have ha := B.a
  have hb' := B.b
  have hrl : k.s.2.length ≤ 10000 := Nat.le_trans (foldR_len _) (by rw [List.length_append]; omega)
  walk_at "st"
  walk_at "st"
  walk_at "seq"
  have h1 := rec_len (recOf k.s l)
  have h2 := ans_len (ansOf k.s l)
  refine c_asg (ev_opt (.there (.there (.there (.there (.there .here))))) (.there (.there (.there (.there (.there (.there (.there (.there (.there (.there (.there .here))))))))))) (oR_is _) (by rw [List.length_map]; omega)) (.there (.there (.there (.there (.there .here))))) ?_
  refine c_asg (ev_opt (.there (.there (.there (.there (.there (.there .here)))))) (.there (.there (.there (.there (.there (.there (.there (.there (.there (.there (.there (.there .here)))))))))))) (oA_is _ _) (by omega)) (.there (.there (.there (.there (.there (.there .here)))))) ?_
  rw [← List.map_append, hDe, s_handle]
  have B' : B42 (handleK k l) (n + 1) := ⟨by unfold handleK; dsimp only; rw [List.length_append]; omega, by unfold handleK; dsimp only; rw [List.length_append]; omega, fun a h => by
    rcases List.mem_append.mp h with h | h
    · exact B.g a h
    · exact gd_ans (s := k.s) (l := l) (by revert h; cases ansOf k.s l <;> simp; exact fun h => h.symm)⟩
  exact check42 (k := handleK k l) hD hn B'
end

end Lw


set_option Elab.async false
set_option linter.all false
set_option maxRecDepth 100000
set_option maxHeartbeats 4000000
namespace Lw
open PySem L2 Sx
/-! ### steps -/
local macro_rules | `(tactic| walk_at "shp") => `(tactic| first
  | exact shp_int
  | exact shp_none
  | exact shp_bool
  | exact shp_oi _
  | (apply shp_str; first | decide +kernel | assumption)
  | (apply shp_list; walk_at "shpA")
  | (apply shp_tuple; walk_at "shpA")
  | assumption)
local macro_rules | `(tactic| walk_at "shpA") => `(tactic| first
  | exact shpA_nil
  | (apply shpA_cons; (· walk_at "shp"); walk_at "shpA")
  | (apply shpA_map; intro _ _; walk_at "shp"))
/-- what is left beside: closed, or left -/
local macro_rules | `(tactic| walk_at "side") => `(tactic| first
  | (with_reducible show Shp _ _); walk_at "shp"
  | (with_reducible show _ ≤ sizeLine); first | decide | (show _ ≤ 16777216; omega) | (show _ ≤ 16777216; simp only [List.length_map, List.length_append, List.length_cons, List.length_nil]; omega)
  | (with_reducible show _ < sizeLine); first | decide | (show _ < 16777216; omega) | (show _ < 16777216; simp only [List.length_map, List.length_append, List.length_cons, List.length_nil]; omega)
  | (with_reducible show CMul _ _); first | exact Or.inr ⟨by decide, by decide⟩ | exact Or.inl ⟨by decide, by decide⟩ | exact Or.inl ⟨by omega, by omega⟩ | exact Or.inr ⟨by omega, by omega⟩
  | (with_reducible show CPow _ _); exact ⟨by decide, by decide, by decide⟩
  | (with_reducible show CDiv _ _); first | exact ⟨by decide, by decide⟩ | exact ⟨by omega, by omega⟩
  | (with_reducible show Le _ _); first | with_reducible exact Le.refl _ | with_reducible assumption
  | (with_reducible show L2.atI _ _ = _); first | with_reducible assumption | exact rfl | exact atI_nat rfl
  | (with_reducible show _ < _); first | with_reducible assumption | decide | omega
  | (with_reducible show _ ≤ _); first | with_reducible assumption | decide | omega
  | (with_reducible show _ ∧ _); omega
  | (with_reducible show ∀ i, i ∈ _ → i ∈ _); decide
  | (with_reducible show (_ : Nat) = _); first | exact rfl | omega)
local macro_rules | `(tactic| walk_at "rm") => `(tactic| first
  | exact Rm.here
  | (apply Rm.there; walk_at "rm"))
local macro_rules | `(tactic| walk_at "perm") => `(tactic| first
  | with_reducible exact List.Perm.refl _
  | (apply perm_step; (· walk_at "rm"); walk_at "perm")
  | exact List.Perm.refl _)
local macro_rules | `(tactic| walk_at "pk") => `(tactic| first
  | with_reducible exact Pk.here
  | ((with_reducible apply Pk.there); walk_at "pk"))
/-- a part of a reading: what it gives. One word for all kinds -/
local macro_rules | `(tactic| walk_at "sx") => `(tactic| first
  -- an expression
  | with_reducible exact ev_int
  | with_reducible exact ev_bl
  | with_reducible exact ev_str
  | with_reducible exact ev_non
  | (with_reducible apply ev_var) <;> walk_at "sx"
  | (with_reducible apply ev_op) <;> walk_at "sx"
  | (with_reducible apply ev_fld) <;> walk_at "sx"
  | (with_reducible apply ev_cb) <;> walk_at "sx"
  | (with_reducible apply ev_tupD) <;> walk_at "sx"
  | (with_reducible apply ev_lstD) <;> walk_at "sx"
  | (with_reducible apply ev_tupV) <;> walk_at "sx"
  | (with_reducible apply ev_lstV) <;> walk_at "sx"
  | (with_reducible apply ev_slL) <;> walk_at "sx"
  | (with_reducible apply ev_slT1) <;> walk_at "sx"
  | (with_reducible apply ev_slT) <;> walk_at "sx"
  | (with_reducible apply ev_un) <;> walk_at "sx"
  | (with_reducible apply ev_chain) <;> walk_at "sx"
  | (with_reducible apply ev_andV) <;> walk_at "sx"
  | (with_reducible apply ev_orV) <;> walk_at "sx"
  | (with_reducible apply ev_notV) <;> walk_at "sx"
  | (with_reducible apply ev_lcY) <;> walk_at "sx"
  | (with_reducible apply ev_lc) <;> walk_at "sx"
  | ((with_reducible show ∀ a, a ∈ _ → ∃ ρ'' js, _); intro a ha; dsimp only [wipeE, List.set]; (first | with_reducible apply lcY_k | with_reducible apply lcF_k) <;> walk_at "sx")
  | (with_reducible apply ev_call) <;> walk_at "sx"
  | (with_reducible apply ev_meth) <;> walk_at "sx"
  | (with_reducible apply ev_bm) <;> walk_at "sx"
  | (with_reducible show Ev _ _ _ _ _); walk_at "own"
  -- a test
  | with_reducible exact et_yes
  | (with_reducible apply et_test) <;> walk_at "sx"
  | (with_reducible apply et_B) <;> walk_at "sx"
  | (with_reducible apply et_not) <;> walk_at "sx"
  | (with_reducible apply et_and) <;> walk_at "sx"
  | (with_reducible apply et_or) <;> walk_at "sx"
  -- arguments
  | with_reducible exact ea_nil
  | (with_reducible apply ea_cons) <;> walk_at "sx"
  | with_reducible exact ed_nil
  | (with_reducible apply ed_cons) <;> walk_at "sx"
  | with_reducible exact eo_none
  | (with_reducible apply eo_some) <;> walk_at "sx"
  -- what an operation gives
  | with_reducible exact rv_addI
  | with_reducible exact rv_int0
  | with_reducible exact rv_bl0
  | with_reducible exact rv_eqI
  | with_reducible exact rv_neI
  | with_reducible exact rv_eqS
  | with_reducible exact rv_neS
  | with_reducible exact rv_isN
  | with_reducible exact rv_notN
  | (with_reducible apply rv_intC) <;> walk_at "sx"
  | (with_reducible apply rv_addS) <;> walk_at "sx"
  | (with_reducible apply rv_ixL isl_dat) <;> walk_at "sx"
  | (with_reducible apply rv_ixT ist_dat) <;> walk_at "sx"
  | (with_reducible apply rv_ixL) <;> walk_at "sx"
  | (with_reducible apply rv_ixLV) <;> walk_at "sx"
  | (apply rv_ixT ist_dat) <;> walk_at "sx"
  | (with_reducible apply rv_ixTV istv_vtup) <;> walk_at "sx"
  | (with_reducible apply rv_ixScr) <;> walk_at "sx"
  | (apply rv_ixL isl_dat) <;> walk_at "sx"
  | (with_reducible apply rv_ixL) <;> walk_at "sx"
  | (apply rv_cat) <;> walk_at "sx"
  | (with_reducible apply rv_eqD) <;> walk_at "sx"
  | (with_reducible apply rv_neD) <;> walk_at "sx"
  | with_reducible exact ru_neg
  | with_reducible exact rc_int
  | with_reducible exact rc_abs
  | with_reducible exact rc_max2
  | with_reducible exact rc_min2
  | with_reducible exact rc_lenScr
  | with_reducible exact rc_lenM isl_dat
  | ((with_reducible apply rc_lenM); (with_reducible apply isl_cell) <;> walk_at "sx")
  | with_reducible exact rc_lenMT
  | (with_reducible apply rc_lenL) <;> walk_at "sx"
  | (apply rc_lenT ist_dat)
  | (with_reducible apply rc_tupL) <;> walk_at "sx"
  | (apply rc_tupT)
  | (with_reducible apply rc_lstL) <;> walk_at "sx"
  | (apply rc_lstT ist_dat)
  | with_reducible exact rc_anyM
  | with_reducible exact rc_allM
  | ((with_reducible apply rm_append) <;> walk_at "sx")
  -- lists, tuples, data
  | with_reducible exact isl_dat
  | with_reducible exact isd_dat
  | with_reducible exact isd_scr
  | (with_reducible apply isl_cell) <;> walk_at "sx"
  | (with_reducible apply islv_cell) <;> walk_at "sx"
  | with_reducible exact islv_vlst
  | (with_reducible apply isd_cell) <;> walk_at "sx"
  | (with_reducible apply isd_vtup) <;> walk_at "sx"
  | (with_reducible apply isd_vlst) <;> walk_at "sx"
  | with_reducible exact isds_nil
  | (with_reducible apply isds_cons) <;> walk_at "sx"
  | with_reducible exact fzl_dat
  | with_reducible exact fzl_v
  | with_reducible exact fzt_dat
  | with_reducible exact fzt_v
  | (with_reducible apply ity_l) <;> walk_at "sx"
  | with_reducible exact ity_s
  | (with_reducible apply IsLst.v) <;> walk_at "sx"
  -- places
  | with_reducible exact At.here
  | (with_reducible apply At.there) <;> walk_at "sx"
  | with_reducible exact SetAt.here
  | (with_reducible apply SetAt.there) <;> walk_at "sx"
  | with_reducible exact List.mem_cons_self
  | (with_reducible apply List.mem_cons_of_mem) <;> walk_at "sx"
  | ((with_reducible show (_ : Addr × CD) ∈ _); with_reducible assumption)
  | with_reducible exact Put.here
  | (with_reducible apply Put.there) <;> walk_at "sx"
  | ((with_reducible show Put _ _ _ _ _); with_reducible assumption)
  | ((with_reducible show Sw _ _ _ _); with_reducible assumption)
  | with_reducible exact sw_nil
  | ((with_reducible apply sw_pick); (· walk_at "pk"); walk_at "sx")
  | ((with_reducible apply sw_skip); walk_at "sx")
  | with_reducible exact FGet.here
  | ((with_reducible apply FGet.there); (· decide +kernel); walk_at "sx")
  | with_reducible exact FPut.here
  | with_reducible exact FPut.new
  | ((with_reducible apply FPut.there); (· decide +kernel); walk_at "sx")
  | (with_reducible show ClsF _ _ _); with_reducible assumption
  | (with_reducible show RtQ _ _ _); assumption
  | (with_reducible show (_ : Str) ∈ _); decide +kernel
  | (with_reducible show ¬ (_ : Str) ∈ _); decide +kernel
  -- what is walked, targets
  | (with_reducible apply ei_rng1) <;> walk_at "sx"
  | (with_reducible apply ei_rng2) <;> walk_at "sx"
  | (with_reducible apply ei_enumD) <;> walk_at "sx"
  | (with_reducible apply ei_enum) <;> walk_at "sx"
  | (with_reducible apply ei_zip) <;> walk_at "sx"
  | (with_reducible apply ei_seqLM) <;> walk_at "sx"
  | (with_reducible apply ei_seqTM) <;> walk_at "sx"
  | (with_reducible apply ei_seqL) <;> walk_at "sx"
  | (with_reducible apply ei_seqT) <;> walk_at "sx"
  | (with_reducible apply tg_name) <;> walk_at "sx"
  | (with_reducible apply tg_tup istv_vtup) <;> walk_at "sx"
  | (with_reducible apply td_tup) <;> walk_at "sx"
  | with_reducible exact td_nil
  | (with_reducible apply td_cons) <;> walk_at "sx"
  | with_reducible exact tgs_nil
  | (with_reducible apply tgs_cons) <;> walk_at "sx"
  -- beside
  | walk_at "spec"
  | walk_at "side"
  | walk_at "leave")
/-- a question of another kind is left -/
local macro_rules | `(tactic| walk_at "leave") => `(tactic| first
  | with_reducible show Cont _ _ _ _
  | with_reducible show Shp _ _
  | with_reducible show _ ≤ _
  | with_reducible show _ < _
  | with_reducible show CMul _ _
  | with_reducible show CDiv _ _
  | with_reducible show CPow _ _
  | with_reducible show _ = _
  | with_reducible show Le _ _
  | ((with_reducible show _ = true → _); with_reducible assumption)
  | ((with_reducible show _ = true → _); intro _; walk_at "sx")
  | ((with_reducible show _ = false → _); intro _; walk_at "sx"))
/-- a plain statement -/
local macro_rules | `(tactic| walk_at "st") => `(tactic| first
  | (with_reducible apply c_seq); walk_at "st"
  | (with_reducible apply c_asg) <;> (first | walk_at "sx" | skip)
  | (with_reducible apply c_asgG) <;> (first | walk_at "sx" | skip)
  | (with_reducible apply c_par) <;> (first | walk_at "sx" | skip)
  | (with_reducible apply c_par3) <;> (first | walk_at "sx" | skip)
  | (with_reducible apply c_aug) <;> (first | walk_at "sx" | skip)
  | (with_reducible apply c_augS) <;> (first | walk_at "sx" | skip)
  | (with_reducible apply c_fld) <;> (first | walk_at "sx" | skip)
  | (with_reducible apply c_drop) <;> (first | walk_at "sx" | skip)
  | with_reducible apply c_next
  | with_reducible apply c_break
  | with_reducible apply c_cont)
/-- a value is handed back; a word is met again -/
local macro_rules | `(tactic| walk_at "ret") => `(tactic| (with_reducible apply c_ret) <;> (first | walk_at "sx" | skip))
local macro_rules | `(tactic| walk_at "inv") => `(tactic| (with_reducible apply c_inv) <;> (first | walk_at "side" | skip))
local macro_rules | `(tactic| walk_at "seq") => `(tactic| with_reducible apply c_seq)
local macro_rules | `(tactic| walk_at "cut") => `(tactic| with_reducible apply c_cut)
local macro_rules | `(tactic| walk_at "if") => `(tactic| ((with_reducible apply c_if); (case' h => first | walk_at "sx" | skip)))
local macro_rules | `(tactic| walk_at "fgt") => `(tactic| first
  | exact Fgt.nil
  | (with_reducible apply Fgt.keep; walk_at "fgt")
  | (with_reducible apply Fgt.drop; walk_at "fgt"))

/-! ### more steps: stars, dicts, tuples -/
local macro_rules | `(tactic| walk_at "sx") => `(tactic| first
  | (with_reducible apply ed_starT) <;> walk_at "sx"
  | (with_reducible apply ev_dgetS) <;> walk_at "sx"
  | with_reducible exact isdi_v
  | (with_reducible apply isdi_c) <;> walk_at "sx"
  | (with_reducible apply rv_catTd) <;> walk_at "sx"
  | with_reducible exact ist_dat
  | ((with_reducible show ¬ (_ : Int) < _); with_reducible assumption)
  | ((with_reducible show valG _ _ = _); walk_at "get")
  | ((with_reducible show putG _ _ _ = _); walk_at "get"))

local macro_rules | `(tactic| walk_at "get") => `(tactic| first | exact get_ep _ | exact get_row _ | exact put_ep _ _ | exact put_row _ _)
local macro_rules | `(tactic| walk_at "spec") => `(tactic| first
  | with_reducible exact number_ev
  | (with_reducible apply take_ev) <;> walk_at "sx"
  | ((with_reducible apply whole_ev); with_reducible assumption))
local macro_rules | `(tactic| walk_at "spec") => `(tactic| first
  | with_reducible exact number_ev
  | (with_reducible apply take_ev) <;> walk_at "sx"
  | (with_reducible apply come_ev) <;> walk_at "sx"
  | (with_reducible apply handle_ev) <;> walk_at "sx"
  | (with_reducible apply flush_ev) <;> walk_at "sx"
  | with_reducible exact most_ev)
section
variable {K : PySem.W.Frag} {mg : Str → Option Value} {T : Tx K mg} {s : List Int} {pd p q : Addr} {k : KS} {j e i8 : Int} {n : Nat} {x7 x8 x9 x10 x11 x12 x13 x14 : Option VD} {Ψ Φ : Fr} {D : Ends}
theorem s_flush (k : KS) : k.s = (KS.s ⟨k.recs ++ k.loose, [], []⟩) := by
  unfold KS.s
  dsimp only
  rw [List.append_nil]
theorem row_er {rs : List Rc} {M : Cells} (hl : rs.length ≤ 10000) : S_law_row K T [dat (.list (rs.map encR))] M (fun y N => ∃ q', y = val (.ref q') ∧ N = (q', cD (stD (foldR rs))) :: M) := ⟨rs, rfl, hl, fun q => ⟨q, rfl, rfl⟩⟩
theorem other42 (hD : D.nx = InvK Ψ (J42 K T.C_Keeper s pd p (n + 1))) (hn : n + 1 ≤ 100) (B : B42 k n) {De : Ends} (hDe : De.nx = fun σ H => rd_law_21 K T D σ H) :
    Cont (rd_law_10 K T De) Ψ [some (vscr K s), some (val (.ref pd)), some (val (.ref p)), some (val (.ref q)), some (dat (.list (k.recs.map encR))), some (dat (.list (k.loose.map encR))), some (dat (.list k.wait)), x7, some (dat (.int i8)), x9, x10, x11, x12, x13, x14, none, none] [(pd, cDraw K s j), (p, kpI T.C_Keeper k), (q, cD (stD k.s))] := by
  have hC := T.F_Keeper
  have ha := B.a
  have hb' := B.b
  walk_at "if"
  case h1 =>
    intro hb
    walk_at "cut"
    walk_at "if"
    case h1 =>
      intro hb
      exfalso
      rw [(gd_tup B.g).2] at hb
      simp at hb
    case h2 =>
      intro hb
      walk_at "st"
      walk_at "st"
      rw [← List.map_append, hDe, s_flush]
      exact check42 (k := ⟨k.recs ++ k.loose, [], []⟩) hD hn ⟨by dsimp only; rw [List.length_append, List.length_nil]; omega, Nat.zero_le _, fun _ h => nomatch h⟩
    all_goals exact (gd_tup B.g).1
  case h2 =>
    intro hb
    walk_at "if"
    case h1 =>
      intro hb
      walk_at "st"
      have h0 := tk_nn (s := s) (k := j + 1 + 1) (m := (k.loose.length : Int) + 1) (by omega)
      have h1 := tk_lt (s := s) (k := j + 1 + 1) (m := (k.loose.length : Int) + 1) (by omega)
      obtain ⟨m, hm⟩ : ∃ m : Nat, tk s (j + 1 + 1) ((k.loose.length : Int) + 1) = (m : Int) := ⟨_, (Int.toNat_of_nonneg h0).symm⟩
      rw [hm] at h1 ⊢
      have hm2 : m ≤ k.loose.length := by omega
      walk_at "seq"
      refine c_dropL (P := fun _ N => N = [(pd, cDraw K s (j + 1 + 1)), (p, kpI T.C_Keeper ⟨k.recs ++ k.loose.take m, [], []⟩), (q, cD (stD k.s))]) (evl_meth (ds := [dat (.int (m : Int))]) (by walk_at "sx") (.tail _ (.head _)) (by decide +kernel) (by walk_at "sx") rfl (PE' := fun _ _ _ _ => False) ⟨p, k, .int m, rfl, .inl ⟨_, rfl⟩, by omega, by walk_at "sx", .inr ⟨m, _, rfl, hm2, by walk_at "sx", rfl⟩⟩ rtx0 fun _ _ _ _ z => z) ?_
      rintro x M1 rfl
      walk_at "st"
      case hl =>
        rw [cut_map, cut_0n, List.length_map, List.length_map, List.length_take]
        show _ ≤ 16777216
        omega
      rw [cut_map, cut_0n, ← List.map_append]
      show Cont (rd_law_19 K T De) _ _ _
      refine c_asgR (er_call (ds := [dat (.list ((k.recs ++ k.loose.take m).map encR))]) (M1 := [(pd, cDraw K s (j + 1 + 1)), (p, kpI T.C_Keeper ⟨k.recs ++ k.loose.take m, [], []⟩), (q, cD (stD k.s))]) (by walk_at "sx") rfl (row_er (by rw [List.length_append, List.length_take]; omega))) ?_
      rintro y M1 ⟨q', rfl, rfl⟩
      apply asgR_k <;> (first | walk_at "sx" | skip)
      rw [hDe]
      with_reducible apply c_perm (M' := [(pd, cDraw K s (j + 1 + 1)), (p, kpI T.C_Keeper ⟨k.recs ++ k.loose.take m, [], []⟩), (q', cD (stD (foldR (k.recs ++ k.loose.take m)))), (q, cD (stD k.s))])
      · walk_at "perm"
      refine c_dropC (M' := [(pd, cDraw K s (j + 1 + 1)), (p, kpI T.C_Keeper ⟨k.recs ++ k.loose.take m, [], []⟩), (q', cD (stD (foldR (k.recs ++ k.loose.take m))))]) (.cons₂ _ (.cons₂ _ (.cons₂ _ (.cons _ (.refl _))))) ?_
      have e : foldR (k.recs ++ k.loose.take m) = KS.s ⟨k.recs ++ k.loose.take m, [], []⟩ := by
        unfold KS.s
        dsimp only
        rw [List.append_nil]
      rw [e]
      exact check42 (k := ⟨k.recs ++ k.loose.take m, [], []⟩) hD hn ⟨by dsimp only; rw [List.length_append, List.length_nil, List.length_take]; omega, Nat.zero_le _, fun _ h => nomatch h⟩
    case h2 =>
      intro hb
      walk_at "st"
      rw [hDe]
      exact check42 hD hn (B.up (by omega))
theorem turn42 (hD : D.nx = InvK Ψ (J42 K T.C_Keeper s pd p (n + 1))) (hn : n + 1 ≤ 100) (B : B42 k n) :
    Cont (rd_law_3 K T D) Ψ [some (vscr K s), some (val (.ref pd)), some (val (.ref p)), some (val (.ref q)), some (dat (.list (k.recs.map encR))), some (dat (.list (k.loose.map encR))), some (dat (.list k.wait)), x7, none, none, none, none, none, none, none, none, none] [(pd, cDraw K s j), (p, kpI T.C_Keeper k), (q, cD (stD k.s))] := by
  walk_at "st"
  walk_at "cut"
  have h8 := tk_nn (s := s) (k := j + 1) (m := 8) (by decide)
  generalize tk s (j + 1) 8 = v at *
  generalize tk s (j + 1 + 1) 4 = e at *
  walk_at "if"
  case h1 =>
    intro hb
    walk_at "seq"
    by_cases h0 : v = 0
    · subst h0
      with_reducible apply c_asg (x := dat (encL (.ask e))) (M1 := [(pd, cDraw K s (j + 1 + 1)), (p, kpI T.C_Keeper k), (q, cD (stD k.s))])
      case h =>
        refine ev_if (b := true) (EvT.eq (by walk_at "sx") (decide_eq_true rfl)) (fun _ => ?_) fun h => Bool.noConfusion h
        show Ev _ _ _ (dat (.tuple [.str "ask", .int e, .int 2])) _
        walk_at "sx"
      case hs => walk_at "sx"
      exact letter42 hD hn B _ rfl
    · have hp := tk_nn (s := s) (k := j + 1 + 1 + 1) (m := 4) (by decide)
      obtain ⟨pl, hpl⟩ : ∃ pl : Nat, tk s (j + 1 + 1 + 1) 4 = (pl : Int) := ⟨_, (Int.toNat_of_nonneg hp).symm⟩
      with_reducible apply c_asg (x := dat (encL (.wr e pl (tk s (j + 1 + 1 + 1 + 1) 3)))) (M1 := [(pd, cDraw K s (j + 1 + 1 + 1 + 1)), (p, kpI T.C_Keeper k), (q, cD (stD k.s))])
      case h =>
        refine ev_if (b := false) (EvT.eq (by walk_at "sx") (decide_eq_false h0)) (fun h => Bool.noConfusion h) fun _ => ?_
        show Ev _ _ _ (dat (.tuple [.str "write", .int e, .int 2, .int (pl : Int), .int (tk s (j + 1 + 1 + 1 + 1) 3)])) _
        rw [← hpl]
        walk_at "sx"
      case hs => walk_at "sx"
      exact letter42 hD hn B _ rfl
  case h2 =>
    intro hb
    exact other42 hD hn B rfl
end

end Lw


set_option Elab.async false
set_option linter.all false
set_option maxRecDepth 100000
set_option maxHeartbeats 4000000
namespace Lw
open PySem L2 Sx
/-! ### steps -/
local macro_rules | `(tactic| walk_at "shp") => `(tactic| first
  | exact shp_int
  | exact shp_none
  | exact shp_bool
  | exact shp_oi _
  | (apply shp_str; first | decide +kernel | assumption)
  | (apply shp_list; walk_at "shpA")
  | (apply shp_tuple; walk_at "shpA")
  | assumption)
local macro_rules | `(tactic| walk_at "shpA") => `(tactic| first
  | exact shpA_nil
  | (apply shpA_cons; (· walk_at "shp"); walk_at "shpA")
  | (apply shpA_map; intro _ _; walk_at "shp"))
/-- what is left beside: closed, or left -/
local macro_rules | `(tactic| walk_at "side") => `(tactic| first
  | (with_reducible show Shp _ _); walk_at "shp"
  | (with_reducible show _ ≤ sizeLine); first | decide | (show _ ≤ 16777216; omega) | (show _ ≤ 16777216; simp only [List.length_map, List.length_append, List.length_cons, List.length_nil]; omega)
  | (with_reducible show _ < sizeLine); first | decide | (show _ < 16777216; omega) | (show _ < 16777216; simp only [List.length_map, List.length_append, List.length_cons, List.length_nil]; omega)
  | (with_reducible show CMul _ _); first | exact Or.inr ⟨by decide, by decide⟩ | exact Or.inl ⟨by decide, by decide⟩ | exact Or.inl ⟨by omega, by omega⟩ | exact Or.inr ⟨by omega, by omega⟩
  | (with_reducible show CPow _ _); exact ⟨by decide, by decide, by decide⟩
  | (with_reducible show CDiv _ _); first | exact ⟨by decide, by decide⟩ | exact ⟨by omega, by omega⟩
  | (with_reducible show Le _ _); first | with_reducible exact Le.refl _ | with_reducible assumption
  | (with_reducible show L2.atI _ _ = _); first | with_reducible assumption | exact rfl | exact atI_nat rfl
  | (with_reducible show _ < _); first | with_reducible assumption | decide | omega
  | (with_reducible show _ ≤ _); first | with_reducible assumption | decide | omega
  | (with_reducible show _ ∧ _); omega
  | (with_reducible show ∀ i, i ∈ _ → i ∈ _); decide
  | (with_reducible show (_ : Nat) = _); first | exact rfl | omega)
local macro_rules | `(tactic| walk_at "rm") => `(tactic| first
  | exact Rm.here
  | (apply Rm.there; walk_at "rm"))
local macro_rules | `(tactic| walk_at "perm") => `(tactic| first
  | with_reducible exact List.Perm.refl _
  | (apply perm_step; (· walk_at "rm"); walk_at "perm")
  | exact List.Perm.refl _)
local macro_rules | `(tactic| walk_at "pk") => `(tactic| first
  | with_reducible exact Pk.here
  | ((with_reducible apply Pk.there); walk_at "pk"))
/-- a part of a reading: what it gives. One word for all kinds -/
local macro_rules | `(tactic| walk_at "sx") => `(tactic| first
  -- an expression
  | with_reducible exact ev_int
  | with_reducible exact ev_bl
  | with_reducible exact ev_str
  | with_reducible exact ev_non
  | (with_reducible apply ev_var) <;> walk_at "sx"
  | (with_reducible apply ev_op) <;> walk_at "sx"
  | (with_reducible apply ev_fld) <;> walk_at "sx"
  | (with_reducible apply ev_cb) <;> walk_at "sx"
  | (with_reducible apply ev_tupD) <;> walk_at "sx"
  | (with_reducible apply ev_lstD) <;> walk_at "sx"
  | (with_reducible apply ev_tupV) <;> walk_at "sx"
  | (with_reducible apply ev_lstV) <;> walk_at "sx"
  | (with_reducible apply ev_slL) <;> walk_at "sx"
  | (with_reducible apply ev_slT1) <;> walk_at "sx"
  | (with_reducible apply ev_slT) <;> walk_at "sx"
  | (with_reducible apply ev_un) <;> walk_at "sx"
  | (with_reducible apply ev_chain) <;> walk_at "sx"
  | (with_reducible apply ev_andV) <;> walk_at "sx"
  | (with_reducible apply ev_orV) <;> walk_at "sx"
  | (with_reducible apply ev_notV) <;> walk_at "sx"
  | (with_reducible apply ev_lcY) <;> walk_at "sx"
  | (with_reducible apply ev_lc) <;> walk_at "sx"
  | ((with_reducible show ∀ a, a ∈ _ → ∃ ρ'' js, _); intro a ha; dsimp only [wipeE, List.set]; (first | with_reducible apply lcY_k | with_reducible apply lcF_k) <;> walk_at "sx")
  | (with_reducible apply ev_call) <;> walk_at "sx"
  | (with_reducible apply ev_meth) <;> walk_at "sx"
  | (with_reducible apply ev_bm) <;> walk_at "sx"
  | (with_reducible show Ev _ _ _ _ _); walk_at "own"
  -- a test
  | with_reducible exact et_yes
  | (with_reducible apply et_test) <;> walk_at "sx"
  | (with_reducible apply et_B) <;> walk_at "sx"
  | (with_reducible apply et_not) <;> walk_at "sx"
  | (with_reducible apply et_and) <;> walk_at "sx"
  | (with_reducible apply et_or) <;> walk_at "sx"
  -- arguments
  | with_reducible exact ea_nil
  | (with_reducible apply ea_cons) <;> walk_at "sx"
  | with_reducible exact ed_nil
  | (with_reducible apply ed_cons) <;> walk_at "sx"
  | with_reducible exact eo_none
  | (with_reducible apply eo_some) <;> walk_at "sx"
  -- what an operation gives
  | with_reducible exact rv_addI
  | with_reducible exact rv_int0
  | with_reducible exact rv_bl0
  | with_reducible exact rv_eqI
  | with_reducible exact rv_neI
  | with_reducible exact rv_eqS
  | with_reducible exact rv_neS
  | with_reducible exact rv_isN
  | with_reducible exact rv_notN
  | (with_reducible apply rv_intC) <;> walk_at "sx"
  | (with_reducible apply rv_addS) <;> walk_at "sx"
  | (with_reducible apply rv_ixL isl_dat) <;> walk_at "sx"
  | (with_reducible apply rv_ixT ist_dat) <;> walk_at "sx"
  | (with_reducible apply rv_ixL) <;> walk_at "sx"
  | (with_reducible apply rv_ixLV) <;> walk_at "sx"
  | (apply rv_ixT ist_dat) <;> walk_at "sx"
  | (with_reducible apply rv_ixTV istv_vtup) <;> walk_at "sx"
  | (with_reducible apply rv_ixScr) <;> walk_at "sx"
  | (apply rv_ixL isl_dat) <;> walk_at "sx"
  | (with_reducible apply rv_ixL) <;> walk_at "sx"
  | (apply rv_cat) <;> walk_at "sx"
  | (with_reducible apply rv_eqD) <;> walk_at "sx"
  | (with_reducible apply rv_neD) <;> walk_at "sx"
  | with_reducible exact ru_neg
  | with_reducible exact rc_int
  | with_reducible exact rc_abs
  | with_reducible exact rc_max2
  | with_reducible exact rc_min2
  | with_reducible exact rc_lenScr
  | with_reducible exact rc_lenM isl_dat
  | ((with_reducible apply rc_lenM); (with_reducible apply isl_cell) <;> walk_at "sx")
  | with_reducible exact rc_lenMT
  | (with_reducible apply rc_lenL) <;> walk_at "sx"
  | (apply rc_lenT ist_dat)
  | (with_reducible apply rc_tupL) <;> walk_at "sx"
  | (apply rc_tupT)
  | (with_reducible apply rc_lstL) <;> walk_at "sx"
  | (apply rc_lstT ist_dat)
  | with_reducible exact rc_anyM
  | with_reducible exact rc_allM
  | ((with_reducible apply rm_append) <;> walk_at "sx")
  -- lists, tuples, data
  | with_reducible exact isl_dat
  | with_reducible exact isd_dat
  | with_reducible exact isd_scr
  | (with_reducible apply isl_cell) <;> walk_at "sx"
  | (with_reducible apply islv_cell) <;> walk_at "sx"
  | with_reducible exact islv_vlst
  | (with_reducible apply isd_cell) <;> walk_at "sx"
  | (with_reducible apply isd_vtup) <;> walk_at "sx"
  | (with_reducible apply isd_vlst) <;> walk_at "sx"
  | with_reducible exact isds_nil
  | (with_reducible apply isds_cons) <;> walk_at "sx"
  | with_reducible exact fzl_dat
  | with_reducible exact fzl_v
  | with_reducible exact fzt_dat
  | with_reducible exact fzt_v
  | (with_reducible apply ity_l) <;> walk_at "sx"
  | with_reducible exact ity_s
  | (with_reducible apply IsLst.v) <;> walk_at "sx"
  -- places
  | with_reducible exact At.here
  | (with_reducible apply At.there) <;> walk_at "sx"
  | with_reducible exact SetAt.here
  | (with_reducible apply SetAt.there) <;> walk_at "sx"
  | with_reducible exact List.mem_cons_self
  | (with_reducible apply List.mem_cons_of_mem) <;> walk_at "sx"
  | ((with_reducible show (_ : Addr × CD) ∈ _); with_reducible assumption)
  | with_reducible exact Put.here
  | (with_reducible apply Put.there) <;> walk_at "sx"
  | ((with_reducible show Put _ _ _ _ _); with_reducible assumption)
  | ((with_reducible show Sw _ _ _ _); with_reducible assumption)
  | with_reducible exact sw_nil
  | ((with_reducible apply sw_pick); (· walk_at "pk"); walk_at "sx")
  | ((with_reducible apply sw_skip); walk_at "sx")
  | with_reducible exact FGet.here
  | ((with_reducible apply FGet.there); (· decide +kernel); walk_at "sx")
  | with_reducible exact FPut.here
  | with_reducible exact FPut.new
  | ((with_reducible apply FPut.there); (· decide +kernel); walk_at "sx")
  | (with_reducible show ClsF _ _ _); with_reducible assumption
  | (with_reducible show RtQ _ _ _); assumption
  | (with_reducible show (_ : Str) ∈ _); decide +kernel
  | (with_reducible show ¬ (_ : Str) ∈ _); decide +kernel
  -- what is walked, targets
  | (with_reducible apply ei_rng1) <;> walk_at "sx"
  | (with_reducible apply ei_rng2) <;> walk_at "sx"
  | (with_reducible apply ei_enumD) <;> walk_at "sx"
  | (with_reducible apply ei_enum) <;> walk_at "sx"
  | (with_reducible apply ei_zip) <;> walk_at "sx"
  | (with_reducible apply ei_seqLM) <;> walk_at "sx"
  | (with_reducible apply ei_seqTM) <;> walk_at "sx"
  | (with_reducible apply ei_seqL) <;> walk_at "sx"
  | (with_reducible apply ei_seqT) <;> walk_at "sx"
  | (with_reducible apply tg_name) <;> walk_at "sx"
  | (with_reducible apply tg_tup istv_vtup) <;> walk_at "sx"
  | (with_reducible apply td_tup) <;> walk_at "sx"
  | with_reducible exact td_nil
  | (with_reducible apply td_cons) <;> walk_at "sx"
  | with_reducible exact tgs_nil
  | (with_reducible apply tgs_cons) <;> walk_at "sx"
  -- beside
  | walk_at "spec"
  | walk_at "side"
  | walk_at "leave")
/-- a question of another kind is left -/
local macro_rules | `(tactic| walk_at "leave") => `(tactic| first
  | with_reducible show Cont _ _ _ _
  | with_reducible show Shp _ _
  | with_reducible show _ ≤ _
  | with_reducible show _ < _
  | with_reducible show CMul _ _
  | with_reducible show CDiv _ _
  | with_reducible show CPow _ _
  | with_reducible show _ = _
  | with_reducible show Le _ _
  | ((with_reducible show _ = true → _); with_reducible assumption)
  | ((with_reducible show _ = true → _); intro _; walk_at "sx")
  | ((with_reducible show _ = false → _); intro _; walk_at "sx"))
/-- a plain statement -/
local macro_rules | `(tactic| walk_at "st") => `(tactic| first
  | (with_reducible apply c_seq); walk_at "st"
  | (with_reducible apply c_asg) <;> (first | walk_at "sx" | skip)
  | (with_reducible apply c_asgG) <;> (first | walk_at "sx" | skip)
  | (with_reducible apply c_par) <;> (first | walk_at "sx" | skip)
  | (with_reducible apply c_par3) <;> (first | walk_at "sx" | skip)
  | (with_reducible apply c_aug) <;> (first | walk_at "sx" | skip)
  | (with_reducible apply c_augS) <;> (first | walk_at "sx" | skip)
  | (with_reducible apply c_fld) <;> (first | walk_at "sx" | skip)
  | (with_reducible apply c_drop) <;> (first | walk_at "sx" | skip)
  | with_reducible apply c_next
  | with_reducible apply c_break
  | with_reducible apply c_cont)
/-- a value is handed back; a word is met again -/
local macro_rules | `(tactic| walk_at "ret") => `(tactic| (with_reducible apply c_ret) <;> (first | walk_at "sx" | skip))
local macro_rules | `(tactic| walk_at "inv") => `(tactic| (with_reducible apply c_inv) <;> (first | walk_at "side" | skip))
local macro_rules | `(tactic| walk_at "seq") => `(tactic| with_reducible apply c_seq)
local macro_rules | `(tactic| walk_at "cut") => `(tactic| with_reducible apply c_cut)
local macro_rules | `(tactic| walk_at "if") => `(tactic| ((with_reducible apply c_if); (case' h => first | walk_at "sx" | skip)))
local macro_rules | `(tactic| walk_at "fgt") => `(tactic| first
  | exact Fgt.nil
  | (with_reducible apply Fgt.keep; walk_at "fgt")
  | (with_reducible apply Fgt.drop; walk_at "fgt"))

/-! ### more steps: stars, dicts, tuples -/
local macro_rules | `(tactic| walk_at "sx") => `(tactic| first
  | (with_reducible apply ed_starT) <;> walk_at "sx"
  | (with_reducible apply ev_dgetS) <;> walk_at "sx"
  | with_reducible exact isdi_v
  | (with_reducible apply isdi_c) <;> walk_at "sx"
  | (with_reducible apply rv_catTd) <;> walk_at "sx"
  | with_reducible exact ist_dat
  | ((with_reducible show ¬ (_ : Int) < _); with_reducible assumption)
  | ((with_reducible show valG _ _ = _); walk_at "get")
  | ((with_reducible show putG _ _ _ = _); walk_at "get"))

local macro_rules | `(tactic| walk_at "get") => `(tactic| first | exact get_ep _ | exact get_row _ | exact put_ep _ _ | exact put_row _ _)
local macro_rules | `(tactic| walk_at "spec") => `(tactic| first
  | with_reducible exact number_ev
  | (with_reducible apply take_ev) <;> walk_at "sx"
  | ((with_reducible apply whole_ev); with_reducible assumption))
local macro_rules | `(tactic| walk_at "spec") => `(tactic| first
  | with_reducible exact number_ev
  | (with_reducible apply take_ev) <;> walk_at "sx"
  | with_reducible exact most_ev)
theorem spec_items {n : Nat} {i : Nat} {d : VD} (h : ([PyData.int (-1), .int ((n : Int) + 1), .str "0"].map dat)[i]? = some d) : ∃ w, d = dat w ∧ ((∃ i, w = .int i) ∨ ∃ s, w = .str s) ∧ isW w 0 (n : Int) = false ∧ Shp 64 w ∧ PyData.eqv w w = true := by
  match i, h with
  | 0, h =>
    cases h
    exact ⟨_, rfl, .inl ⟨_, rfl⟩, by simp [isW], shp_int, by simp [PyData.eqv]⟩
  | 1, h =>
    cases h
    exact ⟨_, rfl, .inl ⟨_, rfl⟩, by simp [isW]; omega, shp_int, by simp [PyData.eqv]⟩
  | 2, h =>
    cases h
    exact ⟨_, rfl, .inr ⟨_, rfl⟩, rfl, shp_str (by decide +kernel), by simp [PyData.eqv]⟩
  | n + 3, h => simp at h
section
variable {K : PySem.W.Frag} {mg : Str → Option Value} {T : Tx K mg} {s : List Int} {pd p q : Addr} {k : KS} {j : Int} {n : Nat} {Ψ Φ : Fr} {D : Ends} {P : VD → Cells → Prop} {Q : VK}
abbrev R42 (K : PySem.W.Frag) (s : List Int) (pd p q : Addr) (k : KS) (x15 x16 : Option VD) : Sx.Env := [some (vscr K s), some (val (.ref pd)), some (val (.ref p)), some (val (.ref q)), some (dat (.list (k.recs.map encR))), some (dat (.list (k.loose.map encR))), some (dat (.list k.wait)), none, none, none, none, none, none, none, none, x15, x16]
abbrev M42 (K : PySem.W.Frag) (C : Addr) (s : List Int) (pd p q : Addr) (k : KS) (j : Int) : Cells := [(pd, cDraw K s j), (p, kpI C k), (q, cD (stD k.s))]
theorem wrong42 {w : PyData} {x16 : Option VD} (hD : D.nx = InvK Φ (fun ρ' M' => ∃ x15 x16, ρ' = R42 K s pd p q k x15 x16 ∧ M' = M42 K T.C_Keeper s pd p q k j)) (hl : k.recs.length + k.loose.length ≤ 10000) (h1 : (∃ i, w = .int i) ∨ ∃ s, w = .str s) (h2 : isW w 0 (k.loose.length : Int) = false) (h3 : Shp 64 w) (h4 : PyData.eqv w w = true) :
    Cont (rd_law_29 K T D) Φ (R42 K s pd p q k (some (dat w)) x16) (M42 K T.C_Keeper s pd p q k j) := by
  have hC := T.F_Keeper
  refine c_tryAs (fun ρ' C f y M' => ρ' = R42 K s pd p q k (some (dat w)) x16 ∧ C = T.C_BadName ∧ f = "name" ∧ y = dat w ∧ M' = M42 K T.C_Keeper s pd p q k j) ?_ ?_
  · intro W hX
    walk_at "seq"
    refine c_dropL (P := fun _ _ => False) (evl_meth (ds := [dat w]) (by walk_at "sx") (.tail _ (.head _)) (by decide +kernel) (by walk_at "sx") rfl (PE' := fun C f y M' => C = T.C_BadName ∧ f = "name" ∧ y = dat w ∧ M' = M42 K T.C_Keeper s pd p q k j) ⟨p, k, w, rfl, h1, hl, by walk_at "sx", .inl ⟨h2, rfl, rfl, rfl, rfl⟩⟩ hX fun C f y M' z => ⟨rfl, z⟩) fun _ _ z => z.elim
  · rintro Ψ ρ' C f y M' dd hle ⟨rfl, rfl, rfl, rfl, rfl⟩
    refine ⟨T.X_BadName.te, fun a => ?_⟩
    show Cont _ _ (R42 K s pd p q k (some (dat w)) (some (val (.ref a)))) _
    with_reducible apply c_if (b := !PyData.eqv w w) (M1 := (dd, cX "name" (dat w)) :: M42 K T.C_Keeper s pd p q k j)
    case h =>
      refine et_test (ev_op (ev_xf (ev_var ?_) (.head _)) (ev_var ?_) (rv_neD isd_dat isd_dat h3 h3))
      · walk_at "sx"
      · walk_at "sx"
    case h1 =>
      intro hb
      rw [h4] at hb
      cases hb
    case h2 =>
      intro hb
      walk_at "st"
      refine c_unset ?_
      show Cont D.nx _ (R42 K s pd p q k (some (dat w)) none) _
      rw [hD]
      refine c_dropC (M' := M42 K T.C_Keeper s pd p q k j) (.cons _ (.refl _)) ?_
      exact c_inv ⟨_, _, rfl, rfl⟩ hle
theorem end42 (hQ : RtQ Q Φ P) (hP : ∀ M', P (dat (.bool true)) M') (hl : k.recs.length + k.loose.length ≤ 10000) :
    Cont (rd_law_28 K T (fnD Q)) Φ (R42 K s pd p q k none none) (M42 K T.C_Keeper s pd p q k j) := by
  walk_at "cut"
  with_reducible apply c_for (its := [PyData.int (-1), .int ((k.loose.length : Int) + 1), .str "0"].map dat) (M1 := M42 K T.C_Keeper s pd p q k j) (I := fun _ ρ' M' => ∃ x15 x16, ρ' = R42 K s pd p q k x15 x16 ∧ M' = M42 K T.C_Keeper s pd p q k j)
  case h => walk_at "sx"
  case h0 => exact ⟨_, _, rfl, rfl⟩
  case hd =>
    rintro ρ' M' ⟨x15, x16, rfl, rfl⟩
    show Cont (rd_law_35 K T (fnD Q)) Φ _ _
    refine c_ret (D := fnD Q) (x := dat (.bool true)) (M1 := M42 K T.C_Keeper s pd p q k j) ?_ hQ (hP _) (Le.refl _)
    refine ev_op (M1 := M42 K T.C_Keeper s pd p q k j) (M2 := M42 K T.C_Keeper s pd p q k j) (x := dat (.list (([1, 2, 3, 4, 5] : List Int).map fun m => PyData.int (m / 2 + 1)))) (y := dat (.list [.int 1, .int 2, .int 2, .int 3, .int 3])) (ev_lcY (xs := ([1, 2, 3, 4, 5] : List Int)) (e := fun i => dat (.int i)) (r := fun m => PyData.int (m / 2 + 1)) ?_ (by decide) ?_) ?_ ?_
    · show EvI _ _ _ ([PyData.int 1, .int 2, .int 3, .int 4, .int 5].map dat) _
      walk_at "sx"
    · intro a ha
      dsimp only [R42, wipeE, List.set]
      with_reducible apply lcY_k <;> walk_at "sx"
      rfl
    · walk_at "sx"
    · have e : PyData.eqv (.list (([1, 2, 3, 4, 5] : List Int).map fun m => PyData.int (m / 2 + 1))) (.list [.int 1, .int 2, .int 2, .int 3, .int 3]) = true := by decide +kernel
      rw [← e]
      refine rv_eqD isd_dat isd_dat ?_ ?_
      · exact shp_list (shpA_map fun _ _ => shp_int)
      · walk_at "shp"
  case hs =>
    rintro Ψ hΨ i d ρ' M' hi ⟨x15, x16, rfl, rfl⟩
    obtain ⟨w, rfl, h1, h2, h3, h4⟩ := spec_items hi
    apply for_k <;> (first | walk_at "sx" | skip)
    exact wrong42 rfl hl h1 h2 h3 h4
end
theorem law_body {K : PySem.W.Frag} {mg : Str → Option Value} (T : Tx K mg) : ∀ Q ds M P Φ, ds.length = 1 → S_law K T ds M P → RtQ Q Φ P → Cont (rd_law_0 K T (fnD Q)) Φ (entry ["_law_script", "_law_draw", "_law_keeper", "_law_state", "_law_settled", "_law_loose", "_law_waiting", "_law_turn", "_law_kind", "_law_epoch", "_law_letter", "_law_record", "_law_answer", "_law_many", "_law_known", "_law_wrong", "fault"] ds) M := by
  rintro Q ds M P Φ - ⟨s, rfl, rfl, hs63, hP⟩ hQ
  have hC := T.F_Keeper
  show Cont _ _ [some (vscr K s), none, none, none, none, none, none, none, none, none, none, none, none, none, none, none, none] _
  walk_at "seq"
  refine c_asgR (er_lstC (ds := [vscr K s, dat (.int 0)]) (by walk_at "sx") (by walk_at "side")) ?_
  rintro y M1 ⟨pd, rfl, rfl⟩
  apply asgR_k <;> (first | walk_at "sx" | skip)
  walk_at "seq"
  refine c_asgGR (P := fun x M' => ∃ p q, x = vtup [val (.ref p), val (.ref q), dat (.list []), dat (.list []), dat (.list [])] ∧ M' = [(q, cD (stD (foldR []))), (p, kpI T.C_Keeper ⟨[], [], []⟩), (pd, cDraw K s 0)]) ?_ ?_
  · refine er_tupV (ear_cons (er_make (P := fun y N => ∃ p, y = val (.ref p) ∧ N = [(p, kpI T.C_Keeper ⟨[], [], []⟩), (pd, cDraw K s 0)]) (ds := [dat (.int 2)]) (by walk_at "sx") rfl fun p => ⟨p, _, rfl, rfl, rfl, p, rfl, rfl⟩) ?_)
    rintro x M1 ⟨p, rfl, rfl⟩
    refine ear_cons (er_call (ds := [dat (.list [])]) (M1 := [(p, kpI T.C_Keeper ⟨[], [], []⟩), (pd, cDraw K s 0)]) (by walk_at "sx") rfl (P := fun y N => ∃ q, y = val (.ref q) ∧ N = [(q, cD (stD (foldR []))), (p, kpI T.C_Keeper ⟨[], [], []⟩), (pd, cDraw K s 0)]) ⟨[], rfl, by decide, fun q => ⟨q, rfl, rfl⟩⟩) ?_
    rintro x M1 ⟨q, rfl, rfl⟩
    exact EvAR.of (ds := [dat (.list []), dat (.list []), dat (.list [])]) (by walk_at "sx") ⟨by walk_at "side", p, q, rfl, rfl⟩
  rintro x M1 ⟨p, q, rfl, rfl⟩
  apply asgGR_k <;> (first | walk_at "sx" | skip)
  with_reducible apply c_perm (M' := M42 K T.C_Keeper s pd p q ⟨[], [], []⟩ 0)
  · walk_at "perm"
  walk_at "cut"
  have hn0 := tk_nn (s := s) (k := 0 + 1) (m := 30) (by decide)
  have hn1 := tk_lt (s := s) (k := 0 + 1) (m := 30) (by decide)
  with_reducible apply c_for (I := fun i => J42 K T.C_Keeper s pd p i)
  case h => walk_at "sx"
  case h0 => exact ⟨⟨[], [], []⟩, q, 0 + 1, rfl, rfl, Nat.le_refl _, Nat.le_refl _, fun _ h => nomatch h⟩
  case hd =>
    rw [show (irange 0 (30 + tk s (0 + 1) 30).toNat).length = (30 + tk s (0 + 1) 30).toNat by simp [irange]]
    generalize hn : (30 + tk s (0 + 1) 30).toNat = n
    have hn80 : n ≤ 80 := by omega
    rintro ρ' M' ⟨k, q, j, rfl, rfl, B⟩
    have ha := B.a
    exact end42 hQ hP (by omega)
  case hs =>
    rintro Ψ hΨ i d ρ' M' hi ⟨k, q, j, rfl, rfl, B⟩
    have hi80 : i ≤ 80 := by
      have := (List.getElem?_eq_some_iff.mp hi).1
      rw [show (irange 0 (30 + tk s (0 + 1) 30).toNat).length = (30 + tk s (0 + 1) 30).toNat by simp [irange]] at this
      omega
    apply for_k <;> (first | walk_at "sx" | skip)
    exact turn42 rfl (by omega) B

end Lw


set_option Elab.async false
set_option linter.all false
set_option maxRecDepth 100000
set_option maxHeartbeats 4000000
namespace Lw
open PySem L2 Sx
/-! ### steps -/
local macro_rules | `(tactic| walk_at "shp") => `(tactic| first
  | exact shp_int
  | exact shp_none
  | exact shp_bool
  | exact shp_oi _
  | (apply shp_str; first | decide +kernel | assumption)
  | (apply shp_list; walk_at "shpA")
  | (apply shp_tuple; walk_at "shpA")
  | assumption)
local macro_rules | `(tactic| walk_at "shpA") => `(tactic| first
  | exact shpA_nil
  | (apply shpA_cons; (· walk_at "shp"); walk_at "shpA")
  | (apply shpA_map; intro _ _; walk_at "shp"))
/-- what is left beside: closed, or left -/
local macro_rules | `(tactic| walk_at "side") => `(tactic| first
  | (with_reducible show Shp _ _); walk_at "shp"
  | (with_reducible show _ ≤ sizeLine); first | decide | (show _ ≤ 16777216; omega) | (show _ ≤ 16777216; simp only [List.length_map, List.length_append, List.length_cons, List.length_nil]; omega)
  | (with_reducible show _ < sizeLine); first | decide | (show _ < 16777216; omega) | (show _ < 16777216; simp only [List.length_map, List.length_append, List.length_cons, List.length_nil]; omega)
  | (with_reducible show CMul _ _); first | exact Or.inr ⟨by decide, by decide⟩ | exact Or.inl ⟨by decide, by decide⟩ | exact Or.inl ⟨by omega, by omega⟩ | exact Or.inr ⟨by omega, by omega⟩
  | (with_reducible show CPow _ _); exact ⟨by decide, by decide, by decide⟩
  | (with_reducible show CDiv _ _); first | exact ⟨by decide, by decide⟩ | exact ⟨by omega, by omega⟩
  | (with_reducible show Le _ _); first | with_reducible exact Le.refl _ | with_reducible assumption
  | (with_reducible show L2.atI _ _ = _); first | with_reducible assumption | exact rfl | exact atI_nat rfl
  | (with_reducible show _ < _); first | with_reducible assumption | decide | omega
  | (with_reducible show _ ≤ _); first | with_reducible assumption | decide | omega
  | (with_reducible show _ ∧ _); omega
  | (with_reducible show ∀ i, i ∈ _ → i ∈ _); decide
  | (with_reducible show (_ : Nat) = _); first | exact rfl | omega)
local macro_rules | `(tactic| walk_at "rm") => `(tactic| first
  | exact Rm.here
  | (apply Rm.there; walk_at "rm"))
local macro_rules | `(tactic| walk_at "perm") => `(tactic| first
  | with_reducible exact List.Perm.refl _
  | (apply perm_step; (· walk_at "rm"); walk_at "perm")
  | exact List.Perm.refl _)
local macro_rules | `(tactic| walk_at "pk") => `(tactic| first
  | with_reducible exact Pk.here
  | ((with_reducible apply Pk.there); walk_at "pk"))
/-- a part of a reading: what it gives. One word for all kinds -/
local macro_rules | `(tactic| walk_at "sx") => `(tactic| first
  -- an expression
  | with_reducible exact ev_int
  | with_reducible exact ev_bl
  | with_reducible exact ev_str
  | with_reducible exact ev_non
  | (with_reducible apply ev_var) <;> walk_at "sx"
  | (with_reducible apply ev_op) <;> walk_at "sx"
  | (with_reducible apply ev_fld) <;> walk_at "sx"
  | (with_reducible apply ev_cb) <;> walk_at "sx"
  | (with_reducible apply ev_tupD) <;> walk_at "sx"
  | (with_reducible apply ev_lstD) <;> walk_at "sx"
  | (with_reducible apply ev_tupV) <;> walk_at "sx"
  | (with_reducible apply ev_lstV) <;> walk_at "sx"
  | (with_reducible apply ev_slL) <;> walk_at "sx"
  | (with_reducible apply ev_slT1) <;> walk_at "sx"
  | (with_reducible apply ev_slT) <;> walk_at "sx"
  | (with_reducible apply ev_un) <;> walk_at "sx"
  | (with_reducible apply ev_chain) <;> walk_at "sx"
  | (with_reducible apply ev_andV) <;> walk_at "sx"
  | (with_reducible apply ev_orV) <;> walk_at "sx"
  | (with_reducible apply ev_notV) <;> walk_at "sx"
  | (with_reducible apply ev_lcY) <;> walk_at "sx"
  | (with_reducible apply ev_lc) <;> walk_at "sx"
  | ((with_reducible show ∀ a, a ∈ _ → ∃ ρ'' js, _); intro a ha; dsimp only [wipeE, List.set]; (first | with_reducible apply lcY_k | with_reducible apply lcF_k) <;> walk_at "sx")
  | (with_reducible apply ev_call) <;> walk_at "sx"
  | (with_reducible apply ev_meth) <;> walk_at "sx"
  | (with_reducible apply ev_bm) <;> walk_at "sx"
  | (with_reducible show Ev _ _ _ _ _); walk_at "own"
  -- a test
  | with_reducible exact et_yes
  | (with_reducible apply et_test) <;> walk_at "sx"
  | (with_reducible apply et_B) <;> walk_at "sx"
  | (with_reducible apply et_not) <;> walk_at "sx"
  | (with_reducible apply et_and) <;> walk_at "sx"
  | (with_reducible apply et_or) <;> walk_at "sx"
  -- arguments
  | with_reducible exact ea_nil
  | (with_reducible apply ea_cons) <;> walk_at "sx"
  | with_reducible exact ed_nil
  | (with_reducible apply ed_cons) <;> walk_at "sx"
  | with_reducible exact eo_none
  | (with_reducible apply eo_some) <;> walk_at "sx"
  -- what an operation gives
  | with_reducible exact rv_addI
  | with_reducible exact rv_int0
  | with_reducible exact rv_bl0
  | with_reducible exact rv_eqI
  | with_reducible exact rv_neI
  | with_reducible exact rv_eqS
  | with_reducible exact rv_neS
  | with_reducible exact rv_isN
  | with_reducible exact rv_notN
  | (with_reducible apply rv_intC) <;> walk_at "sx"
  | (with_reducible apply rv_addS) <;> walk_at "sx"
  | (with_reducible apply rv_ixL isl_dat) <;> walk_at "sx"
  | (with_reducible apply rv_ixT ist_dat) <;> walk_at "sx"
  | (with_reducible apply rv_ixL) <;> walk_at "sx"
  | (with_reducible apply rv_ixLV) <;> walk_at "sx"
  | (apply rv_ixT ist_dat) <;> walk_at "sx"
  | (with_reducible apply rv_ixTV istv_vtup) <;> walk_at "sx"
  | (with_reducible apply rv_ixScr) <;> walk_at "sx"
  | (apply rv_ixL isl_dat) <;> walk_at "sx"
  | (with_reducible apply rv_ixL) <;> walk_at "sx"
  | (apply rv_cat) <;> walk_at "sx"
  | (with_reducible apply rv_eqD) <;> walk_at "sx"
  | (with_reducible apply rv_neD) <;> walk_at "sx"
  | with_reducible exact ru_neg
  | with_reducible exact rc_int
  | with_reducible exact rc_abs
  | with_reducible exact rc_max2
  | with_reducible exact rc_min2
  | with_reducible exact rc_lenScr
  | with_reducible exact rc_lenM isl_dat
  | ((with_reducible apply rc_lenM); (with_reducible apply isl_cell) <;> walk_at "sx")
  | with_reducible exact rc_lenMT
  | (with_reducible apply rc_lenL) <;> walk_at "sx"
  | (apply rc_lenT ist_dat)
  | (with_reducible apply rc_tupL) <;> walk_at "sx"
  | (apply rc_tupT)
  | (with_reducible apply rc_lstL) <;> walk_at "sx"
  | (apply rc_lstT ist_dat)
  | with_reducible exact rc_anyM
  | with_reducible exact rc_allM
  | ((with_reducible apply rm_append) <;> walk_at "sx")
  -- lists, tuples, data
  | with_reducible exact isl_dat
  | with_reducible exact isd_dat
  | with_reducible exact isd_scr
  | (with_reducible apply isl_cell) <;> walk_at "sx"
  | (with_reducible apply islv_cell) <;> walk_at "sx"
  | with_reducible exact islv_vlst
  | (with_reducible apply isd_cell) <;> walk_at "sx"
  | (with_reducible apply isd_vtup) <;> walk_at "sx"
  | (with_reducible apply isd_vlst) <;> walk_at "sx"
  | with_reducible exact isds_nil
  | (with_reducible apply isds_cons) <;> walk_at "sx"
  | with_reducible exact fzl_dat
  | with_reducible exact fzl_v
  | with_reducible exact fzt_dat
  | with_reducible exact fzt_v
  | (with_reducible apply ity_l) <;> walk_at "sx"
  | with_reducible exact ity_s
  | (with_reducible apply IsLst.v) <;> walk_at "sx"
  -- places
  | with_reducible exact At.here
  | (with_reducible apply At.there) <;> walk_at "sx"
  | with_reducible exact SetAt.here
  | (with_reducible apply SetAt.there) <;> walk_at "sx"
  | with_reducible exact List.mem_cons_self
  | (with_reducible apply List.mem_cons_of_mem) <;> walk_at "sx"
  | ((with_reducible show (_ : Addr × CD) ∈ _); with_reducible assumption)
  | with_reducible exact Put.here
  | (with_reducible apply Put.there) <;> walk_at "sx"
  | ((with_reducible show Put _ _ _ _ _); with_reducible assumption)
  | ((with_reducible show Sw _ _ _ _); with_reducible assumption)
  | with_reducible exact sw_nil
  | ((with_reducible apply sw_pick); (· walk_at "pk"); walk_at "sx")
  | ((with_reducible apply sw_skip); walk_at "sx")
  | with_reducible exact FGet.here
  | ((with_reducible apply FGet.there); (· decide +kernel); walk_at "sx")
  | with_reducible exact FPut.here
  | with_reducible exact FPut.new
  | ((with_reducible apply FPut.there); (· decide +kernel); walk_at "sx")
  | (with_reducible show ClsF _ _ _); with_reducible assumption
  | (with_reducible show RtQ _ _ _); assumption
  | (with_reducible show (_ : Str) ∈ _); decide +kernel
  | (with_reducible show ¬ (_ : Str) ∈ _); decide +kernel
  -- what is walked, targets
  | (with_reducible apply ei_rng1) <;> walk_at "sx"
  | (with_reducible apply ei_rng2) <;> walk_at "sx"
  | (with_reducible apply ei_enumD) <;> walk_at "sx"
  | (with_reducible apply ei_enum) <;> walk_at "sx"
  | (with_reducible apply ei_zip) <;> walk_at "sx"
  | (with_reducible apply ei_seqLM) <;> walk_at "sx"
  | (with_reducible apply ei_seqTM) <;> walk_at "sx"
  | (with_reducible apply ei_seqL) <;> walk_at "sx"
  | (with_reducible apply ei_seqT) <;> walk_at "sx"
  | (with_reducible apply tg_name) <;> walk_at "sx"
  | (with_reducible apply tg_tup istv_vtup) <;> walk_at "sx"
  | (with_reducible apply td_tup) <;> walk_at "sx"
  | with_reducible exact td_nil
  | (with_reducible apply td_cons) <;> walk_at "sx"
  | with_reducible exact tgs_nil
  | (with_reducible apply tgs_cons) <;> walk_at "sx"
  -- beside
  | walk_at "spec"
  | walk_at "side"
  | walk_at "leave")
/-- a question of another kind is left -/
local macro_rules | `(tactic| walk_at "leave") => `(tactic| first
  | with_reducible show Cont _ _ _ _
  | with_reducible show Shp _ _
  | with_reducible show _ ≤ _
  | with_reducible show _ < _
  | with_reducible show CMul _ _
  | with_reducible show CDiv _ _
  | with_reducible show CPow _ _
  | with_reducible show _ = _
  | with_reducible show Le _ _
  | ((with_reducible show _ = true → _); with_reducible assumption)
  | ((with_reducible show _ = true → _); intro _; walk_at "sx")
  | ((with_reducible show _ = false → _); intro _; walk_at "sx"))
/-- a plain statement -/
local macro_rules | `(tactic| walk_at "st") => `(tactic| first
  | (with_reducible apply c_seq); walk_at "st"
  | (with_reducible apply c_asg) <;> (first | walk_at "sx" | skip)
  | (with_reducible apply c_asgG) <;> (first | walk_at "sx" | skip)
  | (with_reducible apply c_par) <;> (first | walk_at "sx" | skip)
  | (with_reducible apply c_par3) <;> (first | walk_at "sx" | skip)
  | (with_reducible apply c_aug) <;> (first | walk_at "sx" | skip)
  | (with_reducible apply c_augS) <;> (first | walk_at "sx" | skip)
  | (with_reducible apply c_fld) <;> (first | walk_at "sx" | skip)
  | (with_reducible apply c_drop) <;> (first | walk_at "sx" | skip)
  | with_reducible apply c_next
  | with_reducible apply c_break
  | with_reducible apply c_cont)
/-- a value is handed back; a word is met again -/
local macro_rules | `(tactic| walk_at "ret") => `(tactic| (with_reducible apply c_ret) <;> (first | walk_at "sx" | skip))
local macro_rules | `(tactic| walk_at "inv") => `(tactic| (with_reducible apply c_inv) <;> (first | walk_at "side" | skip))
local macro_rules | `(tactic| walk_at "seq") => `(tactic| with_reducible apply c_seq)
local macro_rules | `(tactic| walk_at "cut") => `(tactic| with_reducible apply c_cut)
local macro_rules | `(tactic| walk_at "if") => `(tactic| ((with_reducible apply c_if); (case' h => first | walk_at "sx" | skip)))
local macro_rules | `(tactic| walk_at "fgt") => `(tactic| first
  | exact Fgt.nil
  | (with_reducible apply Fgt.keep; walk_at "fgt")
  | (with_reducible apply Fgt.drop; walk_at "fgt"))

/-! ### more steps: stars, dicts, tuples -/
local macro_rules | `(tactic| walk_at "sx") => `(tactic| first
  | (with_reducible apply ed_starT) <;> walk_at "sx"
  | (with_reducible apply ev_dgetS) <;> walk_at "sx"
  | with_reducible exact isdi_v
  | (with_reducible apply isdi_c) <;> walk_at "sx"
  | (with_reducible apply rv_catTd) <;> walk_at "sx"
  | with_reducible exact ist_dat
  | ((with_reducible show ¬ (_ : Int) < _); with_reducible assumption)
  | ((with_reducible show valG _ _ = _); walk_at "get")
  | ((with_reducible show putG _ _ _ = _); walk_at "get"))

local macro_rules | `(tactic| walk_at "get") => `(tactic| first | exact get_ep _ | exact get_row _ | exact put_ep _ _ | exact put_row _ _)
local macro_rules | `(tactic| walk_at "spec") => `(tactic| first
  | with_reducible exact number_ev
  | (with_reducible apply take_ev) <;> walk_at "sx"
  | ((with_reducible apply whole_ev); with_reducible assumption))
theorem ok_is_whole {w : World} {K : PySem.W.Frag} {mg : Str → Option Value} {base : Heap} (T : Tx K mg)
    (R : ∀ Q ds M P Φ, ds.length = 3 → S_is_whole K T ds M P → RtQ Q Φ P → Cont (rd_is_whole_0 K T (fnD Q)) Φ (entry ["thing", "low", "high"] ds) M) :
    FnOk T.Pg w K mg base CX0 1 T.f_is_whole T.fd_is_whole ["thing", "low", "high"] (spF 3 (S_is_whole K T)) := by
  refine T.F_is_whole.ok sc_is_whole (fun vs H Q E h => spF_len h) fun cdv A outer s H vs Q E hr h => ⟨(rd_is_whole_0 K T), ?_, fn_start h (R Q)⟩
  exact (pss_one (ps_ret (pe_and (pe_callB call_isi (by rfl) T.no_isinstance (by decide +kernel) (pa_cons (pv 0) (pa_cons (pe_bltn (v := .ty "int") rfl T.no_int (by decide +kernel) rfl) pa_nil))) (pe_and (pe_not (pe_callB call_isi (by rfl) T.no_isinstance (by decide +kernel) (pa_cons (pv 0) (pa_cons (pe_bltn (v := .ty "bool") rfl T.no_bool (by decide +kernel) rfl) pa_nil)))) (pe_one (pe_chain op_le op_le (pv 1) (pv 0) (pv 2)))))))
theorem ok_Record_put {w : World} {K : PySem.W.Frag} {mg : Str → Option Value} {base : Heap} (T : Tx K mg)
    (R : ∀ Q ds M P Φ, ds.length = 2 → S_Record_put K T ds M P → RtQ Q Φ P → Cont (rd_Record_put_0 K T (fnD Q)) Φ (entry ["self", "record", "pair"] ds) M) :
    FnOk T.Pg w K mg base CX0 1 T.f_Record_put T.fd_Record_put ["self", "record"] (spF 2 (S_Record_put K T)) := by
  refine T.F_Record_put.ok sc_Record_put (fun vs H Q E h => spF_len h) fun cdv A outer s H vs Q E hr h => ⟨(rd_Record_put_0 K T), ?_, fn_start h (R Q)⟩
  exact (pss_cons (ps_fld (pv 0) (pe_callB (call_max2' rfl) (by rfl) T.no_max (by decide +kernel) (pa_cons (pe_fld (pv 0) rfl) (pa_cons (pe_ix ix_seq (pv 1) pe_int (fun _ _ => rfl)) pa_nil))) rfl)
      (pss_one (ps_if (pt_cmpR (op_eqU hr.units) (pe_ix ix_seq (pv 1) pe_int (fun _ _ => rfl)) pe_str (nomark _))
      (pss_cons (ps_set (i := 2) sc_Record_put.nd rfl (by first | exact Or.inl rfl | exact Or.inr rfl) (pe_tup (pa_cons (pe_ix ix_seq (pv 1) pe_int (fun _ _ => rfl)) (pa_cons (pe_ix ix_seq (pv 1) pe_int (fun _ _ => rfl)) pa_nil))))
      (pss_one (ps_if (pt_cmpR op_lt (pe_ix ix_seq (pv 1) pe_int (fun _ _ => rfl)) (pe_callB call_lenU (by rfl) T.no_len PySem.boot_len (pa_cons (pe_fld (pv 0) rfl) pa_nil)) (nomark _))
      (pss_one (ps_asg (pv 2) (pg_sub (pe_fld (pv 0) rfl) (pe_ix ix_seq (pv 1) pe_int (fun _ _ => rfl)) set_list)))
      (pss_one (ps_expr (pe_bm PySem.F.plainAttrs_list PySem.F.slot_list_append PySem.F.type_list_append mt_append (pe_fld (pv 0) rfl) (pa_cons (pv 2) pa_nil)))))))
      pss_nil)))
theorem ok_Record_init {w : World} {K : PySem.W.Frag} {mg : Str → Option Value} {base : Heap} (T : Tx K mg)
    (G_Record_put : FnOk T.Pg w K mg base CX0 1 T.f_Record_put T.fd_Record_put ["self", "record"] (spF 2 (S_Record_put K T)))
    (R : ∀ Q ds M P Φ, ds.length = 2 → S_Record_init K T ds M P → RtQ Q Φ P → Cont (rd_Record_init_0 K T (fnD Q)) Φ (entry ["self", "records", "record"] ds) M) :
    FnOk T.Pg w K mg base CX0 2 T.f_Record_init T.fd_Record_init ["self", "records"] (spF 2 (S_Record_init K T)) := by
  refine T.F_Record_init.ok sc_Record_init (fun vs H Q E h => spF_len h) fun cdv A outer s H vs Q E hr h => ⟨(rd_Record_init_0 K T), ?_, fn_start h (R Q)⟩
  exact (pss_cons (ps_fld (pv 0) (pe_un un_neg pe_int) rfl)
      (pss_cons (ps_fld (pv 0) (pe_lst pa_nil) rfl)
      (pss_one (ps_for PassesOwn.never rfl (pi_seq (pv 1)) (pg_name (i := 2) sc_Record_init.nd rfl (by first | exact Or.inl rfl | exact Or.inr rfl))
      (pss_one (ps_expr (pe_meth (pv 0) T.F_Record.cl T.m_Record_put (G_Record_put) (hr.mono (by decide)) T.b_Record_put .nil pass0 (pa_cons (pv 2) pa_nil))))))))
theorem ok_Record_fits {w : World} {K : PySem.W.Frag} {mg : Str → Option Value} {base : Heap} (T : Tx K mg)
    (R : ∀ Q ds M P Φ, ds.length = 3 → S_Record_fits K T ds M P → RtQ Q Φ P → Cont (rd_Record_fits_0 K T (fnD Q)) Φ (entry ["self", "epoch", "place"] ds) M) :
    FnOk T.Pg w K mg base CX0 1 T.f_Record_fits T.fd_Record_fits ["self", "epoch", "place"] (spF 3 (S_Record_fits K T)) := by
  refine T.F_Record_fits.ok sc_Record_fits (fun vs H Q E h => spF_len h) fun cdv A outer s H vs Q E hr h => ⟨(rd_Record_fits_0 K T), ?_, fn_start h (R Q)⟩
  exact (Evl.pss_cut (ps_if (pt_cmpR op_gt (pv 2) (pe_callB call_lenU (by rfl) T.no_len PySem.boot_len (pa_cons (pe_fld (pv 0) rfl) pa_nil)) (nomark _))
      (pss_one (ps_ret pe_bl))
      pss_nil)
      (pss_one (ps_ret (pe_or (pe_cmpR (op_eqU hr.units) (pv 2) pe_int (nomark _)) (pe_one (pe_cmpR (op_eqU hr.units) (pe_ix ix_seq (pe_ix ix_seq (pe_fld (pv 0) rfl) (pe_op op_sub (pv 2) pe_int) (fun _ _ => rfl)) pe_int (fun _ _ => rfl)) (pv 1) (nomark _)))))))
theorem ok_Keeper_init {w : World} {K : PySem.W.Frag} {mg : Str → Option Value} {base : Heap} (T : Tx K mg)
    (R : ∀ Q ds M P Φ, ds.length = 2 → S_Keeper_init K T ds M P → RtQ Q Φ P → Cont (rd_Keeper_init_0 K T (fnD Q)) Φ (entry ["self", "number"] ds) M) :
    FnOk T.Pg w K mg base CX0 1 T.f_Keeper_init T.fd_Keeper_init ["self", "number"] (spF 2 (S_Keeper_init K T)) := by
  refine T.F_Keeper_init.ok sc_Keeper_init (fun vs H Q E h => spF_len h) fun cdv A outer s H vs Q E hr h => ⟨(rd_Keeper_init_0 K T), ?_, fn_start h (R Q)⟩
  exact (pss_cons (ps_fld (pv 0) (pv 1) rfl)
      (pss_cons (ps_fld (pv 0) (pe_tup pa_nil) rfl)
      (pss_cons (ps_fld (pv 0) (pe_tup pa_nil) rfl)
      (pss_one (ps_fld (pv 0) (pe_tup pa_nil) rfl)))))
theorem ok_Keeper_kept {w : World} {K : PySem.W.Frag} {mg : Str → Option Value} {base : Heap} (T : Tx K mg)
    (G_Record_init : FnOk T.Pg w K mg base CX0 2 T.f_Record_init T.fd_Record_init ["self", "records"] (spF 2 (S_Record_init K T)))
    (R : ∀ Q ds M P Φ, ds.length = 1 → S_Keeper_kept K T ds M P → RtQ Q Φ P → Cont (rd_Keeper_kept_0 K T (fnD Q)) Φ (entry ["self"] ds) M) :
    FnOk T.Pg w K mg base CX0 4 T.f_Keeper_kept T.fd_Keeper_kept ["self"] (spF 1 (S_Keeper_kept K T)) := by
  refine T.F_Keeper_kept.ok sc_Keeper_kept (fun vs H Q E h => spF_len h) fun cdv A outer s H vs Q E hr h => ⟨(rd_Keeper_kept_0 K T), ?_, fn_start h (R Q)⟩
  exact (pss_one (ps_ret (pe_make T.M_Record (G_Record_init) (hr.mono (by decide)) rfl T.mg_Record T.b_Record_init .nil pass0 (pa_cons (pe_op op_addU (pe_fld (pv 0) rfl) (pe_fld (pv 0) rfl)) pa_nil))))
theorem ok_Keeper_take {w : World} {K : PySem.W.Frag} {mg : Str → Option Value} {base : Heap} (T : Tx K mg)
    (G_Record_fits : FnOk T.Pg w K mg base CX0 1 T.f_Record_fits T.fd_Record_fits ["self", "epoch", "place"] (spF 3 (S_Record_fits K T)))
    (R : ∀ Q ds M P Φ, ds.length = 5 → S_Keeper_take K T ds M P → RtQ Q Φ P → Cont (rd_Keeper_take_0 K T (fnD Q)) Φ (entry ["self", "known", "epoch", "place", "entry"] ds) M) :
    FnOk T.Pg w K mg base CX0 2 T.f_Keeper_take T.fd_Keeper_take ["self", "known", "epoch", "place", "entry"] (spF 5 (S_Keeper_take K T)) := by
  refine T.F_Keeper_take.ok sc_Keeper_take (fun vs H Q E h => spF_len h) fun cdv A outer s H vs Q E hr h => ⟨(rd_Keeper_take_0 K T), ?_, fn_start h (R Q)⟩
  exact (Evl.pss_cut (ps_if (pt_not (pt_val (pe_meth (pv 1) T.F_Record.cl T.m_Record_fits (G_Record_fits) (hr.mono (by decide)) T.b_Record_fits .nil pass0 (pa_cons (pv 2) (pa_cons (pv 3) pa_nil)))))
      (pss_one ps_retN)
      pss_nil)
      (Evl.pss_cut (ps_if (PW.pt (pw_or (pt_cmpR (op_eqU hr.units) (pv 3) (pe_callB call_lenU (by rfl) T.no_len PySem.boot_len (pa_cons (pe_fld (pv 1) rfl) pa_nil)) (nomark _)) (pw_or1 (pt_cmpR (op_neU hr.units) (pe_ix ix_seq (pe_fld (pv 1) rfl) (pv 3) (fun _ _ => rfl)) (pe_tup (pa_cons (pv 2) (pa_cons (pv 4) pa_nil))) (nomark _)))))
      (pss_one (ps_fld (pv 0) (pe_tup (StX.pa_star (pe_fld (pv 0) rfl) (pa_cons (pe_tup (pa_cons pe_str (pa_cons (pv 2) (pa_cons (pv 3) (pa_cons (pv 4) pa_nil))))) pa_nil))) rfl))
      pss_nil)
      (pss_one (ps_fld (pv 0) (pe_tup (StX.pa_star (pe_fld (pv 0) rfl) (pa_cons (pe_tup (pa_cons pe_str (pa_cons (pv 2) (pa_cons (pe_fld (pv 0) rfl) (pa_cons (pv 3) pa_nil))))) pa_nil))) rfl))))
theorem ok_Keeper_handle {w : World} {K : PySem.W.Frag} {mg : Str → Option Value} {base : Heap} (T : Tx K mg)
    (G_Keeper_kept : FnOk T.Pg w K mg base CX0 4 T.f_Keeper_kept T.fd_Keeper_kept ["self"] (spF 1 (S_Keeper_kept K T)))
    (G_Keeper_take : FnOk T.Pg w K mg base CX0 2 T.f_Keeper_take T.fd_Keeper_take ["self", "known", "epoch", "place", "entry"] (spF 5 (S_Keeper_take K T)))
    (R : ∀ Q ds M P Φ, ds.length = 2 → S_Keeper_handle K T ds M P → RtQ Q Φ P → Cont (rd_Keeper_handle_0 K T (fnD Q)) Φ (entry ["self", "letter", "known", "epoch"] ds) M) :
    FnOk T.Pg w K mg base CX0 5 T.f_Keeper_handle T.fd_Keeper_handle ["self", "letter"] (spF 2 (S_Keeper_handle K T)) := by
  refine T.F_Keeper_handle.ok sc_Keeper_handle (fun vs H Q E h => spF_len h) fun cdv A outer s H vs Q E hr h => ⟨(rd_Keeper_handle_0 K T), ?_, fn_start h (R Q)⟩
  exact (pss_cons (ps_par (i := 2) (j := 3) (by rfl) sc_Keeper_handle.nd rfl rfl (by decide) rfl rfl (pa_cons (pe_meth0 (pv 0) T.F_Keeper.cl T.m_Keeper_kept (G_Keeper_kept) (hr.mono (by decide)) T.b_Keeper_kept .nil pass0) (pa_cons (pe_ix ix_seq (pv 1) pe_int (fun _ _ => rfl)) pa_nil)) (by rfl))
      (pss_one (ps_if (pt_cmpR op_lt (pv 3) (pe_fld (pv 2) rfl) (nomark _))
      (pss_one (ps_fld (pv 0) (pe_tup (StX.pa_star (pe_fld (pv 0) rfl) (pa_cons (pe_tup (pa_cons pe_str (pa_cons (pv 3) (pa_cons (pe_fld (pv 0) rfl) (pa_cons (pe_fld (pv 2) rfl) pa_nil))))) pa_nil))) rfl))
      (pss_one (ps_if (pt_cmpR (op_eqU hr.units) (pe_ix ix_seq (pv 1) pe_int (fun _ _ => rfl)) pe_str (nomark _))
      (Evl.pss_cut (ps_if (pt_cmpR op_gt (pv 3) (pe_fld (pv 2) rfl) (nomark _))
      (pss_one (ps_fld (pv 0) (pe_tup (StX.pa_star (pe_fld (pv 0) rfl) (pa_cons (pe_tup (pa_cons pe_str (pa_cons (pv 3) pa_nil))) pa_nil))) rfl))
      pss_nil)
      (pss_one (ps_fld (pv 0) (pe_tup (StX.pa_star (pe_fld (pv 0) rfl) (pa_cons (pe_tup (pa_cons pe_str (pa_cons (pv 3) (pa_cons (pe_fld (pv 0) rfl) (pa_cons (pe_callTy call_tuple_of' (by rfl) T.no_tuple (by decide +kernel) (pa_cons (pe_fld (pv 2) rfl) pa_nil)) pa_nil))))) pa_nil))) rfl)))
      (pss_one (ps_expr (pe_meth (pv 0) T.F_Keeper.cl T.m_Keeper_take (G_Keeper_take) (hr.mono (by decide)) T.b_Keeper_take .nil pass0 (pa_cons (pv 2) (pa_cons (pv 3) (pa_cons (pe_ix ix_seq (pv 1) pe_int (fun _ _ => rfl)) (pa_cons (pe_ix ix_seq (pv 1) pe_int (fun _ _ => rfl)) pa_nil))))))))))))
theorem ok_Keeper_flush {w : World} {K : PySem.W.Frag} {mg : Str → Option Value} {base : Heap} (T : Tx K mg)
    (R : ∀ Q ds M P Φ, ds.length = 1 → S_Keeper_flush K T ds M P → RtQ Q Φ P → Cont (rd_Keeper_flush_0 K T (fnD Q)) Φ (entry ["self", "found"] ds) M) :
    FnOk T.Pg w K mg base CX0 1 T.f_Keeper_flush T.fd_Keeper_flush ["self"] (spF 1 (S_Keeper_flush K T)) := by
  refine T.F_Keeper_flush.ok sc_Keeper_flush (fun vs H Q E h => spF_len h) fun cdv A outer s H vs Q E hr h => ⟨(rd_Keeper_flush_0 K T), ?_, fn_start h (R Q)⟩
  exact (pss_cons (ps_fld (pv 0) (pe_op op_addU (pe_fld (pv 0) rfl) (pe_fld (pv 0) rfl)) rfl)
      (pss_cons (ps_set (i := 1) sc_Keeper_flush.nd rfl (by first | exact Or.inl rfl | exact Or.inr rfl) (pe_fld (pv 0) rfl))
      (pss_cons (ps_fld (pv 0) (pe_tup pa_nil) rfl)
      (pss_cons (ps_fld (pv 0) (pe_tup pa_nil) rfl)
      (pss_one (ps_ret (pv 1)))))))
theorem ok_Keeper_fall {w : World} {K : PySem.W.Frag} {mg : Str → Option Value} {base : Heap} (T : Tx K mg)
    (G_is_whole : FnOk T.Pg w K mg base CX0 1 T.f_is_whole T.fd_is_whole ["thing", "low", "high"] (spF 3 (S_is_whole K T)))
    (R : ∀ W Q ds M P PE Φ, ds.length = 2 → S_Keeper_fall K T ds M P PE → RtQ Q Φ P → RtX W Φ (fun _ => PE) → Cont (rd_Keeper_fall_0 K T W (fnD Q)) Φ (entry ["self", "many"] ds) M) :
    FnOk T.Pg w K mg base (L2.CX T.Pg w) 2 T.f_Keeper_fall T.fd_Keeper_fall ["self", "many"] (spX 2 (S_Keeper_fall K T)) := by
  refine T.F_Keeper_fall.okX sc_Keeper_fall (fun vs H Q E h => spX_len h) fun cdv A outer s H vs Q E hr h => ⟨rd_Keeper_fall_0 K T (fun cls d _ H => E cls d H), ?_, fn_startX (t := fun W => rd_Keeper_fall_0 K T W) h (fun W => R W Q)⟩
  exact (Evl.pss_cut (ps_if (pt_not (pt_val (pe_call (G_is_whole) (hr.mono (by decide)) rfl T.mg_is_whole T.k_is_whole T.b_is_whole .nil pass0 (pa_cons (pv 1) (pa_cons pe_int (pa_cons (pe_callB call_lenU (by rfl) T.no_len PySem.boot_len (pa_cons (pe_fld (pv 0) rfl) pa_nil)) pa_nil))))))
      (pss_one (ps_raise rfl (takes_of rfl rfl rfl rfl) (PySem.XeBadName.pmk T.X_BadName hr (pa_cons (pv 1) pa_nil))))
      pss_nil)
      (pss_cons (ps_fld (pv 0) (pe_op op_addU (pe_fld (pv 0) rfl) (pe_slice sl_U (pe_fld (pv 0) rfl) po_none (po_some (pv 1)))) rfl)
      (pss_cons (ps_fld (pv 0) (pe_tup pa_nil) rfl)
      (pss_one (ps_fld (pv 0) (pe_tup pa_nil) rfl)))))
theorem ok_most_of {w : World} {K : PySem.W.Frag} {mg : Str → Option Value} {base : Heap} (T : Tx K mg)
    (R : ∀ Q ds M P Φ, ds.length = 1 → S_most_of K T ds M P → RtQ Q Φ P → Cont (rd_most_of_0 K T (fnD Q)) Φ (entry ["many"] ds) M) :
    FnOk T.Pg w K mg base CX0 1 T.f_most_of T.fd_most_of ["many"] (spF 1 (S_most_of K T)) := by
  refine T.F_most_of.ok sc_most_of (fun vs H Q E h => spF_len h) fun cdv A outer s H vs Q E hr h => ⟨(rd_most_of_0 K T), ?_, fn_start h (R Q)⟩
  exact (pss_one (ps_ret (pe_op op_addU (pe_op op_fdiv (pv 0) pe_int) pe_int)))
theorem ok_law_number {w : World} {K : PySem.W.Frag} {mg : Str → Option Value} {base : Heap} (T : Tx K mg)
    (R : ∀ Q ds M P Φ, ds.length = 2 → S_law_number K T ds M P → RtQ Q Φ P → Cont (rd_law_number_0 K T (fnD Q)) Φ (entry ["_law_script", "_law_index", "_law_cell", "_law_blend"] ds) M) :
    FnOk T.Pg w K mg base CX0 1 T.f_law_number T.fd_law_number ["_law_script", "_law_index"] (spF 2 (S_law_number K T)) := by
  refine T.F_law_number.ok sc_law_number (fun vs H Q E h => spF_len h) fun cdv A outer s H vs Q E hr h => ⟨(rd_law_number_0 K T), ?_, fn_start h (R Q)⟩
  exact (Evl.pss_cut (ps_if (pt_cmpR (op_eqU hr.units) (pv 0) (pe_lst pa_nil) (nomark _))
      (pss_one (ps_ret (pe_callTy call_int1' (by rfl) T.no_int (by decide +kernel) (pa_cons (pe_op op_mod (pe_op op_addU (pe_op op_mul (pv 1) pe_int) pe_int) pe_int) pa_nil))))
      pss_nil)
      (pss_cons (ps_set (i := 2) sc_law_number.nd rfl (by first | exact Or.inl rfl | exact Or.inr rfl) (pe_ix ix_seq (pv 0) (pe_op op_mod (pv 1) (pe_callB call_lenU (by rfl) T.no_len PySem.boot_len (pa_cons (pv 0) pa_nil))) (fun _ _ => rfl)))
      (Evl.pss_cut (ps_if (pt_cmpR op_ge (pe_callB call_abs' (by rfl) T.no_abs (by decide +kernel) (pa_cons (pv 2) pa_nil)) (pe_op op_pow pe_int pe_int) (nomark _))
      (pss_one (ps_set (i := 2) sc_law_number.nd rfl (by first | exact Or.inl rfl | exact Or.inr rfl) (pe_op op_mod (pv 2) (pe_op op_pow pe_int pe_int))))
      pss_nil)
      (pss_cons (ps_set (i := 3) sc_law_number.nd rfl (by first | exact Or.inl rfl | exact Or.inr rfl) (pe_op op_mod (pe_op op_addU (pe_op op_mul (pe_op op_addU (pv 2) (pe_op op_mul pe_int (pv 1))) pe_int) (pe_op op_mul pe_int (pe_callB call_lenU (by rfl) T.no_len PySem.boot_len (pa_cons (pv 0) pa_nil)))) pe_int))
      (pss_one (ps_ret (pe_callTy call_int1' (by rfl) T.no_int (by decide +kernel) (pa_cons (pe_op op_mod (pe_op op_addU (pe_op op_mul (pe_op op_mod (pe_op op_mul (pv 3) pe_int) pe_int) pe_int) (pv 1)) pe_int) pa_nil))))))))
theorem ok_law_take {w : World} {K : PySem.W.Frag} {mg : Str → Option Value} {base : Heap} (T : Tx K mg)
    (G_law_number : FnOk T.Pg w K mg base CX0 1 T.f_law_number T.fd_law_number ["_law_script", "_law_index"] (spF 2 (S_law_number K T)))
    (R : ∀ Q ds M P Φ, ds.length = 2 → S_law_take K T ds M P → RtQ Q Φ P → Cont (rd_law_take_0 K T (fnD Q)) Φ (entry ["_law_draw", "_law_many"] ds) M) :
    FnOk T.Pg w K mg base CX0 2 T.f_law_take T.fd_law_take ["_law_draw", "_law_many"] (spF 2 (S_law_take K T)) := by
  refine T.F_law_take.ok sc_law_take (fun vs H Q E h => spF_len h) fun cdv A outer s H vs Q E hr h => ⟨(rd_law_take_0 K T), ?_, fn_start h (R Q)⟩
  exact (pss_cons (ps_augS (pv 0) pe_int get_list pe_int ip_add set_list)
      (pss_one (ps_ret (pe_op op_mod (pe_callTy call_int1' (by rfl) T.no_int (by decide +kernel) (pa_cons (pe_call (G_law_number) (hr.mono (by decide)) rfl T.mg_law_number T.k_law_number T.b_law_number .nil pass0 (pa_cons (pe_ix ix_seq (pv 0) pe_int (fun _ _ => rfl)) (pa_cons (pe_callTy call_int1' (by rfl) T.no_int (by decide +kernel) (pa_cons (pe_ix ix_seq (pv 0) pe_int (fun _ _ => rfl)) pa_nil)) pa_nil))) pa_nil)) (pv 1)))))
theorem ok_law_come {w : World} {K : PySem.W.Frag} {mg : Str → Option Value} {base : Heap} (T : Tx K mg)
    (R : ∀ Q ds M P Φ, ds.length = 2 → S_law_come K T ds M P → RtQ Q Φ P → Cont (rd_law_come_0 K T (fnD Q)) Φ (entry ["_law_state", "_law_letter", "_law_epoch", "_law_record", "_law_answer", "_law_place", "_law_entry"] ds) M) :
    FnOk T.Pg w K mg base CX0 1 T.f_law_come T.fd_law_come ["_law_state", "_law_letter"] (spF 2 (S_law_come K T)) := by
  refine T.F_law_come.ok sc_law_come (fun vs H Q E h => spF_len h) fun cdv A outer s H vs Q E hr h => ⟨(rd_law_come_0 K T), ?_, fn_start h (R Q)⟩
  exact (pss_cons (ps_set (i := 2) sc_law_come.nd rfl (by first | exact Or.inl rfl | exact Or.inr rfl) (pe_ix ix_seq (pv 1) pe_int (fun _ _ => rfl)))
      (Evl.pss_cut (ps_if (pt_cmpR op_lt (pv 2) (pe_dget (hu_of hr) (pv 0) pe_str (fun _ _ => rfl)) (nomark _))
      (pss_one (ps_ret (pe_tup (pa_cons pe_non (pa_cons (pe_tup (pa_cons pe_str (pa_cons (pv 2) (pa_cons pe_int (pa_cons (pe_dget (hu_of hr) (pv 0) pe_str (fun _ _ => rfl)) pa_nil))))) pa_nil)))))
      pss_nil)
      (Evl.pss_cut (ps_if (pt_cmpR (op_eqU hr.units) (pe_ix ix_seq (pv 1) pe_int (fun _ _ => rfl)) pe_str (nomark _))
      (pss_cons (ps_set (i := 3) sc_law_come.nd rfl (by first | exact Or.inl rfl | exact Or.inr rfl) (pe_ifExp (pt_cmpR op_gt (pv 2) (pe_dget (hu_of hr) (pv 0) pe_str (fun _ _ => rfl)) (nomark _)) (pe_tup (pa_cons pe_str (pa_cons (pv 2) pa_nil))) pe_non))
      (pss_cons (ps_set (i := 4) sc_law_come.nd rfl (by first | exact Or.inl rfl | exact Or.inr rfl) (pe_tup (pa_cons pe_str (pa_cons (pv 2) (pa_cons pe_int (pa_cons (pe_callTy call_tuple_of' (by rfl) T.no_tuple (by decide +kernel) (pa_cons (pe_dget (hu_of hr) (pv 0) pe_str (fun _ _ => rfl)) pa_nil)) pa_nil))))))
      (pss_cons (ps_dput (hu_of hr) (pv 0) pe_str (pv 2) rfl)
      (pss_one (ps_ret (pe_tup (pa_cons (pv 3) (pa_cons (pv 4) pa_nil))))))))
      pss_nil)
      (pss_cons (ps_par (i := 5) (j := 6) (by rfl) sc_law_come.nd rfl rfl (by decide) rfl rfl (pa_cons (pe_ix ix_seq (pv 1) pe_int (fun _ _ => rfl)) (pa_cons (pe_ix ix_seq (pv 1) pe_int (fun _ _ => rfl)) pa_nil)) (by rfl))
      (Evl.pss_cut (ps_if (PW.pt (pw_or (pt_cmpR op_gt (pv 5) (pe_callB call_lenU (by rfl) T.no_len PySem.boot_len (pa_cons (pe_dget (hu_of hr) (pv 0) pe_str (fun _ _ => rfl)) pa_nil)) (nomark _)) (pw_or1 (PW.pt (pw_and (pt_cmpR op_gt (pv 5) pe_int (nomark _)) (pw_and1 (pt_cmpR (op_neU hr.units) (pe_ix ix_seq (pe_ix ix_seq (pe_dget (hu_of hr) (pv 0) pe_str (fun _ _ => rfl)) (pe_op op_sub (pv 5) pe_int) (fun _ _ => rfl)) pe_int (fun _ _ => rfl)) (pv 2) (nomark _))))))))
      (pss_one (ps_ret (pe_tup (pa_cons pe_non (pa_cons pe_non pa_nil)))))
      pss_nil)
      (pss_cons (ps_set (i := 3) sc_law_come.nd rfl (by first | exact Or.inl rfl | exact Or.inr rfl) pe_non)
      (Evl.pss_cut (ps_if (PW.pt (pw_or (pt_cmpR (op_eqU hr.units) (pv 5) (pe_callB call_lenU (by rfl) T.no_len PySem.boot_len (pa_cons (pe_dget (hu_of hr) (pv 0) pe_str (fun _ _ => rfl)) pa_nil)) (nomark _)) (pw_or1 (pt_cmpR (op_neU hr.units) (pe_ix ix_seq (pe_dget (hu_of hr) (pv 0) pe_str (fun _ _ => rfl)) (pv 5) (fun _ _ => rfl)) (pe_tup (pa_cons (pv 2) (pa_cons (pv 6) pa_nil))) (nomark _)))))
      (pss_cons (ps_set (i := 3) sc_law_come.nd rfl (by first | exact Or.inl rfl | exact Or.inr rfl) (pe_tup (pa_cons pe_str (pa_cons (pv 2) (pa_cons (pv 5) (pa_cons (pv 6) pa_nil))))))
      (pss_cons (ps_dput (hu_of hr) (pv 0) pe_str (pe_op op_addU (pe_op op_addU (pe_slice sl_U (pe_dget (hu_of hr) (pv 0) pe_str (fun _ _ => rfl)) po_none (po_some (pv 5))) (pe_lst (pa_cons (pe_tup (pa_cons (pv 2) (pa_cons (pv 6) pa_nil))) pa_nil))) (pe_slice sl_U (pe_dget (hu_of hr) (pv 0) pe_str (fun _ _ => rfl)) (po_some (pe_op op_addU (pv 5) pe_int)) po_none)) rfl)
      (pss_one (ps_dput (hu_of hr) (pv 0) pe_str (pv 2) rfl))))
      pss_nil)
      (pss_one (ps_ret (pe_tup (pa_cons (pv 3) (pa_cons (pe_tup (pa_cons pe_str (pa_cons (pv 2) (pa_cons pe_int (pa_cons (pv 5) pa_nil))))) pa_nil))))))))))))
theorem ok_law_row {w : World} {K : PySem.W.Frag} {mg : Str → Option Value} {base : Heap} (T : Tx K mg)
    (R : ∀ Q ds M P Φ, ds.length = 1 → S_law_row K T ds M P → RtQ Q Φ P → Cont (rd_law_row_0 K T (fnD Q)) Φ (entry ["_law_records", "_law_state", "_law_record"] ds) M) :
    FnOk T.Pg w K mg base CX0 1 T.f_law_row T.fd_law_row ["_law_records"] (spF 1 (S_law_row K T)) := by
  refine T.F_law_row.ok sc_law_row (fun vs H Q E h => spF_len h) fun cdv A outer s H vs Q E hr h => ⟨(rd_law_row_0 K T), ?_, fn_start h (R Q)⟩
  exact (pss_cons (ps_set (i := 1) sc_law_row.nd rfl (by first | exact Or.inl rfl | exact Or.inr rfl) (pe_disp (pps_cons pe_str (pe_un un_neg pe_int) (pps_cons pe_str (pe_lst pa_nil) pps_nil)) rfl rfl (by simp) (by simp)))
      (Evl.pss_cut (ps_for PassesOwn.never rfl (pi_seq (pv 0)) (pg_name (i := 2) sc_law_row.nd rfl (by first | exact Or.inl rfl | exact Or.inr rfl))
      (pss_cons (ps_dput (hu_of hr) (pv 1) pe_str (pe_callB (call_max2' rfl) (by rfl) T.no_max (by decide +kernel) (pa_cons (pe_dget (hu_of hr) (pv 1) pe_str (fun _ _ => rfl)) (pa_cons (pe_ix ix_seq (pv 2) pe_int (fun _ _ => rfl)) pa_nil))) rfl)
      (pss_one (ps_if (pt_cmpR (op_eqU hr.units) (pe_ix ix_seq (pv 2) pe_int (fun _ _ => rfl)) pe_str (nomark _))
      (pss_one (ps_dput (hu_of hr) (pv 1) pe_str (pe_op op_addU (pe_op op_addU (pe_slice sl_U (pe_dget (hu_of hr) (pv 1) pe_str (fun _ _ => rfl)) po_none (po_some (pe_ix ix_seq (pv 2) pe_int (fun _ _ => rfl)))) (pe_lst (pa_cons (pe_tup (pa_cons (pe_ix ix_seq (pv 2) pe_int (fun _ _ => rfl)) (pa_cons (pe_ix ix_seq (pv 2) pe_int (fun _ _ => rfl)) pa_nil))) pa_nil))) (pe_slice sl_U (pe_dget (hu_of hr) (pv 1) pe_str (fun _ _ => rfl)) (po_some (pe_op op_addU (pe_ix ix_seq (pv 2) pe_int (fun _ _ => rfl)) pe_int)) po_none)) rfl))
      pss_nil))))
      (pss_one (ps_ret (pv 1)))))
theorem ok_law {w : World} {K : PySem.W.Frag} {mg : Str → Option Value} {base : Heap} (T : Tx K mg)
    (G_Keeper_fall : FnOk T.Pg w K mg base (L2.CX T.Pg w) 2 T.f_Keeper_fall T.fd_Keeper_fall ["self", "many"] (spX 2 (S_Keeper_fall K T)))
    (G_Keeper_flush : FnOk T.Pg w K mg base CX0 1 T.f_Keeper_flush T.fd_Keeper_flush ["self"] (spF 1 (S_Keeper_flush K T)))
    (G_Keeper_handle : FnOk T.Pg w K mg base CX0 5 T.f_Keeper_handle T.fd_Keeper_handle ["self", "letter"] (spF 2 (S_Keeper_handle K T)))
    (G_Keeper_init : FnOk T.Pg w K mg base CX0 1 T.f_Keeper_init T.fd_Keeper_init ["self", "number"] (spF 2 (S_Keeper_init K T)))
    (G_Keeper_kept : FnOk T.Pg w K mg base CX0 4 T.f_Keeper_kept T.fd_Keeper_kept ["self"] (spF 1 (S_Keeper_kept K T)))
    (G_law_come : FnOk T.Pg w K mg base CX0 1 T.f_law_come T.fd_law_come ["_law_state", "_law_letter"] (spF 2 (S_law_come K T)))
    (G_law_row : FnOk T.Pg w K mg base CX0 1 T.f_law_row T.fd_law_row ["_law_records"] (spF 1 (S_law_row K T)))
    (G_law_take : FnOk T.Pg w K mg base CX0 2 T.f_law_take T.fd_law_take ["_law_draw", "_law_many"] (spF 2 (S_law_take K T)))
    (G_most_of : FnOk T.Pg w K mg base CX0 1 T.f_most_of T.fd_most_of ["many"] (spF 1 (S_most_of K T)))
    (R : ∀ Q ds M P Φ, ds.length = 1 → S_law K T ds M P → RtQ Q Φ P → Cont (rd_law_0 K T (fnD Q)) Φ (entry ["_law_script", "_law_draw", "_law_keeper", "_law_state", "_law_settled", "_law_loose", "_law_waiting", "_law_turn", "_law_kind", "_law_epoch", "_law_letter", "_law_record", "_law_answer", "_law_many", "_law_known", "_law_wrong", "fault"] ds) M) :
    FnOk T.Pg w K mg base CX0 6 T.f_law T.fd_law ["_law_script"] (spF 1 (S_law K T)) := by
  refine T.F_law.ok sc_law (fun vs H Q E h => spF_len h) fun cdv A outer s H vs Q E hr h => ⟨(rd_law_0 K T), ?_, fn_start h (R Q)⟩
  exact (pss_cons (ps_set (i := 1) sc_law.nd rfl (by first | exact Or.inl rfl | exact Or.inr rfl) (pe_lst (pa_cons (pv 0) (pa_cons pe_int pa_nil))))
      (pss_cons (ps_asg (pe_tup (pa_cons (pe_make T.M_Keeper (G_Keeper_init) (hr.mono (by decide)) rfl T.mg_Keeper T.b_Keeper_init .nil pass0 (pa_cons pe_int pa_nil)) (pa_cons (pe_call (G_law_row) (hr.mono (by decide)) rfl T.mg_law_row T.k_law_row T.b_law_row .nil pass0 (pa_cons (pe_lst pa_nil) pa_nil)) (pa_cons (pe_lst pa_nil) (pa_cons (pe_lst pa_nil) (pa_cons (pe_lst pa_nil) pa_nil)))))) (pg_tup rfl (pgs_cons (pg_name (i := 2) sc_law.nd rfl (by first | exact Or.inl rfl | exact Or.inr rfl)) (pgs_cons (pg_name (i := 3) sc_law.nd rfl (by first | exact Or.inl rfl | exact Or.inr rfl)) (pgs_cons (pg_name (i := 4) sc_law.nd rfl (by first | exact Or.inl rfl | exact Or.inr rfl)) (pgs_cons (pg_name (i := 5) sc_law.nd rfl (by first | exact Or.inl rfl | exact Or.inr rfl)) (pgs_cons (pg_name (i := 6) sc_law.nd rfl (by first | exact Or.inl rfl | exact Or.inr rfl)) pgs_nil)))))))
      (Evl.pss_cut (ps_for PassesOwn.never rfl (pi_range1 rfl T.no_range (pa_cons (pe_op op_addU pe_int (pe_call (G_law_take) (hr.mono (by decide)) rfl T.mg_law_take T.k_law_take T.b_law_take .nil pass0 (pa_cons (pv 1) (pa_cons pe_int pa_nil)))) pa_nil)) (pg_name (i := 7) sc_law.nd rfl (by first | exact Or.inl rfl | exact Or.inr rfl))
      (pss_cons (ps_par (i := 8) (j := 9) (by rfl) sc_law.nd rfl rfl (by decide) rfl rfl (pa_cons (pe_call (G_law_take) (hr.mono (by decide)) rfl T.mg_law_take T.k_law_take T.b_law_take .nil pass0 (pa_cons (pv 1) (pa_cons pe_int pa_nil))) (pa_cons (pe_call (G_law_take) (hr.mono (by decide)) rfl T.mg_law_take T.k_law_take T.b_law_take .nil pass0 (pa_cons (pv 1) (pa_cons pe_int pa_nil))) pa_nil)) (by rfl))
      (Evl.pss_cut (ps_if (pt_cmpR op_lt (pv 8) pe_int (nomark _))
      (pss_cons (ps_set (i := 10) sc_law.nd rfl (by first | exact Or.inl rfl | exact Or.inr rfl) (pe_ifExp (pt_cmpR (op_eqU hr.units) (pv 8) pe_int (nomark _)) (pe_tup (pa_cons pe_str (pa_cons (pv 9) (pa_cons pe_int pa_nil)))) (pe_tup (pa_cons pe_str (pa_cons (pv 9) (pa_cons pe_int (pa_cons (pe_call (G_law_take) (hr.mono (by decide)) rfl T.mg_law_take T.k_law_take T.b_law_take .nil pass0 (pa_cons (pv 1) (pa_cons pe_int pa_nil))) (pa_cons (pe_call (G_law_take) (hr.mono (by decide)) rfl T.mg_law_take T.k_law_take T.b_law_take .nil pass0 (pa_cons (pv 1) (pa_cons pe_int pa_nil))) pa_nil))))))))
      (pss_cons (ps_asg (pe_call (G_law_come) (hr.mono (by decide)) rfl T.mg_law_come T.k_law_come T.b_law_come .nil pass0 (pa_cons (pv 3) (pa_cons (pv 10) pa_nil))) (pg_tup rfl (pgs_cons (pg_name (i := 11) sc_law.nd rfl (by first | exact Or.inl rfl | exact Or.inr rfl)) (pgs_cons (pg_name (i := 12) sc_law.nd rfl (by first | exact Or.inl rfl | exact Or.inr rfl)) pgs_nil))))
      (pss_cons (ps_expr (pe_meth (pv 2) T.F_Keeper.cl T.m_Keeper_handle (G_Keeper_handle) (hr.mono (by decide)) T.b_Keeper_handle .nil pass0 (pa_cons (pv 10) pa_nil)))
      (pss_cons (ps_set (i := 5) sc_law.nd rfl (by first | exact Or.inl rfl | exact Or.inr rfl) (pe_op op_addU (pv 5) (pe_ifExp (pt_cmpR op_notN' (pv 11) pe_non (nomark _)) (pe_lst (pa_cons (pv 11) pa_nil)) (pe_lst pa_nil))))
      (pss_one (ps_set (i := 6) sc_law.nd rfl (by first | exact Or.inl rfl | exact Or.inr rfl) (pe_op op_addU (pv 6) (pe_ifExp (pt_cmpR op_notN' (pv 12) pe_non (nomark _)) (pe_lst (pa_cons (pv 12) pa_nil)) (pe_lst pa_nil)))))))))
      (pss_one (ps_if (pt_cmpR (op_eqU hr.units) (pv 8) pe_int (nomark _))
      (Evl.pss_cut (ps_if (pt_cmpR (op_neU hr.units) (pe_meth0 (pv 2) T.F_Keeper.cl T.m_Keeper_flush (G_Keeper_flush) (hr.mono (by decide)) T.b_Keeper_flush .nil pass0) (pe_callTy call_tuple_of' (by rfl) T.no_tuple (by decide +kernel) (pa_cons (pv 6) pa_nil)) (nomark _))
      (pss_one (ps_ret pe_bl))
      pss_nil)
      (pss_one (ps_par3 (i := 4) (j := 5) (l := 6) (by rfl) sc_law.nd rfl rfl rfl (by decide) (by decide) (by decide) rfl rfl rfl (pa_cons (pe_op op_addU (pv 4) (pv 5)) (pa_cons (pe_lst pa_nil) (pa_cons (pe_lst pa_nil) pa_nil))) (by rfl))))
      (pss_one (ps_if (pt_cmpR (op_eqU hr.units) (pe_call (G_law_take) (hr.mono (by decide)) rfl T.mg_law_take T.k_law_take T.b_law_take .nil pass0 (pa_cons (pv 1) (pa_cons pe_int pa_nil))) pe_int (nomark _))
      (pss_cons (ps_set (i := 13) sc_law.nd rfl (by first | exact Or.inl rfl | exact Or.inr rfl) (pe_call (G_law_take) (hr.mono (by decide)) rfl T.mg_law_take T.k_law_take T.b_law_take .nil pass0 (pa_cons (pv 1) (pa_cons (pe_op op_addU (pe_callB call_lenU (by rfl) T.no_len PySem.boot_len (pa_cons (pv 5) pa_nil)) pe_int) pa_nil))))
      (pss_cons (ps_expr (pe_methS (pv 2) T.F_Keeper.cl T.m_Keeper_fall (G_Keeper_fall) (hr.mono (by decide)) T.b_Keeper_fall (fun σ => passAt takes0 σ) (pa_cons (pv 13) pa_nil)))
      (pss_cons (ps_par3 (i := 4) (j := 5) (l := 6) (by rfl) sc_law.nd rfl rfl rfl (by decide) (by decide) (by decide) rfl rfl rfl (pa_cons (pe_op op_addU (pv 4) (pe_slice sl_U (pv 5) po_none (po_some (pv 13)))) (pa_cons (pe_lst pa_nil) (pa_cons (pe_lst pa_nil) pa_nil))) (by rfl))
      (pss_one (ps_set (i := 3) sc_law.nd rfl (by first | exact Or.inl rfl | exact Or.inr rfl) (pe_call (G_law_row) (hr.mono (by decide)) rfl T.mg_law_row T.k_law_row T.b_law_row .nil pass0 (pa_cons (pv 4) pa_nil)))))))
      pss_nil)))))
      (pss_cons (ps_set (i := 14) sc_law.nd rfl (by first | exact Or.inl rfl | exact Or.inr rfl) (pe_meth0 (pv 2) T.F_Keeper.cl T.m_Keeper_kept (G_Keeper_kept) (hr.mono (by decide)) T.b_Keeper_kept .nil pass0))
      (Evl.pss_cut (ps_if (PW.pt (pw_or (pt_cmpR (op_neU hr.units) (pe_tup (pa_cons (pe_fld (pv 14) rfl) (pa_cons (pe_fld (pv 14) rfl) pa_nil))) (pe_tup (pa_cons (pe_dget (hu_of hr) (pv 3) pe_str (fun _ _ => rfl)) (pa_cons (pe_dget (hu_of hr) (pv 3) pe_str (fun _ _ => rfl)) pa_nil))) (nomark _)) (pw_or (pt_cmpR (op_neU hr.units) (pe_fld (pv 2) rfl) (pe_callTy call_tuple_of' (by rfl) T.no_tuple (by decide +kernel) (pa_cons (pv 4) pa_nil)) (nomark _)) (pw_or1 (pt_cmpR (op_neU hr.units) (pe_fld (pv 2) rfl) (pe_callTy call_tuple_of' (by rfl) T.no_tuple (by decide +kernel) (pa_cons (pv 5) pa_nil)) (nomark _))))))
      (pss_one (ps_ret pe_bl))
      pss_nil)
      (pss_one (ps_if (pt_cmpR (op_neU hr.units) (pe_fld (pv 2) rfl) (pe_callTy call_tuple_of' (by rfl) T.no_tuple (by decide +kernel) (pa_cons (pv 6) pa_nil)) (nomark _))
      (pss_one (ps_ret pe_bl))
      pss_nil)))))))
      (Evl.pss_cut (ps_for PassesOwn.never rfl (pi_seq (pe_tup (pa_cons (pe_un un_neg pe_int) (pa_cons (pe_op op_addU (pe_callB call_lenU (by rfl) T.no_len PySem.boot_len (pa_cons (pv 5) pa_nil)) pe_int) (pa_cons pe_str pa_nil))))) (pg_name (i := 15) sc_law.nd rfl (by first | exact Or.inl rfl | exact Or.inr rfl))
      (pss_one (ps_try_as (i := 16) rfl rfl sc_law.nd rfl rfl ⟨rfl, by decide, Or.inl T.X_BadName.gC⟩ takes0 (fun W pn xe tk _ => (pss_cons (ps_expr (pe_methS (pv 2) T.F_Keeper.cl T.m_Keeper_fall (G_Keeper_fall) (hr.mono (by decide)) T.b_Keeper_fall (fun σ => passAt tk σ) (pa_cons (pv 15) pa_nil)))
      (pss_one (ps_ret pe_bl))))
      (fun a oe cls dx pn hz hf => (pss_one (ps_if (pt_cmpR (op_neU hr.units) (pe_xf T.X_BadName.xf T.X_BadName.noN hz hf (pv 16)) (pv 15) (nomark _))
      (pss_one (ps_ret pe_bl))
      pss_nil))))))
      (pss_one (ps_ret (pe_cmpR (op_eqU hr.units) (pe_lc (own := [("_law_many", 13)]) (g := (gName 13)) (tt := tYes) rfl sc_law.nd (pi_seq (pe_tup (pa_cons pe_int (pa_cons pe_int (pa_cons pe_int (pa_cons pe_int (pa_cons pe_int pa_nil))))))) (blkOk_by (own := [("_law_many", 13)]) (N := ["_law_script", "_law_draw", "_law_keeper", "_law_state", "_law_settled", "_law_loose", "_law_waiting", "_law_turn", "_law_kind", "_law_epoch", "_law_letter", "_law_record", "_law_answer", "_law_many", "_law_known", "_law_wrong", "fault"]) (sc := defScope s_law) (by decide +kernel)) (fun _ _ _ _ _ => (pg_name (i := 13) sc_law.nd rfl (by first | exact Or.inl rfl | exact Or.inr rfl))) (fun _ _ _ _ _ => pts_nil) (fun _ _ _ _ _ => (pe_call (G_most_of) (hr.mono (by decide)) rfl T.mg_most_of T.k_most_of T.b_most_of .nil pass0 (pa_cons (pv 13) pa_nil)))) (pe_lst (pa_cons pe_int (pa_cons pe_int (pa_cons pe_int (pa_cons pe_int (pa_cons pe_int pa_nil)))))) (nomark _))))))))
def spLaw (K : PySem.W.Frag) : Sp := spF 1 (SLaw K)
theorem spLaw_intro {K : PySem.W.Frag} {H : Hp} {a : Addr} {ns : List Int} (hl : ns.length ≤ 63) (hS : SqL K H a (ns.map V.int)) : spLaw K [.ref a] H (fun v _ => v = .bl true) fun _ _ _ => False :=
  ⟨Fr.top, [], [], [vscr K ns], [], fun x _ => x = dat (.bool true), ⟨H, fun _ _ h => h, ⟨trivial, .cons ⟨a, rfl, hS⟩ .nil⟩, ⟨rfl, fun i x h => nomatch h⟩, List.nodup_nil, fun c hc => nomatch hc⟩, rfl, ⟨ns, rfl, rfl, hl, fun _ => rfl⟩, fun x M' v H' hx ⟨F, s⟩ => by
    subst hx
    cases s.fr.2
    rfl⟩
theorem law_ok {w : World} {K : PySem.W.Frag} {mg : Str → Option Value} {base : Heap} (T : Tx K mg) : FnOk T.Pg w K mg base CX0 6 T.f_law T.fd_law ["_law_script"] (spLaw K) := by
  have H_is_whole := ok_is_whole (w := w) (base := base) T (R := is_whole_body T)
  have H_Record_put := ok_Record_put (w := w) (base := base) T (R := Record_put_body T)
  have H_Record_fits := ok_Record_fits (w := w) (base := base) T (R := Record_fits_body T)
  have H_Keeper_init := ok_Keeper_init (w := w) (base := base) T (R := Keeper_init_body T)
  have H_Keeper_take := ok_Keeper_take (w := w) (base := base) T (G_Record_fits := H_Record_fits) (R := Keeper_take_body T)
  have H_Keeper_flush := ok_Keeper_flush (w := w) (base := base) T (R := Keeper_flush_body T)
  have H_Keeper_fall := ok_Keeper_fall (w := w) (base := base) T (G_is_whole := H_is_whole) (R := Keeper_fall_body T)
  have H_most_of := ok_most_of (w := w) (base := base) T (R := most_of_body T)
  have H_law_number := ok_law_number (w := w) (base := base) T (R := law_number_body T)
  have H_law_take := ok_law_take (w := w) (base := base) T (G_law_number := H_law_number) (R := law_take_body T)
  have H_law_come := ok_law_come (w := w) (base := base) T (R := law_come_body T)
  have H_law_row := ok_law_row (w := w) (base := base) T (R := law_row_body T)
  have H_Record_init := ok_Record_init (w := w) (base := base) T (G_Record_put := H_Record_put) (R := Record_init_body T)
  have H_Keeper_kept := ok_Keeper_kept (w := w) (base := base) T (G_Record_init := H_Record_init) (R := Keeper_kept_body T)
  have H_Keeper_handle := ok_Keeper_handle (w := w) (base := base) T (G_Keeper_kept := H_Keeper_kept) (G_Keeper_take := H_Keeper_take) (R := Keeper_handle_body T)
  have H_law := ok_law (w := w) (base := base) T (G_Keeper_fall := H_Keeper_fall) (G_Keeper_flush := H_Keeper_flush) (G_Keeper_handle := H_Keeper_handle) (G_Keeper_init := H_Keeper_init) (G_Keeper_kept := H_Keeper_kept) (G_law_come := H_law_come) (G_law_row := H_law_row) (G_law_take := H_law_take) (G_most_of := H_most_of) (R := law_body T)
  exact H_law
theorem all_mk {l : PySem.W.OpenLaw} {w : World} {K : PySem.W.Frag} {h : Heap} {mg : Str → Option Value} {fa C_CallError C_BadName C_Record C_Keeper f_is_whole f_Record_init f_Record_put f_Record_fits f_Keeper_init f_Keeper_kept f_Keeper_handle f_Keeper_take f_Keeper_flush f_Keeper_fall f_most_of f_law_number f_law_take f_law_come f_law_row f_law f_BadName_init cda_BadName cc_BadName : Addr} (X : K.In h) (G : h.Ns mainGlobals mg) (hfa : mg "law" = some (.ref fa))
    {od_is_whole an_is_whole od_Record_init an_Record_init od_Record_put an_Record_put od_Record_fits an_Record_fits od_Keeper_init an_Keeper_init od_Keeper_kept an_Keeper_kept od_Keeper_handle an_Keeper_handle od_Keeper_take an_Keeper_take od_Keeper_flush an_Keeper_flush od_Keeper_fall an_Keeper_fall od_most_of an_most_of od_law_number an_law_number od_law_take an_law_take od_law_come an_law_come od_law_row an_law_row od_law an_law : Option Addr} {sl_is_whole sl_Record_init sl_Record_put sl_Record_fits sl_Keeper_init sl_Keeper_kept sl_Keeper_handle sl_Keeper_take sl_Keeper_flush sl_Keeper_fall sl_most_of sl_law_number sl_law_take sl_law_come sl_law_row sl_law : Array (Option Value)} {oc_is_whole kV_is_whole dc_is_whole pm_is_whole cd_is_whole ct_is_whole oc_Record_init kV_Record_init dc_Record_init pm_Record_init cd_Record_init ct_Record_init oc_Record_put kV_Record_put dc_Record_put pm_Record_put cd_Record_put ct_Record_put oc_Record_fits kV_Record_fits dc_Record_fits pm_Record_fits cd_Record_fits ct_Record_fits oc_Keeper_init kV_Keeper_init dc_Keeper_init pm_Keeper_init cd_Keeper_init ct_Keeper_init oc_Keeper_kept kV_Keeper_kept dc_Keeper_kept pm_Keeper_kept cd_Keeper_kept ct_Keeper_kept oc_Keeper_handle kV_Keeper_handle dc_Keeper_handle pm_Keeper_handle cd_Keeper_handle ct_Keeper_handle oc_Keeper_take kV_Keeper_take dc_Keeper_take pm_Keeper_take cd_Keeper_take ct_Keeper_take oc_Keeper_flush kV_Keeper_flush dc_Keeper_flush pm_Keeper_flush cd_Keeper_flush ct_Keeper_flush oc_Keeper_fall kV_Keeper_fall dc_Keeper_fall pm_Keeper_fall cd_Keeper_fall ct_Keeper_fall oc_most_of kV_most_of dc_most_of pm_most_of cd_most_of ct_most_of oc_law_number kV_law_number dc_law_number pm_law_number cd_law_number ct_law_number oc_law_take kV_law_take dc_law_take pm_law_take cd_law_take ct_law_take oc_law_come kV_law_come dc_law_come pm_law_come cd_law_come ct_law_come oc_law_row kV_law_row dc_law_row pm_law_row cd_law_row ct_law_row oc_law kV_law dc_law pm_law cd_law ct_law : Value}
    {nm_BadName qn_BadName : Str} {N_BadName : Addr} {bs_BadName : List Value} {sn_BadName : List Str} {sub_BadName : List Value} {ab_BadName : Bool} {col_BadName : Option Bool} {dd_BadName : Option Addr} {m0_BadName m1_BadName m2_BadName m3_BadName m5_BadName : Option Value}
    {xod_BadName xan_BadName xcd_BadName ycd_BadName : Option Addr} {xsl_BadName xcs_BadName ycs_BadName : Array (Option Value)} {xoc_BadName xdc_BadName xpm_BadName xct_BadName xcl_BadName ycl_BadName : Value} {yvs_BadName : Array Value} {yf_BadName : Str} {yt_BadName : Tok}
    (aC_Record : PySem.W.nsIn K mainGlobals "Record" = some (some (.ref C_Record)))
    (pg_Record : PySem.W.plainGet K C_Record Str.empty = true)
    (hd_Record : PySem.W.hasDictIn K C_Record = true)
    (po_Record : PySem.W.plainOver K C_Record = true)
    (sa_Record : PySem.W.findIn K (.ref C_Record) "__setattr__" = some (some (.builtin "object.__setattr__")))
    (mk_Record : PySem.W.makesIn K C_Record = true)
    (kc_Record : PySem.W.keepIn K (.ref C_Record) = true)
    (na_Record_0 : PySem.W.findIn K (.ref C_Record) "epoch" = some none)
    (na_Record_1 : PySem.W.findIn K (.ref C_Record) "row" = some none)
    (aC_Keeper : PySem.W.nsIn K mainGlobals "Keeper" = some (some (.ref C_Keeper)))
    (pg_Keeper : PySem.W.plainGet K C_Keeper Str.empty = true)
    (hd_Keeper : PySem.W.hasDictIn K C_Keeper = true)
    (po_Keeper : PySem.W.plainOver K C_Keeper = true)
    (sa_Keeper : PySem.W.findIn K (.ref C_Keeper) "__setattr__" = some (some (.builtin "object.__setattr__")))
    (mk_Keeper : PySem.W.makesIn K C_Keeper = true)
    (kc_Keeper : PySem.W.keepIn K (.ref C_Keeper) = true)
    (na_Keeper_0 : PySem.W.findIn K (.ref C_Keeper) "number" = some none)
    (na_Keeper_1 : PySem.W.findIn K (.ref C_Keeper) "records" = some none)
    (na_Keeper_2 : PySem.W.findIn K (.ref C_Keeper) "loose" = some none)
    (na_Keeper_3 : PySem.W.findIn K (.ref C_Keeper) "waiting" = some none)
    (a_is_whole : PySem.W.nsIn K mainGlobals "is_whole" = some (some (.ref f_is_whole)))
    (i_is_whole : PySem.W.isFn K (.ref f_is_whole) = true)
    (l_is_whole : K.lookup f_is_whole = some ⟨oc_is_whole, od_is_whole, .func (PySem.W.fnOf "is_whole" "is_whole" (defArgs s_is_whole) (defBody s_is_whole) (defScope s_is_whole) .none kV_is_whole dc_is_whole pm_is_whole an_is_whole cd_is_whole ct_is_whole), sl_is_whole⟩)
    (c_is_whole : PySem.W.codeIn K cd_is_whole "is_whole" = true)
    (k_is_whole : PySem.W.keepIn K (.ref f_is_whole) = true)
    (a_Record_init : PySem.W.findIn K (.ref C_Record) "__init__" = some (some (.ref f_Record_init)))
    (i_Record_init : PySem.W.isFn K (.ref f_Record_init) = true)
    (l_Record_init : K.lookup f_Record_init = some ⟨oc_Record_init, od_Record_init, .func (PySem.W.fnOf "__init__" "Record.__init__" (defArgs s_Record_init) (defBody s_Record_init) (defScope s_Record_init) .none kV_Record_init dc_Record_init pm_Record_init an_Record_init cd_Record_init ct_Record_init), sl_Record_init⟩)
    (c_Record_init : PySem.W.codeIn K cd_Record_init "Record.__init__" = true)
    (k_Record_init : PySem.W.keepIn K (.ref f_Record_init) = true)
    (a_Record_put : PySem.W.findIn K (.ref C_Record) "put" = some (some (.ref f_Record_put)))
    (i_Record_put : PySem.W.isFn K (.ref f_Record_put) = true)
    (l_Record_put : K.lookup f_Record_put = some ⟨oc_Record_put, od_Record_put, .func (PySem.W.fnOf "put" "Record.put" (defArgs s_Record_put) (defBody s_Record_put) (defScope s_Record_put) .none kV_Record_put dc_Record_put pm_Record_put an_Record_put cd_Record_put ct_Record_put), sl_Record_put⟩)
    (c_Record_put : PySem.W.codeIn K cd_Record_put "Record.put" = true)
    (k_Record_put : PySem.W.keepIn K (.ref f_Record_put) = true)
    (a_Record_fits : PySem.W.findIn K (.ref C_Record) "fits" = some (some (.ref f_Record_fits)))
    (i_Record_fits : PySem.W.isFn K (.ref f_Record_fits) = true)
    (l_Record_fits : K.lookup f_Record_fits = some ⟨oc_Record_fits, od_Record_fits, .func (PySem.W.fnOf "fits" "Record.fits" (defArgs s_Record_fits) (defBody s_Record_fits) (defScope s_Record_fits) .none kV_Record_fits dc_Record_fits pm_Record_fits an_Record_fits cd_Record_fits ct_Record_fits), sl_Record_fits⟩)
    (c_Record_fits : PySem.W.codeIn K cd_Record_fits "Record.fits" = true)
    (k_Record_fits : PySem.W.keepIn K (.ref f_Record_fits) = true)
    (a_Keeper_init : PySem.W.findIn K (.ref C_Keeper) "__init__" = some (some (.ref f_Keeper_init)))
    (i_Keeper_init : PySem.W.isFn K (.ref f_Keeper_init) = true)
    (l_Keeper_init : K.lookup f_Keeper_init = some ⟨oc_Keeper_init, od_Keeper_init, .func (PySem.W.fnOf "__init__" "Keeper.__init__" (defArgs s_Keeper_init) (defBody s_Keeper_init) (defScope s_Keeper_init) .none kV_Keeper_init dc_Keeper_init pm_Keeper_init an_Keeper_init cd_Keeper_init ct_Keeper_init), sl_Keeper_init⟩)
    (c_Keeper_init : PySem.W.codeIn K cd_Keeper_init "Keeper.__init__" = true)
    (k_Keeper_init : PySem.W.keepIn K (.ref f_Keeper_init) = true)
    (a_Keeper_kept : PySem.W.findIn K (.ref C_Keeper) "kept" = some (some (.ref f_Keeper_kept)))
    (i_Keeper_kept : PySem.W.isFn K (.ref f_Keeper_kept) = true)
    (l_Keeper_kept : K.lookup f_Keeper_kept = some ⟨oc_Keeper_kept, od_Keeper_kept, .func (PySem.W.fnOf "kept" "Keeper.kept" (defArgs s_Keeper_kept) (defBody s_Keeper_kept) (defScope s_Keeper_kept) .none kV_Keeper_kept dc_Keeper_kept pm_Keeper_kept an_Keeper_kept cd_Keeper_kept ct_Keeper_kept), sl_Keeper_kept⟩)
    (c_Keeper_kept : PySem.W.codeIn K cd_Keeper_kept "Keeper.kept" = true)
    (k_Keeper_kept : PySem.W.keepIn K (.ref f_Keeper_kept) = true)
    (a_Keeper_handle : PySem.W.findIn K (.ref C_Keeper) "handle" = some (some (.ref f_Keeper_handle)))
    (i_Keeper_handle : PySem.W.isFn K (.ref f_Keeper_handle) = true)
    (l_Keeper_handle : K.lookup f_Keeper_handle = some ⟨oc_Keeper_handle, od_Keeper_handle, .func (PySem.W.fnOf "handle" "Keeper.handle" (defArgs s_Keeper_handle) (defBody s_Keeper_handle) (defScope s_Keeper_handle) .none kV_Keeper_handle dc_Keeper_handle pm_Keeper_handle an_Keeper_handle cd_Keeper_handle ct_Keeper_handle), sl_Keeper_handle⟩)
    (c_Keeper_handle : PySem.W.codeIn K cd_Keeper_handle "Keeper.handle" = true)
    (k_Keeper_handle : PySem.W.keepIn K (.ref f_Keeper_handle) = true)
    (a_Keeper_take : PySem.W.findIn K (.ref C_Keeper) "take" = some (some (.ref f_Keeper_take)))
    (i_Keeper_take : PySem.W.isFn K (.ref f_Keeper_take) = true)
    (l_Keeper_take : K.lookup f_Keeper_take = some ⟨oc_Keeper_take, od_Keeper_take, .func (PySem.W.fnOf "take" "Keeper.take" (defArgs s_Keeper_take) (defBody s_Keeper_take) (defScope s_Keeper_take) .none kV_Keeper_take dc_Keeper_take pm_Keeper_take an_Keeper_take cd_Keeper_take ct_Keeper_take), sl_Keeper_take⟩)
    (c_Keeper_take : PySem.W.codeIn K cd_Keeper_take "Keeper.take" = true)
    (k_Keeper_take : PySem.W.keepIn K (.ref f_Keeper_take) = true)
    (a_Keeper_flush : PySem.W.findIn K (.ref C_Keeper) "flush" = some (some (.ref f_Keeper_flush)))
    (i_Keeper_flush : PySem.W.isFn K (.ref f_Keeper_flush) = true)
    (l_Keeper_flush : K.lookup f_Keeper_flush = some ⟨oc_Keeper_flush, od_Keeper_flush, .func (PySem.W.fnOf "flush" "Keeper.flush" (defArgs s_Keeper_flush) (defBody s_Keeper_flush) (defScope s_Keeper_flush) .none kV_Keeper_flush dc_Keeper_flush pm_Keeper_flush an_Keeper_flush cd_Keeper_flush ct_Keeper_flush), sl_Keeper_flush⟩)
    (c_Keeper_flush : PySem.W.codeIn K cd_Keeper_flush "Keeper.flush" = true)
    (k_Keeper_flush : PySem.W.keepIn K (.ref f_Keeper_flush) = true)
    (a_Keeper_fall : PySem.W.findIn K (.ref C_Keeper) "fall" = some (some (.ref f_Keeper_fall)))
    (i_Keeper_fall : PySem.W.isFn K (.ref f_Keeper_fall) = true)
    (l_Keeper_fall : K.lookup f_Keeper_fall = some ⟨oc_Keeper_fall, od_Keeper_fall, .func (PySem.W.fnOf "fall" "Keeper.fall" (defArgs s_Keeper_fall) (defBody s_Keeper_fall) (defScope s_Keeper_fall) .none kV_Keeper_fall dc_Keeper_fall pm_Keeper_fall an_Keeper_fall cd_Keeper_fall ct_Keeper_fall), sl_Keeper_fall⟩)
    (c_Keeper_fall : PySem.W.codeIn K cd_Keeper_fall "Keeper.fall" = true)
    (k_Keeper_fall : PySem.W.keepIn K (.ref f_Keeper_fall) = true)
    (a_most_of : PySem.W.nsIn K mainGlobals "most_of" = some (some (.ref f_most_of)))
    (i_most_of : PySem.W.isFn K (.ref f_most_of) = true)
    (l_most_of : K.lookup f_most_of = some ⟨oc_most_of, od_most_of, .func (PySem.W.fnOf "most_of" "most_of" (defArgs s_most_of) (defBody s_most_of) (defScope s_most_of) .none kV_most_of dc_most_of pm_most_of an_most_of cd_most_of ct_most_of), sl_most_of⟩)
    (c_most_of : PySem.W.codeIn K cd_most_of "most_of" = true)
    (k_most_of : PySem.W.keepIn K (.ref f_most_of) = true)
    (a_law_number : PySem.W.nsIn K mainGlobals "_law_number" = some (some (.ref f_law_number)))
    (i_law_number : PySem.W.isFn K (.ref f_law_number) = true)
    (l_law_number : K.lookup f_law_number = some ⟨oc_law_number, od_law_number, .func (PySem.W.fnOf "_law_number" "_law_number" (defArgs s_law_number) (defBody s_law_number) (defScope s_law_number) .none kV_law_number dc_law_number pm_law_number an_law_number cd_law_number ct_law_number), sl_law_number⟩)
    (c_law_number : PySem.W.codeIn K cd_law_number "_law_number" = true)
    (k_law_number : PySem.W.keepIn K (.ref f_law_number) = true)
    (a_law_take : PySem.W.nsIn K mainGlobals "_law_take" = some (some (.ref f_law_take)))
    (i_law_take : PySem.W.isFn K (.ref f_law_take) = true)
    (l_law_take : K.lookup f_law_take = some ⟨oc_law_take, od_law_take, .func (PySem.W.fnOf "_law_take" "_law_take" (defArgs s_law_take) (defBody s_law_take) (defScope s_law_take) .none kV_law_take dc_law_take pm_law_take an_law_take cd_law_take ct_law_take), sl_law_take⟩)
    (c_law_take : PySem.W.codeIn K cd_law_take "_law_take" = true)
    (k_law_take : PySem.W.keepIn K (.ref f_law_take) = true)
    (a_law_come : PySem.W.nsIn K mainGlobals "_law_come" = some (some (.ref f_law_come)))
    (i_law_come : PySem.W.isFn K (.ref f_law_come) = true)
    (l_law_come : K.lookup f_law_come = some ⟨oc_law_come, od_law_come, .func (PySem.W.fnOf "_law_come" "_law_come" (defArgs s_law_come) (defBody s_law_come) (defScope s_law_come) .none kV_law_come dc_law_come pm_law_come an_law_come cd_law_come ct_law_come), sl_law_come⟩)
    (c_law_come : PySem.W.codeIn K cd_law_come "_law_come" = true)
    (k_law_come : PySem.W.keepIn K (.ref f_law_come) = true)
    (a_law_row : PySem.W.nsIn K mainGlobals "_law_row" = some (some (.ref f_law_row)))
    (i_law_row : PySem.W.isFn K (.ref f_law_row) = true)
    (l_law_row : K.lookup f_law_row = some ⟨oc_law_row, od_law_row, .func (PySem.W.fnOf "_law_row" "_law_row" (defArgs s_law_row) (defBody s_law_row) (defScope s_law_row) .none kV_law_row dc_law_row pm_law_row an_law_row cd_law_row ct_law_row), sl_law_row⟩)
    (c_law_row : PySem.W.codeIn K cd_law_row "_law_row" = true)
    (k_law_row : PySem.W.keepIn K (.ref f_law_row) = true)
    (a_law : PySem.W.nsIn K mainGlobals "law" = some (some (.ref f_law)))
    (i_law : PySem.W.isFn K (.ref f_law) = true)
    (l_law : K.lookup f_law = some ⟨oc_law, od_law, .func (PySem.W.fnOf "law" "law" (defArgs s_law) (defBody s_law) (defScope s_law) .none kV_law dc_law pm_law an_law cd_law ct_law), sl_law⟩)
    (c_law : PySem.W.codeIn K cd_law "law" = true)
    (k_law : PySem.W.keepIn K (.ref f_law) = true)
    (z_abs : PySem.W.nsIn K mainGlobals "abs" = some none)
    (z_bool : PySem.W.nsIn K mainGlobals "bool" = some none)
    (z_int : PySem.W.nsIn K mainGlobals "int" = some none)
    (z_isinstance : PySem.W.nsIn K mainGlobals "isinstance" = some none)
    (z_len : PySem.W.nsIn K mainGlobals "len" = some none)
    (z_max : PySem.W.nsIn K mainGlobals "max" = some none)
    (z_range : PySem.W.nsIn K mainGlobals "range" = some none)
    (z_tuple : PySem.W.nsIn K mainGlobals "tuple" = some none)
    (z_super : PySem.W.nsIn K mainGlobals "super" = some none)
    (opq : PySem.W.nsIn K cStatics "thirdparty.any" = some none)
    (top : (l.prog.main.scope.names.lookup ("super" : Str)).isSome = false)
    (aC_BadName : PySem.W.nsIn K mainGlobals "BadName" = some (some (.ref C_BadName)))
    (xL_BadName : K.lookup C_BadName = some (excClassObj nm_BadName qn_BadName C_BadName N_BadName bs_BadName (.ref C_CallError :: PySem.ESX.exTail) true sn_BadName sub_BadName ab_BadName col_BadName dd_BadName m0_BadName m1_BadName m2_BadName m3_BadName m5_BadName "Exception.__new__"))
    (sa_BadName : PySem.W.findIn K (.ref C_BadName) "__setattr__" = some (some (.builtin "object.__setattr__")))
    (ga_BadName : PySem.W.findIn K (.ref C_BadName) "__getattribute__" = some (some (.builtin "BaseException.__getattribute__")))
    (gg_BadName : PySem.W.findIn K (.ref C_BadName) "__getattr__" = some none)
    (nb_BadName : PySem.W.findIn K (.ref C_BadName) "name" = some none)
    (ini_BadName : PySem.W.findIn K (.ref C_BadName) "__init__" = some (some (.ref f_BadName_init)))
    (tf_BadName : PySem.W.typeIn K (.ref f_BadName_init) = some (.type "function"))
    (kC_BadName : PySem.W.keepIn K (.ref C_BadName) = true)
    (eC_BadName : PySem.W.subIn K (.ref C_BadName) (.type "BaseException") = some true)
    (tC_BadName : PySem.W.typeIn K (.ref C_BadName) = some (.type "type"))
    (hC_BadName : PySem.W.hasDictIn K C_BadName = true)
    (te_BadName : PySem.W.exmOne K (.ref C_BadName) (.ref C_BadName) = some true)
    (al_BadName : PySem.W.ks_superIn K C_BadName C_BadName "__init__" = some (some (.builtin "Exception.__init__")))
    (lf_BadName : K.lookup f_BadName_init = some ⟨xoc_BadName, xod_BadName, .func (PySem.W.ksFn "__init__" "BadName.__init__" PySem.XeBadName.iA PySem.XeBadName.iB PySem.XeBadName.iS .none .none xdc_BadName xpm_BadName xan_BadName (.ref cda_BadName) xct_BadName cc_BadName), xsl_BadName⟩)
    (cf_BadName : PySem.W.codeIn K (.ref cda_BadName) "BadName.__init__" = true)
    (lc_BadName : K.lookup cc_BadName = some ⟨xcl_BadName, xcd_BadName, .cell (some (.ref C_BadName)), xcs_BadName⟩)
    (ld_BadName : K.lookup cda_BadName = some ⟨ycl_BadName, ycd_BadName, .fields yvs_BadName, ycs_BadName⟩)
    (v2_BadName : yvs_BadName[2]? = some (.str yf_BadName yt_BadName))
    (fl_BadName : ((l.prog.main.file : Str) == yf_BadName) = true)
    : ∃ fd : FuncData, (∀ (s : Shared) (v : Value), BindsTo s fd ⟨[v], []⟩ [("_law_script", v)]) ∧ ∀ base : Heap, K.In base → base.Ns mainGlobals mg → FnOk l.prog w K mg base CX0 6 fa fd ["_law_script"] (spLaw K) := by
  have e := hfa.symm.trans (PySem.W.mg_of X G a_law)
  obtain rfl : f_law = fa := by cases e; rfl
  let T : Tx K mg := {
    Pg := l.prog
    C_CallError := C_CallError
    C_BadName := C_BadName
    f_BadName_init := f_BadName_init
    X_BadName := { gC := PySem.W.mg_of X G aC_BadName, cls := ⟨_, _, _, _, _, _, _, _, _, _, _, _, _, _, xL_BadName⟩, sa := sa_BadName, xf := ⟨ga_BadName, gg_BadName, eC_BadName, hC_BadName⟩, noN := nb_BadName, iC := ini_BadName, tC := tf_BadName, kC := kC_BadName, exC := eC_BadName, tyC := tC_BadName, te := te_BadName, sup := PySem.W.mg_none_of X G z_super, opq := opq, al := al_BadName, top := top, fn := ⟨_, _, _, _, _, _, _, _, _, _, _, _, _, _, _, _, _, _, lf_BadName, cf_BadName, lc_BadName, ld_BadName, v2_BadName, fl_BadName⟩ }
    C_Record := C_Record
    C_Keeper := C_Keeper
    f_is_whole := f_is_whole
    fd_is_whole := PySem.W.fnOf "is_whole" "is_whole" (defArgs s_is_whole) (defBody s_is_whole) (defScope s_is_whole) .none kV_is_whole dc_is_whole pm_is_whole an_is_whole cd_is_whole ct_is_whole
    f_Record_init := f_Record_init
    fd_Record_init := PySem.W.fnOf "__init__" "Record.__init__" (defArgs s_Record_init) (defBody s_Record_init) (defScope s_Record_init) .none kV_Record_init dc_Record_init pm_Record_init an_Record_init cd_Record_init ct_Record_init
    f_Record_put := f_Record_put
    fd_Record_put := PySem.W.fnOf "put" "Record.put" (defArgs s_Record_put) (defBody s_Record_put) (defScope s_Record_put) .none kV_Record_put dc_Record_put pm_Record_put an_Record_put cd_Record_put ct_Record_put
    f_Record_fits := f_Record_fits
    fd_Record_fits := PySem.W.fnOf "fits" "Record.fits" (defArgs s_Record_fits) (defBody s_Record_fits) (defScope s_Record_fits) .none kV_Record_fits dc_Record_fits pm_Record_fits an_Record_fits cd_Record_fits ct_Record_fits
    f_Keeper_init := f_Keeper_init
    fd_Keeper_init := PySem.W.fnOf "__init__" "Keeper.__init__" (defArgs s_Keeper_init) (defBody s_Keeper_init) (defScope s_Keeper_init) .none kV_Keeper_init dc_Keeper_init pm_Keeper_init an_Keeper_init cd_Keeper_init ct_Keeper_init
    f_Keeper_kept := f_Keeper_kept
    fd_Keeper_kept := PySem.W.fnOf "kept" "Keeper.kept" (defArgs s_Keeper_kept) (defBody s_Keeper_kept) (defScope s_Keeper_kept) .none kV_Keeper_kept dc_Keeper_kept pm_Keeper_kept an_Keeper_kept cd_Keeper_kept ct_Keeper_kept
    f_Keeper_handle := f_Keeper_handle
    fd_Keeper_handle := PySem.W.fnOf "handle" "Keeper.handle" (defArgs s_Keeper_handle) (defBody s_Keeper_handle) (defScope s_Keeper_handle) .none kV_Keeper_handle dc_Keeper_handle pm_Keeper_handle an_Keeper_handle cd_Keeper_handle ct_Keeper_handle
    f_Keeper_take := f_Keeper_take
    fd_Keeper_take := PySem.W.fnOf "take" "Keeper.take" (defArgs s_Keeper_take) (defBody s_Keeper_take) (defScope s_Keeper_take) .none kV_Keeper_take dc_Keeper_take pm_Keeper_take an_Keeper_take cd_Keeper_take ct_Keeper_take
    f_Keeper_flush := f_Keeper_flush
    fd_Keeper_flush := PySem.W.fnOf "flush" "Keeper.flush" (defArgs s_Keeper_flush) (defBody s_Keeper_flush) (defScope s_Keeper_flush) .none kV_Keeper_flush dc_Keeper_flush pm_Keeper_flush an_Keeper_flush cd_Keeper_flush ct_Keeper_flush
    f_Keeper_fall := f_Keeper_fall
    fd_Keeper_fall := PySem.W.fnOf "fall" "Keeper.fall" (defArgs s_Keeper_fall) (defBody s_Keeper_fall) (defScope s_Keeper_fall) .none kV_Keeper_fall dc_Keeper_fall pm_Keeper_fall an_Keeper_fall cd_Keeper_fall ct_Keeper_fall
    f_most_of := f_most_of
    fd_most_of := PySem.W.fnOf "most_of" "most_of" (defArgs s_most_of) (defBody s_most_of) (defScope s_most_of) .none kV_most_of dc_most_of pm_most_of an_most_of cd_most_of ct_most_of
    f_law_number := f_law_number
    fd_law_number := PySem.W.fnOf "_law_number" "_law_number" (defArgs s_law_number) (defBody s_law_number) (defScope s_law_number) .none kV_law_number dc_law_number pm_law_number an_law_number cd_law_number ct_law_number
    f_law_take := f_law_take
    fd_law_take := PySem.W.fnOf "_law_take" "_law_take" (defArgs s_law_take) (defBody s_law_take) (defScope s_law_take) .none kV_law_take dc_law_take pm_law_take an_law_take cd_law_take ct_law_take
    f_law_come := f_law_come
    fd_law_come := PySem.W.fnOf "_law_come" "_law_come" (defArgs s_law_come) (defBody s_law_come) (defScope s_law_come) .none kV_law_come dc_law_come pm_law_come an_law_come cd_law_come ct_law_come
    f_law_row := f_law_row
    fd_law_row := PySem.W.fnOf "_law_row" "_law_row" (defArgs s_law_row) (defBody s_law_row) (defScope s_law_row) .none kV_law_row dc_law_row pm_law_row an_law_row cd_law_row ct_law_row
    f_law := f_law
    fd_law := PySem.W.fnOf "law" "law" (defArgs s_law) (defBody s_law) (defScope s_law) .none kV_law dc_law pm_law an_law cd_law ct_law
    F_Record := ⟨⟨pg_Record, hd_Record, po_Record, sa_Record⟩, fun f hf => by
      simp only [List.mem_cons, List.not_mem_nil, or_false] at hf
      rcases hf with rfl | rfl
      all_goals assumption⟩
    mg_Record := PySem.W.mg_of X G aC_Record
    M_Record := ⟨mk_Record, a_Record_init, i_Record_init, kc_Record⟩
    F_Keeper := ⟨⟨pg_Keeper, hd_Keeper, po_Keeper, sa_Keeper⟩, fun f hf => by
      simp only [List.mem_cons, List.not_mem_nil, or_false] at hf
      rcases hf with rfl | rfl | rfl | rfl
      all_goals assumption⟩
    mg_Keeper := PySem.W.mg_of X G aC_Keeper
    M_Keeper := ⟨mk_Keeper, a_Keeper_init, i_Keeper_init, kc_Keeper⟩
    F_is_whole := fun_mk (st := s_is_whole) l_is_whole c_is_whole k_is_whole
    k_is_whole := k_is_whole
    b_is_whole := (fun_mk (st := s_is_whole) l_is_whole c_is_whole k_is_whole).binds (ps := ["thing", "low", "high"]) fun _ _ _ _ _ _ us hl => match us, hl with | [_, _, _], _ => rfl
    mg_is_whole := PySem.W.mg_of X G a_is_whole
    F_Record_init := fun_mk (st := s_Record_init) l_Record_init c_Record_init k_Record_init
    k_Record_init := k_Record_init
    b_Record_init := (fun_mk (st := s_Record_init) l_Record_init c_Record_init k_Record_init).binds (ps := ["self", "records"]) fun _ _ _ _ _ _ us hl => match us, hl with | [_, _], _ => rfl
    F_Record_put := fun_mk (st := s_Record_put) l_Record_put c_Record_put k_Record_put
    k_Record_put := k_Record_put
    b_Record_put := (fun_mk (st := s_Record_put) l_Record_put c_Record_put k_Record_put).binds (ps := ["self", "record"]) fun _ _ _ _ _ _ us hl => match us, hl with | [_, _], _ => rfl
    m_Record_put := ⟨a_Record_put, i_Record_put, k_Record_put⟩
    F_Record_fits := fun_mk (st := s_Record_fits) l_Record_fits c_Record_fits k_Record_fits
    k_Record_fits := k_Record_fits
    b_Record_fits := (fun_mk (st := s_Record_fits) l_Record_fits c_Record_fits k_Record_fits).binds (ps := ["self", "epoch", "place"]) fun _ _ _ _ _ _ us hl => match us, hl with | [_, _, _], _ => rfl
    m_Record_fits := ⟨a_Record_fits, i_Record_fits, k_Record_fits⟩
    F_Keeper_init := fun_mk (st := s_Keeper_init) l_Keeper_init c_Keeper_init k_Keeper_init
    k_Keeper_init := k_Keeper_init
    b_Keeper_init := (fun_mk (st := s_Keeper_init) l_Keeper_init c_Keeper_init k_Keeper_init).binds (ps := ["self", "number"]) fun _ _ _ _ _ _ us hl => match us, hl with | [_, _], _ => rfl
    F_Keeper_kept := fun_mk (st := s_Keeper_kept) l_Keeper_kept c_Keeper_kept k_Keeper_kept
    k_Keeper_kept := k_Keeper_kept
    b_Keeper_kept := (fun_mk (st := s_Keeper_kept) l_Keeper_kept c_Keeper_kept k_Keeper_kept).binds (ps := ["self"]) fun _ _ _ _ _ _ us hl => match us, hl with | [_], _ => rfl
    m_Keeper_kept := ⟨a_Keeper_kept, i_Keeper_kept, k_Keeper_kept⟩
    F_Keeper_handle := fun_mk (st := s_Keeper_handle) l_Keeper_handle c_Keeper_handle k_Keeper_handle
    k_Keeper_handle := k_Keeper_handle
    b_Keeper_handle := (fun_mk (st := s_Keeper_handle) l_Keeper_handle c_Keeper_handle k_Keeper_handle).binds (ps := ["self", "letter"]) fun _ _ _ _ _ _ us hl => match us, hl with | [_, _], _ => rfl
    m_Keeper_handle := ⟨a_Keeper_handle, i_Keeper_handle, k_Keeper_handle⟩
    F_Keeper_take := fun_mk (st := s_Keeper_take) l_Keeper_take c_Keeper_take k_Keeper_take
    k_Keeper_take := k_Keeper_take
    b_Keeper_take := (fun_mk (st := s_Keeper_take) l_Keeper_take c_Keeper_take k_Keeper_take).binds (ps := ["self", "known", "epoch", "place", "entry"]) fun _ _ _ _ _ _ us hl => match us, hl with | [_, _, _, _, _], _ => rfl
    m_Keeper_take := ⟨a_Keeper_take, i_Keeper_take, k_Keeper_take⟩
    F_Keeper_flush := fun_mk (st := s_Keeper_flush) l_Keeper_flush c_Keeper_flush k_Keeper_flush
    k_Keeper_flush := k_Keeper_flush
    b_Keeper_flush := (fun_mk (st := s_Keeper_flush) l_Keeper_flush c_Keeper_flush k_Keeper_flush).binds (ps := ["self"]) fun _ _ _ _ _ _ us hl => match us, hl with | [_], _ => rfl
    m_Keeper_flush := ⟨a_Keeper_flush, i_Keeper_flush, k_Keeper_flush⟩
    F_Keeper_fall := fun_mk (st := s_Keeper_fall) l_Keeper_fall c_Keeper_fall k_Keeper_fall
    k_Keeper_fall := k_Keeper_fall
    b_Keeper_fall := (fun_mk (st := s_Keeper_fall) l_Keeper_fall c_Keeper_fall k_Keeper_fall).binds (ps := ["self", "many"]) fun _ _ _ _ _ _ us hl => match us, hl with | [_, _], _ => rfl
    m_Keeper_fall := ⟨a_Keeper_fall, i_Keeper_fall, k_Keeper_fall⟩
    F_most_of := fun_mk (st := s_most_of) l_most_of c_most_of k_most_of
    k_most_of := k_most_of
    b_most_of := (fun_mk (st := s_most_of) l_most_of c_most_of k_most_of).binds (ps := ["many"]) fun _ _ _ _ _ _ us hl => match us, hl with | [_], _ => rfl
    mg_most_of := PySem.W.mg_of X G a_most_of
    F_law_number := fun_mk (st := s_law_number) l_law_number c_law_number k_law_number
    k_law_number := k_law_number
    b_law_number := (fun_mk (st := s_law_number) l_law_number c_law_number k_law_number).binds (ps := ["_law_script", "_law_index"]) fun _ _ _ _ _ _ us hl => match us, hl with | [_, _], _ => rfl
    mg_law_number := PySem.W.mg_of X G a_law_number
    F_law_take := fun_mk (st := s_law_take) l_law_take c_law_take k_law_take
    k_law_take := k_law_take
    b_law_take := (fun_mk (st := s_law_take) l_law_take c_law_take k_law_take).binds (ps := ["_law_draw", "_law_many"]) fun _ _ _ _ _ _ us hl => match us, hl with | [_, _], _ => rfl
    mg_law_take := PySem.W.mg_of X G a_law_take
    F_law_come := fun_mk (st := s_law_come) l_law_come c_law_come k_law_come
    k_law_come := k_law_come
    b_law_come := (fun_mk (st := s_law_come) l_law_come c_law_come k_law_come).binds (ps := ["_law_state", "_law_letter"]) fun _ _ _ _ _ _ us hl => match us, hl with | [_, _], _ => rfl
    mg_law_come := PySem.W.mg_of X G a_law_come
    F_law_row := fun_mk (st := s_law_row) l_law_row c_law_row k_law_row
    k_law_row := k_law_row
    b_law_row := (fun_mk (st := s_law_row) l_law_row c_law_row k_law_row).binds (ps := ["_law_records"]) fun _ _ _ _ _ _ us hl => match us, hl with | [_], _ => rfl
    mg_law_row := PySem.W.mg_of X G a_law_row
    F_law := fun_mk (st := s_law) l_law c_law k_law
    k_law := k_law
    b_law := (fun_mk (st := s_law) l_law c_law k_law).binds (ps := ["_law_script"]) fun _ _ _ _ _ _ us hl => match us, hl with | [_], _ => rfl
    mg_law := PySem.W.mg_of X G a_law
    no_abs := PySem.W.mg_none_of X G z_abs
    no_bool := PySem.W.mg_none_of X G z_bool
    no_int := PySem.W.mg_none_of X G z_int
    no_isinstance := PySem.W.mg_none_of X G z_isinstance
    no_len := PySem.W.mg_none_of X G z_len
    no_max := PySem.W.mg_none_of X G z_max
    no_range := PySem.W.mg_none_of X G z_range
    no_tuple := PySem.W.mg_none_of X G z_tuple }
  exact ⟨T.fd_law, fun s v => .of_eq rfl, fun base _ _ => law_ok T⟩
theorem walk {l : PySem.W.OpenLaw} {q : Program} {loose : List Str} {XP : (Str → Option Value) → Heap → Prop} {YP : World → Heap → Prop} {d : DefRec} {K : Params → PySem.W.Frag} (hn : l.most = some 63) (hdf : d.params.defaults = [])
    (hY : ∀ (w : World) (h : Heap), YP w h → (K w.params).In h)
    (F : ∀ (w : World) (mg : Str → Option Value) (fa : Addr) (h : Heap), (K w.params).In h → h.Ns mainGlobals mg → mg d.name = some (.ref fa) →
      ∃ fd : FuncData, (∀ (s : Shared) (u : Value), BindsTo s fd ⟨[u], []⟩ [("_law_script", u)]) ∧ ∀ base : Heap, (K w.params).In base → base.Ns mainGlobals mg → FnOk l.prog w (K w.params) mg base CX0 6 fa fd ["_law_script"] (spLaw (K w.params))) :
    PySem.W.WalkO q loose XP YP l.row.toRowW d [] (fun f vs => PySem.call f vs) :=
  L2.walk_of (n := 63) (k := 6) (x := "_law_script") (CX := fun _ => CX0) (sp := fun w => spLaw (K w.params)) hn (by decide) hdf ⟨rfl, by decide, by decide⟩ hY F (fun _ H a ns hl _ hS => spLaw_intro hl hS) fun _ _ _ _ _ z => z
end Lw
open PySem PySem.W PyProof.Rows
set_option maxRecDepth 100000 in
set_option maxHeartbeats 0 in
theorem PySem.Challenge.cw_mastcalls_k42_whole_keepers_holds : PySem.Challenge.rw_mastcalls_k42_whole_keepers.Holds := by
  w_on; o_law; k_head; (case hw => w_witness2)
  k_fill
  refine Lw.walk (l := PySem.Challenge.rw_mastcalls_k42_whole_keepers) rfl rfl (fun w h Y => PySem.W.kIn_of Y) ?F
  case F =>
    intro w mg fa h KX G hmg
    refine' Lw.all_mk KX G hmg ?aC_Record ?pg_Record ?hd_Record ?po_Record ?sa_Record ?mk_Record ?kc_Record ?na_Record_0 ?na_Record_1 ?aC_Keeper ?pg_Keeper ?hd_Keeper ?po_Keeper ?sa_Keeper ?mk_Keeper ?kc_Keeper ?na_Keeper_0 ?na_Keeper_1 ?na_Keeper_2 ?na_Keeper_3 ?a_is_whole ?i_is_whole ?l_is_whole ?c_is_whole ?k_is_whole ?a_Record_init ?i_Record_init ?l_Record_init ?c_Record_init ?k_Record_init ?a_Record_put ?i_Record_put ?l_Record_put ?c_Record_put ?k_Record_put ?a_Record_fits ?i_Record_fits ?l_Record_fits ?c_Record_fits ?k_Record_fits ?a_Keeper_init ?i_Keeper_init ?l_Keeper_init ?c_Keeper_init ?k_Keeper_init ?a_Keeper_kept ?i_Keeper_kept ?l_Keeper_kept ?c_Keeper_kept ?k_Keeper_kept ?a_Keeper_handle ?i_Keeper_handle ?l_Keeper_handle ?c_Keeper_handle ?k_Keeper_handle ?a_Keeper_take ?i_Keeper_take ?l_Keeper_take ?c_Keeper_take ?k_Keeper_take ?a_Keeper_flush ?i_Keeper_flush ?l_Keeper_flush ?c_Keeper_flush ?k_Keeper_flush ?a_Keeper_fall ?i_Keeper_fall ?l_Keeper_fall ?c_Keeper_fall ?k_Keeper_fall ?a_most_of ?i_most_of ?l_most_of ?c_most_of ?k_most_of ?a_law_number ?i_law_number ?l_law_number ?c_law_number ?k_law_number ?a_law_take ?i_law_take ?l_law_take ?c_law_take ?k_law_take ?a_law_come ?i_law_come ?l_law_come ?c_law_come ?k_law_come ?a_law_row ?i_law_row ?l_law_row ?c_law_row ?k_law_row ?a_law ?i_law ?l_law ?c_law ?k_law ?z_abs ?z_bool ?z_int ?z_isinstance ?z_len ?z_max ?z_range ?z_tuple ?z_super ?opq ?top ?aC_BadName ?xL_BadName ?sa_BadName ?ga_BadName ?gg_BadName ?nb_BadName ?ini_BadName ?tf_BadName ?kC_BadName ?eC_BadName ?tC_BadName ?hC_BadName ?te_BadName ?al_BadName ?lf_BadName ?cf_BadName ?lc_BadName ?ld_BadName ?v2_BadName ?fl_BadName
    (case aC_Record => k_is)
    (case pg_Record => k_is)
    (case hd_Record => k_is)
    (case po_Record => k_is)
    (case sa_Record => k_is)
    (case mk_Record => k_is)
    (case kc_Record => k_is)
    (case na_Record_0 => k_is)
    (case na_Record_1 => k_is)
    (case aC_Keeper => k_is)
    (case pg_Keeper => k_is)
    (case hd_Keeper => k_is)
    (case po_Keeper => k_is)
    (case sa_Keeper => k_is)
    (case mk_Keeper => k_is)
    (case kc_Keeper => k_is)
    (case na_Keeper_0 => k_is)
    (case na_Keeper_1 => k_is)
    (case na_Keeper_2 => k_is)
    (case na_Keeper_3 => k_is)
    (case a_is_whole => k_is)
    (case i_is_whole => k_is)
    (case l_is_whole => k_is)
    (case c_is_whole => k_is)
    (case k_is_whole => k_is)
    (case a_Record_init => k_is)
    (case i_Record_init => k_is)
    (case l_Record_init => k_is)
    (case c_Record_init => k_is)
    (case k_Record_init => k_is)
    (case a_Record_put => k_is)
    (case i_Record_put => k_is)
    (case l_Record_put => k_is)
    (case c_Record_put => k_is)
    (case k_Record_put => k_is)
    (case a_Record_fits => k_is)
    (case i_Record_fits => k_is)
    (case l_Record_fits => k_is)
    (case c_Record_fits => k_is)
    (case k_Record_fits => k_is)
    (case a_Keeper_init => k_is)
    (case i_Keeper_init => k_is)
    (case l_Keeper_init => k_is)
    (case c_Keeper_init => k_is)
    (case k_Keeper_init => k_is)
    (case a_Keeper_kept => k_is)
    (case i_Keeper_kept => k_is)
    (case l_Keeper_kept => k_is)
    (case c_Keeper_kept => k_is)
    (case k_Keeper_kept => k_is)
    (case a_Keeper_handle => k_is)
    (case i_Keeper_handle => k_is)
    (case l_Keeper_handle => k_is)
    (case c_Keeper_handle => k_is)
    (case k_Keeper_handle => k_is)
    (case a_Keeper_take => k_is)
    (case i_Keeper_take => k_is)
    (case l_Keeper_take => k_is)
    (case c_Keeper_take => k_is)
    (case k_Keeper_take => k_is)
    (case a_Keeper_flush => k_is)
    (case i_Keeper_flush => k_is)
    (case l_Keeper_flush => k_is)
    (case c_Keeper_flush => k_is)
    (case k_Keeper_flush => k_is)
    (case a_Keeper_fall => k_is)
    (case i_Keeper_fall => k_is)
    (case l_Keeper_fall => k_is)
    (case c_Keeper_fall => k_is)
    (case k_Keeper_fall => k_is)
    (case a_most_of => k_is)
    (case i_most_of => k_is)
    (case l_most_of => k_is)
    (case c_most_of => k_is)
    (case k_most_of => k_is)
    (case a_law_number => k_is)
    (case i_law_number => k_is)
    (case l_law_number => k_is)
    (case c_law_number => k_is)
    (case k_law_number => k_is)
    (case a_law_take => k_is)
    (case i_law_take => k_is)
    (case l_law_take => k_is)
    (case c_law_take => k_is)
    (case k_law_take => k_is)
    (case a_law_come => k_is)
    (case i_law_come => k_is)
    (case l_law_come => k_is)
    (case c_law_come => k_is)
    (case k_law_come => k_is)
    (case a_law_row => k_is)
    (case i_law_row => k_is)
    (case l_law_row => k_is)
    (case c_law_row => k_is)
    (case k_law_row => k_is)
    (case a_law => k_is)
    (case i_law => k_is)
    (case l_law => k_is)
    (case c_law => k_is)
    (case k_law => k_is)
    (case z_abs => k_is)
    (case z_bool => k_is)
    (case z_int => k_is)
    (case z_isinstance => k_is)
    (case z_len => k_is)
    (case z_max => k_is)
    (case z_range => k_is)
    (case z_tuple => k_is)
    (case z_super => k_is)
    (case opq => k_is)
    (case top => first | rfl | k_is | decide +kernel)
    (case aC_BadName => k_is)
    (case xL_BadName => k_is)
    (case sa_BadName => k_is)
    (case ga_BadName => k_is)
    (case gg_BadName => k_is)
    (case nb_BadName => k_is)
    (case ini_BadName => k_is)
    (case tf_BadName => k_is)
    (case kC_BadName => k_is)
    (case eC_BadName => k_is)
    (case tC_BadName => k_is)
    (case hC_BadName => k_is)
    (case te_BadName => first | rfl | k_is | decide +kernel)
    (case al_BadName => first | rfl | k_is | decide +kernel)
    (case lf_BadName => k_is)
    (case cf_BadName => k_is)
    (case lc_BadName => k_is)
    (case ld_BadName => k_is)
    (case v2_BadName => first | rfl | k_is | decide +kernel)
    (case fl_BadName => first | rfl | k_is | decide +kernel)
