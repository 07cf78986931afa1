import PyProof.Rows.All
import Wide.All
import OpenK.AllK
import Wide.FinOn
import HandS.ForMost
import HandS.Walk
import HandS.Flow
import HandS.Style
import HandS.TupAny
import HandS.Evl
import HandS.Deep
import PySem.Challenge.RW_mastcalls_k14_whole_ends
set_option Elab.async false
set_option linter.all false
set_option maxRecDepth 100000
set_option maxHeartbeats 2000000
/-! Sx: a state by descriptions: frozen data, owned cells; what an expression evaluates to; statements. -/
namespace Sx
open PySem L2 Evl

/-! ### the frozen part may grow, dicts in it may be locked and unlocked -/
def plainHO : HO → Bool
  | .dK _ => false
  | .dT _ => false
  | .set _ _ => false
  | .frz _ (.dK _) => false
  | .frz _ (.dT _) => false
  | .frz _ (.set _ _) => false
  | _ => true
structure Fx (F F' : Hp) : Prop where
  pl : ∀ a u, F a = some u → plainHO u = true → F' a = some u
  rd : ∀ a u, plainHO u = false → Rd F a u → Rd F' a u
theorem Fx.refl (F : Hp) : Fx F F := ⟨fun _ _ h _ => h, fun _ _ _ h => h⟩
theorem Fx.trans {F F1 F2 : Hp} (a : Fx F F1) (b : Fx F1 F2) : Fx F F2 := ⟨fun x u h p => b.pl x u (a.pl x u h p) p, fun x u p h => b.rd x u p (a.rd x u p h)⟩
theorem Fx.of {F F' : Hp} (h : Ex F F') : Fx F F' := ⟨fun a u e _ => h a u e, fun _ _ _ r => ex_rd h r⟩

structure VD where
  P : Hp → V → Prop
  mono : ∀ {F F' : Hp} {v : V}, Fx F F' → P F v → P F' v
structure CD where
  P : Hp → Addr → HO → Prop
  mono : ∀ {F F' : Hp} {p : Addr} {o : HO}, Fx F F' → F' p = F p → P F p o → P F' p o
abbrev Env := List (Option VD)
abbrev Cells := List (Addr × CD)
/-- what stands besides: of the frozen part, and more cells -/
structure Fr where
  N : Cells
  P : Hp → Prop
  mono : ∀ {F F' : Hp}, Fx F F' → P F → P F'

/-! ### data -/
mutual
inductive Rp (F : Hp) : V → PyData → Prop
  | non : Rp F .non .none
  | bl (b : Bool) : Rp F (.bl b) (.bool b)
  | int (i : Int) : Rp F (.int i) (.int i)
  | str (x : Str) : Rp F (.str x) (.str x)
  | lst {a : Addr} {xs : List V} {ds : List PyData} : F a = some (.lst xs) → RpL F xs ds → Rp F (.ref a) (.list ds)
  | tup {a : Addr} {xs : List V} {ds : List PyData} : F a = some (.tup xs) → RpL F xs ds → Rp F (.ref a) (.tuple ds)
inductive RpL (F : Hp) : List V → List PyData → Prop
  | nil : RpL F [] []
  | cons {v : V} {vs : List V} {d : PyData} {ds : List PyData} : Rp F v d → RpL F vs ds → RpL F (v :: vs) (d :: ds)
end
mutual
theorem Rp.mono {F F' : Hp} (e : Fx F F') : ∀ (d : PyData) {v : V}, Rp F v d → Rp F' v d
  | .none, _, h => by cases h; exact .non
  | .bool b, _, h => by cases h; exact .bl b
  | .int i, _, h => by cases h; exact .int i
  | .str x, _, h => by cases h; exact .str x
  | .list ds, _, h => by
    cases h with
    | lst h1 h2 => exact .lst (e.pl _ _ h1 rfl) (RpL.mono e ds h2)
  | .tuple ds, _, h => by
    cases h with
    | tup h1 h2 => exact .tup (e.pl _ _ h1 rfl) (RpL.mono e ds h2)
  | .dict _, _, h => by cases h
theorem RpL.mono {F F' : Hp} (e : Fx F F') : ∀ (ds : List PyData) {vs : List V}, RpL F vs ds → RpL F' vs ds
  | [], _, h => by cases h; exact .nil
  | d :: ds, _, h => by
    cases h with
    | cons h1 h2 => exact .cons (Rp.mono e d h1) (RpL.mono e ds h2)
end
mutual
theorem Rp.dp {K : PySem.W.Frag} {F H : Hp} (e : Ex F H) : ∀ (d : PyData) {v : V}, Rp F v d → Dp K H v d
  | .none, _, h => by cases h; exact .non
  | .bool b, _, h => by cases h; exact .bl b
  | .int i, _, h => by cases h; exact .int i
  | .str x, _, h => by cases h; exact .str x
  | .list ds, _, h => by
    cases h with
    | lst h1 h2 => exact .lst (.inl (.inl (e _ _ h1))) (RpL.dp e ds h2)
  | .tuple ds, _, h => by
    cases h with
    | tup h1 h2 => exact .tup (.inl (.inl (e _ _ h1))) (RpL.dp e ds h2)
  | .dict _, _, h => by cases h
theorem RpL.dp {K : PySem.W.Frag} {F H : Hp} (e : Ex F H) : ∀ (ds : List PyData) {vs : List V}, RpL F vs ds → DpAll K H vs ds
  | [], _, h => by cases h; exact .nil
  | d :: ds, _, h => by
    cases h with
    | cons h1 h2 => exact .cons (Rp.dp e d h1) (RpL.dp e ds h2)
end
theorem RpL.length {F : Hp} : ∀ {vs : List V} {ds : List PyData}, RpL F vs ds → vs.length = ds.length
  | _, _, .nil => rfl
  | _, _, .cons _ h => by simp [RpL.length h]
theorem RpL.get {F : Hp} : ∀ {vs : List V} {ds : List PyData} {i : Nat} {d : PyData}, RpL F vs ds → ds[i]? = some d → ∃ v, vs[i]? = some v ∧ Rp F v d
  | _, _, _, _, .nil, e => by simp at e
  | _, _, 0, _, .cons h _, e => by simp at e; subst e; exact ⟨_, rfl, h⟩
  | _, _, i + 1, d, .cons _ t, e => by
    obtain ⟨v, h1, h2⟩ := RpL.get (i := i) (d := d) t (by simpa using e)
    exact ⟨v, by simpa using h1, h2⟩
theorem RpL.getV {F : Hp} : ∀ {vs : List V} {ds : List PyData} {i : Nat} {v : V}, RpL F vs ds → vs[i]? = some v → ∃ d, ds[i]? = some d ∧ Rp F v d
  | _, _, _, _, .nil, e => by simp at e
  | _, _, 0, _, .cons h _, e => by simp at e; subst e; exact ⟨_, rfl, h⟩
  | _, _, i + 1, d, .cons _ t, e => by
    obtain ⟨v, h1, h2⟩ := RpL.getV (i := i) (v := d) t (by simpa using e)
    exact ⟨v, by simpa using h1, h2⟩
theorem RpL.append {F : Hp} : ∀ {vs ws : List V} {ds es : List PyData}, RpL F vs ds → RpL F ws es → RpL F (vs ++ ws) (ds ++ es)
  | _, _, _, _, .nil, s => s
  | _, _, _, _, .cons r t, s => .cons r (RpL.append t s)
theorem RpL.take {F : Hp} : ∀ {vs : List V} {ds : List PyData} (n : Nat), RpL F vs ds → RpL F (vs.take n) (ds.take n)
  | _, _, 0, _ => .nil
  | _, _, _ + 1, .nil => .nil
  | _, _, n + 1, .cons r t => .cons r (RpL.take n t)
theorem RpL.drop {F : Hp} : ∀ {vs : List V} {ds : List PyData} (n : Nat), RpL F vs ds → RpL F (vs.drop n) (ds.drop n)
  | _, _, 0, r => r
  | _, _, _ + 1, .nil => .nil
  | _, _, n + 1, .cons _ t => RpL.drop n t
theorem RpL.set {F : Hp} {v : V} {d : PyData} (r : Rp F v d) : ∀ {vs : List V} {ds : List PyData} (i : Nat), RpL F vs ds → RpL F (vs.set i v) (ds.set i d)
  | _, _, _, .nil => .nil
  | _, _, 0, .cons _ t => .cons r t
  | _, _, i + 1, .cons q t => .cons q (RpL.set r i t)
theorem RpL.reverse {F : Hp} : ∀ {vs : List V} {ds : List PyData}, RpL F vs ds → RpL F vs.reverse ds.reverse
  | _, _, .nil => .nil
  | _, _, .cons r t => by
    rw [List.reverse_cons, List.reverse_cons]
    exact RpL.append (RpL.reverse t) (.cons r .nil)
theorem RpL.ints {F : Hp} : ∀ {vs : List V} {ns : List Int}, RpL F vs (ns.map PyData.int) → vs = ns.map V.int
  | _, [], h => by cases h; rfl
  | _, n :: ns, h => by
    cases h with
    | cons h1 h2 =>
      cases h1
      rw [RpL.ints h2]
      rfl
theorem RpL.bls {F : Hp} : ∀ {vs : List V} {ns : List Bool}, RpL F vs (ns.map PyData.bool) → vs = ns.map V.bl
  | _, [], h => by cases h; rfl
  | _, n :: ns, h => by
    cases h with
    | cons h1 h2 =>
      cases h1
      rw [RpL.bls h2]
      rfl
theorem RpL.strs {F : Hp} : ∀ {vs : List V} {ns : List Str}, RpL F vs (ns.map PyData.str) → vs = ns.map V.str
  | _, [], h => by cases h; rfl
  | _, n :: ns, h => by
    cases h with
    | cons h1 h2 =>
      cases h1
      rw [RpL.strs h2]
      rfl

abbrev DA (F : Hp) (ds : List VD) (vs : List V) : Prop := Paired (fun (x : VD) (v : V) => x.P F v) ds vs
theorem DA.mono {F F' : Hp} (e : Fx F F') {ds : List VD} {vs : List V} (h : DA F ds vs) : DA F' ds vs := Paired.mapP h fun x _ q => x.mono e q
theorem DA.get {F : Hp} : ∀ {ds : List VD} {vs : List V} {i : Nat} {d : VD}, DA F ds vs → ds[i]? = some d → ∃ v, vs[i]? = some v ∧ d.P F v
  | _, _, _, _, .nil, e => by simp at e
  | _, _, 0, _, .cons h _, e => by simp at e; subst e; exact ⟨_, rfl, h⟩
  | _, _, i + 1, d, .cons _ t, e => by
    obtain ⟨v, h1, h2⟩ := DA.get (i := i) (d := d) t (by simpa using e)
    exact ⟨v, by simpa using h1, h2⟩
theorem DA.append {F : Hp} : ∀ {vs ws : List V} {ds es : List VD}, DA F ds vs → DA F es ws → DA F (ds ++ es) (vs ++ ws)
  | _, _, _, _, .nil, s => s
  | _, _, _, _, .cons r t, s => .cons r (DA.append t s)
theorem DA.set {F : Hp} {v : V} {d : VD} (r : d.P F v) : ∀ {vs : List V} {ds : List VD} (i : Nat), DA F ds vs → DA F (ds.set i d) (vs.set i v)
  | _, _, _, .nil => .nil
  | _, _, 0, .cons _ t => .cons r t
  | _, _, i + 1, .cons q t => .cons q (DA.set r i t)

/-! ### descriptions of values -/
def dat (d : PyData) : VD := ⟨fun F v => Rp F v d, fun e h => h.mono e⟩
def val (v0 : V) : VD := ⟨fun _ v => v = v0, fun _ h => h⟩
def vtup (xs : List VD) : VD := ⟨fun F v => ∃ a vs, v = .ref a ∧ F a = some (.tup vs) ∧ DA F xs vs, fun e ⟨a, vs, h1, h2, h3⟩ => ⟨a, vs, h1, e.pl _ _ h2 rfl, h3.mono e⟩⟩
def vlst (xs : List VD) : VD := ⟨fun F v => ∃ a vs, v = .ref a ∧ F a = some (.lst vs) ∧ DA F xs vs, fun e ⟨a, vs, h1, h2, h3⟩ => ⟨a, vs, h1, e.pl _ _ h2 rfl, h3.mono e⟩⟩
/-- a list of ints that is only read: the script -/
def vscr (K : PySem.W.Frag) (ns : List Int) : VD := ⟨fun F v => ∃ a, v = .ref a ∧ SqL K F a (ns.map V.int), fun {F F' v} e ⟨a, h1, h2⟩ => ⟨a, h1, by
  rcases h2 with (h | ⟨o, h⟩) | h
  · exact .inl (.inl (e.pl _ _ h rfl))
  · exact .inl (.inr ⟨o, e.pl _ _ h rfl⟩)
  · exact .inr h⟩⟩
abbrev vi (i : Int) : VD := dat (.int i)
abbrev vb (b : Bool) : VD := dat (.bool b)
abbrev vt (x : Str) : VD := dat (.str x)
abbrev vn : VD := dat .none
theorem DA.of_dat {F : Hp} : ∀ {ds : List PyData} {vs : List V}, DA F (ds.map dat) vs ↔ RpL F vs ds
  | [], vs => by
    constructor
    · intro h; cases h; exact .nil
    · intro h; cases h; exact .nil
  | d :: ds, vs => by
    constructor
    · intro h
      cases h with
      | cons h1 h2 => exact .cons h1 (DA.of_dat.mp h2)
    · intro h
      cases h with
      | cons h1 h2 => exact .cons h1 (DA.of_dat.mpr h2)
theorem vtup_dat {F : Hp} {v : V} {ds : List PyData} : (vtup (ds.map dat)).P F v ↔ (dat (.tuple ds)).P F v := by
  constructor
  · rintro ⟨a, ws, rfl, h1, h2⟩
    exact .tup h1 (DA.of_dat.mp h2)
  · intro h
    cases h with
    | tup h1 h2 => exact ⟨_, _, rfl, h1, DA.of_dat.mpr h2⟩
theorem vlst_dat {F : Hp} {v : V} {ds : List PyData} : (vlst (ds.map dat)).P F v ↔ (dat (.list ds)).P F v := by
  constructor
  · rintro ⟨a, ws, rfl, h1, h2⟩
    exact .lst h1 (DA.of_dat.mp h2)
  · intro h
    cases h with
    | lst h1 h2 => exact ⟨_, _, rfl, h1, DA.of_dat.mpr h2⟩

/-! ### descriptions of cells -/
def cL (xs : List VD) : CD := ⟨fun F p o => F p = none ∧ ∃ vs, o = .lst vs ∧ DA F xs vs, fun e q ⟨h0, vs, h1, h2⟩ => ⟨q.trans h0, vs, h1, h2.mono e⟩⟩
/-- a list of data -/
def cLd (ds : List PyData) : CD := ⟨fun F p o => F p = none ∧ ∃ vs, o = .lst vs ∧ RpL F vs ds, fun e q ⟨h0, vs, h1, h2⟩ => ⟨q.trans h0, vs, h1, h2.mono e⟩⟩
def FA (F : Hp) (ns : List Str) (xs : List VD) (fs : List (Str × V)) : Prop := fs.map (·.1) = ns ∧ DA F xs (fs.map (·.2))
def cI (C : Addr) (ns : List Str) (xs : List VD) : CD := ⟨fun F p o => F p = none ∧ ∃ dx fs, o = .ins C dx fs ∧ FA F ns xs fs, fun e q ⟨h0, dx, fs, h1, h2, h3⟩ => ⟨q.trans h0, dx, fs, h1, h2, h3.mono e⟩⟩

/-! ### frames, states -/
def Fr.and (Φ : Fr) (x : VD) (v : V) : Fr := ⟨Φ.N, fun F => Φ.P F ∧ x.P F v, fun e ⟨h1, h2⟩ => ⟨Φ.mono e h1, x.mono e h2⟩⟩
def Fr.andA (Φ : Fr) (ds : List VD) (vs : List V) : Fr := ⟨Φ.N, fun F => Φ.P F ∧ DA F ds vs, fun e ⟨h1, h2⟩ => ⟨Φ.mono e h1, h2.mono e⟩⟩
def Fr.top : Fr := ⟨[], fun _ => True, fun _ h => h⟩
def Slots (F : Hp) (σ : L2.St) (ρ : Env) : Prop := σ.length = ρ.length ∧ ∀ (i : Nat) (x : VD), ρ[i]? = some (some x) → ∃ v : V, σ[i]? = some (some v) ∧ x.P F v
theorem Slots.mono {F F' : Hp} {σ : L2.St} {ρ : Env} (e : Fx F F') (h : Slots F σ ρ) : Slots F' σ ρ := ⟨h.1, fun i x q => let ⟨v, h1, h2⟩ := h.2 i x q; ⟨v, h1, x.mono e h2⟩⟩
def Fr.slots (Φ : Fr) (σ : L2.St) (ρ : Env) : Fr := ⟨Φ.N, fun F => Φ.P F ∧ Slots F σ ρ, fun e ⟨h1, h2⟩ => ⟨Φ.mono e h1, h2.mono e⟩⟩
/-- more cells besides -/
def Fr.more (Φ : Fr) (c : Addr × CD) : Fr := ⟨c :: Φ.N, Φ.P, Φ.mono⟩
structure Le (Φ Ψ : Fr) : Prop where
  n : Ψ.N.Sublist Φ.N
  p : ∀ F, Φ.P F → Ψ.P F
theorem Le.refl (Φ : Fr) : Le Φ Φ := ⟨List.Sublist.refl _, fun _ h => h⟩
theorem Le.trans {Φ Ψ Χ : Fr} (a : Le Φ Ψ) (b : Le Ψ Χ) : Le Φ Χ := ⟨b.n.trans a.n, fun F h => b.p F (a.p F h)⟩
theorem Le.of {Φ Ψ : Fr} (e : Φ.N = Ψ.N) (h : ∀ F, Φ.P F → Ψ.P F) : Le Φ Ψ := ⟨by rw [e]; exact List.Sublist.refl _, h⟩
theorem Le.and {Φ : Fr} {x : VD} {v : V} : Le (Φ.and x v) Φ := .of rfl fun _ h => h.1
theorem Le.andA {Φ : Fr} {x : List VD} {v : List V} : Le (Φ.andA x v) Φ := .of rfl fun _ h => h.1
theorem Le.slots {Φ : Fr} {x : Env} {v : L2.St} : Le (Φ.slots v x) Φ := .of rfl fun _ h => h.1
theorem Le.more {Φ : Fr} {c : Addr × CD} : Le (Φ.more c) Φ := ⟨List.sublist_cons_self _ _, fun _ h => h⟩

structure SatF (F : Hp) (Φ : Fr) (ρ : Env) (M : Cells) (σ : L2.St) (H : Hp) : Prop where
  ex : Ex F H
  fr : Φ.P F
  sl : Slots F σ ρ
  nd : ((M ++ Φ.N).map (·.1)).Nodup
  ce : ∀ c ∈ M ++ Φ.N, ∃ o, H c.1 = some o ∧ c.2.P F c.1 o
def Sat (Φ : Fr) (ρ : Env) (M : Cells) (σ : L2.St) (H : Hp) : Prop := ∃ F, SatF F Φ ρ M σ H
theorem Sat.weak {Φ Ψ : Fr} {ρ : Env} {M : Cells} {σ : L2.St} {H : Hp} (h : Sat Φ ρ M σ H) (l : Le Φ Ψ) : Sat Ψ ρ M σ H :=
  let ⟨F, s⟩ := h; ⟨F, s.ex, l.p F s.fr, s.sl, List.Pairwise.sublist ((List.Sublist.append (List.Sublist.refl M) l.n).map _) s.nd, fun c hc => s.ce c ((List.Sublist.append (List.Sublist.refl M) l.n).subset hc)⟩
theorem Sat.weak1 {Φ : Fr} {x : VD} {v : V} {ρ : Env} {M : Cells} {σ : L2.St} {H : Hp} (h : Sat (Φ.and x v) ρ M σ H) : Sat Φ ρ M σ H := h.weak Le.and
/-- a new plain object -/
theorem SatF.new {F : Hp} {Φ : Fr} {ρ : Env} {M : Cells} {σ : L2.St} {H : Hp} {p : Addr} {o : HO} (s : SatF F Φ ρ M σ H) (hp : H p = none) : SatF (upd F p o) Φ ρ M σ (upd H p o) ∧ Fx F (upd F p o) := by
  have hF : F p = none := fresh_back s.ex hp
  have fx : Fx F (upd F p o) := Fx.of (Ex.new hF)
  refine ⟨⟨fun a u e => ?_, Φ.mono fx s.fr, s.sl.mono fx, s.nd, fun c hc => ?_⟩, fx⟩
  · by_cases h : a = p
    · subst h; rw [upd_same] at e ⊢; exact e
    · rw [upd_ne h] at e ⊢; exact s.ex a u e
  · obtain ⟨u, h1, h2⟩ := s.ce c hc
    have hne : c.1 ≠ p := ne_of_none h1 hp
    exact ⟨u, by rw [upd_ne hne]; exact h1, c.2.mono fx (upd_ne hne) h2⟩
/-- the heap alone grows -/
theorem SatF.newH {F : Hp} {Φ : Fr} {ρ : Env} {M : Cells} {σ : L2.St} {H : Hp} {p : Addr} {o : HO} (s : SatF F Φ ρ M σ H) (hp : H p = none) : SatF F Φ ρ M σ (upd H p o) := by
  refine ⟨fun a u e => ?_, s.fr, s.sl, s.nd, fun c hc => ?_⟩
  · rw [upd_ne (ne_of_none (s.ex a u e) hp)]; exact s.ex a u e
  · obtain ⟨u, h1, h2⟩ := s.ce c hc
    exact ⟨u, by rw [upd_ne (ne_of_none h1 hp)]; exact h1, h2⟩
/-- a new object, owned -/
theorem SatF.newC {F : Hp} {Φ : Fr} {ρ : Env} {M : Cells} {σ : L2.St} {H : Hp} {p : Addr} {o : HO} {c : CD} (s : SatF F Φ ρ M σ H) (hp : H p = none) (hc : F p = none → c.P F p o) : SatF F Φ ρ ((p, c) :: M) σ (upd H p o) := by
  have s' := s.newH (o := o) hp
  refine ⟨s'.ex, s'.fr, s'.sl, ?_, fun d hd => ?_⟩
  · rw [List.cons_append, List.map_cons, List.nodup_cons]
    refine ⟨fun hm => ?_, s.nd⟩
    obtain ⟨d, hd, e⟩ := List.mem_map.mp hm
    obtain ⟨u, h1, _⟩ := s.ce d hd
    rw [e, hp] at h1
    cases h1
  · rcases List.mem_cons.mp hd with rfl | hd
    · exact ⟨o, upd_same, hc (fresh_back s.ex hp)⟩
    · exact s'.ce d hd

/-! ### cells: one is found; one is put in another's place -/
inductive Put (p : Addr) (c c' : CD) : Cells → Cells → Prop
  | here {l : Cells} : Put p c c' ((p, c) :: l) ((p, c') :: l)
  | there {x : Addr × CD} {l l' : Cells} : Put p c c' l l' → Put p c c' (x :: l) (x :: l')
theorem Put.mem {p : Addr} {c c' : CD} {M M' : Cells} (h : Put p c c' M M') : (p, c) ∈ M := by
  induction h with
  | here => exact List.mem_cons_self
  | there _ ih => exact List.mem_cons_of_mem _ ih
theorem Put.addrs {p : Addr} {c c' : CD} {M M' : Cells} (h : Put p c c' M M') : M'.map (·.1) = M.map (·.1) := by
  induction h with
  | here => rfl
  | there _ ih => simp [ih]
theorem Put.mem' {p : Addr} {c c' : CD} {M M' : Cells} (h : Put p c c' M M') : ∀ d ∈ M', d = (p, c') ∨ d ∈ M := by
  induction h with
  | here =>
    intro d hd
    rcases List.mem_cons.mp hd with e | hd
    · exact .inl e
    · exact .inr (List.mem_cons_of_mem _ hd)
  | there _ ih =>
    intro d hd
    rcases List.mem_cons.mp hd with e | hd
    · exact .inr (by rw [e]; exact List.mem_cons_self)
    · exact (ih d hd).imp_right (List.mem_cons_of_mem _)
theorem Put.uniq {p : Addr} {c c' : CD} {M M' : Cells} (h : Put p c c' M M') (nd : (M.map (·.1)).Nodup) : ∀ d ∈ M', d ≠ (p, c') → d.1 ≠ p := by
  induction h with
  | @here l =>
    intro d hd hne e
    rcases List.mem_cons.mp hd with q | hd
    · exact hne q
    · have := (List.nodup_cons.mp nd).1
      exact this (List.mem_map.mpr ⟨d, hd, e⟩)
  | @there x l l' hp ih =>
    intro d hd hne e
    rcases List.mem_cons.mp hd with q | hd
    · subst q
      have := (List.nodup_cons.mp nd).1
      exact this (List.mem_map.mpr ⟨(p, c), hp.mem, e.symm⟩)
    · exact ih (List.nodup_cons.mp nd).2 d hd hne e
theorem Put.app {p : Addr} {c c' : CD} {M M' : Cells} (h : Put p c c' M M') (N : Cells) : Put p c c' (M ++ N) (M' ++ N) := by
  induction h with
  | here => exact .here
  | there _ ih => exact .there ih
theorem Put.behind {p : Addr} {c c' : CD} {N N' : Cells} (h : Put p c c' N N') : ∀ M : Cells, Put p c c' (M ++ N) (M ++ N')
  | [] => h
  | _ :: M => .there (Put.behind h M)
/-- an owned cell is written -/
theorem SatF.put {F : Hp} {Φ Φ' : Fr} {ρ : Env} {M M' : Cells} {σ : L2.St} {H : Hp} {p : Addr} {o : HO} {c c' : CD} (s : SatF F Φ ρ M σ H) (h : Put p c c' (M ++ Φ.N) (M' ++ Φ'.N)) (hΦ : Φ'.P F) (hF : F p = none) (hc : c'.P F p o) : SatF F Φ' ρ M' σ (upd H p o) := by
  refine ⟨fun a u e => ?_, hΦ, s.sl, by rw [h.addrs]; exact s.nd, fun d hd => ?_⟩
  · have : a ≠ p := ne_of_none e hF
    rw [upd_ne this]; exact s.ex a u e
  · rcases Classical.em (d = (p, c')) with e | e
    · subst e; exact ⟨o, upd_same, hc⟩
    · have hne := h.uniq s.nd d hd e
      obtain ⟨u, h1, h2⟩ := s.ce d ((h.mem' d hd).resolve_left e)
      exact ⟨u, by rw [upd_ne hne]; exact h1, h2⟩
theorem SatF.put1 {F : Hp} {Φ : Fr} {ρ : Env} {M M' : Cells} {σ : L2.St} {H : Hp} {p : Addr} {o : HO} {c c' : CD} (s : SatF F Φ ρ M σ H) (h : Put p c c' M M') (hF : F p = none) (hc : c'.P F p o) : SatF F Φ ρ M' σ (upd H p o) := s.put (h.app _) s.fr hF hc
theorem SatF.at {F : Hp} {Φ : Fr} {ρ : Env} {M : Cells} {σ : L2.St} {H : Hp} {p : Addr} {c : CD} (s : SatF F Φ ρ M σ H) (h : (p, c) ∈ M) : ∃ o, H p = some o ∧ c.P F p o := s.ce _ (List.mem_append_left _ h)
theorem Put.same {p : Addr} {c : CD} : ∀ {M : Cells}, (p, c) ∈ M → Put p c c M M
  | [], h => by cases h
  | x :: l, h => by
    by_cases e : (p, c) = x
    · subst e; exact .here
    · exact .there (Put.same ((List.mem_cons.mp h).resolve_left e))

/-! ### slots -/
inductive SetAt (x : VD) : Env → Nat → Env → Prop
  | here {a : Option VD} {l : Env} : SetAt x (a :: l) 0 (some x :: l)
  | there {a : Option VD} {l l' : Env} {i : Nat} : SetAt x l i l' → SetAt x (a :: l) (i + 1) (a :: l')
theorem SetAt.eq {x : VD} {ρ ρ' : Env} {i : Nat} (h : SetAt x ρ i ρ') : ρ' = ρ.set i (some x) := by
  induction h with
  | here => rfl
  | there _ ih => simp [ih]
theorem Slots.set {F : Hp} {σ : L2.St} {ρ : Env} (h : Slots F σ ρ) {i : Nat} {x : VD} {v : V} (hv : x.P F v) : Slots F (σ.set i (some v)) (ρ.set i (some x)) := by
  refine ⟨by simp [h.1], fun j y e => ?_⟩
  by_cases q : i = j
  · subst q
    by_cases hl : i < ρ.length
    · rw [List.getElem?_set_self hl] at e
      cases e
      exact ⟨v, by rw [List.getElem?_set_self (by rw [h.1]; exact hl)], hv⟩
    · rw [List.getElem?_eq_none (by simp; omega)] at e
      cases e
  · rw [List.getElem?_set_ne q] at e
    obtain ⟨w, h1, h2⟩ := h.2 j y e
    exact ⟨w, by rw [List.getElem?_set_ne q]; exact h1, h2⟩
theorem Slots.wipe {F : Hp} {σ : L2.St} {ρ : Env} (h : Slots F σ ρ) (i : Nat) : Slots F (σ.set i none) (ρ.set i none) := by
  refine ⟨by simp [h.1], fun j y e => ?_⟩
  by_cases q : i = j
  · subst q
    by_cases hl : i < ρ.length
    · rw [List.getElem?_set_self hl] at e
      cases e
    · rw [List.getElem?_eq_none (by simp; omega)] at e
      cases e
  · rw [List.getElem?_set_ne q] at e
    obtain ⟨w, h1, h2⟩ := h.2 j y e
    exact ⟨w, by rw [List.getElem?_set_ne q]; exact h1, h2⟩
inductive At (x : VD) : Env → Nat → Prop
  | here {l : Env} : At x (some x :: l) 0
  | there {a : Option VD} {l : Env} {i : Nat} : At x l i → At x (a :: l) (i + 1)
theorem At.get {x : VD} {ρ : Env} {i : Nat} (h : At x ρ i) : ρ[i]? = some (some x) := by
  induction h with
  | here => rfl
  | there _ ih => simpa using ih

/-! ### what evaluates to what -/
def Ev (te : TE) (ρ : Env) (M : Cells) (x : VD) (M' : Cells) : Prop := ∀ (Φ : Fr) (σ : L2.St) (H : Hp) (Q : VK), Sat Φ ρ M σ H → (∀ v H', Sat (Φ.and x v) ρ M' σ H' → Q v H') → te σ H Q
def EvA (ta : TA) (ρ : Env) (M : Cells) (ds : List VD) (M' : Cells) : Prop := ∀ (Φ : Fr) (σ : L2.St) (H : Hp) (Q : List V → Hp → Prop), Sat Φ ρ M σ H → (∀ v H', Sat (Φ.andA ds v) ρ M' σ H' → Q v H') → ta σ H Q
/-- .. all of them data -/
def EvD (ta : TA) (ρ : Env) (M : Cells) (ds : List PyData) (M' : Cells) : Prop := EvA ta ρ M (ds.map dat) M'
def EvT (tt : TT) (ρ : Env) (M : Cells) (b : Bool) (M' : Cells) : Prop := ∀ (Φ : Fr) (σ : L2.St) (H : Hp) (Q : Bool → Hp → Prop), Sat Φ ρ M σ H → (∀ H', Sat Φ ρ M' σ H' → Q b H') → tt σ H Q
def EvO (to : TO) (ρ : Env) (M : Cells) (o : Option Int) (M' : Cells) : Prop := ∀ (Φ : Fr) (σ : L2.St) (H : Hp) (Q : Option Int → Hp → Prop), Sat Φ ρ M σ H → (∀ H', Sat Φ ρ M' σ H' → Q o H') → to σ H Q
def RV (r : R2) (x y : VD) (M : Cells) (z : VD) (M' : Cells) : Prop := ∀ (Φ : Fr) (ρ : Env) (σ : L2.St) (v w : V) (H : Hp) (Q : VK), Sat ((Φ.and x v).and y w) ρ M σ H → (∀ u H', Sat (Φ.and z u) ρ M' σ H' → Q u H') → r v w H Q
def RU (r : V → Hp → VK → Prop) (x : VD) (M : Cells) (z : VD) (M' : Cells) : Prop := ∀ (Φ : Fr) (ρ : Env) (σ : L2.St) (v : V) (H : Hp) (Q : VK), Sat (Φ.and x v) ρ M σ H → (∀ u H', Sat (Φ.and z u) ρ M' σ H' → Q u H') → r v H Q
def RC (r : List V → Hp → VK → Prop) (ds : List VD) (M : Cells) (z : VD) (M' : Cells) : Prop := ∀ (Φ : Fr) (ρ : Env) (σ : L2.St) (vs : List V) (H : Hp) (Q : VK), Sat (Φ.andA ds vs) ρ M σ H → (∀ u H', Sat (Φ.and z u) ρ M' σ H' → Q u H') → r vs H Q
def RM (r : V → List V → Hp → VK → Prop) (x : VD) (ds : List VD) (M : Cells) (z : VD) (M' : Cells) : Prop := ∀ (Φ : Fr) (ρ : Env) (σ : L2.St) (v : V) (vs : List V) (H : Hp) (Q : VK), Sat ((Φ.and x v).andA ds vs) ρ M σ H → (∀ u H', Sat (Φ.and z u) ρ M' σ H' → Q u H') → r v vs H Q

section
variable {ρ : Env} {M M1 M2 M3 M' : Cells} {ta tb te : TE} {x y z : VD}
theorem Ev.imp {w : VD} (h : Ev te ρ M x M') (k : ∀ F v, x.P F v → w.P F v) : Ev te ρ M w M' := fun Φ σ H Q s q => h Φ σ H Q s fun v H' s' => q v H' (s'.weak (.of rfl fun F p => ⟨p.1, k F v p.2⟩))
theorem Ev.eq {w : VD} (h : Ev te ρ M x M') (k : x = w) : Ev te ρ M w M' := k ▸ h
theorem ev_var {i : Nat} (h : At x ρ i) : Ev (tVar i) ρ M x M := fun Φ σ H Q ⟨F, s⟩ q => by
  obtain ⟨v, h1, h2⟩ := s.sl.2 i x h.get
  exact ⟨v, h1, q v H ⟨F, s.ex, ⟨s.fr, h2⟩, s.sl, s.nd, s.ce⟩⟩
theorem ev_c {v : V} {d : PyData} (h : ∀ F, Rp F v d) : Ev (tC v) ρ M (dat d) M := fun Φ σ H Q ⟨F, s⟩ q => q v H ⟨F, s.ex, ⟨s.fr, h F⟩, s.sl, s.nd, s.ce⟩
theorem ev_int {i : Int} : Ev (tC (.int i)) ρ M (dat (.int i)) M := ev_c fun _ => .int i
theorem ev_bl {i : Bool} : Ev (tC (.bl i)) ρ M (dat (.bool i)) M := ev_c fun _ => .bl i
theorem ev_str {i : Str} : Ev (tC (.str i)) ρ M (dat (.str i)) M := ev_c fun _ => .str i
theorem ev_non : Ev (tC .non) ρ M (dat .none) M := ev_c fun _ => .non
theorem ev_val {v : V} : Ev (tC v) ρ M (val v) M := fun Φ σ H Q ⟨F, s⟩ q => q v H ⟨F, s.ex, ⟨s.fr, rfl⟩, s.sl, s.nd, s.ce⟩
theorem ev_op {r : R2} (ha : Ev ta ρ M x M1) (hb : Ev tb ρ M1 y M2) (hr : RV r x y M2 z M3) : Ev (tOp r ta tb) ρ M z M3 := fun Φ σ H Q s q =>
  ha Φ σ H _ s fun v H1 s1 => hb _ σ H1 _ s1 fun w H2 s2 => hr Φ ρ σ v w H2 Q s2 q
theorem ev_un {r : V → Hp → VK → Prop} (ha : Ev ta ρ M x M1) (hr : RU r x M1 z M2) : Ev (tUn r ta) ρ M z M2 := fun Φ σ H Q s q =>
  ha Φ σ H _ s fun v H1 s1 => hr Φ ρ σ v H1 Q s1 q
theorem ea_nil : EvA tNil ρ M [] M := fun Φ σ H Q ⟨F, s⟩ q => q [] H ⟨F, s.ex, ⟨s.fr, .nil⟩, s.sl, s.nd, s.ce⟩
theorem ea_cons {tr : TA} {ds : List VD} (ha : Ev ta ρ M x M1) (hr : EvA tr ρ M1 ds M2) : EvA (tCons ta tr) ρ M (x :: ds) M2 := fun Φ σ H Q s q =>
  ha Φ σ H _ s fun v H1 s1 => hr _ σ H1 _ s1 fun vs H2 s2 => q (v :: vs) H2 (s2.weak (.of rfl fun F p => ⟨p.1.1, .cons p.1.2 p.2⟩))
theorem ed_nil : EvD tNil ρ M [] M := ea_nil
theorem ed_cons {tr : TA} {d : PyData} {ds : List PyData} (ha : Ev ta ρ M (dat d) M1) (hr : EvD tr ρ M1 ds M2) : EvD (tCons ta tr) ρ M (d :: ds) M2 := ea_cons ha hr
theorem ev_tupD {t : TA} {ds : List PyData} (h : EvD t ρ M ds M') (hl : ds.length ≤ sizeLine) : Ev (tTup t) ρ M (dat (.tuple ds)) M' := fun Φ σ H Q s q =>
  h Φ σ H _ s fun vs H1 ⟨F, s1⟩ => by
    have hr := DA.of_dat.mp s1.fr.2
    refine ⟨by rw [hr.length]; exact hl, fun p hp => ?_⟩
    obtain ⟨s2, fx⟩ := s1.new (o := .tup vs) hp
    exact q _ _ ⟨_, s2.ex, ⟨s2.fr.1, .tup upd_same (hr.mono fx)⟩, s2.sl, s2.nd, s2.ce⟩
theorem ev_lstD {t : TA} {ds : List PyData} (h : EvD t ρ M ds M') (hl : ds.length ≤ sizeLine) : Ev (tLst t) ρ M (dat (.list ds)) M' := fun Φ σ H Q s q =>
  h Φ σ H _ s fun vs H1 ⟨F, s1⟩ => by
    have hr := DA.of_dat.mp s1.fr.2
    refine ⟨by rw [hr.length]; exact hl, fun p hp => ?_⟩
    obtain ⟨s2, fx⟩ := s1.new (o := .lst vs) hp
    exact q _ _ ⟨_, s2.ex, ⟨s2.fr.1, .lst upd_same (hr.mono fx)⟩, s2.sl, s2.nd, s2.ce⟩
theorem ev_tupV {t : TA} {ds : List VD} (h : EvA t ρ M ds M') (hl : ds.length ≤ sizeLine) : Ev (tTup t) ρ M (vtup ds) M' := fun Φ σ H Q s q =>
  h Φ σ H _ s fun vs H1 ⟨F, s1⟩ => by
    have hr := s1.fr.2
    refine ⟨by rw [← Paired.length hr]; exact hl, fun p hp => ?_⟩
    obtain ⟨s2, fx⟩ := s1.new (o := .tup vs) hp
    exact q _ _ ⟨_, s2.ex, ⟨s2.fr.1, ⟨p, vs, rfl, upd_same, hr.mono fx⟩⟩, s2.sl, s2.nd, s2.ce⟩
theorem ev_lstV {t : TA} {ds : List VD} (h : EvA t ρ M ds M') (hl : ds.length ≤ sizeLine) : Ev (tLst t) ρ M (vlst ds) M' := fun Φ σ H Q s q =>
  h Φ σ H _ s fun vs H1 ⟨F, s1⟩ => by
    have hr := s1.fr.2
    refine ⟨by rw [← Paired.length hr]; exact hl, fun p hp => ?_⟩
    obtain ⟨s2, fx⟩ := s1.new (o := .lst vs) hp
    exact q _ _ ⟨_, s2.ex, ⟨s2.fr.1, ⟨p, vs, rfl, upd_same, hr.mono fx⟩⟩, s2.sl, s2.nd, s2.ce⟩
theorem ev_if {t : TT} {b : Bool} (h : EvT t ρ M b M1) (h1 : b = true → Ev ta ρ M1 x M2) (h2 : b = false → Ev tb ρ M1 x M2) : Ev (tIf t ta tb) ρ M x M2 := fun Φ σ H Q s q =>
  h Φ σ H _ s fun H1 s1 => by
    cases b with
    | true =>
      rw [if_pos rfl]
      exact h1 rfl Φ σ H1 Q s1 q
    | false =>
      rw [if_neg Bool.false_ne_true]
      exact h2 rfl Φ σ H1 Q s1 q
end
end Sx

set_option Elab.async false
set_option linter.all false
set_option maxRecDepth 100000
set_option maxHeartbeats 2000000
/-! Sx2: operators, by descriptions. -/
namespace Sx
open PySem L2 Evl

/-! ### what stands as a list, a tuple -/
def IsLst (x : VD) (M : Cells) (ds : List PyData) : Prop := ∀ {F Φ ρ σ H v}, SatF F Φ ρ M σ H → x.P F v → ∃ a ws, v = .ref a ∧ H a = some (.lst ws) ∧ RpL F ws ds
def IsTup (x : VD) (M : Cells) (ds : List PyData) : Prop := ∀ {F Φ ρ σ H v}, SatF F Φ ρ M σ H → x.P F v → ∃ a ws, v = .ref a ∧ H a = some (.tup ws) ∧ RpL F ws ds
def IsLstV (x : VD) (M : Cells) (ds : List VD) : Prop := ∀ {F Φ ρ σ H v}, SatF F Φ ρ M σ H → x.P F v → ∃ a ws, v = .ref a ∧ H a = some (.lst ws) ∧ DA F ds ws
def IsTupV (x : VD) (M : Cells) (ds : List VD) : Prop := ∀ {F Φ ρ σ H v}, SatF F Φ ρ M σ H → x.P F v → ∃ a ws, v = .ref a ∧ H a = some (.tup ws) ∧ DA F ds ws
theorem isl_dat {M : Cells} {ds : List PyData} : IsLst (dat (.list ds)) M ds := fun s h => by
  cases h with
  | lst h1 h2 => exact ⟨_, _, rfl, s.ex _ _ h1, h2⟩
theorem ist_dat {M : Cells} {ds : List PyData} : IsTup (dat (.tuple ds)) M ds := fun s h => by
  cases h with
  | tup h1 h2 => exact ⟨_, _, rfl, s.ex _ _ h1, h2⟩
theorem isl_cell {M : Cells} {ds : List PyData} {p : Addr} (m : (p, cLd ds) ∈ M) : IsLst (val (.ref p)) M ds := fun s h => by
  obtain ⟨o, h1, h2, ws, h3, h4⟩ := s.at m
  exact ⟨p, ws, h, by rw [h1, h3], h4⟩
theorem islv_cell {M : Cells} {ds : List VD} {p : Addr} (m : (p, cL ds) ∈ M) : IsLstV (val (.ref p)) M ds := fun s h => by
  obtain ⟨o, h1, h2, ws, h3, h4⟩ := s.at m
  exact ⟨p, ws, h, by rw [h1, h3], h4⟩
theorem islv_vlst {M : Cells} {ds : List VD} : IsLstV (vlst ds) M ds := fun s ⟨a, ws, h1, h2, h3⟩ => ⟨a, ws, h1, s.ex _ _ h2, h3⟩
theorem istv_vtup {M : Cells} {ds : List VD} : IsTupV (vtup ds) M ds := fun s ⟨a, ws, h1, h2, h3⟩ => ⟨a, ws, h1, s.ex _ _ h2, h3⟩
theorem IsLst.v {x : VD} {M : Cells} {ds : List PyData} (h : IsLst x M ds) : IsLstV x M (ds.map dat) := fun s q => by
  obtain ⟨a, ws, h1, h2, h3⟩ := h s q
  exact ⟨a, ws, h1, h2, DA.of_dat.mpr h3⟩
theorem IsTup.v {x : VD} {M : Cells} {ds : List PyData} (h : IsTup x M ds) : IsTupV x M (ds.map dat) := fun s q => by
  obtain ⟨a, ws, h1, h2, h3⟩ := h s q
  exact ⟨a, ws, h1, h2, DA.of_dat.mpr h3⟩
/-- either -/
def IsSeq (K : PySem.W.Frag) (x : VD) (M : Cells) (ds : List VD) : Prop := ∀ {F Φ ρ σ H v}, SatF F Φ ρ M σ H → x.P F v → ∃ a ws, v = .ref a ∧ (SqL K H a ws ∨ SqT K H a ws) ∧ DA F ds ws
theorem iss_l {K : PySem.W.Frag} {x : VD} {M : Cells} {ds : List VD} (h : IsLstV x M ds) : IsSeq K x M ds := fun s q => by
  obtain ⟨a, ws, h1, h2, h3⟩ := h s q
  exact ⟨a, ws, h1, .inl (sq_of h2), h3⟩
theorem iss_t {K : PySem.W.Frag} {x : VD} {M : Cells} {ds : List VD} (h : IsTupV x M ds) : IsSeq K x M ds := fun s q => by
  obtain ⟨a, ws, h1, h2, h3⟩ := h s q
  exact ⟨a, ws, h1, .inr (st_of h2), h3⟩

/-- the state behind a value that was just made; data said of it -/
theorem Sat.ret {F : Hp} {Φ : Fr} {ρ : Env} {M : Cells} {σ : L2.St} {H : Hp} {x : VD} {v : V} (s : SatF F Φ ρ M σ H) (h : x.P F v) : Sat (Φ.and x v) ρ M σ H := ⟨F, s.ex, ⟨s.fr, h⟩, s.sl, s.nd, s.ce⟩
theorem SatF.weak {F : Hp} {Φ Ψ : Fr} {ρ : Env} {M : Cells} {σ : L2.St} {H : Hp} (s : SatF F Φ ρ M σ H) (l : Le Φ Ψ) : SatF F Ψ ρ M σ H := ⟨s.ex, l.p F s.fr, s.sl, List.Pairwise.sublist ((List.Sublist.append (List.Sublist.refl M) l.n).map _) s.nd, fun c hc => s.ce c ((List.Sublist.append (List.Sublist.refl M) l.n).subset hc)⟩
theorem SatF.base {F : Hp} {Φ : Fr} {ρ : Env} {M : Cells} {σ : L2.St} {H : Hp} {x y : VD} {v w : V} (s : SatF F ((Φ.and x v).and y w) ρ M σ H) : SatF F Φ ρ M σ H := s.weak (.of rfl fun _ h => h.1.1)
theorem Sat.retNew {F : Hp} {Φ : Fr} {ρ : Env} {M : Cells} {σ : L2.St} {H : Hp} {x : VD} {v : V} {p : Addr} {o : HO} (s : SatF F Φ ρ M σ H) (hp : H p = none) (h : ∀ F', Fx F F' → F' p = some o → x.P F' v) : Sat (Φ.and x v) ρ M σ (upd H p o) := by
  obtain ⟨s2, fx⟩ := s.new (o := o) hp
  exact ⟨_, s2.ex, ⟨s2.fr, h _ fx upd_same⟩, s2.sl, s2.nd, s2.ce⟩

/-! ### + -/
def rAddS : R2 := fun x y H Q => ∃ i j, x = .str i ∧ y = .str j ∧ i.length + j.length ≤ sizeLine ∧ Q (.str (i ++ j)) H
def rAddU (K : PySem.W.Frag) : R2 := fun x y H Q => rI0 (fun i j => .int (i + j)) x y H Q ∨ (rAddS x y H Q ∨ (rCat x y H Q ∨ rCatA K x y H Q))
theorem op_addU {X : Cx} : OpR X (binaryOp .Add) (rAddU X.K) := op_add.or (op_add_str.or (op_cat.or op_catA))
section
variable {K : PySem.W.Frag} {ρ : Env} {M M' : Cells} {x y z : VD}
theorem rv_addI {i j : Int} : RV (rAddU K) (dat (.int i)) (dat (.int j)) M (dat (.int (i + j))) M := fun Φ ρ σ v w H Q ⟨F, s⟩ q => by
  cases s.fr.1.2; cases s.fr.2
  exact .inl ⟨i, j, rfl, rfl, q _ _ (Sat.ret s.base (.int _))⟩
theorem rv_addS {i j : Str} (hl : i.length + j.length ≤ sizeLine) : RV (rAddU K) (dat (.str i)) (dat (.str j)) M (dat (.str (i ++ j))) M := fun Φ ρ σ v w H Q ⟨F, s⟩ q => by
  cases s.fr.1.2; cases s.fr.2
  exact .inr (.inl ⟨i, j, rfl, rfl, hl, q _ _ (Sat.ret s.base (.str _))⟩)
theorem rv_cat {as bs : List PyData} (hx : IsLst x M as) (hy : IsLst y M bs) (hl : as.length + bs.length ≤ sizeLine) : RV (rAddU K) x y M (dat (.list (as ++ bs))) M := fun Φ ρ σ v w H Q ⟨F, s⟩ q => by
  obtain ⟨a, vs1, rfl, h1, h2⟩ := hx s s.fr.1.2
  obtain ⟨b, vs2, rfl, h3, h4⟩ := hy s s.fr.2
  refine .inr (.inr (.inl ⟨a, b, vs1, vs2, rfl, rfl, h1, h3, by rw [h2.length, h4.length]; exact hl, fun p hp => q _ _ (Sat.retNew s.base hp fun F' fx e => .lst e ((h2.append h4).mono fx))⟩))
theorem rv_catV {as bs : List VD} (hx : IsLstV x M as) (hy : IsLstV y M bs) (hl : as.length + bs.length ≤ sizeLine) : RV (rAddU K) x y M (vlst (as ++ bs)) M := fun Φ ρ σ v w H Q ⟨F, s⟩ q => by
  obtain ⟨a, vs1, rfl, h1, h2⟩ := hx s s.fr.1.2
  obtain ⟨b, vs2, rfl, h3, h4⟩ := hy s s.fr.2
  refine .inr (.inr (.inl ⟨a, b, vs1, vs2, rfl, rfl, h1, h3, by rw [← Paired.length h2, ← Paired.length h4]; exact hl, fun p hp => q _ _ (Sat.retNew s.base hp fun F' fx e => ⟨p, _, rfl, e, (h2.append h4).mono fx⟩)⟩))
theorem rv_catT {as bs : List PyData} (hx : IsTup x M as) (hy : IsTup y M bs) (hfx : ∀ F v, x.P F v → (dat (.tuple as)).P F v) (hfy : ∀ F v, y.P F v → (dat (.tuple bs)).P F v) (hl : as.length + bs.length ≤ sizeLine) : RV (rAddU K) x y M (dat (.tuple (as ++ bs))) M := fun Φ ρ σ v w H Q ⟨F, s⟩ q => by
  have e1 := hfx F _ s.fr.1.2
  have e2 := hfy F _ s.fr.2
  obtain ⟨a, vs1, rfl, h1, h2⟩ := hx s s.fr.1.2
  obtain ⟨b, vs2, rfl, h3, h4⟩ := hy s s.fr.2
  refine .inr (.inr (.inr ⟨a, b, vs1, vs2, rfl, rfl, st_of h1, st_of h3, by rw [h2.length, h4.length]; exact hl, fun he => ?_, fun _ he => ?_, fun _ _ p hp => q _ _ (Sat.retNew s.base hp fun F' fx e => .tup e ((h2.append h4).mono fx))⟩))
  · subst he
    have : as = [] := List.eq_nil_of_length_eq_zero h2.length.symm
    subst this
    exact q _ _ (Sat.ret s.base e2)
  · subst he
    have : bs = [] := List.eq_nil_of_length_eq_zero h4.length.symm
    subst this
    exact q _ _ (Sat.ret s.base (by rw [List.append_nil]; exact e1))
theorem rv_catTd {as bs : List PyData} (hl : as.length + bs.length ≤ sizeLine) : RV (rAddU K) (dat (.tuple as)) (dat (.tuple bs)) M (dat (.tuple (as ++ bs))) M := rv_catT ist_dat ist_dat (fun _ _ h => h) (fun _ _ h => h) hl

/-! ### the other operators on ints -/
theorem rv_I0 {g : Int → Int → V} {d : Int → Int → PyData} {i j : Int} (h : ∀ F, Rp F (g i j) (d i j)) : RV (rI0 g) (dat (.int i)) (dat (.int j)) M (dat (d i j)) M := fun Φ ρ σ v w H Q ⟨F, s⟩ q => by
  cases s.fr.1.2; cases s.fr.2
  exact ⟨i, j, rfl, rfl, q _ _ (Sat.ret s.base (h F))⟩
theorem rv_int0 {g : Int → Int → Int} {i j : Int} : RV (rI0 fun i j => .int (g i j)) (dat (.int i)) (dat (.int j)) M (dat (.int (g i j))) M := rv_I0 (d := fun i j => .int (g i j)) fun _ => .int _
theorem rv_bl0 {g : Int → Int → Bool} {i j : Int} : RV (rI0 fun i j => .bl (g i j)) (dat (.int i)) (dat (.int j)) M (dat (.bool (g i j))) M := rv_I0 (d := fun i j => .bool (g i j)) fun _ => .bl _
theorem rv_intC {C : Int → Int → Prop} {g : Int → Int → Int} {i j : Int} (hc : C i j) : RV (rI C fun i j => .int (g i j)) (dat (.int i)) (dat (.int j)) M (dat (.int (g i j))) M := fun Φ ρ σ v w H Q ⟨F, s⟩ q => by
  cases s.fr.1.2; cases s.fr.2
  exact ⟨i, j, rfl, rfl, hc, q _ _ (Sat.ret s.base (.int _))⟩
theorem ru_neg {i : Int} : RU (rU fun i => .int (-i)) (dat (.int i)) M (dat (.int (-i))) M := fun Φ ρ σ v H Q ⟨F, s⟩ q => by
  cases s.fr.2
  exact ⟨i, rfl, q _ _ (Sat.ret (s.weak Le.and) (.int _))⟩

/-! ### == -/
/-- data as it stands, its own list cells too -/
def IsDat (K : PySem.W.Frag) (x : VD) (M : Cells) (d : PyData) : Prop := ∀ {F Φ ρ σ H v}, SatF F Φ ρ M σ H → x.P F v → Dp K H v d
def IsDats (K : PySem.W.Frag) (xs : List VD) (M : Cells) (ds : List PyData) : Prop := ∀ {F Φ ρ σ H vs}, SatF F Φ ρ M σ H → DA F xs vs → DpAll K H vs ds
theorem isd_dat {d : PyData} : IsDat K (dat d) M d := fun s h => Rp.dp s.ex d h
theorem isd_cell {ds : List PyData} {p : Addr} (m : (p, cLd ds) ∈ M) : IsDat K (val (.ref p)) M (.list ds) := fun s h => by
  obtain ⟨a, ws, rfl, h1, h2⟩ := isl_cell m s h
  exact .lst (sq_of h1) (RpL.dp s.ex ds h2)
theorem isds_nil : IsDats K [] M [] := fun s h => by cases h; exact .nil
theorem isds_cons {d : PyData} {xs : List VD} {ds : List PyData} (h1 : IsDat K x M d) (h2 : IsDats K xs M ds) : IsDats K (x :: xs) M (d :: ds) := fun s h => by
  cases h with
  | cons q1 q2 => exact .cons (h1 s q1) (h2 s q2)
theorem isd_vtup {xs : List VD} {ds : List PyData} (h : IsDats K xs M ds) : IsDat K (vtup xs) M (.tuple ds) := fun s ⟨a, ws, e, h1, h2⟩ => by
  subst e
  exact .tup (st_of (s.ex _ _ h1)) (h s h2)
theorem isd_vlst {xs : List VD} {ds : List PyData} (h : IsDats K xs M ds) : IsDat K (vlst xs) M (.list ds) := fun s ⟨a, ws, e, h1, h2⟩ => by
  subst e
  exact .lst (sq_of (s.ex _ _ h1)) (h s h2)
/-- of such a depth, its texts of our kind -/
def Shp (n : Nat) (d : PyData) : Prop := d.canLay0 = true ∧ d.depth ≤ n
theorem Shp.ok {n : Nat} {d : PyData} (h : Shp n d) (hn : n ≤ 64) : SeqAt.shaped d = true := by
  unfold SeqAt.shaped
  rw [h.1, decide_eq_true (Nat.le_trans h.2 hn)]
  rfl
theorem shp_int {n : Nat} {i : Int} : Shp n (.int i) := ⟨rfl, Nat.zero_le _⟩
theorem shp_none {n : Nat} : Shp n .none := ⟨rfl, Nat.zero_le _⟩
theorem shp_bool {n : Nat} {i : Bool} : Shp n (.bool i) := ⟨rfl, Nat.zero_le _⟩
theorem shp_str {n : Nat} {x : Str} (h : PyData.strOk x = true) : Shp n (.str x) := ⟨by rw [PyData.canLay0]; exact h, Nat.zero_le _⟩
def ShpA (n : Nat) (ds : List PyData) : Prop := PyData.canLayAll0 ds = true ∧ PyData.depthAll ds ≤ n
theorem shpA_nil {n : Nat} : ShpA n [] := ⟨rfl, Nat.zero_le _⟩
theorem shpA_cons {n : Nat} {d : PyData} {ds : List PyData} (h : Shp n d) (t : ShpA n ds) : ShpA n (d :: ds) := ⟨by rw [PyData.canLayAll0, h.1, t.1]; rfl, by rw [PyData.depthAll]; exact Nat.max_le.mpr ⟨h.2, t.2⟩⟩
theorem shpA_of {n : Nat} : ∀ {ds : List PyData}, (∀ d ∈ ds, Shp n d) → ShpA n ds
  | [], _ => shpA_nil
  | d :: ds, h => shpA_cons (h d List.mem_cons_self) (shpA_of fun e he => h e (List.mem_cons_of_mem _ he))
theorem shp_list {n : Nat} {ds : List PyData} (h : ShpA n ds) : Shp (n + 1) (.list ds) := ⟨by rw [PyData.canLay0]; exact h.1, by rw [PyData.depth]; exact Nat.succ_le_succ h.2⟩
theorem shp_tuple {n : Nat} {ds : List PyData} (h : ShpA n ds) : Shp (n + 1) (.tuple ds) := ⟨by rw [PyData.canLay0]; exact h.1, by rw [PyData.depth]; exact Nat.succ_le_succ h.2⟩
theorem shpA_map {α : Type} {n : Nat} {f : α → PyData} {xs : List α} (h : ∀ x ∈ xs, Shp n (f x)) : ShpA n (xs.map f) := shpA_of fun d hd => by
  obtain ⟨x, hx, rfl⟩ := List.mem_map.mp hd
  exact h x hx
/-- equal as data just if equal -/
def EqOk {α : Type} (f : α → PyData) : Prop := ∀ x y, PyData.eqv (f x) (f y) = true ↔ x = y
theorem eqvAll_map {α : Type} {f : α → PyData} (h : EqOk f) : ∀ xs ys : List α, PyData.eqvAll (xs.map f) (ys.map f) = true ↔ xs = ys
  | [], [] => by simp [PyData.eqvAll]
  | x :: xs, [] => by simp [PyData.eqvAll]
  | [], y :: ys => by simp [PyData.eqvAll]
  | x :: xs, y :: ys => by
    rw [List.map_cons, List.map_cons, PyData.eqvAll, Bool.and_eq_true, h x y, eqvAll_map h xs ys, List.cons.injEq]
theorem eqok_list {α : Type} {f : α → PyData} (h : EqOk f) : EqOk fun xs : List α => .list (xs.map f) := fun xs ys => by
  show PyData.eqv (.list (xs.map f)) (.list (ys.map f)) = true ↔ _
  rw [PyData.eqv]; exact eqvAll_map h xs ys
theorem eqok_tuple {α : Type} {f : α → PyData} (h : EqOk f) : EqOk fun xs : List α => .tuple (xs.map f) := fun xs ys => by
  show PyData.eqv (.tuple (xs.map f)) (.tuple (ys.map f)) = true ↔ _
  rw [PyData.eqv]; exact eqvAll_map h xs ys
theorem eqok_int : EqOk PyData.int := fun x y => by simp [PyData.eqv]
theorem eqok_str : EqOk PyData.str := fun x y => by simp [PyData.eqv]
theorem eqok_bool : EqOk PyData.bool := fun x y => by simp [PyData.eqv]
theorem EqOk.dec {α : Type} [DecidableEq α] {f : α → PyData} (h : EqOk f) (x y : α) : PyData.eqv (f x) (f y) = decide (x = y) := by
  rw [Bool.eq_iff_iff, h x y, decide_eq_true_iff]
def rEqU (K : PySem.W.Frag) : R2 := fun x y H Q => rEqD K x y H Q ∨ rEq x y H Q
def rNeU (K : PySem.W.Frag) : R2 := fun x y H Q => rNeD K x y H Q ∨ rNe x y H Q
theorem op_eqU {X : Cx} (hu : X.A.units + 64 < cLine) : OpR X (compareOp .Eq) (rEqU X.K) := (op_eqD hu).or op_eq
theorem op_neU {X : Cx} (hu : X.A.units + 64 < cLine) : OpR X (compareOp .NotEq) (rNeU X.K) := (op_neD hu).or op_ne
theorem rv_eqD {d e : PyData} (hx : IsDat K x M d) (hy : IsDat K y M e) (sd : Shp 64 d) (se : Shp 64 e) : RV (rEqU K) x y M (dat (.bool (PyData.eqv d e))) M := fun Φ ρ σ v w H Q ⟨F, s⟩ q =>
  .inl ⟨d, e, hx s s.fr.1.2, hy s s.fr.2, sd.ok (Nat.le_refl _), se.ok (Nat.le_refl _), q _ _ (Sat.ret s.base (.bl _))⟩
theorem rv_neD {d e : PyData} (hx : IsDat K x M d) (hy : IsDat K y M e) (sd : Shp 64 d) (se : Shp 64 e) : RV (rNeU K) x y M (dat (.bool (!PyData.eqv d e))) M := fun Φ ρ σ v w H Q ⟨F, s⟩ q =>
  .inl ⟨d, e, hx s s.fr.1.2, hy s s.fr.2, sd.ok (Nat.le_refl _), se.ok (Nat.le_refl _), q _ _ (Sat.ret s.base (.bl _))⟩
theorem eqv_int {i j : Int} : PyData.eqv (.int i) (.int j) = decide (i = j) := by simp [PyData.eqv, Bool.beq_eq_decide_eq]
theorem eqv_str {i j : Str} : PyData.eqv (.str i) (.str j) = decide (i = j) := by simp [PyData.eqv, Bool.beq_eq_decide_eq]
theorem eqv_bool {i j : Bool} : PyData.eqv (.bool i) (.bool j) = decide (i = j) := by simp [PyData.eqv, Bool.beq_eq_decide_eq]
theorem rv_eqI {i j : Int} : RV (rEqU K) (dat (.int i)) (dat (.int j)) M (dat (.bool (decide (i = j)))) M := by
  have h := rv_eqD (K := K) (M := M) (isd_dat (d := .int i)) (isd_dat (d := .int j)) shp_int shp_int
  rw [eqv_int] at h; exact h
theorem rv_neI {i j : Int} : RV (rNeU K) (dat (.int i)) (dat (.int j)) M (dat (.bool (!decide (i = j)))) M := by
  have h := rv_neD (K := K) (M := M) (isd_dat (d := .int i)) (isd_dat (d := .int j)) shp_int shp_int
  rw [eqv_int] at h; exact h
theorem rv_eqS {i j : Str} : RV (rEqU K) (dat (.str i)) (dat (.str j)) M (dat (.bool (decide (i = j)))) M := fun Φ ρ σ v w H Q ⟨F, s⟩ q => by
  cases s.fr.1.2; cases s.fr.2
  refine .inr ⟨rfl, ?_⟩
  have e : decide (V.str i = V.str j) = decide (i = j) := by simp
  rw [e]
  exact q _ _ (Sat.ret s.base (.bl _))
theorem rv_neS {i j : Str} : RV (rNeU K) (dat (.str i)) (dat (.str j)) M (dat (.bool (!decide (i = j)))) M := fun Φ ρ σ v w H Q ⟨F, s⟩ q => by
  cases s.fr.1.2; cases s.fr.2
  refine .inr ⟨rfl, ?_⟩
  have e : decide (V.str i = V.str j) = decide (i = j) := by simp
  rw [e]
  exact q _ _ (Sat.ret s.base (.bl _))
/-! ### is None -/
def rIsN : R2 := fun x y H Q => y = .non ∧ Q (.bl (decide (x = .non))) H
def rNotN : R2 := fun x y H Q => y = .non ∧ Q (.bl (!decide (x = .non))) H
theorem op_isN' {X : Cx} : OpR X (compareOp .Is) rIsN := op_isN
theorem op_notN' {X : Cx} : OpR X (compareOp .IsNot) rNotN := op_notN
def isNoneD : PyData → Bool
  | .none => true
  | _ => false
theorem rp_none {F : Hp} {v : V} {d : PyData} (h : Rp F v d) : decide (v = .non) = isNoneD d := by
  cases h <;> rfl
theorem rv_isN {d : PyData} : RV rIsN (dat d) (dat .none) M (dat (.bool (isNoneD d))) M := fun Φ ρ σ v w H Q ⟨F, s⟩ q => by
  have h := rp_none s.fr.1.2
  cases s.fr.2
  exact ⟨rfl, by rw [h]; exact q _ _ (Sat.ret s.base (.bl _))⟩
theorem rv_notN {d : PyData} : RV rNotN (dat d) (dat .none) M (dat (.bool (!isNoneD d))) M := fun Φ ρ σ v w H Q ⟨F, s⟩ q => by
  have h := rp_none s.fr.1.2
  cases s.fr.2
  exact ⟨rfl, by rw [h]; exact q _ _ (Sat.ret s.base (.bl _))⟩

/-! ### subscripts, slices -/
theorem rpl_atI {F : Hp} {ws : List V} {ds : List PyData} {i : Int} {d : PyData} (h : RpL F ws ds) (e : atI ds i = some d) : ∃ v, atI ws i = some v ∧ Rp F v d := by
  unfold atI at e ⊢
  rw [h.length]
  cases q : ixN ds.length i with
  | none => rw [q] at e; cases e
  | some j =>
    rw [q] at e
    exact h.get e
theorem da_atI {F : Hp} {ws : List V} {ds : List VD} {i : Int} {d : VD} (h : DA F ds ws) (e : atI ds i = some d) : ∃ v, atI ws i = some v ∧ d.P F v := by
  unfold atI at e ⊢
  rw [← Paired.length h]
  cases q : ixN ds.length i with
  | none => rw [q] at e; cases e
  | some j =>
    rw [q] at e
    exact h.get e
theorem rv_ixL {ds : List PyData} {i : Int} {d : PyData} (hx : IsLst x M ds) (e : atI ds i = some d) : RV (rIx K) x (dat (.int i)) M (dat d) M := fun Φ ρ σ v w H Q ⟨F, s⟩ q => by
  obtain ⟨a, ws, rfl, h1, h2⟩ := hx s s.fr.1.2
  cases s.fr.2
  obtain ⟨v, h3, h4⟩ := rpl_atI h2 e
  exact .inl ⟨a, ws, i, v, rfl, rfl, sq_of h1, h3, q _ _ (Sat.ret s.base h4)⟩
theorem rv_ixT {ds : List PyData} {i : Int} {d : PyData} (hx : IsTup x M ds) (e : atI ds i = some d) : RV (rIx K) x (dat (.int i)) M (dat d) M := fun Φ ρ σ v w H Q ⟨F, s⟩ q => by
  obtain ⟨a, ws, rfl, h1, h2⟩ := hx s s.fr.1.2
  cases s.fr.2
  obtain ⟨v, h3, h4⟩ := rpl_atI h2 e
  exact .inr (.inl ⟨a, ws, i, v, rfl, rfl, st_of h1, h3, q _ _ (Sat.ret s.base h4)⟩)
theorem rv_ixLV {ds : List VD} {i : Int} {d : VD} (hx : IsLstV x M ds) (e : atI ds i = some d) : RV (rIx K) x (dat (.int i)) M d M := fun Φ ρ σ v w H Q ⟨F, s⟩ q => by
  obtain ⟨a, ws, rfl, h1, h2⟩ := hx s s.fr.1.2
  cases s.fr.2
  obtain ⟨v, h3, h4⟩ := da_atI h2 e
  exact .inl ⟨a, ws, i, v, rfl, rfl, sq_of h1, h3, q _ _ (Sat.ret s.base h4)⟩
theorem rv_ixTV {ds : List VD} {i : Int} {d : VD} (hx : IsTupV x M ds) (e : atI ds i = some d) : RV (rIx K) x (dat (.int i)) M d M := fun Φ ρ σ v w H Q ⟨F, s⟩ q => by
  obtain ⟨a, ws, rfl, h1, h2⟩ := hx s s.fr.1.2
  cases s.fr.2
  obtain ⟨v, h3, h4⟩ := da_atI h2 e
  exact .inr (.inl ⟨a, ws, i, v, rfl, rfl, st_of h1, h3, q _ _ (Sat.ret s.base h4)⟩)
theorem rv_ixScr {ns : List Int} {i : Int} {n : Int} (e : atI ns i = some n) : RV (rIx K) (vscr K ns) (dat (.int i)) M (dat (.int n)) M := fun Φ ρ σ v w H Q ⟨F, s⟩ q => by
  obtain ⟨a, rfl, h1⟩ := s.fr.1.2
  cases s.fr.2
  refine .inl ⟨a, ns.map V.int, i, .int n, rfl, rfl, ex_l s.ex h1, ?_, q _ _ (Sat.ret s.base (.int _))⟩
  unfold atI at e ⊢
  rw [List.length_map]
  cases q : ixN ns.length i with
  | none => rw [q] at e; cases e
  | some j =>
    rw [q] at e
    show (ns.map V.int)[j]? = _
    have e' : ns[j]? = some n := e
    rw [List.getElem?_map, e']
    rfl
def cutD {α : Type} (xs : List α) (lo hi : Option Int) : List α := (xs.drop (HT.sIx xs.length 0 lo)).take (HT.sIx xs.length xs.length hi - HT.sIx xs.length 0 lo)
theorem rpl_cut {F : Hp} {ws : List V} {ds : List PyData} (h : RpL F ws ds) (lo hi : Option Int) : RpL F (cutV ws lo hi) (cutD ds lo hi) := by
  unfold cutV cutD
  rw [h.length]
  exact (h.drop _).take _
/-- a slice of a list, a tuple, a text -/
def rSlU (K : PySem.W.Frag) : V → Option Int → Option Int → Hp → VK → Prop := fun x lo hi H Q => rSlL K x lo hi H Q ∨ rSlA K x lo hi H Q
theorem sl_U {X : Cx} : SlR X (rSlU X.K) := sl_list.or sl_tupA
theorem eo_none : EvO tNoPart ρ M none M := fun Φ σ H Q s q => q H s
theorem eo_some {te : TE} {i : Int} (h : Ev te ρ M (dat (.int i)) M') : EvO (tPart te) ρ M (some i) M' := fun Φ σ H Q s q => h Φ σ H _ s fun v H1 ⟨F, s1⟩ => by
  cases s1.fr.2
  exact ⟨i, rfl, q H1 ⟨F, s1.weak Le.and⟩⟩
theorem ev_slL {te : TE} {tl th : TO} {M1 M2 M3 : Cells} {lo hi : Option Int} {ds : List PyData} (h : Ev te ρ M x M1) (h1 : EvO tl ρ M1 lo M2) (h2 : EvO th ρ M2 hi M3) (hx : IsLst x M3 ds) : Ev (tSl (rSlU K) te tl th) ρ M (dat (.list (cutD ds lo hi))) M3 := fun Φ σ H Q s q =>
  h Φ σ H _ s fun v H1 s1 => h1 _ σ H1 _ s1 fun H2 s2 => h2 _ σ H2 _ s2 fun H3 ⟨F, s3⟩ => by
    obtain ⟨a, ws, rfl, h1, h2⟩ := hx s3 s3.fr.2
    exact .inl ⟨a, ws, rfl, sq_of h1, fun p hp => q _ _ (Sat.retNew (s3.weak Le.and) hp fun F' fx e => .lst e ((rpl_cut h2 lo hi).mono fx))⟩
theorem cut_whole {ds : List PyData} {lo hi : Option Int} (h1 : HT.sIx ds.length 0 lo = 0) (h2 : HT.sIx ds.length ds.length hi = ds.length) : cutD ds lo hi = ds := by
  unfold cutD
  rw [h1, h2]
  simp
theorem ev_slT {te : TE} {tl th : TO} {M1 M2 M3 : Cells} {lo hi : Option Int} {ds : List PyData} (h : Ev te ρ M (dat (.tuple ds)) M1) (h1 : EvO tl ρ M1 lo M2) (h2 : EvO th ρ M2 hi M3) : Ev (tSl (rSlU K) te tl th) ρ M (dat (.tuple (cutD ds lo hi))) M3 := fun Φ σ H Q s q =>
  h Φ σ H _ s fun v H1 s1 => h1 _ σ H1 _ s1 fun H2 s2 => h2 _ σ H2 _ s2 fun H3 ⟨F, s3⟩ => by
    have e0 := s3.fr.2
    obtain ⟨a, ws, rfl, h1, h2⟩ := ist_dat s3 s3.fr.2
    refine .inr ⟨a, ws, rfl, st_of h1, fun hw => q _ _ (Sat.ret (s3.weak Le.and) ?_), fun hw p hp => q _ _ (Sat.retNew (s3.weak Le.and) hp fun F' fx e => .tup e ((rpl_cut h2 lo hi).mono fx))⟩
    rw [h2.length] at hw
    rw [cut_whole hw.1 hw.2]
    exact e0
end

/-! ### tests -/
section
variable {K : PySem.W.Frag} {ρ : Env} {M M1 M2 M' : Cells} {x y z : VD} {te ta tb : TE} {t u : TT}
theorem et_test {b : Bool} (h : Ev te ρ M (dat (.bool b)) M') : EvT (tTest te) ρ M b M' := fun Φ σ H Q s q => h Φ σ H _ s fun v H1 s1 => by
  have ⟨F, s2⟩ := s1
  cases s2.fr.2
  exact ⟨b, rfl, q H1 s1.weak1⟩
theorem et_B {b : Bool} (h : Ev te ρ M (dat (.bool b)) M') : EvT (tB te) ρ M b M' := fun Φ σ H Q s q => h Φ σ H _ s fun v H1 s1 => by
  have ⟨F, s2⟩ := s1
  cases s2.fr.2
  exact ⟨b, rfl, q H1 s1.weak1⟩
theorem et_yes : EvT tYes ρ M true M := fun Φ σ H Q s q => q H s
/-- the second one is asked where the first one lets -/
theorem et_and {a b : Bool} (h1 : EvT t ρ M a M1) (h2 : a = true → EvT u ρ M1 b M1) : EvT (tAnd t u) ρ M (a && b) M1 := fun Φ σ H Q s q => h1 Φ σ H _ s fun H1 s1 => by
  cases a with
  | true => rw [if_pos rfl]; exact h2 rfl Φ σ H1 Q s1 q
  | false => rw [if_neg Bool.false_ne_true]; exact q H1 s1
theorem et_or {a b : Bool} (h1 : EvT t ρ M a M1) (h2 : a = false → EvT u ρ M1 b M1) : EvT (tOr t u) ρ M (a || b) M1 := fun Φ σ H Q s q => h1 Φ σ H _ s fun H1 s1 => by
  cases a with
  | true => rw [if_pos rfl]; exact q H1 s1
  | false => rw [if_neg Bool.false_ne_true]; exact h2 rfl Φ σ H1 Q s1 q
theorem et_andT {b : Bool} (h1 : EvT t ρ M true M1) (h2 : EvT u ρ M1 b M2) : EvT (tAnd t u) ρ M b M2 := fun Φ σ H Q s q => h1 Φ σ H _ s fun H1 s1 => by
  rw [if_pos rfl]; exact h2 Φ σ H1 Q s1 q
theorem et_andF (h1 : EvT t ρ M false M1) : EvT (tAnd t u) ρ M false M1 := fun Φ σ H Q s q => h1 Φ σ H _ s fun H1 s1 => by
  rw [if_neg Bool.false_ne_true]; exact q H1 s1
theorem et_orF {b : Bool} (h1 : EvT t ρ M false M1) (h2 : EvT u ρ M1 b M2) : EvT (tOr t u) ρ M b M2 := fun Φ σ H Q s q => h1 Φ σ H _ s fun H1 s1 => by
  rw [if_neg Bool.false_ne_true]; exact h2 Φ σ H1 Q s1 q
theorem et_orT (h1 : EvT t ρ M true M1) : EvT (tOr t u) ρ M true M1 := fun Φ σ H Q s q => h1 Φ σ H _ s fun H1 s1 => by
  rw [if_pos rfl]; exact q H1 s1
theorem et_not {a : Bool} (h1 : EvT t ρ M a M') : EvT (tNot t) ρ M (!a) M' := fun Φ σ H Q s q => h1 Φ σ H _ s q
theorem EvT.eq {a b : Bool} (h : EvT t ρ M a M') (e : a = b) : EvT t ρ M b M' := e ▸ h
theorem ev_andV {a b : Bool} (h1 : Ev ta ρ M (dat (.bool a)) M1) (h2 : a = true → Ev tb ρ M1 (dat (.bool b)) M1) : Ev (tAndV ta tb) ρ M (dat (.bool (a && b))) M1 := fun Φ σ H Q s q => h1 Φ σ H _ s fun v H1 s1 => by
  have ⟨F, s2⟩ := s1
  cases s2.fr.2
  refine ⟨a, rfl, ?_⟩
  cases a with
  | true => rw [if_pos rfl]; exact h2 rfl Φ σ H1 Q s1.weak1 q
  | false => rw [if_neg Bool.false_ne_true]; exact q _ H1 s1
theorem ev_orV {a b : Bool} (h1 : Ev ta ρ M (dat (.bool a)) M1) (h2 : a = false → Ev tb ρ M1 (dat (.bool b)) M1) : Ev (tOrV ta tb) ρ M (dat (.bool (a || b))) M1 := fun Φ σ H Q s q => h1 Φ σ H _ s fun v H1 s1 => by
  have ⟨F, s2⟩ := s1
  cases s2.fr.2
  refine ⟨a, rfl, ?_⟩
  cases a with
  | true => rw [if_pos rfl]; exact q _ H1 s1
  | false => rw [if_neg Bool.false_ne_true]; exact h2 rfl Φ σ H1 Q s1.weak1 q
theorem ev_notV {a : Bool} (h1 : Ev ta ρ M (dat (.bool a)) M') : Ev (tNotV ta) ρ M (dat (.bool (!a))) M' := fun Φ σ H Q s q => h1 Φ σ H _ s fun v H1 s1 => by
  have ⟨F, s2⟩ := s1
  cases s2.fr.2
  exact ⟨a, rfl, q _ H1 ⟨F, s2.ex, ⟨s2.fr.1, .bl _⟩, s2.sl, s2.nd, s2.ce⟩⟩
/-- a < b < c -/
theorem ev_chain {r r' : R2} {tc : TE} {a b : Bool} (h1 : Ev ta ρ M x M) (h2 : Ev tb ρ M y M) (hr : RV r x y M (dat (.bool a)) M) (h3 : a = true → Ev tc ρ M z M) (hr' : a = true → RV r' y z M (dat (.bool b)) M) : Ev (tChain r r' ta tb tc) ρ M (dat (.bool (a && b))) M := fun Φ σ H Q s q =>
  h1 Φ σ H _ s fun v H1 s1 => h2 _ σ H1 _ s1 fun w H2 s2 => by
    refine hr (Φ.and y w) ρ σ v w H2 _ (s2.weak (.of rfl fun F p => ⟨⟨⟨p.1.1, p.2⟩, p.1.2⟩, p.2⟩)) fun u H3 s3 => ?_
    have ⟨F, s4⟩ := s3
    cases s4.fr.2
    refine ⟨a, rfl, ?_⟩
    cases a with
    | false =>
      rw [if_neg Bool.false_ne_true]
      exact q _ H3 (s3.weak (.of rfl fun F p => ⟨p.1.1, p.2⟩))
    | true =>
      rw [if_pos rfl]
      refine h3 rfl _ σ H3 _ (s3.weak Le.and) fun c H4 s5 => ?_
      exact hr' rfl Φ ρ σ w c H4 Q s5 q
end
end Sx

set_option Elab.async false
set_option linter.all false
set_option maxRecDepth 100000
set_option maxHeartbeats 2000000
/-! Sx3: attributes, calls, statements, loops, comprehensions, by descriptions. -/
namespace Sx
open PySem L2 Evl

/-! ### attributes -/
inductive FGet (f : Str) (x : VD) : List Str → List VD → Prop
  | here {ns : List Str} {xs : List VD} : FGet f x (f :: ns) (x :: xs)
  | there {g : Str} {y : VD} {ns : List Str} {xs : List VD} : ¬ f = g → FGet f x ns xs → FGet f x (g :: ns) (y :: xs)
inductive FPut (f : Str) (y : VD) : List Str → List VD → List Str → List VD → Prop
  | here {z : VD} {ns : List Str} {xs : List VD} : FPut f y (f :: ns) (z :: xs) (f :: ns) (y :: xs)
  | there {g : Str} {z : VD} {ns ns' : List Str} {xs xs' : List VD} : ¬ g = f → FPut f y ns xs ns' xs' → FPut f y (g :: ns) (z :: xs) (g :: ns') (z :: xs')
  | new : FPut f y [] [] [f] [y]
theorem FA.cons_inv {F : Hp} {n : Str} {ns : List Str} {x : VD} {xs : List VD} {fs : List (Str × V)} (h : FA F (n :: ns) (x :: xs) fs) : ∃ v r, fs = (n, v) :: r ∧ x.P F v ∧ FA F ns xs r := by
  obtain ⟨h1, h2⟩ := h
  cases fs with
  | nil => simp at h1
  | cons a r =>
    obtain ⟨k, v⟩ := a
    simp only [List.map_cons, List.cons.injEq] at h1
    obtain ⟨rfl, h1⟩ := h1
    cases h2 with
    | cons q1 q2 => exact ⟨v, r, rfl, q1, h1, q2⟩
theorem FGet.look {f : Str} {x : VD} {F : Hp} {ns : List Str} {xs : List VD} (h : FGet f x ns xs) : ∀ {fs : List (Str × V)}, FA F ns xs fs → ∃ v, fs.lookup f = some v ∧ x.P F v := by
  induction h with
  | here =>
    intro fs a
    obtain ⟨v, r, rfl, q1, q2⟩ := a.cons_inv
    exact ⟨v, by simp [List.lookup], q1⟩
  | there hne _ ih =>
    intro fs a
    obtain ⟨v, r, rfl, q1, q2⟩ := a.cons_inv
    obtain ⟨w, h1, h2⟩ := ih q2
    refine ⟨w, ?_, h2⟩
    have hb : (f == _) = false := beq_eq_false_iff_ne.mpr hne
    simp only [List.lookup, hb]
    exact h1
theorem FPut.put {f : Str} {y : VD} {F : Hp} {v : V} (hv : y.P F v) {ns ns' : List Str} {xs xs' : List VD} (h : FPut f y ns xs ns' xs') : ∀ {fs : List (Str × V)}, FA F ns xs fs → FA F ns' xs' (putF f v fs) := by
  induction h with
  | here =>
    intro fs a
    obtain ⟨w, r, rfl, q1, q2⟩ := a.cons_inv
    rw [putF, if_pos rfl]
    exact ⟨by simp [q2.1], .cons hv q2.2⟩
  | there hne _ ih =>
    intro fs a
    obtain ⟨w, r, rfl, q1, q2⟩ := a.cons_inv
    rw [putF, if_neg hne]
    have := ih q2
    exact ⟨by simp [this.1], .cons q1 this.2⟩
  | new =>
    intro fs a
    obtain ⟨h1, h2⟩ := a
    cases fs with
    | nil => exact ⟨rfl, .cons hv .nil⟩
    | cons _ _ => simp at h1
theorem FA.lookup_none {F : Hp} {m : Str} : ∀ {ns : List Str} {xs : List VD} {fs : List (Str × V)}, FA F ns xs fs → m ∉ ns → fs.lookup m = none
  | [], xs, fs, h, _ => by
    cases fs with
    | nil => rfl
    | cons _ _ => simp [FA] at h
  | n :: ns, xs, fs, h, hm => by
    have hl := Paired.length h.2
    cases xs with
    | nil =>
      have := congrArg List.length h.1
      simp at this hl
      omega
    | cons x xs =>
      obtain ⟨v, r, rfl, q1, q2⟩ := h.cons_inv
      have hne : ¬ m = n := fun e => hm (e ▸ List.mem_cons_self)
      have hb : (m == n) = false := beq_eq_false_iff_ne.mpr hne
      simp only [List.lookup, hb]
      exact FA.lookup_none q2 fun z => hm (List.mem_cons_of_mem _ z)
theorem FA.len {F : Hp} {ns : List Str} {xs : List VD} {fs : List (Str × V)} (h : FA F ns xs fs) : fs.length = ns.length := by rw [← h.1, List.length_map]

section
variable {K : PySem.W.Frag} {ρ ρ' : Env} {M M1 M2 M3 M' : Cells} {x y z : VD} {te ta tb tv : TE} {t u : TS} {C p : Addr} {f : Str} {ns ns' : List Str} {xs xs' : List VD} {Φ : Fr} {D : Ends}
/-- what the text must have of a class: it is plain, none of the names is its own -/
structure ClsF (K : PySem.W.Frag) (C : Addr) (ns : List Str) : Prop where
  cl : Cls K C
  no : ∀ f ∈ ns, NoAttr K C f
theorem ev_fld (h : Ev ta ρ M (val (.ref p)) M1) (m : (p, cI C ns xs) ∈ M1) (c : ClsF K C ns') (hf : f ∈ ns') (g : FGet f x ns xs) : Ev (tFld K ta f) ρ M x M1 := fun Φ σ H Q s q => h Φ σ H _ s fun v H1 s1 => by
  have ⟨F, s2⟩ := s1
  have e : v = .ref p := s2.fr.2
  obtain ⟨o, h1, h0, dx, fs, rfl, h3⟩ := s2.at m
  obtain ⟨w, h4, h5⟩ := g.look h3
  exact ⟨p, C, dx, fs, w, e, h1, c.cl, c.no f hf, h4, q w H1 ⟨F, s2.ex, ⟨s2.fr.1, h5⟩, s2.sl, s2.nd, s2.ce⟩⟩

/-! ### calls -/
abbrev FSpec := List VD → Cells → (VD → Cells → Prop) → Prop
/-- one outcome alone -/
def Det (x : VD) (M : Cells) : VD → Cells → Prop := fun y N => y = x ∧ N = M
/-- a def's promise -/
def spF (n : Nat) (S : FSpec) : Sp := fun vs H Q _ => ∃ (Φ : Fr) (ρ : Env) (σ : L2.St) (ds : List VD) (M : Cells) (P : VD → Cells → Prop), Sat (Φ.andA ds vs) ρ M σ H ∧ vs.length = n ∧ S ds M P ∧
  ∀ x M' v H', P x M' → Sat (Φ.and x v) ρ M' σ H' → Q v H'
theorem spF_len {n : Nat} {S : FSpec} {vs : List V} {H : Hp} {Q : VK} {E : XK} (h : spF n S vs H Q E) : vs.length = n := let ⟨_, _, _, _, _, _, _, e, _⟩ := h; e
/-- several outcomes -/
def EvR (te : TE) (ρ : Env) (M : Cells) (P : VD → Cells → Prop) : Prop := ∀ (Φ : Fr) (σ : L2.St) (H : Hp) (Q : VK), Sat Φ ρ M σ H → (∀ x M' v H', P x M' → Sat (Φ.and x v) ρ M' σ H' → Q v H') → te σ H Q
theorem EvR.of (h : Ev te ρ M x M') : EvR te ρ M (Det x M') := fun Φ σ H Q s q => h Φ σ H Q s fun v H' s' => q x M' v H' ⟨rfl, rfl⟩ s'
theorem EvR.ev (h : EvR te ρ M (Det x M')) : Ev te ρ M x M' := fun Φ σ H Q s q => h Φ σ H Q s fun x1 M1 v H' ⟨e1, e2⟩ s' => by
  subst e1; subst e2
  exact q v H' s'
theorem EvR.imp {P P' : VD → Cells → Prop} (h : EvR te ρ M P) (k : ∀ x M', P x M' → P' x M') : EvR te ρ M P' := fun Φ σ H Q s q => h Φ σ H Q s fun x M' v H' p s' => q x M' v H' (k x M' p) s'
theorem er_call {n : Nat} {S : FSpec} {P : VD → Cells → Prop} {E : XK} {ta : TA} {ds : List VD} (h : EvA ta ρ M ds M1) (hn : ds.length = n) (hS : S ds M1 P) : EvR (tCall (spF n S) [] E ta) ρ M P := fun Φ σ H Q s q =>
  h Φ σ H _ s fun vs H1 s1 => by
    have ⟨F, s2⟩ := s1
    have hl := Paired.length s2.fr.2
    rw [List.append_nil]
    exact ⟨Φ, ρ, σ, ds, M1, P, s1, by rw [← hl]; exact hn, hS, fun x M' v H' p s' => q x M' v H' p s'⟩
theorem ev_call {n : Nat} {S : FSpec} {E : XK} {ta : TA} {ds : List VD} (h : EvA ta ρ M ds M1) (hn : ds.length = n) (hS : S ds M1 (Det x M2)) : Ev (tCall (spF n S) [] E ta) ρ M x M2 := (er_call h hn hS).ev
theorem er_meth {n : Nat} {S : FSpec} {P : VD → Cells → Prop} {E : XK} {m : Str} {t : TA} {ds : List VD} (ho : Ev ta ρ M (val (.ref p)) M1) (hm : (p, cI C ns xs) ∈ M1) (hf : m ∉ ns) (h : EvA t ρ M1 ds M2) (hn : ds.length + 1 = n) (hS : S (val (.ref p) :: ds) M2 P) : EvR (tMeth C m (spF n S) [] E ta t) ρ M P := fun Φ σ H Q s q =>
  ho Φ σ H _ s fun v H1 s1 => by
    have ⟨F, s2⟩ := s1
    have e : v = .ref p := s2.fr.2
    obtain ⟨o, h1, h0, dx, fs, rfl, h3⟩ := s2.at hm
    refine ⟨p, dx, fs, e, h1, h3.lookup_none hf, h _ σ H1 _ s1 fun vs H2 s3 => ?_⟩
    have ⟨F', s4⟩ := s3
    have hl := Paired.length s4.fr.2
    rw [List.append_nil]
    exact ⟨Φ, ρ, σ, val (.ref p) :: ds, M2, P, s3.weak (.of rfl fun F h => ⟨h.1.1, .cons h.1.2 h.2⟩), by rw [List.length_cons, ← hl]; exact hn, hS, fun x M' v H' p s' => q x M' v H' p s'⟩
theorem ev_meth {n : Nat} {S : FSpec} {E : XK} {m : Str} {t : TA} {ds : List VD} (ho : Ev ta ρ M (val (.ref p)) M1) (hm : (p, cI C ns xs) ∈ M1) (hf : m ∉ ns) (h : EvA t ρ M1 ds M2) (hn : ds.length + 1 = n) (hS : S (val (.ref p) :: ds) M2 (Det x M3)) : Ev (tMeth C m (spF n S) [] E ta t) ρ M x M3 := (er_meth ho hm hf h hn hS).ev
/-- C(..): the new instance anywhere -/
theorem er_make {n : Nat} {S : FSpec} {P : VD → Cells → Prop} {E : XK} {t : TA} {ds : List VD} (h : EvA t ρ M ds M1) (hn : ds.length + 1 = n) (hS : ∀ p, S (val (.ref p) :: ds) ((p, cI C [] []) :: M1) fun y M' => y = vn ∧ P (val (.ref p)) M') : EvR (tMake C (spF n S) [] E t) ρ M P := fun Φ σ H Q s q =>
  h Φ σ H _ s fun vs H1 s1 => fun x dx hx hdx hne => by
    have ⟨F, s2⟩ := s1
    have hl := Paired.length s2.fr.2
    rw [List.append_nil]
    have s3 := (s2.newH (o := .own x) hdx).newC (c := cI C [] []) (o := .ins C dx []) (p := x) (by rw [upd_ne hne.symm]; exact hx) fun e => ⟨e, dx, [], rfl, rfl, .nil⟩
    refine ⟨Φ, ρ, σ, val (.ref x) :: ds, (x, cI C [] []) :: M1, fun y M' => y = vn ∧ P (val (.ref x)) M', ⟨F, s3.weak (.of rfl fun F h => ⟨h.1, .cons rfl h.2⟩)⟩, by rw [List.length_cons, ← hl]; exact hn, hS x, fun y M' v H' hp s' => ?_⟩
    obtain ⟨rfl, hp⟩ := hp
    have ⟨F', s5⟩ := s'
    refine ⟨?_, q (val (.ref x)) M' (.ref x) H' hp ⟨F', s5.ex, ⟨s5.fr.1, rfl⟩, s5.sl, s5.nd, s5.ce⟩⟩
    have e : Rp F' v .none := s5.fr.2
    cases e
    rfl

/-! ### built-in calls, methods of built-in types -/
theorem ev_cb {r : List V → Hp → VK → Prop} {ta : TA} {ds : List VD} (h : EvA ta ρ M ds M1) (hr : RC r ds M1 z M2) : Ev (tCB r ta) ρ M z M2 := fun Φ σ H Q s q => h Φ σ H _ s fun vs H1 s1 => hr Φ ρ σ vs H1 Q s1 q
def IsTy (K : PySem.W.Frag) (T : String) (x : VD) (M : Cells) : Prop := ∀ {F Φ ρ σ H v}, SatF F Φ ρ M σ H → x.P F v → tyV K T v H
theorem ity_l {ds : List VD} (h : IsLstV x M ds) : IsTy K "list" x M := fun s q => by
  obtain ⟨a, ws, rfl, h1, _⟩ := h s q
  exact .inl ⟨rfl, ws, sq_of h1⟩
theorem ity_s {i : Str} : IsTy K "str" (dat (.str i)) M := fun s q => by cases q; exact rfl
theorem ev_bm {T : String} {r : V → List V → Hp → VK → Prop} {ta : TA} {ds : List VD} (ho : Ev tb ρ M x M1) (ty : IsTy K T x M1) (h : EvA ta ρ M1 ds M2) (hr : RM r x ds M2 z M3) : Ev (tBM K T r tb ta) ρ M z M3 := fun Φ σ H Q s q =>
  ho Φ σ H _ s fun v H1 ⟨F, s1⟩ => ⟨ty s1 s1.fr.2, h _ σ H1 _ ⟨F, s1⟩ fun vs H2 s2 => hr Φ ρ σ v vs H2 Q s2 q⟩
theorem ev_bm0 {T : String} {r : V → List V → Hp → VK → Prop} (ho : Ev tb ρ M x M1) (ty : IsTy K T x M1) (hr : RM r x [] M1 z M2) : Ev (tBM0 K T r tb) ρ M z M2 := fun Φ σ H Q s q =>
  ho Φ σ H _ s fun v H1 ⟨F, s1⟩ => ⟨ty s1 s1.fr.2, hr Φ ρ σ v [] H1 Q ⟨F, s1.ex, ⟨s1.fr, .nil⟩, s1.sl, s1.nd, s1.ce⟩ q⟩
/-- xs.append(e) -/
theorem rm_append {ds : List PyData} {d : PyData} (h : Put p (cLd ds) (cLd (ds ++ [d])) M M') (hl : ds.length < sizeLine) : RM rAppend (val (.ref p)) [dat d] M vn M' := fun Φ ρ σ v vs H Q ⟨F, s⟩ q => by
  have e : v = .ref p := s.fr.1.2
  cases s.fr.2 with
  | cons q1 q2 =>
    cases q2
    obtain ⟨o, h1, h0, ws, rfl, h3⟩ := s.at h.mem
    refine ⟨p, ws, _, e, rfl, h1, by rw [h3.length]; exact hl, q .non _ ⟨F, ?_⟩⟩
    have s' := s.put1 (o := .lst (ws ++ [_])) h h0 ⟨h0, _, rfl, h3.append (.cons q1 .nil)⟩
    exact ⟨s'.ex, ⟨s'.fr.1.1, .non⟩, s'.sl, s'.nd, s'.ce⟩
theorem rm_appendV {ds : List VD} {d : VD} (h : Put p (cL ds) (cL (ds ++ [d])) M M') (hl : ds.length < sizeLine) : RM rAppend (val (.ref p)) [d] M vn M' := fun Φ ρ σ v vs H Q ⟨F, s⟩ q => by
  have e : v = .ref p := s.fr.1.2
  cases s.fr.2 with
  | cons q1 q2 =>
    cases q2
    obtain ⟨o, h1, h0, ws, rfl, h3⟩ := s.at h.mem
    refine ⟨p, ws, _, e, rfl, h1, by rw [← Paired.length h3]; exact hl, q .non _ ⟨F, ?_⟩⟩
    have s' := s.put1 (o := .lst (ws ++ [_])) h h0 ⟨h0, _, rfl, h3.append (.cons q1 .nil)⟩
    exact ⟨s'.ex, ⟨s'.fr.1.1, .non⟩, s'.sl, s'.nd, s'.ce⟩
/-- len -/
def rLen (K : PySem.W.Frag) : List V → Hp → VK → Prop := fun xs H Q => ∃ x n, xs = [x] ∧ LenV K x H n ∧ Q (.int n) H
theorem call_len' {X : Cx} : CallR X (.builtin "len") (rLen X.K) := call_len
def rLenD : List V → Hp → VK → Prop := fun xs H Q => ∃ a kvs, xs = [V.ref a] ∧ H a = some (.dK kvs) ∧ Q (.int kvs.length) H
def rLenU (K : PySem.W.Frag) : List V → Hp → VK → Prop := fun xs H Q => rLen K xs H Q ∨ rLenD xs H Q
theorem call_lenU {X : Cx} : CallR X (.builtin "len") (rLenU X.K) := call_len'.or call_lenD
theorem rc1 {ds : List VD} {F : Hp} {vs : List V} (h : DA F [x] vs) : ∃ v, vs = [v] ∧ x.P F v := by
  cases h with
  | cons q1 q2 => cases q2; exact ⟨_, rfl, q1⟩
theorem rc2 {F : Hp} {vs : List V} (h : DA F [x, y] vs) : ∃ v w, vs = [v, w] ∧ x.P F v ∧ y.P F w := by
  cases h with
  | cons q1 q2 =>
    cases q2 with
    | cons q3 q4 => cases q4; exact ⟨_, _, rfl, q1, q3⟩
theorem SatF.base1 {F : Hp} {σ : L2.St} {H : Hp} {ds : List VD} {vs : List V} (s : SatF F (Φ.andA ds vs) ρ M σ H) : SatF F Φ ρ M σ H := s.weak Le.andA
theorem rc_len {ds : List VD} (hx : IsSeq K x M ds) : RC (rLenU K) [x] M (dat (.int ds.length)) M := fun Φ ρ σ vs H Q ⟨F, s⟩ q => by
  obtain ⟨v, rfl, h1⟩ := rc1 (ds := []) s.fr.2
  obtain ⟨a, ws, rfl, h2, h3⟩ := hx s h1
  have hl := Paired.length h3
  refine .inl ⟨_, ws.length, rfl, ?_, q _ _ (Sat.ret s.base1 (by rw [← hl]; exact .int _))⟩
  rcases h2 with h2 | h2
  · exact .inl ⟨ws, h2, rfl⟩
  · exact .inr ⟨ws, h2, rfl⟩
theorem rc_lenL {ds : List PyData} (hx : IsLst x M ds) : RC (rLenU K) [x] M (dat (.int ds.length)) M := by
  have h := rc_len (K := K) (iss_l (K := K) hx.v)
  rw [List.length_map] at h; exact h
theorem rc_lenT {ds : List PyData} (hx : IsTup x M ds) : RC (rLenU K) [x] M (dat (.int ds.length)) M := by
  have h := rc_len (K := K) (iss_t (K := K) hx.v)
  rw [List.length_map] at h; exact h
theorem rc_lenScr {is : List Int} : RC (rLenU K) [vscr K is] M (dat (.int is.length)) M := fun Φ ρ σ vs H Q ⟨F, s⟩ q => by
  obtain ⟨v, rfl, a, rfl, h1⟩ := rc1 (ds := []) s.fr.2
  refine .inl ⟨_, (is.map V.int).length, rfl, .inl ⟨_, ex_l s.ex h1, rfl⟩, q _ _ (Sat.ret s.base1 (by rw [List.length_map]; exact .int _))⟩
theorem rc_lenS {i : Str} (h : i.length ≤ sizeLine) : RC (rLenU K) [dat (.str i)] M (dat (.int i.length)) M := fun Φ ρ σ vs H Q ⟨F, s⟩ q => by
  obtain ⟨v, rfl, h1⟩ := rc1 (ds := []) s.fr.2
  cases h1
  exact .inl ⟨_, i.length, rfl, ⟨h, rfl⟩, q _ _ (Sat.ret s.base1 (.int _))⟩
/-- tuple(xs), list(xs) -/
def rTupOf (K : PySem.W.Frag) : List V → Hp → VK → Prop := fun xs H Q => ∃ p ys, xs = [.ref p] ∧ ((SqL K H p ys ∧ ∀ l, H l = none → Q (.ref l) (upd H l (.tup ys))) ∨ (SqT K H p ys ∧ Q (.ref p) H))
theorem call_tuple_of' {X : Cx} : CallR X (.type "tuple") (rTupOf X.K) := call_tuple_of
def rLstOf (K : PySem.W.Frag) : List V → Hp → VK → Prop := fun xs H Q => ∃ p ys, xs = [.ref p] ∧ (SqL K H p ys ∨ SqT K H p ys) ∧ ∀ l, H l = none → Q (.ref l) (upd H l (.lst ys))
theorem call_list_of' {X : Cx} : CallR X (.type "list") (rLstOf X.K) := call_list_of
theorem rc_tupL {ds : List PyData} (hx : IsLst x M ds) : RC (rTupOf K) [x] M (dat (.tuple ds)) M := fun Φ ρ σ vs H Q ⟨F, s⟩ q => by
  obtain ⟨v, rfl, h1⟩ := rc1 (ds := []) s.fr.2
  obtain ⟨a, ws, rfl, h2, h3⟩ := hx s h1
  exact ⟨a, ws, rfl, .inl ⟨sq_of h2, fun l hl => q _ _ (Sat.retNew s.base1 hl fun F' fx e => .tup e (h3.mono fx))⟩⟩
theorem rc_tupT {ds : List PyData} : RC (rTupOf K) [dat (.tuple ds)] M (dat (.tuple ds)) M := fun Φ ρ σ vs H Q ⟨F, s⟩ q => by
  obtain ⟨v, rfl, h1⟩ := rc1 (ds := []) s.fr.2
  have h1' := h1
  obtain ⟨a, ws, rfl, h2, h3⟩ := ist_dat s h1
  exact ⟨a, ws, rfl, .inr ⟨st_of h2, q _ _ (Sat.ret s.base1 h1')⟩⟩
theorem rc_lstL {ds : List PyData} (hx : IsLst x M ds) : RC (rLstOf K) [x] M (dat (.list ds)) M := fun Φ ρ σ vs H Q ⟨F, s⟩ q => by
  obtain ⟨v, rfl, h1⟩ := rc1 (ds := []) s.fr.2
  obtain ⟨a, ws, rfl, h2, h3⟩ := hx s h1
  exact ⟨a, ws, rfl, .inl (sq_of h2), fun l hl => q _ _ (Sat.retNew s.base1 hl fun F' fx e => .lst e (h3.mono fx))⟩
theorem rc_lstT {ds : List PyData} (hx : IsTup x M ds) : RC (rLstOf K) [x] M (dat (.list ds)) M := fun Φ ρ σ vs H Q ⟨F, s⟩ q => by
  obtain ⟨v, rfl, h1⟩ := rc1 (ds := []) s.fr.2
  obtain ⟨a, ws, rfl, h2, h3⟩ := hx s h1
  exact ⟨a, ws, rfl, .inr (st_of h2), fun l hl => q _ _ (Sat.retNew s.base1 hl fun F' fx e => .lst e (h3.mono fx))⟩
/-- any, all of a list of truth values -/
theorem rc_any {bs : List Bool} (hx : IsLst x M (bs.map PyData.bool)) : RC (rAny K) [x] M (dat (.bool (bs.any id))) M := fun Φ ρ σ vs H Q ⟨F, s⟩ q => by
  obtain ⟨v, rfl, h1⟩ := rc1 (ds := []) s.fr.2
  obtain ⟨a, ws, rfl, h2, h3⟩ := hx s h1
  cases h3.bls
  exact ⟨a, bs, rfl, sq_of h2, q _ _ (Sat.ret s.base1 (.bl _))⟩
theorem rc_all {bs : List Bool} (hx : IsLst x M (bs.map PyData.bool)) : RC (rAll K) [x] M (dat (.bool (bs.all id))) M := fun Φ ρ σ vs H Q ⟨F, s⟩ q => by
  obtain ⟨v, rfl, h1⟩ := rc1 (ds := []) s.fr.2
  obtain ⟨a, ws, rfl, h2, h3⟩ := hx s h1
  cases h3.bls
  exact ⟨a, bs, rfl, sq_of h2, q _ _ (Sat.ret s.base1 (.bl _))⟩
/-- max, min of two ints; abs; int -/
def rMax2 : List V → Hp → VK → Prop := fun xs H Q => ∃ i j, xs = [.int i, .int j] ∧ Q (.int (if j > i then j else i)) H
def rMin2 : List V → Hp → VK → Prop := fun xs H Q => ∃ i j, xs = [.int i, .int j] ∧ Q (.int (if j < i then j else i)) H
def rAbs : List V → Hp → VK → Prop := fun xs H Q => ∃ i, xs = [.int i] ∧ Q (.int (if i < 0 then -i else i)) H
def rInt1 : List V → Hp → VK → Prop := fun xs H Q => (∃ i, xs = [.int i] ∧ Q (.int i) H) ∨ ∃ k, xs = [.bl k] ∧ Q (.int (if k then 1 else 0)) H
theorem call_max2' {X : Cx} (hc : X.calm = true) : CallR X (.builtin "max") rMax2 := call_max2 hc
theorem call_min2' {X : Cx} (hc : X.calm = true) : CallR X (.builtin "min") rMin2 := call_min2 hc
theorem call_abs' {X : Cx} : CallR X (.builtin "abs") rAbs := call_abs
theorem call_int1' {X : Cx} : CallR X (.type "int") rInt1 := call_int1
theorem rc_max2 {i j : Int} : RC rMax2 [dat (.int i), dat (.int j)] M (dat (.int (max i j))) M := fun Φ ρ σ vs H Q ⟨F, s⟩ q => by
  obtain ⟨v, w, rfl, h1, h2⟩ := rc2 s.fr.2
  cases h1; cases h2
  have e : (if j > i then j else i) = max i j := by split <;> omega
  exact ⟨i, j, rfl, by rw [e]; exact q _ _ (Sat.ret s.base1 (.int _))⟩
theorem rc_min2 {i j : Int} : RC rMin2 [dat (.int i), dat (.int j)] M (dat (.int (min i j))) M := fun Φ ρ σ vs H Q ⟨F, s⟩ q => by
  obtain ⟨v, w, rfl, h1, h2⟩ := rc2 s.fr.2
  cases h1; cases h2
  have e : (if j < i then j else i) = min i j := by split <;> omega
  exact ⟨i, j, rfl, by rw [e]; exact q _ _ (Sat.ret s.base1 (.int _))⟩
theorem rc_abs {i : Int} : RC rAbs [dat (.int i)] M (dat (.int (if i < 0 then -i else i))) M := fun Φ ρ σ vs H Q ⟨F, s⟩ q => by
  obtain ⟨v, rfl, h1⟩ := rc1 (ds := []) s.fr.2
  cases h1
  exact ⟨i, rfl, q _ _ (Sat.ret s.base1 (.int _))⟩
theorem rc_int {i : Int} : RC rInt1 [dat (.int i)] M (dat (.int i)) M := fun Φ ρ σ vs H Q ⟨F, s⟩ q => by
  obtain ⟨v, rfl, h1⟩ := rc1 (ds := []) s.fr.2
  cases h1
  exact .inl ⟨i, rfl, q _ _ (Sat.ret s.base1 (.int _))⟩
end

/-! ### statements -/
def Cont (k : L2.St → Hp → Prop) (Φ : Fr) (ρ : Env) (M : Cells) : Prop := ∀ σ H, Sat Φ ρ M σ H → k σ H
/-- a word between -/
def InvK (Φ : Fr) (J : Env → Cells → Prop) : L2.St → Hp → Prop := fun σ H => ∃ ρ M, J ρ M ∧ Sat Φ ρ M σ H
/-- what is wanted of what is handed back -/
def RtQ (Q : VK) (Φ : Fr) (P : VD → Cells → Prop) : Prop := ∀ Φ' ρ σ x M v H, Le Φ' Φ → P x M → Sat (Φ'.and x v) ρ M σ H → Q v H
abbrev fnD (Q : VK) : Ends := { nx := fun _ H' => Q .non H', rt := Q }
section
variable {K : PySem.W.Frag} {ρ ρ' ρ1 : Env} {M M1 M2 M3 M' : Cells} {x y z : VD} {te ta tb tv : TE} {t u : TS} {tc : TT} {C p : Addr} {f : Str} {ns ns' nn : List Str} {xs xs' : List VD} {Φ Ψ : Fr} {D : Ends} {Q : VK} {P : VD → Cells → Prop} {J : Env → Cells → Prop}
theorem c_seq (h : Cont (t { D with nx := u D }) Φ ρ M) : Cont (tSeq t u D) Φ ρ M := h
theorem c_cut (h : Cont (t { D with nx := u D }) Φ ρ M) : Cont (tCut t u D) Φ ρ M := fun σ H s => ⟨u D, h σ H s, fun _ _ h => h⟩
/-- .. by a word -/
theorem c_cutW (J : Env → Cells → Prop) (h : Cont (t { D with nx := InvK Φ J }) Φ ρ M) (k : ∀ ρ' M', J ρ' M' → Cont (u D) Φ ρ' M') : Cont (tCut t u D) Φ ρ M := fun σ H s => ⟨InvK Φ J, h σ H s, fun σ' H' ⟨ρ', M', j, s'⟩ => k ρ' M' j σ' H' s'⟩
theorem c_inv (j : J ρ M) (l : Le Ψ Φ) : Cont (InvK Φ J) Ψ ρ M := fun σ H s => ⟨ρ, M, j, s.weak l⟩
theorem c_ret (h : Ev te ρ M x M1) (hQ : RtQ D.rt Φ P) (hP : P x M1) (l : Le Ψ Φ) : Cont (tRet te D) Ψ ρ M := fun σ H s => h Ψ σ H _ s fun v H1 s1 => hQ Ψ ρ σ x M1 v H1 l hP s1
theorem c_retR {P' : VD → Cells → Prop} (h : EvR te ρ M P') (hQ : RtQ D.rt Φ P) (hP : ∀ x M1, P' x M1 → P x M1) (l : Le Ψ Φ) : Cont (tRet te D) Ψ ρ M := fun σ H s => h Ψ σ H _ s fun x M1 v H1 p s1 => hQ Ψ ρ σ x M1 v H1 l (hP x M1 p) s1
theorem Sat.non (s : Sat Φ ρ M σ H) : Sat (Φ.and vn .non) ρ M σ H := let ⟨F, s⟩ := s; ⟨F, s.ex, ⟨s.fr, .non⟩, s.sl, s.nd, s.ce⟩
theorem c_retN (hQ : RtQ D.rt Φ P) (hP : P vn M) (l : Le Ψ Φ) : Cont (tRetN D) Ψ ρ M := fun σ H s => hQ Ψ ρ σ vn M .non H l hP s.non
theorem c_end (hQ : RtQ Q Φ P) (hP : P vn M) (l : Le Ψ Φ) : Cont (fun _ H' => Q .non H') Ψ ρ M := fun σ H s => hQ Ψ ρ σ vn M .non H l hP s.non
theorem c_next (h : Cont D.nx Φ ρ M) : Cont (tNext D) Φ ρ M := h
theorem c_break (h : Cont D.bk Φ ρ M) : Cont (tBreak D) Φ ρ M := h
theorem c_cont (h : Cont D.ct Φ ρ M) : Cont (tCont D) Φ ρ M := h
theorem Sat.asg {v : V} {σ : L2.St} {H : Hp} {i : Nat} (s : Sat (Φ.and x v) ρ M σ H) (h : SetAt x ρ i ρ') : Sat Φ ρ' M (σ.set i (some v)) H := by
  obtain ⟨F, s⟩ := s
  rw [h.eq]
  exact ⟨F, s.ex, s.fr.1, s.sl.set s.fr.2, s.nd, s.ce⟩
theorem c_asg {i : Nat} (h : Ev te ρ M x M1) (hs : SetAt x ρ i ρ') (k : Cont D.nx Φ ρ' M1) : Cont (tAsg te (gName i) D) Φ ρ M := fun σ H s => h Φ σ H _ s fun v H1 s1 => k _ _ (s1.asg hs)
theorem c_asgR {i : Nat} (h : EvR te ρ M P) (k : ∀ x M1, P x M1 → ∃ ρ', SetAt x ρ i ρ' ∧ Cont D.nx Φ ρ' M1) : Cont (tAsg te (gName i) D) Φ ρ M := fun σ H s => h Φ σ H _ s fun x M1 v H1 p s1 => by
  obtain ⟨ρ', hs, k⟩ := k x M1 p
  exact k _ _ (s1.asg hs)
theorem c_drop (h : Ev te ρ M x M1) (k : Cont D.nx Φ ρ M1) : Cont (tDrop te D) Φ ρ M := fun σ H s => h Φ σ H _ s fun v H1 s1 => k σ H1 s1.weak1
theorem c_dropR (h : EvR te ρ M P) (k : ∀ x M1, P x M1 → Cont D.nx Φ ρ M1) : Cont (tDrop te D) Φ ρ M := fun σ H s => h Φ σ H _ s fun x M1 v H1 p s1 => k x M1 p σ H1 s1.weak1
theorem c_if {b : Bool} (h : EvT tc ρ M b M1) (h1 : b = true → Cont (t D) Φ ρ M1) (h2 : b = false → Cont (u D) Φ ρ M1) : Cont (tIfS tc t u D) Φ ρ M := fun σ H s => h Φ σ H _ s fun H1 s1 => by
  cases b with
  | true => rw [if_pos rfl]; exact h1 rfl σ H1 s1
  | false => rw [if_neg Bool.false_ne_true]; exact h2 rfl σ H1 s1
theorem c_aug {i : Nat} {g : Int → Int → Int} {a b : Int} (h0 : At (dat (.int a)) ρ i) (h : Ev te ρ M (dat (.int b)) M1) (hs : SetAt (dat (.int (g a b))) ρ i ρ') (k : Cont D.nx Φ ρ' M1) : Cont (tAug i te (ipI g) D) Φ ρ M := fun σ H s => by
  have ⟨F, s0⟩ := s
  obtain ⟨v, h1, h2⟩ := s0.sl.2 i _ h0.get
  cases h2
  refine ⟨_, h1, h Φ σ H _ s fun w H1 s1 => ?_⟩
  have ⟨F1, s2⟩ := s1
  cases s2.fr.2
  refine ⟨a, b, rfl, rfl, k _ _ ?_⟩
  rw [hs.eq]
  exact ⟨F1, s2.ex, s2.fr.1, s2.sl.set (.int _), s2.nd, s2.ce⟩
theorem c_fld (hv : Ev tv ρ M y M1) (ho : Ev ta ρ M1 (val (.ref p)) M2) (h : Put p (cI C ns xs) (cI C ns' xs') M2 M3) (g : FPut f y ns xs ns' xs') (c : ClsF K C nn) (hf : f ∈ nn) (hl : ns.length < 1000) (k : Cont D.nx Φ ρ M3) : Cont (sFld K ta tv f D) Φ ρ M := fun σ H s =>
  hv Φ σ H _ s fun v H1 s1 => ho _ σ H1 _ s1 fun w H2 ⟨F, s2⟩ => by
    have e : w = .ref p := s2.fr.2
    obtain ⟨o, h1, h0, dx, fs, rfl, h3⟩ := s2.at h.mem
    refine ⟨p, C, dx, fs, e, h1, c.cl, c.no f hf, by rw [h3.len]; exact hl, k σ _ ⟨F, ?_⟩⟩
    exact (s2.put1 (o := .ins C dx (putF f v fs)) h h0 ⟨h0, dx, _, rfl, g.put s2.fr.1.2 h3⟩).weak (.of rfl fun F h => h.1.1)
end
end Sx

set_option Elab.async false
set_option linter.all false
set_option maxRecDepth 100000
set_option maxHeartbeats 2000000
/-! Sx4: targets, loops, comprehensions, by descriptions; a def's body. -/
namespace Sx
open PySem L2 Evl
section
variable {K : PySem.W.Frag} {ρ ρ' ρ1 ρ2 : Env} {M M1 M2 M3 M' : Cells} {x y z : VD} {te ta tb tv : TE} {t u : TS} {tt : TT} {C p : Addr} {Φ Ψ : Fr} {D : Ends} {P : VD → Cells → Prop} {J : Env → Cells → Prop}
/-! ### targets: what they store, where -/
def Tgt (g : TG) (js : List Nat) (x : VD) (ρ : Env) (ρ' : Env) : Prop := ∀ (Φ : Fr) (M : Cells) (v : V) (σ : L2.St) (H : Hp) (k : L2.St → Hp → Prop), Sat (Φ.and x v) ρ M σ H →
  (∀ σ', (∀ i, i ∉ js → σ'[i]? = σ[i]?) → σ'.length = σ.length → Sat Φ ρ' M σ' H → k σ' H) → g v σ H k
def Tgts (g : TGs) (js : List Nat) (xs : List VD) (ρ : Env) (ρ' : Env) : Prop := ∀ (Φ : Fr) (M : Cells) (vs : List V) (σ : L2.St) (H : Hp) (k : L2.St → Hp → Prop), Sat (Φ.andA xs vs) ρ M σ H →
  (∀ σ', (∀ i, i ∉ js → σ'[i]? = σ[i]?) → σ'.length = σ.length → Sat Φ ρ' M σ' H → k σ' H) → g vs σ H k
theorem tg_name {i : Nat} (h : SetAt x ρ i ρ') : Tgt (gName i) [i] x ρ ρ' := fun Φ M v σ H k s q => q _ (fun j hj => List.getElem?_set_ne (by simpa using Ne.symm (by simpa using hj))) (by simp) (s.asg h)
theorem tgs_nil : Tgts gNil [] [] ρ ρ := fun Φ M vs σ H k ⟨F, s⟩ q => by
  have e := s.fr.2
  cases e
  exact ⟨rfl, q σ (fun _ _ => rfl) rfl ⟨F, s.base1⟩⟩
theorem tgs_cons {g : TG} {gs : TGs} {js ks : List Nat} {xs : List VD} (h : Tgt g js x ρ ρ1) (hs : Tgts gs ks xs ρ1 ρ2) : Tgts (gCons g gs) (js ++ ks) (x :: xs) ρ ρ2 := fun Φ M vs σ H k s q => by
  have ⟨F, s0⟩ := s
  have e := s0.fr.2
  cases vs with
  | nil => cases e
  | cons v r =>
    refine ⟨v, r, rfl, h (Φ.andA xs r) M v σ H _ (s.weak (.of rfl fun F h => by
      cases h.2 with
      | cons q1 q2 => exact ⟨⟨h.1, q2⟩, q1⟩)) fun σ1 hj hl s1 => ?_⟩
    exact hs Φ M r σ1 H k s1 fun σ2 hk hl2 s2 => q σ2 (fun i hi => (hk i (fun z => hi (List.mem_append_right _ z))).trans (hj i fun z => hi (List.mem_append_left _ z))) (hl2.trans hl) s2
theorem tg_tup {gs : TGs} {js : List Nat} {n : Nat} {xs : List VD} (hx : ∀ {M}, IsTupV x M xs) (hs : Tgts gs js xs ρ ρ') (hn : xs.length = n) : Tgt (gTup K n gs) js x ρ ρ' := fun Φ M v σ H k ⟨F, s⟩ q => by
  obtain ⟨a, ws, rfl, h1, h2⟩ := hx s s.fr.2
  exact ⟨a, ws, rfl, st_of h1, by rw [← Paired.length h2]; exact hn, hs Φ M ws σ H k ⟨F, s.ex, ⟨s.fr.1, h2⟩, s.sl, s.nd, s.ce⟩ q⟩
theorem tg_tupD {gs : TGs} {js : List Nat} {n : Nat} {ds : List PyData} (hs : Tgts gs js (ds.map dat) ρ ρ') (hn : ds.length = n) : Tgt (gTup K n gs) js (dat (.tuple ds)) ρ ρ' := tg_tup ist_dat.v hs (by rw [List.length_map]; exact hn)
theorem c_asgG {g : TG} {js : List Nat} (h : Ev te ρ M x M1) (hg : Tgt g js x ρ ρ') (k : Cont D.nx Φ ρ' M1) : Cont (tAsg te g D) Φ ρ M := fun σ H s => h Φ σ H _ s fun v H1 s1 => hg Φ M1 v σ H1 _ s1 fun σ' _ _ s' => k σ' H1 s'
/-- a, b = e1, e2 -/
theorem c_par {i j : Nat} {ta : TA} (h : EvA ta ρ M [x, y] M1) (h1 : SetAt x ρ i ρ1) (h2 : SetAt y ρ1 j ρ2) (k : Cont D.nx Φ ρ2 M1) : Cont (tPar i j ta D) Φ ρ M := fun σ H s => h Φ σ H _ s fun vs H1 s1 => by
  have ⟨F, s0⟩ := s1
  obtain ⟨v, w, rfl, q1, q2⟩ := rc2 s0.fr.2
  refine ⟨v, w, rfl, k _ _ ?_⟩
  have s2 : Sat ((Φ.and y w).and x v) ρ M1 σ H1 := s1.weak (.of rfl fun F h => by
    obtain ⟨v', w', e, q1, q2⟩ := rc2 h.2
    cases e
    exact ⟨⟨h.1, q2⟩, q1⟩)
  exact (s2.asg h1).asg h2
theorem c_par3 {i j l : Nat} {ta : TA} {ρ3 : Env} (h : EvA ta ρ M [x, y, z] M1) (h1 : SetAt x ρ i ρ1) (h2 : SetAt y ρ1 j ρ2) (h3 : SetAt z ρ2 l ρ3) (k : Cont D.nx Φ ρ3 M1) : Cont (tPar3 i j l ta D) Φ ρ M := fun σ H s => h Φ σ H _ s fun vs H1 s1 => by
  have ⟨F, s0⟩ := s1
  obtain ⟨v, w, u', rfl⟩ : ∃ a b c, vs = [a, b, c] := by
    have e := Paired.length s0.fr.2
    match vs, e with
    | [a, b, c], _ => exact ⟨a, b, c, rfl⟩
  refine ⟨v, w, u', rfl, k _ _ ?_⟩
  have s2 : Sat (((Φ.and z u').and y w).and x v) ρ M1 σ H1 := s1.weak (.of rfl fun F h => by
    cases h.2 with
    | cons q1 q2 =>
      cases q2 with
      | cons q3 q4 =>
        cases q4 with
        | cons q5 q6 => exact ⟨⟨⟨h.1, q5⟩, q3⟩, q1⟩)
  exact ((s2.asg h1).asg h2).asg h3

/-! ### what is walked -/
def Walks (J : It) (Ψ : Fr) (its : List VD) : Prop := ∃ (G : Hp → Prop) (Y : Nat → Hp → V → Hp → Prop), Walk J its.length G Y ∧ (∀ Φ ρ M σ H, Le Φ Ψ → Sat Φ ρ M σ H → G H) ∧
  ∀ (i : Nat) (d : VD) (x : V) (H H' : Hp) (Φ : Fr) (ρ : Env) (M : Cells) (σ : L2.St), its[i]? = some d → Le Φ Ψ → Sat Φ ρ M σ H → Y i H x H' → Sat (Φ.and d x) ρ M σ H'
def EvI (wi : TI) (ρ : Env) (M : Cells) (its : List VD) (M' : Cells) : Prop := ∀ (Φ : Fr) (σ : L2.St) (H : Hp) (R : It → Hp → Prop), Sat Φ ρ M σ H → (∀ J H' Ψ, Le Ψ Φ → Sat Ψ ρ M' σ H' → Walks J Ψ its → R J H') → wi σ H R
theorem ei_vec {K : PySem.W.Frag} {ds : List VD} {a : Addr} {ws : List V} (hl : ws.length = ds.length) (hq : ∀ Φ ρ M σ H, Le Φ Ψ → Sat Φ ρ M σ H → SqL K H a ws ∧ ∃ F, SatF F Φ ρ M σ H ∧ DA F ds ws) : Walks (Itl K a) Ψ ds := by
  refine ⟨fun H => SqL K H a ws, YAt ws, hl ▸ walk_list, fun Φ ρ M σ H l s => (hq Φ ρ M σ H l s).1, fun i d x H H' Φ ρ M σ hi l s y => ?_⟩
  obtain ⟨rfl, hx⟩ := y
  obtain ⟨_, F, s0, hd⟩ := hq Φ ρ M σ H' l s
  obtain ⟨v, h1, h2⟩ := hd.get hi
  rw [hx] at h1
  cases h1
  exact ⟨F, s0.ex, ⟨s0.fr, h2⟩, s0.sl, s0.nd, s0.ce⟩
theorem ei_vecT {K : PySem.W.Frag} {ds : List VD} {a : Addr} {ws : List V} (hl : ws.length = ds.length) (hq : ∀ Φ ρ M σ H, Le Φ Ψ → Sat Φ ρ M σ H → SqT K H a ws ∧ ∃ F, SatF F Φ ρ M σ H ∧ DA F ds ws) : Walks (Itt K a) Ψ ds := by
  refine ⟨fun H => SqT K H a ws, YAt ws, hl ▸ walk_tup, fun Φ ρ M σ H l s => (hq Φ ρ M σ H l s).1, fun i d x H H' Φ ρ M σ hi l s y => ?_⟩
  obtain ⟨rfl, hx⟩ := y
  obtain ⟨_, F, s0, hd⟩ := hq Φ ρ M σ H' l s
  obtain ⟨v, h1, h2⟩ := hd.get hi
  rw [hx] at h1
  cases h1
  exact ⟨F, s0.ex, ⟨s0.fr, h2⟩, s0.sl, s0.nd, s0.ce⟩
/-- a fact of the frozen part, kept -/
def Fr.also (Φ : Fr) (G : Hp → Prop) (h : ∀ {F F'}, Fx F F' → G F → G F') : Fr := ⟨Φ.N, fun F => Φ.P F ∧ G F, fun e ⟨h1, h2⟩ => ⟨Φ.mono e h1, h e h2⟩⟩
/-- the description is of a frozen list (tuple) of such items -/
def FzL (x : VD) (ds : List VD) : Prop := ∀ F v, x.P F v → (vlst ds).P F v
def FzT (x : VD) (ds : List VD) : Prop := ∀ F v, x.P F v → (vtup ds).P F v
theorem fzl_dat {ds : List PyData} : FzL (dat (.list ds)) (ds.map dat) := fun F v h => vlst_dat.mpr h
theorem fzl_v {ds : List VD} : FzL (vlst ds) ds := fun F v h => h
theorem fzt_dat {ds : List PyData} : FzT (dat (.tuple ds)) (ds.map dat) := fun F v h => vtup_dat.mpr h
theorem fzt_v {ds : List VD} : FzT (vtup ds) ds := fun F v h => h
theorem fz_walkL {ds : List VD} {v : V} {σ : L2.St} {H : Hp} (s : Sat (Φ.and x v) ρ M σ H) (hx : FzL x ds) : ∃ a ws Ψ, v = .ref a ∧ SqL K H a ws ∧ Le Ψ Φ ∧ Sat Ψ ρ M σ H ∧ Walks (Itl K a) Ψ ds := by
  have ⟨F, s0⟩ := s
  obtain ⟨a, ws, rfl, h1, h2⟩ := hx F v s0.fr.2
  refine ⟨a, ws, Φ.also (fun F => F a = some (.lst ws) ∧ DA F ds ws) fun e h => ⟨e.pl _ _ h.1 rfl, h.2.mono e⟩, rfl, sq_of (s0.ex _ _ h1), .of rfl fun F h => h.1, ⟨F, s0.ex, ⟨s0.fr.1, h1, h2⟩, s0.sl, s0.nd, s0.ce⟩, ?_⟩
  refine ei_vec (ws := ws) (Paired.length h2).symm fun Φ' ρ' M' σ' H' l ⟨F', s'⟩ => ?_
  have := l.p F' s'.fr
  exact ⟨sq_of (s'.ex _ _ this.2.1), F', s', this.2.2⟩
theorem fz_walkT {ds : List VD} {v : V} {σ : L2.St} {H : Hp} (s : Sat (Φ.and x v) ρ M σ H) (hx : FzT x ds) : ∃ a ws Ψ, v = .ref a ∧ SqT K H a ws ∧ Le Ψ Φ ∧ Sat Ψ ρ M σ H ∧ Walks (Itt K a) Ψ ds := by
  have ⟨F, s0⟩ := s
  obtain ⟨a, ws, rfl, h1, h2⟩ := hx F v s0.fr.2
  refine ⟨a, ws, Φ.also (fun F => F a = some (.tup ws) ∧ DA F ds ws) fun e h => ⟨e.pl _ _ h.1 rfl, h.2.mono e⟩, rfl, st_of (s0.ex _ _ h1), .of rfl fun F h => h.1, ⟨F, s0.ex, ⟨s0.fr.1, h1, h2⟩, s0.sl, s0.nd, s0.ce⟩, ?_⟩
  refine ei_vecT (ws := ws) (Paired.length h2).symm fun Φ' ρ' M' σ' H' l ⟨F', s'⟩ => ?_
  have := l.p F' s'.fr
  exact ⟨st_of (s'.ex _ _ this.2.1), F', s', this.2.2⟩
/-- a list or a tuple -/
def iSeq (K : PySem.W.Frag) (tl : TE) : TI := fun σ H R => tl σ H fun x H1 => (∃ a, x = .ref a ∧ (∃ xs, SqL K H1 a xs) ∧ R (Itl K a) H1) ∨ ∃ a, x = .ref a ∧ (∃ xs, SqT K H1 a xs) ∧ R (Itt K a) H1
theorem iter_at {X : Cx} {tg : Expr} {pins : List (Addr × Obj)} {σ : L2.St} {H : Hp} {s1 : Shared} {R : It → Hp → Prop} {a : Addr} {xs : List V} (I1 : Inv X pins σ H s1) (hq : SqL X.K H a xs) (q : R (Itl X.K a) H) :
    wpAny (model X.prog X.w) X.A (pyIter (.ref a)) (PIE X pins σ tg R) X.xe s1 := by
  obtain ⟨its, rv, pl, hz⟩ := I1.list hq
  refine PySem.wpAny_pyIter_list pl.isList ?_
  refine ⟨_, [s1.heap.objs.size], _, _, H, rfl, I1.kept (t' := s1.toks) (fun b o => Heap.get?_push_of_some _), turn_list a _, ⟨_, Heap.get?_push_size _ rfl, rfl, rfl⟩, ?_, q⟩
  intro b hb
  cases List.mem_singleton.mp hb
  exact I1.fpOk (Nat.le_refl _) (I1.hok.fresh (Nat.le_refl _))
theorem iter_at_t {X : Cx} {tg : Expr} {pins : List (Addr × Obj)} {σ : L2.St} {H : Hp} {s1 : Shared} {R : It → Hp → Prop} {a : Addr} {xs : List V} (I1 : Inv X pins σ H s1) (hq : SqT X.K H a xs) (q : R (Itt X.K a) H) :
    wpAny (model X.prog X.w) X.A (pyIter (.ref a)) (PIE X pins σ tg R) X.xe s1 := by
  obtain ⟨its, rv, pl, hz⟩ := I1.tuple hq
  refine PySem.wpAny_pyIter_tuple (show s1.heap.IsTuple a its.toArray from pl) ?_
  refine ⟨_, [s1.heap.objs.size], _, _, H, rfl, I1.kept (t' := s1.toks) (fun b o => Heap.get?_push_of_some _), turn_tuple a _, ⟨_, Heap.get?_push_size _ rfl, rfl, rfl⟩, ?_, q⟩
  intro b hb
  cases List.mem_singleton.mp hb
  exact I1.fpOk (Nat.le_refl _) (I1.hok.fresh (Nat.le_refl _))
theorem pi_seq {X : Cx} {tg l : Expr} {tl : TE} (hl : PE X l tl) : PI X tg l (iSeq X.K tl) := by
  refine ⟨fun pins s σ H R I h => ?_⟩
  refine wpAny_mono (hl.run pins s σ H _ I h) (fun v s1 ⟨x, H1, I1, r1, q1⟩ => ?_) fun _ _ z => z
  rcases q1 with ⟨a, e, ⟨xs, hq⟩, q⟩ | ⟨a, e, ⟨xs, hq⟩, q⟩
  · subst e
    cases r1
    exact iter_at I1 hq q
  · subst e
    cases r1
    exact iter_at_t I1 hq q
theorem ei_seqL {tl : TE} {ds : List VD} (h : Ev tl ρ M x M') (hx : FzL x ds) : EvI (iSeq K tl) ρ M ds M' := fun Φ σ H R s q => h Φ σ H _ s fun v H1 s1 => by
  obtain ⟨a, ws, Ψ, e, h1, h2, h3, h4⟩ := fz_walkL (K := K) s1 hx
  exact .inl ⟨a, e, ⟨ws, h1⟩, q _ _ Ψ h2 h3 h4⟩
theorem ei_seqT {tl : TE} {ds : List VD} (h : Ev tl ρ M x M') (hx : FzT x ds) : EvI (iSeq K tl) ρ M ds M' := fun Φ σ H R s q => h Φ σ H _ s fun v H1 s1 => by
  obtain ⟨a, ws, Ψ, e, h1, h2, h3, h4⟩ := fz_walkT (K := K) s1 hx
  exact .inr ⟨a, e, ⟨ws, h1⟩, q _ _ Ψ h2 h3 h4⟩
def irange (lo : Int) (n : Nat) : List VD := (List.range n).map fun i => dat (.int (lo + (i : Nat)))
theorem ei_rng {lo : Int} {n : Nat} : Walks (Itr lo n) Ψ (irange lo n) := by
  refine ⟨fun _ => True, YFn fun i => .int (lo + i), ?_, fun _ _ _ _ _ _ _ => trivial, fun i d x H H' Φ ρ M σ hi l s y => ?_⟩
  · have : (irange lo n).length = n := by simp [irange]
    rw [this]
    exact walk_range
  · obtain ⟨rfl, rfl⟩ := y
    have ⟨F, s0⟩ := s
    have e : d = dat (.int (lo + (i : Nat))) := by
      unfold irange at hi
      rw [List.getElem?_map] at hi
      cases q : (List.range n)[i]? with
      | none => rw [q] at hi; cases hi
      | some j =>
        rw [q] at hi
        have := List.getElem?_eq_some_iff.mp q
        obtain ⟨h1, h2⟩ := this
        rw [List.getElem_range] at h2
        subst h2
        exact (Option.some.inj hi).symm
    subst e
    exact ⟨F, s0.ex, ⟨s0.fr, .int _⟩, s0.sl, s0.nd, s0.ce⟩
theorem ei_rng1 {ta : TA} {n : Int} (h : EvA ta ρ M [dat (.int n)] M') (hn : -(2 ^ 62) ≤ n ∧ n < 2 ^ 62) : EvI (iRng1 ta) ρ M (irange 0 n.toNat) M' := fun Φ σ H R s q => h Φ σ H _ s fun vs H1 s1 => by
  have ⟨F, s0⟩ := s1
  obtain ⟨v, rfl, h1⟩ := rc1 (ds := []) s0.fr.2
  cases h1
  exact ⟨n, rfl, hn.1, hn.2, q _ H1 Φ (.refl _) (s1.weak Le.andA) ei_rng⟩
theorem ei_rng2 {ta : TA} {m n : Int} (h : EvA ta ρ M [dat (.int m), dat (.int n)] M') (hn : -(2 ^ 62) ≤ m ∧ m < 2 ^ 62 ∧ -(2 ^ 62) ≤ n ∧ n < 2 ^ 62) : EvI (iRng2 ta) ρ M (irange m (n - m).toNat) M' := fun Φ σ H R s q => h Φ σ H _ s fun vs H1 s1 => by
  have ⟨F, s0⟩ := s1
  obtain ⟨v, w, rfl, h1, h2⟩ := rc2 s0.fr.2
  cases h1; cases h2
  exact ⟨m, n, rfl, hn, q _ H1 Φ (.refl _) (s1.weak Le.andA) ei_rng⟩
/-- pairs: a new tuple each -/
theorem ei_pair {G : Hp → Prop} {n : Nat} {J : It} {f g : Nat → Option V} {ds es : List VD} (hn : ds.length = n) (hn2 : es.length = n) (w : Walk J n G (YPair f g)) (hG : ∀ Φ ρ M σ H, Le Φ Ψ → Sat Φ ρ M σ H → G H)
    (h : ∀ Φ ρ M σ H, Le Φ Ψ → Sat Φ ρ M σ H → ∃ F, SatF F Φ ρ M σ H ∧ ∀ (i : Nat) d e v w, ds[i]? = some d → es[i]? = some e → f i = some v → g i = some w → d.P F v ∧ e.P F w) : Walks J Ψ ((ds.zip es).map fun p => vtup [p.1, p.2]) := by
  refine ⟨G, YPair f g, ?_, hG, fun i d x H H' Φ ρ M σ hi l s y => ?_⟩
  · have : ((ds.zip es).map fun p => vtup [p.1, p.2]).length = n := by simp [hn, hn2]
    rw [this]
    exact w
  · obtain ⟨T, v, u, rfl, hT, rfl, h1, h2⟩ := y
    obtain ⟨F, s0, hd⟩ := h Φ ρ M σ H l s
    rw [List.getElem?_map] at hi
    cases q : (ds.zip es)[i]? with
    | none => rw [q] at hi; cases hi
    | some p =>
      obtain ⟨d1, e1⟩ := p
      rw [q] at hi
      cases hi
      rw [List.getElem?_zip_eq_some] at q
      obtain ⟨k1, k2⟩ := hd i d1 e1 v u q.1 q.2 h1 h2
      exact Sat.retNew s0 hT fun F' fx e => ⟨T, [v, u], rfl, e, .cons (d1.mono fx k1) (.cons (e1.mono fx k2) .nil)⟩
theorem ei_enum {ta : TA} {ds : List VD} (h : EvA ta ρ M [x] M') (hx : FzL x ds) : EvI (iEnum K ta) ρ M (((irange 0 ds.length).zip ds).map fun p => vtup [p.1, p.2]) M' := fun Φ σ H R s q => h Φ σ H _ s fun vs H1 s1 => by
  have ⟨F, s0⟩ := s1
  obtain ⟨v, rfl, h1⟩ := rc1 (ds := []) s0.fr.2
  obtain ⟨a, ws, rfl, h1, h2⟩ := hx F v h1
  refine ⟨a, ws, rfl, sq_of (s0.ex _ _ h1), q _ H1 (Φ.also (fun F => F a = some (.lst ws) ∧ DA F ds ws) fun e h => ⟨e.pl _ _ h.1 rfl, h.2.mono e⟩) (.of rfl fun F h => h.1) ⟨F, s0.ex, ⟨s0.fr.1, h1, h2⟩, s0.sl, s0.nd, s0.ce⟩ ?_⟩
  have hl := Paired.length h2
  refine ei_pair (n := ws.length) (by simp [irange, hl]) hl (walk_enum (K := K) (a := a) (xs := ws)) (fun Φ' ρ' M' σ' H' l ⟨F', s'⟩ => sq_of (s'.ex _ _ (l.p F' s'.fr).2.1)) fun Φ' ρ' M' σ' H' l ⟨F', s'⟩ => ⟨F', s', fun i d e v w q1 q2 q3 q4 => ?_⟩
  obtain ⟨v', k1, k2⟩ := (l.p F' s'.fr).2.2.get q2
  rw [q4] at k1
  cases k1
  refine ⟨?_, k2⟩
  cases q3
  unfold irange at q1
  rw [List.getElem?_map] at q1
  cases q : (List.range ds.length)[i]? with
  | none => rw [q] at q1; cases q1
  | some j =>
    rw [q] at q1
    obtain ⟨z1, z2⟩ := List.getElem?_eq_some_iff.mp q
    rw [List.getElem_range] at z2
    subst z2
    cases q1
    show Rp F' (V.int (i : Int)) (PyData.int (0 + (i : Int)))
    rw [Int.zero_add]
    exact .int _
theorem ei_zip {ta : TA} {ds es : List VD} (h : EvA ta ρ M [x, y] M') (hx : FzL x ds) (hy : FzL y es) : EvI (iZip K ta) ρ M ((ds.zip es).map fun p => vtup [p.1, p.2]) M' := fun Φ σ H R s q => h Φ σ H _ s fun vs H1 s1 => by
  have ⟨F, s0⟩ := s1
  obtain ⟨v, w, rfl, h1, h2⟩ := rc2 s0.fr.2
  obtain ⟨a, ws, rfl, h1, h3⟩ := hx F v h1
  obtain ⟨b, us, rfl, h2, h4⟩ := hy F w h2
  refine ⟨a, b, ws, us, rfl, sq_of (s0.ex _ _ h1), sq_of (s0.ex _ _ h2), q _ H1 (Φ.also (fun F => (F a = some (.lst ws) ∧ DA F ds ws) ∧ F b = some (.lst us) ∧ DA F es us) fun e h => ⟨⟨e.pl _ _ h.1.1 rfl, h.1.2.mono e⟩, e.pl _ _ h.2.1 rfl, h.2.2.mono e⟩) (.of rfl fun F h => h.1) ⟨F, s0.ex, ⟨s0.fr.1, ⟨h1, h3⟩, h2, h4⟩, s0.sl, s0.nd, s0.ce⟩ ?_⟩
  have hl := Paired.length h3
  have hl2 := Paired.length h4
  have e1 : (ds.take (min ws.length us.length)).zip (es.take (min ws.length us.length)) = ds.zip es := by
    rw [List.zip_eq_zipWith, List.zip_eq_zipWith, ← List.take_zipWith, List.take_of_length_le (by rw [List.length_zipWith]; omega)]
  rw [← e1]
  refine ei_pair (n := min ws.length us.length) (by rw [List.length_take]; omega) (by rw [List.length_take]; omega) (walk_zip (K := K) (a := a) (b := b) (xs := ws) (ys := us) rfl) (fun Φ' ρ' M' σ' H' l ⟨F', s'⟩ => ⟨sq_of (s'.ex _ _ (l.p F' s'.fr).2.1.1), sq_of (s'.ex _ _ (l.p F' s'.fr).2.2.1)⟩) fun Φ' ρ' M' σ' H' l ⟨F', s'⟩ => ⟨F', s', fun i d e v w q1 q2 q3 q4 => ?_⟩
  have hi : i < min ws.length us.length := by
    have := (List.getElem?_eq_some_iff.mp q1).1
    rw [List.length_take] at this
    omega
  rw [List.getElem?_take_of_lt hi] at q1 q2
  obtain ⟨v', k1, k2⟩ := (l.p F' s'.fr).2.1.2.get q1
  obtain ⟨w', k3, k4⟩ := (l.p F' s'.fr).2.2.2.get q2
  rw [q3] at k1
  rw [q4] at k3
  cases k1; cases k3
  exact ⟨k2, k4⟩

/-! ### for -/
theorem c_for {wi : TI} {g : TG} {tb : TS} {its : List VD} (h : EvI wi ρ M its M1) (I : Nat → Env → Cells → Prop) (h0 : I 0 ρ M1)
    (hs : ∀ Ψ, Le Ψ Φ → ∀ (i : Nat) d ρ' M', its[i]? = some d → I i ρ' M' → ∃ ρ'' js, Tgt g js d ρ' ρ'' ∧ Cont (tb { D with nx := InvK Ψ (I (i + 1)), ct := InvK Ψ (I (i + 1)), bk := D.nx }) Ψ ρ'' M')
    (hd : ∀ ρ' M', I its.length ρ' M' → Cont D.nx Φ ρ' M') : Cont (tFor wi g tb D) Φ ρ M := fun σ H s => h Φ σ H _ s fun J H1 Ψ l s1 ⟨G, Y, w, hG, hY⟩ =>
  for_it w (fun i => InvK Ψ (I i)) ⟨ρ, M1, h0, s1⟩ (fun i σ' H' _ ⟨ρ', M', _, s'⟩ => hG Ψ ρ' M' σ' H' (.refl _) s') (fun i x σ' H' H2 hi ⟨ρ', M', j, s'⟩ y => by
    have hi' : its[i]? = some its[i] := by simp [hi]
    obtain ⟨ρ'', js, hg, k⟩ := hs Ψ l i its[i] ρ' M' hi' j
    exact hg Ψ M' x σ' H2 _ (hY i its[i] x H' H2 Ψ ρ' M' σ' hi' (.refl _) s' y) fun σ2 _ _ s2 => k σ2 H2 s2) fun σ' H' ⟨ρ', M', j, s'⟩ => hd ρ' M' j σ' H' (s'.weak l)

theorem for_k {g : TG} {tb : TS} {js : List Nat} {d : VD} {D' : Ends} (h : Tgt g js d ρ ρ') (k : Cont (tb D') Ψ ρ' M) : ∃ ρ'' js, Tgt g js d ρ ρ'' ∧ Cont (tb D') Ψ ρ'' M := ⟨ρ', js, h, k⟩

/-! ### while -/
theorem c_while {tc : TT} {tb : TS} (I : Nat → Env → Cells → Prop) (m0 : Nat) (h0 : I m0 ρ M)
    (hs : ∀ m ρ' M', I m ρ' M' → ∃ b M1, EvT tc ρ' M' b M1 ∧ (b = true → Cont (tb { D with nx := InvK Φ (fun ρ M => ∃ m', m' < m ∧ I m' ρ M), ct := InvK Φ (fun ρ M => ∃ m', m' < m ∧ I m' ρ M), bk := D.nx }) Φ ρ' M1) ∧ (b = false → Cont D.nx Φ ρ' M1)) :
    Cont (tWhile tc tb D) Φ ρ M := fun σ H s => by
  refine ⟨fun m => InvK Φ (I m), ⟨m0, ρ, M, h0, s⟩, ?_⟩
  rintro m σ' H' ⟨ρ', M', j, s'⟩
  obtain ⟨b, M1, hb, h1, h2⟩ := hs m ρ' M' j
  refine hb Φ σ' H' _ s' fun H1 s1 => ?_
  cases b with
  | true =>
    rw [if_pos rfl]
    exact ⟨_, fun σ2 H2 ⟨ρ2, M2, ⟨m', hm, j2⟩, s2⟩ => ⟨m', hm, ρ2, M2, j2, s2⟩, h1 rfl σ' H1 s1⟩
  | false =>
    rw [if_neg Bool.false_ne_true]
    exact h2 rfl σ' H1 s1

/-! ### comprehensions -/
def wipeE (ρ : Env) : List Nat → Env
  | [] => ρ
  | v :: vs => (wipeE ρ vs).set v none
theorem Slots.wipes {F : Hp} {σ : L2.St} {ρ : Env} (h : Slots F σ ρ) : ∀ vs : List Nat, Slots F (L2.wipe σ vs) (wipeE ρ vs)
  | [] => h
  | v :: vs => (Slots.wipes h vs).wipe v
theorem wipe_get (σ : L2.St) : ∀ (vs : List Nat) (i : Nat), (L2.wipe σ vs)[i]? = if i ∈ vs then (if i < σ.length then some none else none) else σ[i]?
  | [], i => by simp [L2.wipe]
  | v :: vs, i => by
    rw [L2.wipe, List.getElem?_set, wipe_length]
    by_cases h : v = i
    · subst h; simp
    · rw [if_neg h, wipe_get σ vs i]
      have : (i ∈ v :: vs) ↔ i ∈ vs := by
        rw [List.mem_cons]
        constructor
        · rintro (e | e)
          · exact absurd e.symm h
          · exact e
        · exact .inr
      simp only [this]
theorem wipe_eq {σ σ' : L2.St} {js vs : List Nat} (h : ∀ i, i ∉ js → σ'[i]? = (L2.wipe σ vs)[i]?) (hl : σ'.length = (L2.wipe σ vs).length) (hj : ∀ i ∈ js, i ∈ vs) : L2.wipe σ' vs = L2.wipe σ vs := by
  apply List.ext_getElem?
  intro i
  rw [wipe_length] at hl
  rw [wipe_get, wipe_get, hl]
  by_cases hi : i ∈ vs
  · rw [if_pos hi, if_pos hi]
  · rw [if_neg hi, if_neg hi, h i (fun z => hi (hj i z)), wipe_get, if_neg hi]
theorem SatF.wiped {F : Hp} {σ : L2.St} {H : Hp} (s : SatF F Φ ρ M σ H) (vs : List Nat) : SatF F Φ (wipeE ρ vs) M (L2.wipe σ vs) H := ⟨s.ex, s.fr, s.sl.wipes vs, s.nd, s.ce⟩
/-- an owned list of values is frozen -/
theorem SatF.freeze {F : Hp} {σ : L2.St} {H : Hp} {D : Addr} {acc : List VD} (s : SatF F (Φ.more (D, cL acc)) ρ M σ H) : Sat (Φ.and (vlst acc) (.ref D)) ρ M σ H := by
  obtain ⟨o, h1, h0, ws, rfl, h3⟩ := s.ce (D, cL acc) (List.mem_append_right _ List.mem_cons_self)
  have fx : Fx F (upd F D (.lst ws)) := Fx.of (Ex.new h0)
  have hsub : (M ++ Φ.N).Sublist (M ++ (Φ.more (D, cL acc)).N) := List.Sublist.append (List.Sublist.refl M) (List.sublist_cons_self _ _)
  refine ⟨upd F D (.lst ws), fun a u e => ?_, ⟨Φ.mono fx s.fr, D, ws, rfl, upd_same, h3.mono fx⟩, s.sl.mono fx, s.nd.sublist (hsub.map _), fun c hc => ?_⟩
  · by_cases h : a = D
    · subst h; rw [upd_same] at e; cases e; exact h1
    · rw [upd_ne h] at e; exact s.ex a u e
  · obtain ⟨u, k1, k2⟩ := s.ce c (hsub.subset hc)
    have hne : c.1 ≠ D := fun e => by
      have nd := s.nd
      have hmem : c ∈ M ++ Φ.N := hc
      have hp : (M ++ (Φ.more (D, cL acc)).N).Perm ((D, cL acc) :: (M ++ Φ.N)) := List.perm_middle
      have nd2 := (hp.map (·.1)).nodup_iff.mp nd
      rw [List.map_cons, List.nodup_cons] at nd2
      exact nd2.1 (List.mem_map.mpr ⟨c, hmem, e⟩)
    exact ⟨u, k1, c.2.mono fx (upd_ne hne) k2⟩
/-- the general one: I by the turn, what is made so far, the cells -/
theorem er_lc {wi : TI} {g : TG} {tt : TT} {vs : List Nat} {its : List VD} (h : EvI wi ρ M its M1) (I : Nat → List VD → Cells → Prop) (h0 : I 0 [] M1) (hl : its.length ≤ 16000000)
    (hI : ∀ i acc M', I i acc M' → acc.length ≤ i)
    (hs : ∀ (i : Nat) d acc M', its[i]? = some d → I i acc M' → ∃ ρ'' js b M2, Tgt g js d (wipeE ρ vs) ρ'' ∧ (∀ i ∈ js, i ∈ vs) ∧ EvT tt ρ'' M' b M2 ∧ (b = true → EvR te ρ'' M2 fun y M3 => I (i + 1) (acc ++ [y]) M3) ∧ (b = false → I (i + 1) acc M2)) :
    EvR (tLc wi g tt te vs) ρ M fun y M' => ∃ acc, y = vlst acc ∧ I its.length acc M' := fun Φ σ H Q s q => h Φ σ H _ s fun J H1 Ψ l s1 ⟨G, Y, w, hG, hY⟩ => fun Dl hD => by
  have ⟨F1, s2⟩ := s1
  have lm : ∀ c, Le (Ψ.more c) Ψ := fun c => Le.more
  -- the frame's slots are kept aside
  let Ψ0 : Fr := Ψ.slots σ ρ
  refine lc_it w (fun i H' => ∃ acc M', I i acc M' ∧ Sat (Ψ0.more (Dl, cL acc)) (wipeE ρ vs) M' (L2.wipe σ vs) H') ⟨[], M1, h0, ?_⟩ (fun i H' _ ⟨acc, M', _, s'⟩ => hG _ _ _ _ _ (Le.trans Le.more Le.slots) s') (fun i x H' H2 hi ⟨acc, M', j, s'⟩ y => ?_) (fun H' ⟨acc, M', j, s'⟩ => ?_)
  · have s3 := s2.newC (c := cL []) (o := .lst []) hD fun e => ⟨e, [], rfl, .nil⟩
    refine ⟨F1, s3.ex, ⟨s3.fr, s3.sl⟩, s3.sl.wipes vs, ?_, fun c hc => ?_⟩
    · have hp : (M1 ++ (Ψ0.more (Dl, cL [])).N).Perm ((Dl, cL []) :: M1 ++ Ψ.N) := List.perm_middle
      exact (hp.map (·.1)).nodup_iff.mpr s3.nd
    · have hp : (M1 ++ (Ψ0.more (Dl, cL [])).N).Perm ((Dl, cL []) :: M1 ++ Ψ.N) := List.perm_middle
      exact s3.ce c (hp.mem_iff.mp hc)
  · have hi' : its[i]? = some its[i] := by simp [hi]
    obtain ⟨ρ'', js, b, M2, hg, hj, ht, h1, h2⟩ := hs i its[i] acc M' hi' j
    have s3 := hY i its[i] x H' H2 _ _ _ _ hi' (Le.trans Le.more Le.slots) s' y
    refine hg _ M' x _ H2 _ s3 fun σ2 k1 k2 s4 => ⟨wipe_eq k1 k2 hj, ht _ σ2 H2 _ s4 fun H3 s5 => ?_⟩
    -- back to the wiped slots
    have back : ∀ {Φ' : Fr} {acc' : List VD} {M' : Cells} {H' : Hp} {σ3 : L2.St} {ρ3 : Env}, Sat (Ψ0.more (Dl, cL acc')) ρ3 M' σ3 H' → Sat (Ψ0.more (Dl, cL acc')) (wipeE ρ vs) M' (L2.wipe σ vs) H' := fun {_ _ _ _ _ _} ⟨F, z⟩ => ⟨F, z.ex, z.fr, z.fr.2.wipes vs, z.nd, z.ce⟩
    cases b with
    | false =>
      rw [if_neg Bool.false_ne_true]
      exact ⟨acc, M2, h2 rfl, back (Φ' := Ψ) s5⟩
    | true =>
      rw [if_pos rfl]
      refine h1 rfl _ σ2 H3 _ s5 fun y M3 v H4 j4 s6 => ?_
      have ⟨F, s7⟩ := s6
      obtain ⟨o, e1, e0, ws, rfl, e3⟩ := s7.ce (Dl, cL acc) (List.mem_append_right _ List.mem_cons_self)
      refine ⟨ws, e1, ?_, acc ++ [y], M3, j4, back (Φ' := Ψ) (σ3 := σ2) (ρ3 := ρ'') ⟨F, ?_⟩⟩
      · rw [← Paired.length e3]
        have := hI i acc M' j
        have hz : sizeLine = 16777216 := sizeLine_eq
        omega
      · exact s7.put (Φ' := Ψ0.more (Dl, cL (acc ++ [y]))) (c := cL acc) (Put.behind .here M3) s7.fr.1 e0 ⟨e0, _, rfl, e3.append (.cons s7.fr.2 .nil)⟩
  · have ⟨F, s3⟩ := s'
    have s4 : SatF F (Ψ0.more (Dl, cL acc)) ρ M' σ H' := ⟨s3.ex, s3.fr, s3.fr.2, s3.nd, s3.ce⟩
    exact q (vlst acc) M' (.ref Dl) H' ⟨acc, rfl, j⟩ (s4.freeze.weak ⟨by show Φ.N.Sublist Ψ.N; exact l.n, fun F h => ⟨l.p F h.1.1, h.2⟩⟩)
theorem lc_k {g : TG} {tt : TT} {js vs : List Nat} {d : VD} {b : Bool} {Pe : Env → Prop} (h : Tgt g js d ρ ρ') (hj : ∀ i ∈ js, i ∈ vs) (ht : EvT tt ρ' M b M) (k : Pe ρ') :
    ∃ ρ'' js, Tgt g js d ρ ρ'' ∧ (∀ i ∈ js, i ∈ vs) ∧ EvT tt ρ'' M b M ∧ Pe ρ'' := ⟨ρ', js, h, hj, ht, k⟩
/-- data for each item that is let by, nothing else changes -/
theorem ev_lc {α : Type} {wi : TI} {g : TG} {tt : TT} {vs : List Nat} {e : α → VD} {xs : List α} {f : α → Bool} {r : α → PyData} (h : EvI wi ρ M (xs.map e) M1) (hl : xs.length ≤ 16000000)
    (hs : ∀ a, a ∈ xs → ∃ ρ'' js, Tgt g js (e a) (wipeE ρ vs) ρ'' ∧ (∀ i ∈ js, i ∈ vs) ∧ EvT tt ρ'' M1 (f a) M1 ∧ (f a = true → Ev te ρ'' M1 (dat (r a)) M1)) : Ev (tLc wi g tt te vs) ρ M (dat (.list ((xs.filter f).map r))) M1 := by
  refine Ev.imp (EvR.ev ((er_lc h (fun i acc M' => M' = M1 ∧ acc = (((xs.take i).filter f).map r).map dat) ⟨rfl, rfl⟩ (by rw [List.length_map]; exact hl) (fun i acc M' ⟨_, e⟩ => ?_) fun i d acc M' hi ⟨e1, e2⟩ => ?_).imp (P' := Det (vlst (((xs.filter f).map r).map dat)) M1) fun x M' ⟨acc, e, e1, e2⟩ => ?_)) fun F v h => vlst_dat.mp h
  · subst e
    rw [List.length_map, List.length_map]
    exact Nat.le_trans (List.length_filter_le _ _) (by rw [List.length_take]; omega)
  · subst e1; subst e2
    rw [List.getElem?_map] at hi
    cases q : xs[i]? with
    | none => rw [q] at hi; cases hi
    | some a =>
      rw [q] at hi
      cases hi
      have htk : xs.take (i + 1) = xs.take i ++ [a] := by rw [List.take_succ, q]; rfl
      obtain ⟨ρ'', js, h1, hj, h2, h3⟩ := hs a (List.mem_of_getElem? q)
      refine ⟨ρ'', js, f a, M', h1, hj, h2, fun hf => (EvR.of (h3 hf)).imp fun y M3 ⟨z1, z2⟩ => ?_, fun hf => ⟨rfl, ?_⟩⟩
      · subst z1; subst z2
        refine ⟨rfl, ?_⟩
        rw [htk, List.filter_append, List.map_append, List.map_append, List.filter_cons_of_pos hf]
        rfl
      · rw [htk, List.filter_append, List.map_append, List.map_append, List.filter_cons_of_neg (by rw [hf]; exact Bool.false_ne_true)]
        simp
  · subst e
    rw [List.length_map, List.take_length] at e2
    exact ⟨by rw [e2], e1⟩
end

/-! ### a def's body -/
def entry (N : List Str) (ds : List VD) : Env := ds.map some ++ List.replicate (N.length - ds.length) none
theorem slots_entry {F : Hp} {N : List Str} {ds : List VD} {vs : List V} (h : DA F ds vs) : Slots F (L2.start N vs) (entry N ds) := by
  have hl := Paired.length h
  refine ⟨by simp [L2.start, entry, hl], fun i x e => ?_⟩
  unfold entry at e
  by_cases hi : i < ds.length
  · rw [List.getElem?_append_left (by simpa using hi), List.getElem?_map] at e
    cases q : ds[i]? with
    | none => rw [q] at e; cases e
    | some d =>
      rw [q] at e
      cases e
      obtain ⟨v, h1, h2⟩ := h.get q
      refine ⟨v, ?_, h2⟩
      unfold L2.start
      rw [List.getElem?_append_left (by rw [List.length_map]; omega), List.getElem?_map, h1]
      rfl
  · rw [List.getElem?_append_right (by simpa using hi), List.getElem?_replicate] at e
    split at e <;> cases e
theorem fn_start {n : Nat} {S : FSpec} {vs : List V} {H : Hp} {Q : VK} {E : XK} {t : TS} {N : List Str} (h : spF n S vs H Q E)
    (k : ∀ ds M P Φ, ds.length = n → S ds M P → RtQ Q Φ P → Cont (t (fnD Q)) Φ (entry N ds) M) : t { nx := fun _ H' => Q .non H', rt := Q } (L2.start N vs) H := by
  obtain ⟨Φ, ρ, σ, ds, M, P, s, e, hS, hq⟩ := h
  have ⟨F, s0⟩ := s
  refine k ds M P (Φ.slots σ ρ) ((Paired.length s0.fr.2).trans e) hS (fun Φ' ρ' σ' x M' v H' l hp s' => ?_) _ _ ⟨F, s0.ex, ⟨s0.fr.1, s0.sl⟩, slots_entry s0.fr.2, s0.nd, s0.ce⟩
  have s2 := s'.weak (Ψ := (Φ.slots σ ρ).and x v) ⟨l.n, fun F h => ⟨l.p F h.1, h.2⟩⟩
  have ⟨F', s3⟩ := s2
  exact hq x M' v H' hp ⟨F', s3.ex, ⟨s3.fr.1.1, s3.fr.2⟩, s3.fr.1.2, s3.nd, s3.ce⟩
end Sx

set_option Elab.async false
set_option linter.all false
set_option maxRecDepth 100000
set_option maxHeartbeats 2000000
/-! Sx5: more rules; what all our laws have: the script's cells, drawn numbers. -/
namespace Sx
open PySem L2 Evl
/-- a list's item, by values -/
theorem get_list {X : Cx} : PGet X (rIxL X.K) := by
  intro pins s σ H o i ov iv Q I ro ri h
  obtain ⟨p, xs, j, z, rfl, rfl, hq, he, q⟩ := h
  cases ro
  obtain ⟨t, rfl⟩ := ri
  obtain ⟨its, r, pl, hz⟩ := I.list hq
  obtain ⟨k, h1, h2, h3, h4, h5⟩ := atI_get he
  obtain ⟨w, ew, rw'⟩ := r.get h2
  have hl := r.length
  have hn := line63
  by_cases h0 : 0 ≤ j
  · have hj : j.toNat = k := by
      rw [PySem.seqIndex_of h0 h5] at h1
      exact Option.some.inj h1
    exact PySem.wpAny_getItem_list pl.isList h0 (by omega) (by rw [hj]; simpa using ew) ⟨z, H, I, rw', q⟩
  · have hj : (j + (its.toArray.size : Int)).toNat = k := by
      rw [PySem.seqIndex_neg (by omega) h4] at h1
      rw [List.size_toArray, ← hl]
      exact Option.some.inj h1
    exact PySem.wpAny_getItem_list_neg pl.isList (by omega) (by rw [List.size_toArray] <;> omega) (by omega) (by rw [hj]; simpa using ew) ⟨z, H, I, rw', q⟩
section
variable {K : PySem.W.Frag} {ρ ρ' : Env} {M M1 M2 M3 M' : Cells} {x y z : VD} {te ta tb tv : TE} {t u : TS} {p : Addr} {Φ : Fr} {D : Ends}
theorem ixN_lt {n : Nat} {k : Int} {j : Nat} (h : ixN n k = some j) : j < n := (ixN_seq h).2.1
/-- xs[i] op= n, an owned list whose item is an int -/
theorem c_augS {g : Int → Int → Int} {xs : List VD} {k a b : Int} {j : Nat} (ho : Ev ta ρ M (val (.ref p)) M) (hi : Ev tb ρ M (dat (.int k)) M) (hj : ixN xs.length k = some j) (hx : xs[j]? = some (dat (.int a))) (hv : Ev tv ρ M (dat (.int b)) M) (hp : Put p (cL xs) (cL (xs.set j (dat (.int (g a b))))) M M') (kk : Cont D.nx Φ ρ M') :
    Cont (tAugS ta tb tv (rIxL K) (ipI g) rSetL D) Φ ρ M := fun σ H s => ho Φ σ H _ s fun v1 H1 s1 => hi _ σ H1 _ s1 fun v2 H2 s2 => by
  have ⟨F2, z2⟩ := s2
  have e1 : v1 = .ref p := z2.fr.1.2
  cases z2.fr.2
  subst e1
  obtain ⟨o, k1, k0, ws, rfl, k3⟩ := z2.at hp.mem
  obtain ⟨w, q1, q2⟩ := k3.get hx
  refine ⟨p, ws, k, w, rfl, rfl, sq_of k1, ?_, ?_⟩
  · unfold atI
    rw [← Paired.length k3, hj]
    exact q1
  · cases q2
    refine hv _ σ H2 _ s2 fun v3 H3 s3 => ?_
    have ⟨F3, z3⟩ := s3
    cases z3.fr.2
    refine ⟨a, b, rfl, rfl, ?_⟩
    obtain ⟨o, k1, k0, ws, rfl, k3⟩ := z3.at hp.mem
    refine ⟨p, ws, k, j, rfl, rfl, k1, by rw [← Paired.length k3]; exact hj, kk σ _ ⟨F3, ?_⟩⟩
    exact (z3.put1 (o := .lst (ws.set j (.int (g a b)))) hp k0 ⟨k0, _, rfl, DA.set (d := dat (.int (g a b))) (Rp.int _) j k3⟩).weak (.of rfl fun F h => h.1.1.1)
theorem dpAll_ints {H : Hp} : ∀ ns : List Int, DpAll K H (ns.map V.int) (ns.map PyData.int)
  | [] => .nil
  | n :: ns => .cons (.int n) (dpAll_ints ns)
/-- the script, as data -/
theorem isd_scr {ns : List Int} : IsDat K (vscr K ns) M (.list (ns.map .int)) := fun s ⟨a, e, h⟩ => by
  subst e
  exact .lst (ex_l s.ex h) (dpAll_ints ns)
/-- an owned list is made of a written one -/
theorem er_lstC {t : TA} {ds : List VD} (h : EvA t ρ M ds M1) (hl : ds.length ≤ sizeLine) : EvR (tLst t) ρ M fun y M' => ∃ p, y = val (.ref p) ∧ M' = (p, cL ds) :: M1 := fun Φ σ H Q s q =>
  h Φ σ H _ s fun vs H1 ⟨F, s1⟩ => by
    have hr := s1.fr.2
    refine ⟨by rw [← Paired.length hr]; exact hl, fun p hp => ?_⟩
    have s2 := s1.newC (c := cL ds) (o := .lst vs) hp fun e => ⟨e, vs, rfl, hr⟩
    exact q _ _ _ _ ⟨p, rfl, rfl⟩ ⟨F, s2.ex, ⟨s2.fr.1, rfl⟩, s2.sl, s2.nd, s2.ce⟩
theorem er_lstCd {t : TA} {ds : List PyData} (h : EvD t ρ M ds M1) (hl : ds.length ≤ sizeLine) : EvR (tLst t) ρ M fun y M' => ∃ p, y = val (.ref p) ∧ M' = (p, cLd ds) :: M1 := fun Φ σ H Q s q =>
  h Φ σ H _ s fun vs H1 ⟨F, s1⟩ => by
    have hr := DA.of_dat.mp s1.fr.2
    refine ⟨by rw [hr.length]; exact hl, fun p hp => ?_⟩
    have s2 := s1.newC (c := cLd ds) (o := .lst vs) hp fun e => ⟨e, vs, rfl, hr⟩
    exact q _ _ _ _ ⟨p, rfl, rfl⟩ ⟨F, s2.ex, ⟨s2.fr.1, rfl⟩, s2.sl, s2.nd, s2.ce⟩
/-- cells that are no longer needed -/
theorem Sat.drop {σ : L2.St} {H : Hp} (s : Sat Φ ρ M σ H) (h : M'.Sublist M) : Sat Φ ρ M' σ H :=
  let ⟨F, s⟩ := s
  let hs := List.Sublist.append h (List.Sublist.refl Φ.N)
  ⟨F, s.ex, s.fr, s.sl, s.nd.sublist (hs.map _), fun c hc => s.ce c (hs.subset hc)⟩
theorem c_dropC {k : L2.St → Hp → Prop} (h : M'.Sublist M) (c : Cont k Φ ρ M') : Cont k Φ ρ M := fun σ H s => c σ H (s.drop h)
/-- the order of the cells -/
theorem Sat.perm {σ : L2.St} {H : Hp} (s : Sat Φ ρ M σ H) (h : M.Perm M') : Sat Φ ρ M' σ H :=
  let ⟨F, s⟩ := s
  let hs := h.append_right Φ.N
  ⟨F, s.ex, s.fr, s.sl, (hs.map (·.1)).nodup_iff.mp s.nd, fun c hc => s.ce c (hs.mem_iff.mpr hc)⟩
theorem c_perm {k : L2.St → Hp → Prop} (h : M.Perm M') (c : Cont k Φ ρ M') : Cont k Φ ρ M := fun σ H s => c σ H (s.perm h)
/-- what is known of a slot may be said otherwise -/
theorem Sat.slots {σ : L2.St} {H : Hp} (s : Sat Φ ρ M σ H) (h : ∀ F, Slots F σ ρ → Slots F σ ρ') : Sat Φ ρ' M σ H := let ⟨F, s⟩ := s; ⟨F, s.ex, s.fr, h F s.sl, s.nd, s.ce⟩
/-- slots that are no longer needed: forgotten -/
inductive Fgt : Env → Env → Prop
  | nil : Fgt [] []
  | keep {a : Option VD} {l l' : Env} : Fgt l l' → Fgt (a :: l) (a :: l')
  | drop {a : Option VD} {l l' : Env} : Fgt l l' → Fgt (a :: l) (none :: l')
theorem Fgt.len {l l' : Env} (h : Fgt l l') : l'.length = l.length := by
  induction h with
  | nil => rfl
  | keep _ ih => simp [ih]
  | drop _ ih => simp [ih]
theorem Fgt.get {l l' : Env} (h : Fgt l l') : ∀ {i : Nat} {x : VD}, l'[i]? = some (some x) → l[i]? = some (some x) := by
  induction h with
  | nil => intro i x e; exact e
  | keep _ ih =>
    intro i x e
    cases i with
    | zero => exact e
    | succ i => simpa using ih (by simpa using e)
  | drop _ ih =>
    intro i x e
    cases i with
    | zero => simp at e
    | succ i => simpa using ih (by simpa using e)
theorem c_fgt {k : L2.St → Hp → Prop} (h : Fgt ρ ρ') (c : Cont k Φ ρ' M) : Cont k Φ ρ M := fun σ H s => c σ H (s.slots fun F q => ⟨q.1.trans h.len.symm, fun i x e => q.2 i x (h.get e)⟩)
end

/-! ### the numbers of our laws -/
def scrCell (s : List Int) (i : Int) : Int :=
  let c := s.getD (i % s.length).toNat 0
  if (if c < 0 then -c else c) ≥ 10 ^ 60 then c % 10 ^ 18 else c
def lawNum (s : List Int) (i : Int) : Int :=
  if s = [] then (i * 48271 + 12345) % 2147483647
  else (((scrCell s i + 977 * i) * 48271 + 31 * s.length) % 2147483647 * 69621 % 2147483629 * 16807 + i) % 2147483587
def tk (s : List Int) (k m : Int) : Int := lawNum s k % m
theorem tk_nn {s : List Int} {k m : Int} (h : 0 < m) : 0 ≤ tk s k m := Int.emod_nonneg _ (by omega)
theorem tk_lt {s : List Int} {k m : Int} (h : 0 < m) : tk s k m < m := Int.emod_lt_of_pos _ h
abbrev cDraw (K : PySem.W.Frag) (s : List Int) (k : Int) : CD := cL [vscr K s, dat (.int k)]
end Sx

set_option Elab.async false
set_option linter.all false
set_option maxRecDepth 100000
set_option maxHeartbeats 2000000
/-! Sx6: more rules, and small facts of lists. -/
namespace Sx
open PySem L2 Evl
section
variable {K : PySem.W.Frag} {ρ ρ' ρ1 : Env} {M M1 M2 M3 M' : Cells} {x y z : VD} {te ta tb tv : TE} {t u : TS} {p : Addr} {Φ : Fr} {D : Ends} {P : VD → Cells → Prop}
/-! ### several outcomes -/
def EvAR (ta : TA) (ρ : Env) (M : Cells) (P : List VD → Cells → Prop) : Prop := ∀ (Φ : Fr) (σ : L2.St) (H : Hp) (Q : List V → Hp → Prop), Sat Φ ρ M σ H → (∀ ds M' v H', P ds M' → Sat (Φ.andA ds v) ρ M' σ H' → Q v H') → ta σ H Q
theorem ear_nil {P : List VD → Cells → Prop} (h : P [] M) : EvAR tNil ρ M P := fun Φ σ H Q ⟨F, s⟩ q => q [] M [] H h ⟨F, s.ex, ⟨s.fr, .nil⟩, s.sl, s.nd, s.ce⟩
theorem ear_cons {tr : TA} {P : List VD → Cells → Prop} {Pa : VD → Cells → Prop} (ha : EvR ta ρ M Pa) (hr : ∀ x M1, Pa x M1 → EvAR tr ρ M1 fun ds M2 => P (x :: ds) M2) : EvAR (tCons ta tr) ρ M P := fun Φ σ H Q s q =>
  ha Φ σ H _ s fun x M1 v H1 hx s1 => hr x M1 hx _ σ H1 _ s1 fun ds M2 vs H2 hp s2 => q (x :: ds) M2 (v :: vs) H2 hp (s2.weak (.of rfl fun F p => ⟨p.1.1, .cons p.1.2 p.2⟩))
theorem EvAR.of {t : TA} {ds : List VD} {P : List VD → Cells → Prop} (h : EvA t ρ M ds M1) (hp : P ds M1) : EvAR t ρ M P := fun Φ σ H Q s q => h Φ σ H _ s fun vs H1 s1 => q ds M1 vs H1 hp s1
theorem er_tupV {t : TA} (h : EvAR t ρ M fun ds M' => ds.length ≤ sizeLine ∧ P (vtup ds) M') : EvR (tTup t) ρ M P := fun Φ σ H Q s q =>
  h Φ σ H _ s fun ds M1 vs H1 ⟨hl, hp⟩ ⟨F, s1⟩ => by
    have hr := s1.fr.2
    refine ⟨by rw [← Paired.length hr]; exact hl, fun p hp' => ?_⟩
    obtain ⟨s2, fx⟩ := s1.new (o := .tup vs) hp'
    exact q _ M1 _ _ hp ⟨_, s2.ex, ⟨s2.fr.1, ⟨p, vs, rfl, upd_same, hr.mono fx⟩⟩, s2.sl, s2.nd, s2.ce⟩
theorem er_lstV {t : TA} (h : EvAR t ρ M fun ds M' => ds.length ≤ sizeLine ∧ P (vlst ds) M') : EvR (tLst t) ρ M P := fun Φ σ H Q s q =>
  h Φ σ H _ s fun ds M1 vs H1 ⟨hl, hp⟩ ⟨F, s1⟩ => by
    have hr := s1.fr.2
    refine ⟨by rw [← Paired.length hr]; exact hl, fun p hp' => ?_⟩
    obtain ⟨s2, fx⟩ := s1.new (o := .lst vs) hp'
    exact q _ M1 _ _ hp ⟨_, s2.ex, ⟨s2.fr.1, ⟨p, vs, rfl, upd_same, hr.mono fx⟩⟩, s2.sl, s2.nd, s2.ce⟩
theorem c_asgGR {g : TG} (h : EvR te ρ M P) (k : ∀ x M1, P x M1 → ∃ ρ' js, Tgt g js x ρ ρ' ∧ Cont D.nx Φ ρ' M1) : Cont (tAsg te g D) Φ ρ M := fun σ H s => h Φ σ H _ s fun x M1 v H1 hp s1 => by
  obtain ⟨ρ', js, hg, kk⟩ := k x M1 hp
  exact hg Φ M1 v σ H1 _ s1 fun σ' _ _ s' => kk σ' H1 s'
/-- o.f = e, several outcomes -/
theorem c_fldR {C : Addr} {f : Str} {nn : List Str} (hv : EvR tv ρ M P) (k : ∀ y M1, P y M1 → ∃ p ns ns' xs xs' M2 M3, Ev ta ρ M1 (val (.ref p)) M2 ∧ Put p (cI C ns xs) (cI C ns' xs') M2 M3 ∧ FPut f y ns xs ns' xs' ∧ ns.length < 1000 ∧ Cont D.nx Φ ρ M3)
    (c : ClsF K C nn) (hf : f ∈ nn) : Cont (sFld K ta tv f D) Φ ρ M := fun σ H s =>
  hv Φ σ H _ s fun y M1 v H1 hp s1 => by
    obtain ⟨p, ns, ns', xs, xs', M2, M3, ho, h, g, hl, k⟩ := k y M1 hp
    refine ho _ σ H1 _ s1 fun w H2 ⟨F, s2⟩ => ?_
    have e : w = .ref p := s2.fr.2
    obtain ⟨o, h1, h0, dx, fs, rfl, h3⟩ := s2.at h.mem
    refine ⟨p, C, dx, fs, e, h1, c.cl, c.no f hf, by rw [h3.len]; exact hl, k σ _ ⟨F, ?_⟩⟩
    exact (s2.put1 (o := .ins C dx (putF f v fs)) h h0 ⟨h0, dx, _, rfl, g.put s2.fr.1.2 h3⟩).weak (.of rfl fun F h => h.1.1)
theorem fld_k {C : Addr} {f : Str} {ns ns' : List Str} {xs xs' : List VD} (ho : Ev ta ρ M1 (val (.ref p)) M2) (h : Put p (cI C ns xs) (cI C ns' xs') M2 M3) (g : FPut f y ns xs ns' xs') (hl : ns.length < 1000) (k : Cont D.nx Φ ρ M3) :
    ∃ p ns ns' xs xs' M2 M3, Ev ta ρ M1 (val (.ref p)) M2 ∧ Put p (cI C ns xs) (cI C ns' xs') M2 M3 ∧ FPut f y ns xs ns' xs' ∧ ns.length < 1000 ∧ Cont D.nx Φ ρ M3 := ⟨p, ns, ns', xs, xs', M2, M3, ho, h, g, hl, k⟩
/-- what is said of an empty list -/
theorem eqv_nil {ds : List PyData} : PyData.eqv (.list ds) (.list []) = ds.isEmpty := by
  cases ds <;> simp [PyData.eqv, PyData.eqvAll]
theorem eqv_nilT {ds : List PyData} : PyData.eqv (.tuple ds) (.tuple []) = ds.isEmpty := by
  cases ds <;> simp [PyData.eqv, PyData.eqvAll]
theorem c_asgP {i : Nat} (h : Ev te ρ M x M) (hs : SetAt x ρ i ρ') (k : Cont D.nx Φ ρ' M) : Cont (tAsg te (gName i) D) Φ ρ M := c_asg h hs k
theorem rc_lenM {α : Type} {f : α → PyData} {xs : List α} (hx : IsLst x M (xs.map f)) : RC (rLenU K) [x] M (dat (.int (xs.length : Int))) M := by
  have h := rc_lenL (K := K) hx
  rw [List.length_map] at h; exact h
theorem rc_lenMT {α : Type} {f : α → PyData} {xs : List α} : RC (rLenU K) [dat (.tuple (xs.map f))] M (dat (.int (xs.length : Int))) M := by
  have h := rc_lenT (K := K) (M := M) (ist_dat (ds := xs.map f))
  rw [List.length_map] at h; exact h
/-! ### slices -/
theorem cut_map {α β : Type} (f : α → β) (xs : List α) (lo hi : Option Int) : cutD (xs.map f) lo hi = (cutD xs lo hi).map f := by
  unfold cutD
  rw [List.length_map, List.map_take, List.map_drop]
theorem cut_nn {α : Type} (xs : List α) (a b : Nat) : cutD xs (some (a : Int)) (some (b : Int)) = (xs.drop a).take (b - a) := by
  unfold cutD
  rw [HT.sIx_nat, HT.sIx_nat]
  apply List.ext_getElem?
  intro i
  rw [List.getElem?_take, List.getElem?_take, List.getElem?_drop, List.getElem?_drop]
  by_cases h : i < b - a
  · rw [if_pos h]
    by_cases h2 : i < min b xs.length - min a xs.length
    · rw [if_pos h2]
      have : min a xs.length = a := by omega
      rw [this]
    · rw [if_neg h2, List.getElem?_eq_none (by omega)]
  · rw [if_neg h, if_neg (by omega)]
theorem cut_0n {α : Type} (xs : List α) (b : Nat) : cutD xs none (some (b : Int)) = xs.take b := by
  have := cut_nn xs 0 b
  unfold cutD at this ⊢
  rw [HT.sIx_none]
  rw [show ((0 : Nat) : Int) = 0 from rfl] at this
  have e : HT.sIx xs.length 0 (some 0) = 0 := by
    have := HT.sIx_nat xs.length 0 0
    simpa using this
  rw [e] at this
  simpa using this
theorem cut_n0 {α : Type} (xs : List α) (a : Nat) : cutD xs (some (a : Int)) none = xs.drop a := by
  unfold cutD
  rw [HT.sIx_nat, HT.sIx_none]
  apply List.ext_getElem?
  intro i
  rw [List.getElem?_take, List.getElem?_drop, List.getElem?_drop]
  by_cases h2 : i < xs.length - min a xs.length
  · rw [if_pos h2]
    have : min a xs.length = a := by omega
    rw [this]
  · rw [if_neg h2, List.getElem?_eq_none (by omega)]
theorem ev_slT1 {te : TE} {tl th : TO} {d : PyData} {ds : List PyData} (h : Ev te ρ M (dat (.tuple (d :: ds))) M1) (h1 : EvO tl ρ M1 (some 1) M2) (h2 : EvO th ρ M2 none M3) : Ev (tSl (rSlU K) te tl th) ρ M (dat (.tuple ds)) M3 := by
  have := ev_slT (K := K) h h1 h2
  have e : cutD (d :: ds) (some ((1 : Nat) : Int)) none = ds := by rw [cut_n0]; rfl
  rw [show (some (1 : Int)) = some ((1 : Nat) : Int) from rfl, e] at this
  exact this
theorem ei_seqTM {α : Type} {f : α → PyData} {xs : List α} {tl : TE} (h : Ev tl ρ M (dat (.tuple (xs.map f))) M') : EvI (iSeq K tl) ρ M (xs.map fun a => dat (f a)) M' := by
  have := ei_seqT (K := K) h fzt_dat
  rw [List.map_map] at this
  exact this
theorem ei_seqLM {α : Type} {f : α → PyData} {xs : List α} {tl : TE} (h : Ev tl ρ M (dat (.list (xs.map f))) M') : EvI (iSeq K tl) ρ M (xs.map fun a => dat (f a)) M' := by
  have := ei_seqL (K := K) h fzl_dat
  rw [List.map_map] at this
  exact this
theorem any_map_id {α : Type} (xs : List α) (g : α → Bool) : (xs.map g).any id = xs.any g := by
  induction xs with
  | nil => rfl
  | cons x xs ih => simp [ih]
theorem all_map_id {α : Type} (xs : List α) (g : α → Bool) : (xs.map g).all id = xs.all g := by
  induction xs with
  | nil => rfl
  | cons x xs ih => simp [ih]
theorem rc_anyM {α : Type} {g : α → Bool} {xs : List α} : RC (rAny K) [dat (.list (xs.map fun a => .bool (g a)))] M (dat (.bool (xs.any g))) M := by
  have := rc_any (K := K) (M := M) (bs := xs.map g) (x := dat (.list ((xs.map g).map PyData.bool))) isl_dat
  rw [any_map_id, List.map_map] at this
  exact this
theorem rc_allM {α : Type} {g : α → Bool} {xs : List α} : RC (rAll K) [dat (.list (xs.map fun a => .bool (g a)))] M (dat (.bool (xs.all g))) M := by
  have := rc_all (K := K) (M := M) (bs := xs.map g) (x := dat (.list ((xs.map g).map PyData.bool))) isl_dat
  rw [all_map_id, List.map_map] at this
  exact this
theorem c_invF {J : Env → Cells → Prop} {Φ Ψ : Fr} (j : J ρ' M) (h : Fgt ρ ρ') (l : Le Ψ Φ) : Cont (InvK Φ J) Ψ ρ M := c_fgt h (c_inv j l)
theorem asgR_k {k : L2.St → Hp → Prop} {Φ : Fr} {i : Nat} (h : SetAt x ρ i ρ') (c : Cont k Φ ρ' M) : ∃ ρ', SetAt x ρ i ρ' ∧ Cont k Φ ρ' M := ⟨ρ', h, c⟩
theorem asgGR_k {k : L2.St → Hp → Prop} {Φ : Fr} {g : TG} {js : List Nat} (h : Tgt g js x ρ ρ') (c : Cont k Φ ρ' M) : ∃ ρ' js, Tgt g js x ρ ρ' ∧ Cont k Φ ρ' M := ⟨ρ', js, h, c⟩
def TgtsD (gs : TGs) (js : List Nat) (ds : List PyData) (ρ ρ' : Env) : Prop := Tgts gs js (ds.map dat) ρ ρ'
theorem td_nil : TgtsD gNil [] [] ρ ρ := tgs_nil
theorem td_cons {ρ2 : Env} {g : TG} {gs : TGs} {js ks : List Nat} {d : PyData} {ds : List PyData} (h : Tgt g js (dat d) ρ ρ1) (hs : TgtsD gs ks ds ρ1 ρ2) : TgtsD (gCons g gs) (js ++ ks) (d :: ds) ρ ρ2 := tgs_cons h hs
theorem td_tup {gs : TGs} {js : List Nat} {n : Nat} {ds : List PyData} (hs : TgtsD gs js ds ρ ρ') (hn : ds.length = n) : Tgt (gTup K n gs) js (dat (.tuple ds)) ρ ρ' := tg_tupD hs hn
/-! ### enumerate, data -/
theorem ei_enumD {α : Type} {f : α → PyData} {xs : List α} {ta : TA} (h : EvA ta ρ M [x] M') (hx : FzL x ((xs.map f).map dat)) : EvI (iEnum K ta) ρ M (xs.zipIdx.map fun p => vtup [dat (.int (p.2 : Int)), dat (f p.1)]) M' := by
  have h := ei_enum (K := K) h hx
  have e : (((irange 0 ((xs.map f).map dat).length).zip ((xs.map f).map dat)).map fun p => vtup [p.1, p.2]) = xs.zipIdx.map fun p => vtup [dat (.int (p.2 : Int)), dat (f p.1)] := by
    apply List.ext_getElem?
    intro i
    rw [List.getElem?_map, List.getElem?_map, List.getElem?_zipIdx]
    by_cases hi : i < xs.length
    · have h1 : xs[i]? = some xs[i] := by simp [hi]
      have h2 : (irange 0 ((xs.map f).map dat).length)[i]? = some (dat (.int (i : Int))) := by
        unfold irange
        rw [List.getElem?_map, List.getElem?_range (by simpa using hi)]
        simp
      have h3 : ((xs.map f).map dat)[i]? = some (dat (f xs[i])) := by simp [hi]
      have h4 : ((irange 0 ((xs.map f).map dat).length).zip ((xs.map f).map dat))[i]? = some (dat (.int (i : Int)), dat (f xs[i])) := List.getElem?_zip_eq_some.mpr ⟨h2, h3⟩
      rw [h4, h1]
      simp
    · have h1 : xs[i]? = none := by simp; omega
      have h4 : ((irange 0 ((xs.map f).map dat).length).zip ((xs.map f).map dat))[i]? = none := by
        apply List.getElem?_eq_none
        rw [List.length_zip]
        simp
        omega
      rw [h4, h1]
      simp
  rw [e] at h
  exact h
theorem rng_map (lo : Int) (n : Nat) : irange lo n = (List.range n).map fun i => dat (.int (lo + (i : Nat))) := rfl
/-- each item gives one -/
theorem ev_lcY {α : Type} {wi : TI} {g : TG} {vs : List Nat} {e : α → VD} {xs : List α} {r : α → PyData} (h : EvI wi ρ M (xs.map e) M1) (hl : xs.length ≤ 16000000)
    (hs : ∀ a, a ∈ xs → ∃ ρ'' js, Tgt g js (e a) (wipeE ρ vs) ρ'' ∧ (∀ i ∈ js, i ∈ vs) ∧ Ev te ρ'' M1 (dat (r a)) M1) : Ev (tLc wi g tYes te vs) ρ M (dat (.list (xs.map r))) M1 := by
  have := ev_lc (tt := tYes) (f := fun _ => true) (r := r) h hl fun a ha => let ⟨ρ'', js, h1, hj, h2⟩ := hs a ha; ⟨ρ'', js, h1, hj, et_yes, fun _ => h2⟩
  have e : xs.filter (fun _ => true) = xs := by simp
  rw [e] at this
  exact this
theorem lcY_k {g : TG} {js vs : List Nat} {d : VD} (h : Tgt g js d ρ ρ') (hj : ∀ i ∈ js, i ∈ vs) (k : Ev te ρ' M x M) : ∃ ρ'' js, Tgt g js d ρ ρ'' ∧ (∀ i ∈ js, i ∈ vs) ∧ Ev te ρ'' M x M := ⟨ρ', js, h, hj, k⟩
theorem lcF_k {g : TG} {tt : TT} {js vs : List Nat} {d : VD} {b : Bool} (h : Tgt g js d ρ ρ') (hj : ∀ i ∈ js, i ∈ vs) (ht : EvT tt ρ' M b M) (k : b = true → Ev te ρ' M x M) : ∃ ρ'' js, Tgt g js d ρ ρ'' ∧ (∀ i ∈ js, i ∈ vs) ∧ EvT tt ρ'' M b M ∧ (b = true → Ev te ρ'' M x M) := ⟨ρ', js, h, hj, ht, k⟩
end
section
/-! ### some cells are changed, the others stay as they are -/
def Sw (cs cs' : Cells) (M M' : Cells) : Prop := ∃ L, M.Perm (cs ++ L) ∧ M'.Perm (cs' ++ L)
inductive Pk (p : Addr) (c c' : CD) : Cells → Cells → Cells → Cells → Prop
  | here {r r' : Cells} : Pk p c c' ((p, c) :: r) ((p, c') :: r') r r'
  | there {x x' : Addr × CD} {cs cs' r r' : Cells} : Pk p c c' cs cs' r r' → Pk p c c' (x :: cs) (x' :: cs') (x :: r) (x' :: r')
theorem Pk.perm {p : Addr} {c c' : CD} {cs cs' r r' : Cells} (h : Pk p c c' cs cs' r r') : cs.Perm ((p, c) :: r) ∧ cs'.Perm ((p, c') :: r') := by
  induction h with
  | here => exact ⟨.refl _, .refl _⟩
  | there _ ih => exact ⟨(ih.1.cons _).trans (.swap _ _ _), (ih.2.cons _).trans (.swap _ _ _)⟩
theorem sw_nil {M : Cells} : Sw [] [] M M := ⟨M, .refl _, .refl _⟩
theorem sw_pick {p : Addr} {c c' : CD} {cs cs' r r' M M' : Cells} (h : Pk p c c' cs cs' r r') (k : Sw r r' M M') : Sw cs cs' ((p, c) :: M) ((p, c') :: M') := by
  obtain ⟨L, h1, h2⟩ := k
  exact ⟨L, (h1.cons _).trans (h.perm.1.symm.append_right L), (h2.cons _).trans (h.perm.2.symm.append_right L)⟩
theorem sw_skip {x : Addr × CD} {cs cs' M M' : Cells} (k : Sw cs cs' M M') : Sw cs cs' (x :: M) (x :: M') := by
  obtain ⟨L, h1, h2⟩ := k
  exact ⟨x :: L, (h1.cons _).trans List.perm_middle.symm, (h2.cons _).trans List.perm_middle.symm⟩
inductive Rm (c : Addr × CD) : Cells → Cells → Prop
  | here {l : Cells} : Rm c (c :: l) l
  | there {x : Addr × CD} {l l' : Cells} : Rm c l l' → Rm c (x :: l) (x :: l')
theorem Rm.perm {c : Addr × CD} {l l' : Cells} (h : Rm c l l') : l.Perm (c :: l') := by
  induction h with
  | here => exact .refl _
  | there _ ih => exact (ih.cons _).trans (.swap _ _ _)
theorem perm_step {c : Addr × CD} {l l' r : Cells} (h : Rm c l l') (k : l'.Perm r) : l.Perm (c :: r) := h.perm.trans (k.cons c)
/-- behind a def: the order of the cells, and cells of its own -/
def Up (P : VD → Cells → Prop) : VD → Cells → Prop := fun x N => ∃ N1 N', N.Perm N1 ∧ N'.Sublist N1 ∧ P x N'
theorem RtQ.up {Q : VK} {Φ : Fr} {P : VD → Cells → Prop} (h : RtQ Q Φ P) : RtQ Q Φ (Up P) := fun Φ' ρ σ x M v H l ⟨N1, N', h1, h2, hp⟩ s => h Φ' ρ σ x N' v H l hp ((s.perm h1).drop h2)
theorem up_perm {P : VD → Cells → Prop} {x : VD} {N N' : Cells} (h : N.Perm N') (hp : P x N') : Up P x N := ⟨N', N', h, .refl _, hp⟩
theorem up_of {P : VD → Cells → Prop} {x : VD} {N : Cells} (hp : P x N) : Up P x N := ⟨N, N, .refl _, .refl _, hp⟩
theorem up_drop {P : VD → Cells → Prop} {x : VD} {N N' : Cells} (h : N'.Sublist N) (hp : P x N') : Up P x N := ⟨N, N', .refl _, h, hp⟩
end
/-- None or an int -/
def oi : Option Int → PyData
  | none => .none
  | some i => .int i
theorem isNone_oi (o : Option Int) : isNoneD (oi o) = o.isNone := by cases o <;> rfl
theorem eqok_oi : EqOk oi := fun x y => by cases x <;> cases y <;> simp [oi, PyData.eqv]
theorem shp_oi {n : Nat} (o : Option Int) : Shp n (oi o) := by
  cases o with
  | none => exact shp_none
  | some i => exact shp_int
end Sx

set_option Elab.async false
set_option linter.all false
set_option maxRecDepth 100000
set_option maxHeartbeats 2000000
namespace Lw
open PySem L2 Sx
/-! ### the data: an end, a frame -/
structure EndS where
  out : List Int
  ans : Nat
  told : List Int
  ep : Int
structure Fm where
  num : Option Int
  word : Option Int
  k : Nat
abbrev fN : List Str := ["out", "answered", "told", "epoch"]
abbrev tl (xs : List Int) : CD := cLd (xs.map PyData.int)
abbrev endI (C a b : Addr) (e : EndS) : CD := cI C fN [val (.ref a), dat (.int (e.ans : Int)), val (.ref b), dat (.int e.ep)]
abbrev endC (C p a b : Addr) (e : EndS) : Cells := [(p, endI C a b e), (a, tl e.out), (b, tl e.told)]
abbrev encF (f : Fm) : PyData := .tuple [.str "frame", oi f.num, oi f.word, .int (f.k : Int)]
def rowsOf (e : EndS) : List Int := (e.out.drop e.ans).take 3
def frF (e : EndS) (p : Int × Nat) : Fm := ⟨some ((e.ans : Int) + (p.2 : Int)), some p.1, e.told.length⟩
def framesOf (e : EndS) : List Fm := if rowsOf e = [] then [⟨none, none, e.told.length⟩] else (rowsOf e).zipIdx.map (frF e)
def hearE (e : EndS) (ep : Int) (f : Fm) : EndS :=
  if ep < e.ep then e
  else ⟨e.out, if e.ans < f.k ∧ f.k ≤ e.out.length then f.k else e.ans, if f.num = some (e.told.length : Int) then e.told ++ [f.word.getD 0] else e.told, ep⟩
def e00 : EndS := ⟨[], 0, [], 0⟩
def putE (e : EndS) (w : Int) : EndS := ⟨e.out ++ [w], e.ans, e.told, e.ep⟩

/-! ### the plain law -/
/-- r is told a beginning of what s spoke; s knows of no more -/
structure Dir (s r : EndS) : Prop where
  a : s.ans ≤ r.told.length
  l : r.told.length ≤ s.out.length
  t : r.told = s.out.take r.told.length
/-- a frame that s sent -/
structure FOk (s : EndS) (f : Fm) : Prop where
  n : (f.num = none ∧ f.word = none) ∨ ∃ (n : Nat) (w : Int), f.num = some (n : Int) ∧ f.word = some w ∧ s.out[n]? = some w
  k : f.k ≤ s.told.length
theorem FOk.wf {s : EndS} {f : Fm} (h : FOk s f) : f.num.isSome = true → f.word.isSome = true := by
  rcases h.n with ⟨h1, h2⟩ | ⟨n, w, h1, h2, _⟩
  · rw [h1]; intro z; cases z
  · rw [h2]; intro _; rfl
theorem hear_out (r : EndS) (ep : Int) (f : Fm) : (hearE r ep f).out = r.out := by
  unfold hearE
  split <;> rfl
theorem hear_ans (r : EndS) (ep : Int) (f : Fm) : r.ans ≤ (hearE r ep f).ans := by
  unfold hearE
  split
  · exact Nat.le_refl _
  · show r.ans ≤ if _ then _ else _
    split <;> omega
theorem hear_told (r : EndS) (ep : Int) (f : Fm) : r.told.length ≤ (hearE r ep f).told.length ∧ (hearE r ep f).told.length ≤ r.told.length + 1 := by
  unfold hearE
  split
  · omega
  · show r.told.length ≤ (if _ then _ else _ : List Int).length ∧ (if _ then _ else _ : List Int).length ≤ _
    split
    · rw [List.length_append, List.length_singleton]; omega
    · omega
theorem hear_ep (r : EndS) (ep : Int) (f : Fm) : r.ep ≤ (hearE r ep f).ep ∧ ((hearE r ep f).ep = r.ep ∨ (hearE r ep f).ep = ep) := by
  unfold hearE
  split
  · exact ⟨by omega, .inl rfl⟩
  · exact ⟨by show r.ep ≤ ep; omega, .inr rfl⟩
theorem hear_old (r : EndS) (ep : Int) (f : Fm) (h : ep < r.ep) : hearE r ep f = r := by
  unfold hearE
  rw [if_pos h]
theorem hear_dir {s r : EndS} {ep : Int} {f : Fm} (h1 : Dir s r) (h2 : Dir r s) (h : FOk s f) : Dir s (hearE r ep f) ∧ Dir (hearE r ep f) s := by
  have ho := hear_out r ep f
  have ht := (hear_told r ep f).1
  by_cases he : ep < r.ep
  · rw [hear_old r ep f he]; exact ⟨h1, h2⟩
  have htd : (hearE r ep f).told = if f.num = some (r.told.length : Int) then r.told ++ [f.word.getD 0] else r.told := by unfold hearE; rw [if_neg he]
  have han : (hearE r ep f).ans = if r.ans < f.k ∧ f.k ≤ r.out.length then f.k else r.ans := by unfold hearE; rw [if_neg he]
  refine ⟨?_, ⟨?_, by rw [ho]; exact h2.l, by rw [ho]; exact h2.t⟩⟩
  · by_cases hn : f.num = some (r.told.length : Int)
    · rw [if_pos hn] at htd
      rcases h.n with ⟨q1, q2⟩ | ⟨n, w, q1, q2, q3⟩
      · rw [q1] at hn; cases hn
      · rw [q1] at hn
        have hn' : n = r.told.length := by
          have := Option.some.inj hn
          omega
        subst hn'
        have hlt := (List.getElem?_eq_some_iff.mp q3).1
        rw [q2] at htd
        have hl : (hearE r ep f).told.length = r.told.length + 1 := by rw [htd]; simp
        refine ⟨by have := h1.a; omega, by omega, ?_⟩
        rw [hl, List.take_succ, q3, ← h1.t, htd]
        rfl
    · rw [if_neg hn] at htd
      exact ⟨by rw [htd]; exact h1.a, by rw [htd]; exact h1.l, by rw [htd]; exact h1.t⟩
  · rw [han]
    split
    · exact h.k
    · exact h2.a
theorem FOk.hear {s : EndS} {ep : Int} {f g : Fm} (h : FOk s g) : FOk (hearE s ep f) g :=
  ⟨by rw [hear_out]; exact h.n, Nat.le_trans h.k (hear_told s ep f).1⟩
theorem FOk.put {s : EndS} {w : Int} {g : Fm} (h : FOk s g) : FOk (putE s w) g := by
  refine ⟨?_, h.k⟩
  rcases h.n with q | ⟨n, v, q1, q2, q3⟩
  · exact .inl q
  · refine .inr ⟨n, v, q1, q2, ?_⟩
    show (s.out ++ [w])[n]? = some v
    rw [List.getElem?_append_left (List.getElem?_eq_some_iff.mp q3).1]
    exact q3
theorem put_dir {s r : EndS} {w : Int} (h1 : Dir s r) (h2 : Dir r s) : Dir (putE s w) r ∧ Dir r (putE s w) := by
  refine ⟨⟨h1.a, ?_, ?_⟩, ⟨h2.a, h2.l, h2.t⟩⟩
  · show _ ≤ (s.out ++ [w]).length
    rw [List.length_append]
    have := h1.l
    omega
  · show r.told = (s.out ++ [w]).take _
    rw [List.take_append_of_le_length h1.l]
    exact h1.t
theorem rows_get {e : EndS} {i : Nat} {w : Int} (h : (rowsOf e)[i]? = some w) : e.out[e.ans + i]? = some w := by
  unfold rowsOf at h
  rw [List.getElem?_take] at h
  split at h
  · rw [List.getElem?_drop] at h
    exact h
  · cases h
theorem frames_ok {e : EndS} : ∀ f ∈ framesOf e, FOk e f ∧ f.k = e.told.length := by
  intro f hf
  unfold framesOf at hf
  split at hf
  · cases List.mem_singleton.mp hf
    exact ⟨⟨.inl ⟨rfl, rfl⟩, Nat.le_refl _⟩, rfl⟩
  · obtain ⟨⟨w, i⟩, hp, rfl⟩ := List.mem_map.mp hf
    have h1 := List.mem_zipIdx_iff_getElem?.mp hp
    refine ⟨⟨.inr ⟨e.ans + i, w, ?_, rfl, rows_get h1⟩, Nat.le_refl _⟩, rfl⟩
    show some ((e.ans : Int) + (i : Int)) = _
    rw [Int.natCast_add]
/-- both ways, all epochs at most ep -/
structure Good (s r : EndS) (ep : Int) : Prop where
  d : Dir s r
  u : Dir r s
  e : r.ep ≤ ep
theorem fold_hear {s : EndS} {ep : Int} : ∀ (rows : List Int) (i : Nat) (r : EndS), (∀ j w, rows[j]? = some w → s.out[s.ans + i + j]? = some w) → Good s r ep → s.ans + i ≤ r.told.length →
    Good s (((rows.zipIdx i).map (frF s)).foldl (fun r f => hearE r ep f) r) ep ∧ s.ans + i + rows.length ≤ (((rows.zipIdx i).map (frF s)).foldl (fun r f => hearE r ep f) r).told.length
  | [], i, r, _, g, h => ⟨g, by simpa using h⟩
  | w :: rows, i, r, hr, g, h => by
    have h0 : s.out[s.ans + i]? = some w := hr 0 w rfl
    have hf : FOk s (frF s (w, i)) := ⟨.inr ⟨s.ans + i, w, by show some ((s.ans : Int) + (i : Int)) = _; rw [Int.natCast_add], rfl, h0⟩, Nat.le_refl _⟩
    have hd := hear_dir (ep := ep) g.d g.u hf
    have hep := (hear_ep r ep (frF s (w, i))).2
    have g' : Good s (hearE r ep (frF s (w, i))) ep := ⟨hd.1, hd.2, by rcases hep with z | z <;> rw [z]; exact g.e; exact Int.le_refl _⟩
    have hlen : s.ans + (i + 1) ≤ (hearE r ep (frF s (w, i))).told.length := by
      have ht := (hear_told r ep (frF s (w, i))).1
      by_cases hq : r.told.length = s.ans + i
      · have htd : (hearE r ep (frF s (w, i))).told = r.told ++ [w] := by
          unfold hearE
          rw [if_neg (by have := g.e; omega)]
          show (if some ((s.ans : Int) + (i : Int)) = some (r.told.length : Int) then _ else _) = _
          rw [if_pos (by rw [hq, Int.natCast_add])]
          rfl
        rw [htd, List.length_append, List.length_singleton]
        omega
      · omega
    have ih := fold_hear rows (i + 1) (hearE r ep (frF s (w, i))) (fun j v hj => by
      have := hr (j + 1) v (by simpa using hj)
      rw [show s.ans + (i + 1) + j = s.ans + i + (j + 1) by omega]
      exact this) g' hlen
    rw [List.zipIdx_cons, List.map_cons, List.foldl_cons]
    refine ⟨ih.1, ?_⟩
    have := ih.2
    rw [List.length_cons]
    omega
theorem fold_out {ep : Int} : ∀ (fs : List Fm) (r : EndS), (fs.foldl (fun r f => hearE r ep f) r).out = r.out
  | [], _ => rfl
  | f :: fs, r => by rw [List.foldl_cons, fold_out fs, hear_out]
theorem fold_ep {ep : Int} : ∀ (fs : List Fm) (r : EndS), r.ep ≤ ep → (fs.foldl (fun r f => hearE r ep f) r).ep ≤ ep
  | [], _, h => h
  | f :: fs, r, h => by
    rw [List.foldl_cons]
    refine fold_ep fs _ ?_
    rcases (hear_ep r ep f).2 with z | z
    · rw [z]; exact h
    · rw [z]; exact Int.le_refl _
/-- behind frames that all tell k, which it has room for, it knows of k -/
theorem fold_ans {ep : Int} {k : Nat} : ∀ (fs : List Fm) (r : EndS), (∀ f ∈ fs, f.k = k) → r.ep ≤ ep → r.ans ≤ k → k ≤ r.out.length → fs ≠ [] → (fs.foldl (fun r f => hearE r ep f) r).ans = k
  | [], _, _, _, _, _, h => absurd rfl h
  | f :: fs, r, hk, he, ha, ho, _ => by
    rw [List.foldl_cons]
    have hf := hk f List.mem_cons_self
    have h1 : (hearE r ep f).ans = k := by
      unfold hearE
      rw [if_neg (by omega)]
      show (if r.ans < f.k ∧ f.k ≤ r.out.length then f.k else r.ans) = k
      rw [hf]
      split <;> omega
    by_cases hn : fs = []
    · subst hn; exact h1
    · exact fold_ans fs _ (fun g hg => hk g (List.mem_cons_of_mem _ hg)) (by rcases (hear_ep r ep f).2 with z | z <;> rw [z]; exact he; exact Int.le_refl _) (by omega) (by rw [hear_out]; exact ho) hn
theorem frames_ne (e : EndS) : framesOf e ≠ [] := by
  unfold framesOf
  split
  · intro z; cases z
  · rename_i h
    intro z
    rw [List.map_eq_nil_iff] at z
    exact h (by
      have := congrArg List.length z
      rw [List.length_zipIdx] at this
      exact List.eq_nil_of_length_eq_zero this)
theorem frames_le (e : EndS) : (framesOf e).length ≤ 3 := by
  unfold framesOf
  split
  · simp
  · rw [List.length_map, List.length_zipIdx]
    unfold rowsOf
    rw [List.length_take]
    omega
theorem fold_told {ep : Int} : ∀ (fs : List Fm) (r : EndS), r.told.length ≤ (fs.foldl (fun r f => hearE r ep f) r).told.length
  | [], _ => Nat.le_refl _
  | f :: fs, r => by
    rw [List.foldl_cons]
    exact Nat.le_trans (hear_told r ep f).1 (fold_told fs _)
/-- all frames of s come to r -/
def allHear (s r : EndS) (ep : Int) : EndS := (framesOf s).foldl (fun r f => hearE r ep f) r
theorem all_hear {s r : EndS} {ep : Int} (g : Good s r ep) : Good s (allHear s r ep) ep ∧ min s.out.length (s.ans + 3) ≤ (allHear s r ep).told.length ∧ (allHear s r ep).out = r.out ∧ (allHear s r ep).ans = s.told.length := by
  have hans : (allHear s r ep).ans = s.told.length := fold_ans (framesOf s) r (fun f hf => (frames_ok f hf).2) g.e g.u.a g.u.l (frames_ne s)
  by_cases h : rowsOf s = []
  · have hf : framesOf s = [⟨none, none, s.told.length⟩] := by unfold framesOf; rw [if_pos h]
    have hd := hear_dir (ep := ep) g.d g.u (f := ⟨none, none, s.told.length⟩) ⟨.inl ⟨rfl, rfl⟩, Nat.le_refl _⟩
    have hl : s.out.length ≤ s.ans := by
      unfold rowsOf at h
      have := congrArg List.length h
      rw [List.length_take, List.length_drop] at this
      simp at this
      omega
    have ht := fold_told (ep := ep) (framesOf s) r
    have ha := g.d.a
    refine ⟨?_, ?_, fold_out _ _, hans⟩
    · unfold allHear
      rw [hf]
      refine ⟨hd.1, hd.2, ?_⟩
      show (hearE r ep ⟨none, none, s.told.length⟩).ep ≤ ep
      rcases (hear_ep r ep ⟨none, none, s.told.length⟩).2 with z | z
      · rw [z]; exact g.e
      · rw [z]; exact Int.le_refl _
    · unfold allHear
      omega
  · have hf : framesOf s = (rowsOf s).zipIdx.map (frF s) := by unfold framesOf; rw [if_neg h]
    have hh := fold_hear (s := s) (ep := ep) (rowsOf s) 0 r (fun j w hj => by rw [Nat.add_zero]; exact rows_get hj) g (by have := g.d.a; omega)
    have hl : (rowsOf s).length = min 3 (s.out.length - s.ans) := by unfold rowsOf; rw [List.length_take, List.length_drop]
    have h2 := hh.2
    refine ⟨?_, ?_, fold_out _ _, hans⟩
    · unfold allHear
      rw [hf]
      exact hh.1
    · unfold allHear
      rw [hf]
      omega
/-- behind j rounds -/
structure Rd (j : Nat) (e0 e1 : EndS) (ep : Int) : Prop where
  a : Dir e0 e1
  b : Dir e1 e0
  p : e0.ep ≤ ep
  q : e1.ep ≤ ep
  m : min e0.out.length j ≤ e1.told.length
  n : min e1.out.length j ≤ e0.told.length
  k : 0 < j → e0.ans = e1.told.length
theorem Rd.next {j : Nat} {e0 e1 : EndS} {ep : Int} (h : Rd j e0 e1 ep) : Good e0 (allHear e0 e1 ep) ep ∧ e0.ep ≤ ep ∧ Rd (j + 1) (allHear (allHear e0 e1 ep) e0 ep) (allHear e0 e1 ep) ep := by
  obtain ⟨g1, l1, o1, a1⟩ := all_hear (s := e0) (r := e1) (ep := ep) ⟨h.a, h.b, h.q⟩
  obtain ⟨g2, l2, o2, a2⟩ := all_hear (s := allHear e0 e1 ep) (r := e0) (ep := ep) ⟨g1.u, g1.d, h.p⟩
  have hm := h.m
  have hn := h.n
  have hk := h.k
  refine ⟨g1, h.p, ⟨g2.u, g2.d, g2.e, g1.e, ?_, ?_, fun _ => a2⟩⟩
  · rw [o2]
    by_cases hj : 0 < j
    · have := hk hj
      omega
    · omega
  · rw [a1] at l2
    rw [o1] at l2 ⊢
    omega
theorem Rd.last {j : Nat} {e0 e1 : EndS} {ep : Int} (h : Rd j e0 e1 ep) (hj : 0 < j) (h0 : e0.out.length ≤ j) (h1 : e1.out.length ≤ j) : e0.told = e1.out ∧ e1.told = e0.out ∧ e0.ans = e0.out.length := by
  have hm := h.m
  have hn := h.n
  have l1 := h.a.l
  have l2 := h.b.l
  have t1 := h.a.t
  have t2 := h.b.t
  refine ⟨?_, ?_, by have := h.k hj; omega⟩
  · rw [t2, show e0.told.length = e1.out.length by omega, List.take_length]
  · rw [t1, show e1.told.length = e0.out.length by omega, List.take_length]

def top (i : Nat) : Stmt := PySem.Challenge.pw_mastcalls_k14_whole_ends.main.body.getD i (.Pass ⟨0, 0, 0, 0⟩)
abbrev s_End_init : Stmt := (inClass (top 2) 0)
abbrev s_End_put : Stmt := (inClass (top 2) 1)
abbrev s_End_frames : Stmt := (inClass (top 2) 2)
abbrev s_End_hear : Stmt := (inClass (top 2) 3)
abbrev s_law_number : Stmt := (top 4)
abbrev s_law_take : Stmt := (top 5)
abbrev s_law : Stmt := (top 6)
theorem sc_End_init : FnScope ["self"] ["self"] (defScope s_End_init) := ⟨rfl, rfl, rfl, by decide +kernel, rfl, by decide +kernel, by decide +kernel⟩
theorem sc_End_put : FnScope ["self", "word"] ["self", "word"] (defScope s_End_put) := ⟨rfl, rfl, rfl, by decide +kernel, rfl, by decide +kernel, by decide +kernel⟩
theorem sc_End_frames : FnScope ["self", "rows", "found", "at", "word"] ["self"] (defScope s_End_frames) := ⟨rfl, rfl, rfl, by decide +kernel, rfl, by decide +kernel, by decide +kernel⟩
theorem sc_End_hear : FnScope ["self", "epoch", "frame", "number", "word", "answered"] ["self", "epoch", "frame"] (defScope s_End_hear) := ⟨rfl, rfl, rfl, by decide +kernel, rfl, by decide +kernel, by decide +kernel⟩
theorem sc_law_number : FnScope ["_law_script", "_law_index", "_law_cell", "_law_blend"] ["_law_script", "_law_index"] (defScope s_law_number) := ⟨rfl, rfl, rfl, by decide +kernel, rfl, by decide +kernel, by decide +kernel⟩
theorem sc_law_take : FnScope ["_law_draw", "_law_many"] ["_law_draw", "_law_many"] (defScope s_law_take) := ⟨rfl, rfl, rfl, by decide +kernel, rfl, by decide +kernel, by decide +kernel⟩
theorem sc_law : FnScope ["_law_script", "_law_draw", "_law_ends", "_law_letters", "_law_epoch", "_law_turn", "_law_kind", "_law_at", "_law_frames", "_law_words", "_law_place", "_law_goal", "_law_old", "_law_frame", "_law_end", "_law_before", "_law_one", "_law_other"] ["_law_script"] (defScope s_law) := ⟨rfl, rfl, rfl, by decide +kernel, rfl, by decide +kernel, by decide +kernel⟩
/-! what the walk asks of the text as the top has left it -/
structure Tx (K : PySem.W.Frag) (mg : Str → Option Value) where
  C_End : Addr
  f_End_init : Addr
  fd_End_init : FuncData
  f_End_put : Addr
  fd_End_put : FuncData
  f_End_frames : Addr
  fd_End_frames : FuncData
  f_End_hear : Addr
  fd_End_hear : FuncData
  f_law_number : Addr
  fd_law_number : FuncData
  f_law_take : Addr
  fd_law_take : FuncData
  f_law : Addr
  fd_law : FuncData
  F_End : ClsF K C_End ["out", "answered", "told", "epoch"]
  mg_End : mg "End" = some (.ref C_End)
  M_End : Mk K C_End f_End_init
  F_End_init : Fun K "__init__" "End.__init__" s_End_init f_End_init fd_End_init
  k_End_init : PySem.W.keepIn K (.ref f_End_init) = true
  b_End_init : Binds K fd_End_init ["self"] []
  F_End_put : Fun K "put" "End.put" s_End_put f_End_put fd_End_put
  k_End_put : PySem.W.keepIn K (.ref f_End_put) = true
  b_End_put : Binds K fd_End_put ["self", "word"] []
  m_End_put : Meth K C_End "put" f_End_put
  F_End_frames : Fun K "frames" "End.frames" s_End_frames f_End_frames fd_End_frames
  k_End_frames : PySem.W.keepIn K (.ref f_End_frames) = true
  b_End_frames : Binds K fd_End_frames ["self"] []
  m_End_frames : Meth K C_End "frames" f_End_frames
  F_End_hear : Fun K "hear" "End.hear" s_End_hear f_End_hear fd_End_hear
  k_End_hear : PySem.W.keepIn K (.ref f_End_hear) = true
  b_End_hear : Binds K fd_End_hear ["self", "epoch", "frame"] []
  m_End_hear : Meth K C_End "hear" f_End_hear
  F_law_number : Fun K "_law_number" "_law_number" s_law_number f_law_number fd_law_number
  k_law_number : PySem.W.keepIn K (.ref f_law_number) = true
  b_law_number : Binds K fd_law_number ["_law_script", "_law_index"] []
  mg_law_number : mg "_law_number" = some (.ref f_law_number)
  F_law_take : Fun K "_law_take" "_law_take" s_law_take f_law_take fd_law_take
  k_law_take : PySem.W.keepIn K (.ref f_law_take) = true
  b_law_take : Binds K fd_law_take ["_law_draw", "_law_many"] []
  mg_law_take : mg "_law_take" = some (.ref f_law_take)
  F_law : Fun K "law" "law" s_law f_law fd_law
  k_law : PySem.W.keepIn K (.ref f_law) = true
  b_law : Binds K fd_law ["_law_script"] []
  mg_law : mg "law" = some (.ref f_law)
  t_WINDOW : Tok
  mg_WINDOW : mg "WINDOW" = some (.int 3 t_WINDOW)
  no_abs : mg "abs" = none
  no_any : mg "any" = none
  no_enumerate : mg "enumerate" = none
  no_int : mg "int" = none
  no_len : mg "len" = none
  no_list : mg "list" = none
  no_max : mg "max" = none
  no_range : mg "range" = none
  no_tuple : mg "tuple" = none
def S_law_number (K : PySem.W.Frag) {mg : Str → Option Value} (T : Tx K mg) : FSpec := fun ds M P => ∃ (s : List Int) (i : Int), ds = [vscr K s, dat (.int i)] ∧ P (dat (.int (lawNum s i))) M
def S_law_take (K : PySem.W.Frag) {mg : Str → Option Value} (T : Tx K mg) : FSpec := fun ds M P => ∃ (s : List Int) (k m : Int) (p : Addr) (M' : Cells), ds = [val (.ref p), dat (.int m)] ∧ 0 < m ∧ Put p (cDraw K s k) (cDraw K s (k + 1)) M M' ∧ P (dat (.int (tk s (k + 1) m))) M'

def S_End_init (K : PySem.W.Frag) {mg : Str → Option Value} (T : Tx K mg) : FSpec := fun ds M P => ∃ p M0, ds = [val (.ref p)] ∧ M = (p, cI T.C_End [] []) :: M0 ∧ ∀ a b, P vn (endC T.C_End p a b e00 ++ M0)
def S_End_put (K : PySem.W.Frag) {mg : Str → Option Value} (T : Tx K mg) : FSpec := fun ds M P => ∃ p a b e w M', ds = [val (.ref p), dat (.int w)] ∧ e.out.length ≤ 1000000 ∧ Sw (endC T.C_End p a b e) (endC T.C_End p a b (putE e w)) M M' ∧ P vn M'
def S_End_frames (K : PySem.W.Frag) {mg : Str → Option Value} (T : Tx K mg) : FSpec := fun ds M P => ∃ p a b e, ds = [val (.ref p)] ∧ e.out.length ≤ 1000000 ∧ Sw (endC T.C_End p a b e) (endC T.C_End p a b e) M M ∧ P (dat (.tuple ((framesOf e).map encF))) M
def S_End_hear (K : PySem.W.Frag) {mg : Str → Option Value} (T : Tx K mg) : FSpec := fun ds M P => ∃ p a b e ep f M', ds = [val (.ref p), dat (.int ep), dat (encF f)] ∧ (f.num.isSome = true → f.word.isSome = true) ∧ e.told.length ≤ 1000000 ∧ Sw (endC T.C_End p a b e) (endC T.C_End p a b (hearE e ep f)) M M' ∧ P vn M'

def SLaw (K : PySem.W.Frag) : FSpec := fun ds M P => ∃ s : List Int, ds = [vscr K s] ∧ M = [] ∧ s.length ≤ 63 ∧ ∀ M', P (dat (.bool true)) M'
def S_law (K : PySem.W.Frag) {mg : Str → Option Value} (T : Tx K mg) : FSpec := SLaw K
abbrev rd_law_number_8 (K : PySem.W.Frag) {mg : Str → Option Value} (T : Tx K mg) : TS := (tRet (tCB (rInt1) (tCons (tOp (rI (fun _ j => 0 < j) fun i j => .int (i % j)) (tOp (rAddU K) (tOp (rI CMul fun i j => .int (i * j)) (tOp (rI (fun _ j => 0 < j) fun i j => .int (i % j)) (tOp (rI CMul fun i j => .int (i * j)) (tVar 3) (tC (.int 69621))) (tC (.int 2147483629))) (tC (.int 16807))) (tVar 1)) (tC (.int 2147483587))) tNil)))
abbrev rd_law_number_7 (K : PySem.W.Frag) {mg : Str → Option Value} (T : Tx K mg) : TS := tSeq (tAsg (tOp (rI (fun _ j => 0 < j) fun i j => .int (i % j)) (tOp (rAddU K) (tOp (rI CMul fun i j => .int (i * j)) (tOp (rAddU K) (tVar 2) (tOp (rI CMul fun i j => .int (i * j)) (tC (.int 977)) (tVar 1))) (tC (.int 48271))) (tOp (rI CMul fun i j => .int (i * j)) (tC (.int 31)) (tCB (rLenU K) (tCons (tVar 0) tNil)))) (tC (.int 2147483647))) (gName 3)) (rd_law_number_8 K T)
abbrev rd_law_number_6 (K : PySem.W.Frag) {mg : Str → Option Value} (T : Tx K mg) : TS := tNext
abbrev rd_law_number_5 (K : PySem.W.Frag) {mg : Str → Option Value} (T : Tx K mg) : TS := (tAsg (tOp (rI (fun _ j => 0 < j) fun i j => .int (i % j)) (tVar 2) (tOp (rI CPow fun i j => .int (i ^ j.toNat)) (tC (.int 10)) (tC (.int 18)))) (gName 2))
abbrev rd_law_number_4 (K : PySem.W.Frag) {mg : Str → Option Value} (T : Tx K mg) : TS := Evl.tCut (tIfS (tTest (tOp (rI0 fun i j => .bl (decide (j ≤ i))) (tCB (rAbs) (tCons (tVar 2) tNil)) (tOp (rI CPow fun i j => .int (i ^ j.toNat)) (tC (.int 10)) (tC (.int 60))))) (rd_law_number_5 K T) (rd_law_number_6 K T)) (rd_law_number_7 K T)
abbrev rd_law_number_3 (K : PySem.W.Frag) {mg : Str → Option Value} (T : Tx K mg) : TS := tSeq (tAsg (tOp (rIx K) (tVar 0) (tOp (rI (fun _ j => 0 < j) fun i j => .int (i % j)) (tVar 1) (tCB (rLenU K) (tCons (tVar 0) tNil)))) (gName 2)) (rd_law_number_4 K T)
abbrev rd_law_number_2 (K : PySem.W.Frag) {mg : Str → Option Value} (T : Tx K mg) : TS := tNext
abbrev rd_law_number_1 (K : PySem.W.Frag) {mg : Str → Option Value} (T : Tx K mg) : TS := (tRet (tCB (rInt1) (tCons (tOp (rI (fun _ j => 0 < j) fun i j => .int (i % j)) (tOp (rAddU K) (tOp (rI CMul fun i j => .int (i * j)) (tVar 1) (tC (.int 48271))) (tC (.int 12345))) (tC (.int 2147483647))) tNil)))
abbrev rd_law_number_0 (K : PySem.W.Frag) {mg : Str → Option Value} (T : Tx K mg) : TS := Evl.tCut (tIfS (tTest (tOp (rEqU K) (tVar 0) (tLst tNil))) (rd_law_number_1 K T) (rd_law_number_2 K T)) (rd_law_number_3 K T)
abbrev rd_law_take_1 (K : PySem.W.Frag) {mg : Str → Option Value} (T : Tx K mg) : TS := (tRet (tOp (rI (fun _ j => 0 < j) fun i j => .int (i % j)) (tCB (rInt1) (tCons (tCall (spF 2 (S_law_number K T)) [] E0 (tCons (tOp (rIx K) (tVar 0) (tC (.int 0))) (tCons (tCB (rInt1) (tCons (tOp (rIx K) (tVar 0) (tC (.int 1))) tNil)) tNil))) tNil)) (tVar 1)))
abbrev rd_law_take_0 (K : PySem.W.Frag) {mg : Str → Option Value} (T : Tx K mg) : TS := tSeq (tAugS (tVar 0) (tC (.int 1)) (tC (.int 1)) (rIxL K) (ipI fun i j => i + j) rSetL) (rd_law_take_1 K T)
abbrev rd_End_init_3 (K : PySem.W.Frag) {mg : Str → Option Value} (T : Tx K mg) : TS := (sFld K (tVar 0) (tC (.int 0)) "epoch")
abbrev rd_End_init_2 (K : PySem.W.Frag) {mg : Str → Option Value} (T : Tx K mg) : TS := tSeq (sFld K (tVar 0) (tLst tNil) "told") (rd_End_init_3 K T)
abbrev rd_End_init_1 (K : PySem.W.Frag) {mg : Str → Option Value} (T : Tx K mg) : TS := tSeq (sFld K (tVar 0) (tC (.int 0)) "answered") (rd_End_init_2 K T)
abbrev rd_End_init_0 (K : PySem.W.Frag) {mg : Str → Option Value} (T : Tx K mg) : TS := tSeq (sFld K (tVar 0) (tLst tNil) "out") (rd_End_init_1 K T)
abbrev rd_End_put_0 (K : PySem.W.Frag) {mg : Str → Option Value} (T : Tx K mg) : TS := (tDrop (tBM K "list" rAppend (tFld K (tVar 0) "out") (tCons (tVar 1) tNil)))
abbrev rd_End_frames_2 (K : PySem.W.Frag) {mg : Str → Option Value} (T : Tx K mg) : TS := (tRet (tIf (tTest (tOp (rNeU K) (tVar 2) (tLst tNil))) (tCB (rTupOf K) (tCons (tVar 2) tNil)) (tTup (tCons (tTup (tCons (tC (.str "frame")) (tCons (tC .non) (tCons (tC .non) (tCons (tCB (rLenU K) (tCons (tFld K (tVar 0) "told") tNil)) tNil))))) tNil))))
abbrev rd_End_frames_1 (K : PySem.W.Frag) {mg : Str → Option Value} (T : Tx K mg) : TS := tSeq (tAsg (tLc (iEnum K (tCons (tVar 1) tNil)) (gTup K 2 (gCons (gName 3) (gCons (gName 4) gNil))) tYes (tTup (tCons (tC (.str "frame")) (tCons (tOp (rAddU K) (tFld K (tVar 0) "answered") (tVar 3)) (tCons (tVar 4) (tCons (tCB (rLenU K) (tCons (tFld K (tVar 0) "told") tNil)) tNil))))) [3, 4]) (gName 2)) (rd_End_frames_2 K T)
abbrev rd_End_frames_0 (K : PySem.W.Frag) {mg : Str → Option Value} (T : Tx K mg) : TS := tSeq (tAsg (tSl (rSlU K) (tFld K (tVar 0) "out") (tPart (tFld K (tVar 0) "answered")) (tPart (tOp (rAddU K) (tFld K (tVar 0) "answered") (tC (.int 3))))) (gName 1)) (rd_End_frames_1 K T)
abbrev rd_End_hear_10 (K : PySem.W.Frag) {mg : Str → Option Value} (T : Tx K mg) : TS := tNext
abbrev rd_End_hear_9 (K : PySem.W.Frag) {mg : Str → Option Value} (T : Tx K mg) : TS := (sFld K (tVar 0) (tVar 5) "answered")
abbrev rd_End_hear_8 (K : PySem.W.Frag) {mg : Str → Option Value} (T : Tx K mg) : TS := (tIfS (tTest (tChain (rI0 fun i j => .bl (decide (i < j))) (rI0 fun i j => .bl (decide (i ≤ j))) (tFld K (tVar 0) "answered") (tVar 5) (tCB (rLenU K) (tCons (tFld K (tVar 0) "out") tNil)))) (rd_End_hear_9 K T) (rd_End_hear_10 K T))
abbrev rd_End_hear_7 (K : PySem.W.Frag) {mg : Str → Option Value} (T : Tx K mg) : TS := tNext
abbrev rd_End_hear_6 (K : PySem.W.Frag) {mg : Str → Option Value} (T : Tx K mg) : TS := (tDrop (tBM K "list" rAppend (tFld K (tVar 0) "told") (tCons (tVar 4) tNil)))
abbrev rd_End_hear_5 (K : PySem.W.Frag) {mg : Str → Option Value} (T : Tx K mg) : TS := Evl.tCut (tIfS (tTest (tOp (rEqU K) (tVar 3) (tCB (rLenU K) (tCons (tFld K (tVar 0) "told") tNil)))) (rd_End_hear_6 K T) (rd_End_hear_7 K T)) (rd_End_hear_8 K T)
abbrev rd_End_hear_4 (K : PySem.W.Frag) {mg : Str → Option Value} (T : Tx K mg) : TS := tSeq (tAsg (tSl (rSlU K) (tVar 2) (tPart (tC (.int 1))) tNoPart) (gTup K 3 (gCons (gName 3) (gCons (gName 4) (gCons (gName 5) gNil))))) (rd_End_hear_5 K T)
abbrev rd_End_hear_3 (K : PySem.W.Frag) {mg : Str → Option Value} (T : Tx K mg) : TS := tSeq (sFld K (tVar 0) (tVar 1) "epoch") (rd_End_hear_4 K T)
abbrev rd_End_hear_2 (K : PySem.W.Frag) {mg : Str → Option Value} (T : Tx K mg) : TS := tNext
abbrev rd_End_hear_1 (K : PySem.W.Frag) {mg : Str → Option Value} (T : Tx K mg) : TS := tRetN
abbrev rd_End_hear_0 (K : PySem.W.Frag) {mg : Str → Option Value} (T : Tx K mg) : TS := Evl.tCut (tIfS (tTest (tOp (rI0 fun i j => .bl (decide (i < j))) (tVar 1) (tFld K (tVar 0) "epoch"))) (rd_End_hear_1 K T) (rd_End_hear_2 K T)) (rd_End_hear_3 K T)
abbrev rd_law_44 (K : PySem.W.Frag) {mg : Str → Option Value} (T : Tx K mg) : TS := (tRet (tAndV (tOp (rEqU K) (tFld K (tOp (rIx K) (tVar 2) (tC (.int 0))) "told") (tFld K (tOp (rIx K) (tVar 2) (tC (.int 1))) "out")) (tAndV (tOp (rEqU K) (tFld K (tOp (rIx K) (tVar 2) (tC (.int 1))) "told") (tFld K (tOp (rIx K) (tVar 2) (tC (.int 0))) "out")) (tOp (rEqU K) (tFld K (tOp (rIx K) (tVar 2) (tC (.int 0))) "answered") (tCB (rLenU K) (tCons (tFld K (tOp (rIx K) (tVar 2) (tC (.int 0))) "out") tNil))))))
abbrev rd_law_43 (K : PySem.W.Frag) {mg : Str → Option Value} (T : Tx K mg) : TS := (tDrop (tMeth T.C_End "hear" (spF 3 (S_End_hear K T)) [] E0 (tOp (rIx K) (tVar 2) (tOp (rI0 fun i j => .int (i - j)) (tC (.int 1)) (tVar 7))) (tCons (tVar 4) (tCons (tVar 13) tNil))))
abbrev rd_law_42 (K : PySem.W.Frag) {mg : Str → Option Value} (T : Tx K mg) : TS := (tFor (iSeq K (tMeth T.C_End "frames" (spF 1 (S_End_frames K T)) [] E0 (tOp (rIx K) (tVar 2) (tVar 7)) tNil)) (gName 13) (rd_law_43 K T))
abbrev rd_law_41 (K : PySem.W.Frag) {mg : Str → Option Value} (T : Tx K mg) : TS := (tFor (iSeq K (tTup (tCons (tC (.int 0)) (tCons (tC (.int 1)) tNil)))) (gName 7) (rd_law_42 K T))
abbrev rd_law_40 (K : PySem.W.Frag) {mg : Str → Option Value} (T : Tx K mg) : TS := Evl.tCut (tFor (iRng1 (tCons (tOp (rAddU K) (tOp (rI CMul fun i j => .int (i * j)) (tC (.int 2)) (tCB rMax2 (tCons (tCB (rLenU K) (tCons (tFld K (tOp (rIx K) (tVar 2) (tC (.int 0))) "out") tNil)) (tCons (tCB (rLenU K) (tCons (tFld K (tOp (rIx K) (tVar 2) (tC (.int 1))) "out") tNil)) tNil)))) (tC (.int 3))) tNil)) (gName 5) (rd_law_41 K T)) (rd_law_44 K T)
abbrev rd_law_39 (K : PySem.W.Frag) {mg : Str → Option Value} (T : Tx K mg) : TS := tNext
abbrev rd_law_38 (K : PySem.W.Frag) {mg : Str → Option Value} (T : Tx K mg) : TS := (tRet (tC (.bl false)))
abbrev rd_law_37 (K : PySem.W.Frag) {mg : Str → Option Value} (T : Tx K mg) : TS := (tIfS (tOr (tTest (tOp (rNeU K) (tFld K (tOp (rIx K) (tVar 2) (tVar 16)) "told") (tSl (rSlU K) (tFld K (tOp (rIx K) (tVar 2) (tVar 17)) "out") tNoPart (tPart (tCB (rLenU K) (tCons (tFld K (tOp (rIx K) (tVar 2) (tVar 16)) "told") tNil)))))) (tTest (tOp (rI0 fun i j => .bl (decide (j < i))) (tFld K (tOp (rIx K) (tVar 2) (tVar 16)) "answered") (tCB (rLenU K) (tCons (tFld K (tOp (rIx K) (tVar 2) (tVar 17)) "told") tNil))))) (rd_law_38 K T) (rd_law_39 K T))
abbrev rd_law_36 (K : PySem.W.Frag) {mg : Str → Option Value} (T : Tx K mg) : TS := (tFor (iSeq K (tTup (tCons (tTup (tCons (tC (.int 0)) (tCons (tC (.int 1)) tNil))) (tCons (tTup (tCons (tC (.int 1)) (tCons (tC (.int 0)) tNil))) tNil)))) (gTup K 2 (gCons (gName 16) (gCons (gName 17) gNil))) (rd_law_37 K T))
abbrev rd_law_35 (K : PySem.W.Frag) {mg : Str → Option Value} (T : Tx K mg) : TS := tNext
abbrev rd_law_34 (K : PySem.W.Frag) {mg : Str → Option Value} (T : Tx K mg) : TS := tNext
abbrev rd_law_33 (K : PySem.W.Frag) {mg : Str → Option Value} (T : Tx K mg) : TS := (tRet (tC (.bl false)))
abbrev rd_law_32 (K : PySem.W.Frag) {mg : Str → Option Value} (T : Tx K mg) : TS := (tIfS (tOr (tTest (tOp (rI0 fun i j => .bl (decide (i < j))) (tFld K (tVar 14) "epoch") (tOp (rIx K) (tVar 15) (tC (.int 2))))) (tOr (tTest (tOp (rI0 fun i j => .bl (decide (i < j))) (tFld K (tVar 14) "answered") (tOp (rIx K) (tVar 15) (tC (.int 1))))) (tTest (tOp (rI0 fun i j => .bl (decide (i < j))) (tCB (rLenU K) (tCons (tFld K (tVar 14) "told") tNil)) (tCB (rLenU K) (tCons (tOp (rIx K) (tVar 15) (tC (.int 0))) tNil)))))) (rd_law_33 K T) (rd_law_34 K T))
abbrev rd_law_31 (K : PySem.W.Frag) {mg : Str → Option Value} (T : Tx K mg) : TS := tNext
abbrev rd_law_30 (K : PySem.W.Frag) {mg : Str → Option Value} (T : Tx K mg) : TS := (tRet (tC (.bl false)))
abbrev rd_law_29 (K : PySem.W.Frag) {mg : Str → Option Value} (T : Tx K mg) : TS := Evl.tCut (tIfS (tAnd (tTest (tOp (rI0 fun i j => .bl (decide (i < j))) (tVar 12) (tOp (rIx K) (tVar 15) (tC (.int 2))))) (tTest (tOp (rNeU K) (tTup (tCons (tFld K (tVar 14) "told") (tCons (tFld K (tVar 14) "answered") (tCons (tFld K (tVar 14) "epoch") tNil)))) (tVar 15)))) (rd_law_30 K T) (rd_law_31 K T)) (rd_law_32 K T)
abbrev rd_law_28 (K : PySem.W.Frag) {mg : Str → Option Value} (T : Tx K mg) : TS := tNext
abbrev rd_law_27 (K : PySem.W.Frag) {mg : Str → Option Value} (T : Tx K mg) : TS := (tDrop (tMeth T.C_End "hear" (spF 3 (S_End_hear K T)) [] E0 (tVar 14) (tCons (tVar 12) (tCons (tVar 13) tNil))))
abbrev rd_law_26 (K : PySem.W.Frag) {mg : Str → Option Value} (T : Tx K mg) : TS := Evl.tCut (tIfS (tTest (tOp (rI0 fun i j => .bl (decide (j < i))) (tCall (spF 2 (S_law_take K T)) [] E0 (tCons (tVar 1) (tCons (tC (.int 4)) tNil))) (tC (.int 0)))) (rd_law_27 K T) (rd_law_28 K T)) (rd_law_29 K T)
abbrev rd_law_25 (K : PySem.W.Frag) {mg : Str → Option Value} (T : Tx K mg) : TS := tSeq (tAsg (tTup (tCons (tCB (rLstOf K) (tCons (tFld K (tVar 14) "told") tNil)) (tCons (tFld K (tVar 14) "answered") (tCons (tFld K (tVar 14) "epoch") tNil)))) (gName 15)) (rd_law_26 K T)
abbrev rd_law_24 (K : PySem.W.Frag) {mg : Str → Option Value} (T : Tx K mg) : TS := tSeq (tAsg (tOp (rIx K) (tVar 2) (tVar 11)) (gName 14)) (rd_law_25 K T)
abbrev rd_law_23 (K : PySem.W.Frag) {mg : Str → Option Value} (T : Tx K mg) : TS := tNext
abbrev rd_law_22 (K : PySem.W.Frag) {mg : Str → Option Value} (T : Tx K mg) : TS := (tAsg (tOp (rAddU K) (tSl (rSlU K) (tVar 3) tNoPart (tPart (tVar 10))) (tSl (rSlU K) (tVar 3) (tPart (tOp (rAddU K) (tVar 10) (tC (.int 1)))) tNoPart)) (gName 3))
abbrev rd_law_21 (K : PySem.W.Frag) {mg : Str → Option Value} (T : Tx K mg) : TS := Evl.tCut (tIfS (tTest (tOp (rI0 fun i j => .bl (decide (j < i))) (tCall (spF 2 (S_law_take K T)) [] E0 (tCons (tVar 1) (tCons (tC (.int 3)) tNil))) (tC (.int 0)))) (rd_law_22 K T) (rd_law_23 K T)) (rd_law_24 K T)
abbrev rd_law_20 (K : PySem.W.Frag) {mg : Str → Option Value} (T : Tx K mg) : TS := tSeq (tAsg (tOp (rIx K) (tVar 3) (tVar 10)) (gTup K 3 (gCons (gName 11) (gCons (gName 12) (gCons (gName 13) gNil))))) (rd_law_21 K T)
abbrev rd_law_19 (K : PySem.W.Frag) {mg : Str → Option Value} (T : Tx K mg) : TS := tSeq (tAsg (tCall (spF 2 (S_law_take K T)) [] E0 (tCons (tVar 1) (tCons (tCB (rLenU K) (tCons (tVar 3) tNil)) tNil))) (gName 10)) (rd_law_20 K T)
abbrev rd_law_18 (K : PySem.W.Frag) {mg : Str → Option Value} (T : Tx K mg) : TS := (tIfS (tTest (tOp (rNeU K) (tVar 3) (tLst tNil))) (rd_law_19 K T) (rd_law_35 K T))
abbrev rd_law_17 (K : PySem.W.Frag) {mg : Str → Option Value} (T : Tx K mg) : TS := (tAug 4 (tC (.int 1)) (ipI fun i j => i + j))
abbrev rd_law_16 (K : PySem.W.Frag) {mg : Str → Option Value} (T : Tx K mg) : TS := (tIfS (tAnd (tTest (tOp (rEqU K) (tVar 6) (tC (.int 2)))) (tTest (tOp (rEqU K) (tCall (spF 2 (S_law_take K T)) [] E0 (tCons (tVar 1) (tCons (tC (.int 4)) tNil))) (tC (.int 0))))) (rd_law_17 K T) (rd_law_18 K T))
abbrev rd_law_15 (K : PySem.W.Frag) {mg : Str → Option Value} (T : Tx K mg) : TS := (tAsg (tOp (rAddU K) (tVar 3) (tLc (iSeq K (tVar 8)) (gName 13) tYes (tTup (tCons (tOp (rI0 fun i j => .int (i - j)) (tC (.int 1)) (tVar 7)) (tCons (tVar 4) (tCons (tVar 13) tNil)))) [13])) (gName 3))
abbrev rd_law_14 (K : PySem.W.Frag) {mg : Str → Option Value} (T : Tx K mg) : TS := tNext
abbrev rd_law_13 (K : PySem.W.Frag) {mg : Str → Option Value} (T : Tx K mg) : TS := (tRet (tC (.bl false)))
abbrev rd_law_12 (K : PySem.W.Frag) {mg : Str → Option Value} (T : Tx K mg) : TS := Evl.tCut (tIfS (tOr (tB (tCB (rAny K) (tCons (tLc (iSeq K (tVar 8)) (gName 13) tYes (tOp (rNeU K) (tOp (rIx K) (tVar 13) (tC (.int 3))) (tCB (rLenU K) (tCons (tFld K (tOp (rIx K) (tVar 2) (tVar 7)) "told") tNil))) [13]) tNil))) (tTest (tOp (rNeU K) (tCB (rLenU K) (tCons (tVar 8) tNil)) (tCB rMax2 (tCons (tC (.int 1)) (tCons (tCB (rLenU K) (tCons (tVar 9) tNil)) tNil)))))) (rd_law_13 K T) (rd_law_14 K T)) (rd_law_15 K T)
abbrev rd_law_11 (K : PySem.W.Frag) {mg : Str → Option Value} (T : Tx K mg) : TS := tNext
abbrev rd_law_10 (K : PySem.W.Frag) {mg : Str → Option Value} (T : Tx K mg) : TS := (tRet (tC (.bl false)))
abbrev rd_law_9 (K : PySem.W.Frag) {mg : Str → Option Value} (T : Tx K mg) : TS := Evl.tCut (tIfS (tOr (tTest (tOp (rI0 fun i j => .bl (decide (j < i))) (tCB (rLenU K) (tCons (tVar 9) tNil)) (tC (.int 3)))) (tTest (tOp (rNeU K) (tLc (iSeq K (tVar 9)) (gName 13) tYes (tOp (rIx K) (tVar 13) (tC (.int 2))) [13]) (tSl (rSlU K) (tFld K (tOp (rIx K) (tVar 2) (tVar 7)) "out") (tPart (tFld K (tOp (rIx K) (tVar 2) (tVar 7)) "answered")) (tPart (tOp (rAddU K) (tFld K (tOp (rIx K) (tVar 2) (tVar 7)) "answered") (tC (.int 3)))))))) (rd_law_10 K T) (rd_law_11 K T)) (rd_law_12 K T)
abbrev rd_law_8 (K : PySem.W.Frag) {mg : Str → Option Value} (T : Tx K mg) : TS := tSeq (tAsg (tLc (iSeq K (tVar 8)) (gName 13) (tTest (tOp rNotN (tOp (rIx K) (tVar 13) (tC (.int 1))) (tC .non))) (tVar 13) [13]) (gName 9)) (rd_law_9 K T)
abbrev rd_law_7 (K : PySem.W.Frag) {mg : Str → Option Value} (T : Tx K mg) : TS := tSeq (tAsg (tMeth T.C_End "frames" (spF 1 (S_End_frames K T)) [] E0 (tOp (rIx K) (tVar 2) (tVar 7)) tNil) (gName 8)) (rd_law_8 K T)
abbrev rd_law_6 (K : PySem.W.Frag) {mg : Str → Option Value} (T : Tx K mg) : TS := (tIfS (tTest (tOp (rEqU K) (tVar 6) (tC (.int 1)))) (rd_law_7 K T) (rd_law_16 K T))
abbrev rd_law_5 (K : PySem.W.Frag) {mg : Str → Option Value} (T : Tx K mg) : TS := (tDrop (tMeth T.C_End "put" (spF 2 (S_End_put K T)) [] E0 (tOp (rIx K) (tVar 2) (tVar 7)) (tCons (tCall (spF 2 (S_law_take K T)) [] E0 (tCons (tVar 1) (tCons (tC (.int 50)) tNil))) tNil)))
abbrev rd_law_4 (K : PySem.W.Frag) {mg : Str → Option Value} (T : Tx K mg) : TS := Evl.tCut (tIfS (tTest (tOp (rEqU K) (tVar 6) (tC (.int 0)))) (rd_law_5 K T) (rd_law_6 K T)) (rd_law_36 K T)
abbrev rd_law_3 (K : PySem.W.Frag) {mg : Str → Option Value} (T : Tx K mg) : TS := tSeq (tAsg (tTup (tCons (tCall (spF 2 (S_law_take K T)) [] E0 (tCons (tVar 1) (tCons (tC (.int 5)) tNil))) (tCons (tCall (spF 2 (S_law_take K T)) [] E0 (tCons (tVar 1) (tCons (tC (.int 2)) tNil))) tNil))) (gTup K 2 (gCons (gName 6) (gCons (gName 7) gNil)))) (rd_law_4 K T)
abbrev rd_law_2 (K : PySem.W.Frag) {mg : Str → Option Value} (T : Tx K mg) : TS := Evl.tCut (tFor (iRng1 (tCons (tOp (rAddU K) (tC (.int 40)) (tCall (spF 2 (S_law_take K T)) [] E0 (tCons (tVar 1) (tCons (tC (.int 40)) tNil)))) tNil)) (gName 5) (rd_law_3 K T)) (rd_law_40 K T)
abbrev rd_law_1 (K : PySem.W.Frag) {mg : Str → Option Value} (T : Tx K mg) : TS := tSeq (tAsg (tTup (tCons (tLst (tCons (tMake T.C_End (spF 1 (S_End_init K T)) [] E0 tNil) (tCons (tMake T.C_End (spF 1 (S_End_init K T)) [] E0 tNil) tNil))) (tCons (tLst tNil) (tCons (tC (.int 1)) tNil)))) (gTup K 3 (gCons (gName 2) (gCons (gName 3) (gCons (gName 4) gNil))))) (rd_law_2 K T)
abbrev rd_law_0 (K : PySem.W.Frag) {mg : Str → Option Value} (T : Tx K mg) : TS := tSeq (tAsg (tLst (tCons (tVar 0) (tCons (tC (.int 0)) tNil))) (gName 1)) (rd_law_1 K T)
/-! ### steps -/
local macro_rules | `(tactic| walk_at "shp") => `(tactic| first
  | exact shp_int
  | exact shp_none
  | exact shp_bool
  | exact shp_oi _
  | (apply shp_str; first | decide +kernel | assumption)
  | (apply shp_list; walk_at "shpA")
  | (apply shp_tuple; walk_at "shpA")
  | assumption)
local macro_rules | `(tactic| walk_at "shpA") => `(tactic| first
  | exact shpA_nil
  | (apply shpA_cons; (· walk_at "shp"); walk_at "shpA")
  | (apply shpA_map; intro _ _; walk_at "shp"))
/-- what is left beside: closed, or left -/
local macro_rules | `(tactic| walk_at "side") => `(tactic| first
  | (with_reducible show Shp _ _); walk_at "shp"
  | (with_reducible show _ ≤ sizeLine); first | decide | (show _ ≤ 16777216; omega) | (show _ ≤ 16777216; simp only [List.length_map, List.length_append, List.length_cons, List.length_nil]; omega)
  | (with_reducible show _ < sizeLine); first | decide | (show _ < 16777216; omega) | (show _ < 16777216; simp only [List.length_map, List.length_append, List.length_cons, List.length_nil]; omega)
  | (with_reducible show CMul _ _); first | exact Or.inr ⟨by decide, by decide⟩ | exact Or.inl ⟨by decide, by decide⟩ | exact Or.inl ⟨by omega, by omega⟩ | exact Or.inr ⟨by omega, by omega⟩
  | (with_reducible show CPow _ _); exact ⟨by decide, by decide, by decide⟩
  | (with_reducible show CDiv _ _); first | exact ⟨by decide, by decide⟩ | exact ⟨by omega, by omega⟩
  | (with_reducible show Le _ _); first | with_reducible exact Le.refl _ | with_reducible assumption
  | (with_reducible show L2.atI _ _ = _); first | with_reducible assumption | exact rfl | exact atI_nat rfl
  | (with_reducible show _ < _); first | with_reducible assumption | decide | omega
  | (with_reducible show _ ≤ _); first | with_reducible assumption | decide | omega
  | (with_reducible show _ ∧ _); omega
  | (with_reducible show ∀ i, i ∈ _ → i ∈ _); decide
  | (with_reducible show (_ : Nat) = _); first | exact rfl | omega)
local macro_rules | `(tactic| walk_at "rm") => `(tactic| first
  | exact Rm.here
  | (apply Rm.there; walk_at "rm"))
local macro_rules | `(tactic| walk_at "perm") => `(tactic| first
  | with_reducible exact List.Perm.refl _
  | (apply perm_step; (· walk_at "rm"); walk_at "perm")
  | exact List.Perm.refl _)
local macro_rules | `(tactic| walk_at "pk") => `(tactic| first
  | with_reducible exact Pk.here
  | ((with_reducible apply Pk.there); walk_at "pk"))
/-- a part of a reading: what it gives. One word for all kinds -/
local macro_rules | `(tactic| walk_at "sx") => `(tactic| first
  -- an expression
  | with_reducible exact ev_int
  | with_reducible exact ev_bl
  | with_reducible exact ev_str
  | with_reducible exact ev_non
  | (with_reducible apply ev_var) <;> walk_at "sx"
  | (with_reducible apply ev_op) <;> walk_at "sx"
  | (with_reducible apply ev_fld) <;> walk_at "sx"
  | (with_reducible apply ev_cb) <;> walk_at "sx"
  | (with_reducible apply ev_tupD) <;> walk_at "sx"
  | (with_reducible apply ev_lstD) <;> walk_at "sx"
  | (with_reducible apply ev_tupV) <;> walk_at "sx"
  | (with_reducible apply ev_lstV) <;> walk_at "sx"
  | (with_reducible apply ev_slL) <;> walk_at "sx"
  | (with_reducible apply ev_slT1) <;> walk_at "sx"
  | (with_reducible apply ev_slT) <;> walk_at "sx"
  | (with_reducible apply ev_un) <;> walk_at "sx"
  | (with_reducible apply ev_chain) <;> walk_at "sx"
  | (with_reducible apply ev_andV) <;> walk_at "sx"
  | (with_reducible apply ev_orV) <;> walk_at "sx"
  | (with_reducible apply ev_notV) <;> walk_at "sx"
  | (with_reducible apply ev_lcY) <;> walk_at "sx"
  | (with_reducible apply ev_lc) <;> walk_at "sx"
  | ((with_reducible show ∀ a, a ∈ _ → ∃ ρ'' js, _); intro a ha; dsimp only [wipeE, List.set]; (first | with_reducible apply lcY_k | with_reducible apply lcF_k) <;> walk_at "sx")
  | (with_reducible apply ev_call) <;> walk_at "sx"
  | (with_reducible apply ev_meth) <;> walk_at "sx"
  | (with_reducible apply ev_bm) <;> walk_at "sx"
  | (with_reducible show Ev _ _ _ _ _); walk_at "own"
  -- a test
  | with_reducible exact et_yes
  | (with_reducible apply et_test) <;> walk_at "sx"
  | (with_reducible apply et_B) <;> walk_at "sx"
  | (with_reducible apply et_not) <;> walk_at "sx"
  | (with_reducible apply et_and) <;> walk_at "sx"
  | (with_reducible apply et_or) <;> walk_at "sx"
  -- arguments
  | with_reducible exact ea_nil
  | (with_reducible apply ea_cons) <;> walk_at "sx"
  | with_reducible exact ed_nil
  | (with_reducible apply ed_cons) <;> walk_at "sx"
  | with_reducible exact eo_none
  | (with_reducible apply eo_some) <;> walk_at "sx"
  -- what an operation gives
  | with_reducible exact rv_addI
  | with_reducible exact rv_int0
  | with_reducible exact rv_bl0
  | with_reducible exact rv_eqI
  | with_reducible exact rv_neI
  | with_reducible exact rv_eqS
  | with_reducible exact rv_neS
  | with_reducible exact rv_isN
  | with_reducible exact rv_notN
  | (with_reducible apply rv_intC) <;> walk_at "sx"
  | (with_reducible apply rv_addS) <;> walk_at "sx"
  | (with_reducible apply rv_ixL isl_dat) <;> walk_at "sx"
  | (with_reducible apply rv_ixT ist_dat) <;> walk_at "sx"
  | (with_reducible apply rv_ixLV) <;> walk_at "sx"
  | (apply rv_ixT ist_dat) <;> walk_at "sx"
  | (with_reducible apply rv_ixTV istv_vtup) <;> walk_at "sx"
  | (with_reducible apply rv_ixScr) <;> walk_at "sx"
  | (apply rv_ixL isl_dat) <;> walk_at "sx"
  | (with_reducible apply rv_ixL) <;> walk_at "sx"
  | (apply rv_cat) <;> walk_at "sx"
  | (with_reducible apply rv_eqD) <;> walk_at "sx"
  | (with_reducible apply rv_neD) <;> walk_at "sx"
  | with_reducible exact ru_neg
  | with_reducible exact rc_int
  | with_reducible exact rc_abs
  | with_reducible exact rc_max2
  | with_reducible exact rc_min2
  | with_reducible exact rc_lenScr
  | with_reducible exact rc_lenM isl_dat
  | ((with_reducible apply rc_lenM); (with_reducible apply isl_cell) <;> walk_at "sx")
  | with_reducible exact rc_lenMT
  | (with_reducible apply rc_lenL) <;> walk_at "sx"
  | (apply rc_lenT ist_dat)
  | (with_reducible apply rc_tupL) <;> walk_at "sx"
  | (apply rc_tupT)
  | (with_reducible apply rc_lstL) <;> walk_at "sx"
  | (apply rc_lstT ist_dat)
  | with_reducible exact rc_anyM
  | with_reducible exact rc_allM
  | ((with_reducible apply rm_append) <;> walk_at "sx")
  -- lists, tuples, data
  | with_reducible exact isl_dat
  | with_reducible exact isd_dat
  | with_reducible exact isd_scr
  | (with_reducible apply isl_cell) <;> walk_at "sx"
  | (with_reducible apply islv_cell) <;> walk_at "sx"
  | with_reducible exact islv_vlst
  | (with_reducible apply isd_cell) <;> walk_at "sx"
  | (with_reducible apply isd_vtup) <;> walk_at "sx"
  | (with_reducible apply isd_vlst) <;> walk_at "sx"
  | with_reducible exact isds_nil
  | (with_reducible apply isds_cons) <;> walk_at "sx"
  | with_reducible exact fzl_dat
  | with_reducible exact fzl_v
  | with_reducible exact fzt_dat
  | with_reducible exact fzt_v
  | (with_reducible apply ity_l) <;> walk_at "sx"
  | with_reducible exact ity_s
  | (with_reducible apply IsLst.v) <;> walk_at "sx"
  -- places
  | with_reducible exact At.here
  | (with_reducible apply At.there) <;> walk_at "sx"
  | with_reducible exact SetAt.here
  | (with_reducible apply SetAt.there) <;> walk_at "sx"
  | with_reducible exact List.mem_cons_self
  | (with_reducible apply List.mem_cons_of_mem) <;> walk_at "sx"
  | ((with_reducible show (_ : Addr × CD) ∈ _); with_reducible assumption)
  | with_reducible exact Put.here
  | (with_reducible apply Put.there) <;> walk_at "sx"
  | ((with_reducible show Put _ _ _ _ _); with_reducible assumption)
  | ((with_reducible show Sw _ _ _ _); with_reducible assumption)
  | with_reducible exact sw_nil
  | ((with_reducible apply sw_pick); (· walk_at "pk"); walk_at "sx")
  | ((with_reducible apply sw_skip); walk_at "sx")
  | with_reducible exact FGet.here
  | ((with_reducible apply FGet.there); (· decide +kernel); walk_at "sx")
  | with_reducible exact FPut.here
  | with_reducible exact FPut.new
  | ((with_reducible apply FPut.there); (· decide +kernel); walk_at "sx")
  | (with_reducible show ClsF _ _ _); with_reducible assumption
  | (with_reducible show RtQ _ _ _); assumption
  | (with_reducible show (_ : Str) ∈ _); decide +kernel
  | (with_reducible show ¬ (_ : Str) ∈ _); decide +kernel
  -- what is walked, targets
  | (with_reducible apply ei_rng1) <;> walk_at "sx"
  | (with_reducible apply ei_rng2) <;> walk_at "sx"
  | (with_reducible apply ei_enumD) <;> walk_at "sx"
  | (with_reducible apply ei_enum) <;> walk_at "sx"
  | (with_reducible apply ei_zip) <;> walk_at "sx"
  | (with_reducible apply ei_seqLM) <;> walk_at "sx"
  | (with_reducible apply ei_seqTM) <;> walk_at "sx"
  | (with_reducible apply ei_seqL) <;> walk_at "sx"
  | (with_reducible apply ei_seqT) <;> walk_at "sx"
  | (with_reducible apply tg_name) <;> walk_at "sx"
  | (with_reducible apply tg_tup istv_vtup) <;> walk_at "sx"
  | (with_reducible apply td_tup) <;> walk_at "sx"
  | with_reducible exact td_nil
  | (with_reducible apply td_cons) <;> walk_at "sx"
  | with_reducible exact tgs_nil
  | (with_reducible apply tgs_cons) <;> walk_at "sx"
  -- beside
  | walk_at "spec"
  | walk_at "side"
  | walk_at "leave")
/-- a question of another kind is left -/
local macro_rules | `(tactic| walk_at "leave") => `(tactic| first
  | with_reducible show Cont _ _ _ _
  | with_reducible show Shp _ _
  | with_reducible show _ ≤ _
  | with_reducible show _ < _
  | with_reducible show CMul _ _
  | with_reducible show CDiv _ _
  | with_reducible show CPow _ _
  | with_reducible show _ = _
  | with_reducible show Le _ _
  | ((with_reducible show _ = true → _); with_reducible assumption)
  | ((with_reducible show _ = true → _); intro _; walk_at "sx")
  | ((with_reducible show _ = false → _); intro _; walk_at "sx"))
/-- a plain statement -/
local macro_rules | `(tactic| walk_at "st") => `(tactic| first
  | (with_reducible apply c_seq); walk_at "st"
  | (with_reducible apply c_asg) <;> (first | walk_at "sx" | skip)
  | (with_reducible apply c_asgG) <;> (first | walk_at "sx" | skip)
  | (with_reducible apply c_par) <;> (first | walk_at "sx" | skip)
  | (with_reducible apply c_par3) <;> (first | walk_at "sx" | skip)
  | (with_reducible apply c_aug) <;> (first | walk_at "sx" | skip)
  | (with_reducible apply c_augS) <;> (first | walk_at "sx" | skip)
  | (with_reducible apply c_fld) <;> (first | walk_at "sx" | skip)
  | (with_reducible apply c_drop) <;> (first | walk_at "sx" | skip)
  | with_reducible apply c_next
  | with_reducible apply c_break
  | with_reducible apply c_cont)
/-- a value is handed back; a word is met again -/
local macro_rules | `(tactic| walk_at "ret") => `(tactic| (with_reducible apply c_ret) <;> (first | walk_at "sx" | skip))
local macro_rules | `(tactic| walk_at "inv") => `(tactic| (with_reducible apply c_inv) <;> (first | walk_at "side" | skip))
local macro_rules | `(tactic| walk_at "seq") => `(tactic| with_reducible apply c_seq)
local macro_rules | `(tactic| walk_at "cut") => `(tactic| with_reducible apply c_cut)
local macro_rules | `(tactic| walk_at "if") => `(tactic| ((with_reducible apply c_if); (case' h => first | walk_at "sx" | skip)))
local macro_rules | `(tactic| walk_at "fgt") => `(tactic| first
  | exact Fgt.nil
  | (with_reducible apply Fgt.keep; walk_at "fgt")
  | (with_reducible apply Fgt.drop; walk_at "fgt"))

theorem law_number_body {K : PySem.W.Frag} {mg : Str → Option Value} (T : Tx K mg) : ∀ Q ds M P Φ, ds.length = 2 → S_law_number K T ds M P → RtQ Q Φ P → Cont (rd_law_number_0 K T (fnD Q)) Φ (entry ["_law_script", "_law_index", "_law_cell", "_law_blend"] ds) M := by
  rintro Q ds M P Φ - ⟨s, i, rfl, hP⟩ hQ
  show Cont _ _ [some (vscr K s), some (dat (.int i)), none, none] _
  have he : (PyData.list (List.map PyData.int s)).eqv (PyData.list []) = decide (s = []) := EqOk.dec (eqok_list eqok_int) s []
  apply c_cut
  refine c_if (by walk_at "sx") ?_ ?_
  · rw [he]
    intro h
    have hs := of_decide_eq_true h
    walk_at "ret"
    have : lawNum s i = (i * 48271 + 12345) % 2147483647 := by unfold lawNum; rw [if_pos hs]
    rw [this] at hP
    exact hP
  · rw [he]
    intro h
    have hs := of_decide_eq_false h
    have hl : (0 : Int) < s.length := by
      cases s with
      | nil => exact absurd rfl hs
      | cons _ _ => simp
    have h0 : 0 ≤ i % s.length := Int.emod_nonneg _ (by omega)
    have h1 : i % s.length < s.length := Int.emod_lt_of_pos _ hl
    have hat : L2.atI s (i % s.length) = some (s.getD (i % s.length).toNat 0) := by
      have hj : (i % s.length).toNat < s.length := by omega
      have e : ((i % s.length).toNat : Int) = i % s.length := by omega
      have e2 := atI_nat (xs := s) (j := (i % s.length).toNat) (v := s.getD (i % s.length).toNat 0) (by simp [List.getD, hj])
      rw [e] at e2
      exact e2
    apply c_next
    walk_at "st"
    refine c_cutW (fun ρ' M' => ρ' = [some (vscr K s), some (dat (.int i)), some (dat (.int (scrCell s i))), none] ∧ M' = M) ?_ ?_
    · refine c_if (by walk_at "sx") ?_ ?_
      · intro hb
        have hb := of_decide_eq_true hb
        walk_at "st"
        walk_at "inv"
        refine ⟨?_, rfl⟩
        have : scrCell s i = s.getD (i % s.length).toNat 0 % 10 ^ (18 : Int).toNat := by
          unfold scrCell
          exact if_pos hb
        rw [this]
      · intro hb
        have hb := of_decide_eq_false hb
        apply c_next
        walk_at "inv"
        refine ⟨?_, rfl⟩
        have : scrCell s i = s.getD (i % s.length).toNat 0 := by
          unfold scrCell
          exact if_neg hb
        rw [this]
    · rintro ρ' M' ⟨rfl, rfl⟩
      walk_at "st"
      walk_at "ret"
      have : lawNum s i = (((scrCell s i + 977 * i) * 48271 + 31 * s.length) % 2147483647 * 69621 % 2147483629 * 16807 + i) % 2147483587 := by unfold lawNum; rw [if_neg hs]
      rw [this] at hP
      exact hP
theorem number_ev {K : PySem.W.Frag} {mg : Str → Option Value} {T : Tx K mg} {s : List Int} {i : Int} {M : Cells} : S_law_number K T [vscr K s, dat (.int i)] M (Det (dat (.int (lawNum s i))) M) := ⟨s, i, rfl, rfl, rfl⟩
theorem take_ev {K : PySem.W.Frag} {mg : Str → Option Value} {T : Tx K mg} {s : List Int} {k m : Int} {p : Addr} {M M' : Cells} (h : Put p (cDraw K s k) (cDraw K s (k + 1)) M M') (hm : 0 < m) :
    S_law_take K T [val (.ref p), dat (.int m)] M (Det (dat (.int (tk s (k + 1) m))) M') := ⟨s, k, m, p, M', rfl, hm, h, rfl, rfl⟩
local macro_rules | `(tactic| walk_at "spec") => `(tactic| first
  | with_reducible exact number_ev
  | (with_reducible apply take_ev) <;> walk_at "sx")
theorem law_take_body {K : PySem.W.Frag} {mg : Str → Option Value} (T : Tx K mg) : ∀ Q ds M P Φ, ds.length = 2 → S_law_take K T ds M P → RtQ Q Φ P → Cont (rd_law_take_0 K T (fnD Q)) Φ (entry ["_law_draw", "_law_many"] ds) M := by
  rintro Q ds M P Φ - ⟨s, k, m, p, M', rfl, hm, hput, hP⟩ hQ
  show Cont _ _ [some (val (.ref p)), some (dat (.int m))] _
  apply c_seq
  refine c_augS (j := 1) (a := k) (p := p) (by walk_at "sx") (by walk_at "sx") rfl rfl (by walk_at "sx") hput ?_
  have hm' : (p, cDraw K s (k + 1)) ∈ M' := by
    clear hP hQ
    induction hput with
    | here => exact List.mem_cons_self
    | there _ ih => exact List.mem_cons_of_mem _ ih
  have hl : IsLstV (val (.ref p)) M' [vscr K s, dat (.int (k + 1))] := islv_cell hm'
  walk_at "ret"
  exact hP

theorem End_init_body {K : PySem.W.Frag} {mg : Str → Option Value} (T : Tx K mg) : ∀ Q ds M P Φ, ds.length = 1 → S_End_init K T ds M P → RtQ Q Φ P → Cont (rd_End_init_0 K T (fnD Q)) Φ (entry ["self"] ds) M := by
  rintro Q ds M P Φ - ⟨p, M0, rfl, rfl, hP⟩ hQ
  have hC := T.F_End
  show Cont _ _ [some (val (.ref p))] _
  have hQ := hQ.up
  apply c_seq
  refine c_fldR (er_lstCd ed_nil (by decide)) ?_ hC (by decide +kernel)
  rintro y M1 ⟨a, rfl, rfl⟩
  apply fld_k <;> (first | walk_at "sx" | skip)
  walk_at "st"
  apply c_seq
  refine c_fldR (er_lstCd ed_nil (by decide)) ?_ hC (by decide +kernel)
  rintro y M1 ⟨b, rfl, rfl⟩
  apply fld_k <;> (first | walk_at "sx" | skip)
  walk_at "st"
  refine c_end hQ ?_ (Le.refl _)
  refine up_perm ?_ (hP a b)
  walk_at "perm"
theorem End_put_body {K : PySem.W.Frag} {mg : Str → Option Value} (T : Tx K mg) : ∀ Q ds M P Φ, ds.length = 2 → S_End_put K T ds M P → RtQ Q Φ P → Cont (rd_End_put_0 K T (fnD Q)) Φ (entry ["self", "word"] ds) M := by
  rintro Q ds M P Φ - ⟨p, a, b, e, w, M', rfl, hl, ⟨L, h1, h2⟩, hP⟩ hQ
  have hC := T.F_End
  show Cont _ _ [some (val (.ref p)), some (dat (.int w))] _
  have hQ := hQ.up
  refine c_perm h1 ?_
  show Cont _ _ _ ((p, _) :: (a, _) :: (b, _) :: L)
  walk_at "st"
  refine c_end hQ ?_ (Le.refl _)
  have e1 : cLd (List.map PyData.int e.out ++ [PyData.int w]) = tl (putE e w).out := by rw [← List.map_singleton, ← List.map_append]; rfl
  rw [e1]
  exact up_perm h2.symm hP
theorem End_frames_body {K : PySem.W.Frag} {mg : Str → Option Value} (T : Tx K mg) : ∀ Q ds M P Φ, ds.length = 1 → S_End_frames K T ds M P → RtQ Q Φ P → Cont (rd_End_frames_0 K T (fnD Q)) Φ (entry ["self", "rows", "found", "at", "word"] ds) M := by
  rintro Q ds M P Φ - ⟨p, a, b, e, rfl, hl, ⟨L, h1, h2⟩, hP⟩ hQ
  have hC := T.F_End
  show Cont _ _ [some (val (.ref p)), none, none, none, none] _
  have hQ := hQ.up
  refine c_perm h1 ?_
  show Cont _ _ _ ((p, _) :: (a, _) :: (b, _) :: L)
  walk_at "st"
  have e1 : cutD (List.map PyData.int e.out) (some (e.ans : Int)) (some ((e.ans : Int) + 3)) = (rowsOf e).map PyData.int := by
    rw [cut_map]
    have := cut_nn e.out e.ans (e.ans + 3)
    rw [Int.natCast_add] at this
    rw [show ((e.ans : Int) + 3) = (e.ans : Int) + ((3 : Nat) : Int) from rfl, this, show e.ans + 3 - e.ans = 3 by omega]
    rfl
  rw [e1]
  with_reducible apply c_seq
  have hr3 : (rowsOf e).length ≤ 3 := by
    unfold rowsOf
    rw [List.length_take]
    omega
  refine c_asgP (x := dat (.list (((rowsOf e).zipIdx.map (frF e)).map encF))) ?ev1 (by walk_at "sx") ?k1
  case ev1 =>
    rw [List.map_map]
    refine ev_lcY (r := encF ∘ frF e) (e := fun p => vtup [dat (.int (p.2 : Int)), dat (.int p.1)]) (by walk_at "sx") (by rw [List.length_zipIdx]; omega) ?hs1
    rintro ⟨w, i⟩ -
    dsimp only [wipeE, List.set]
    apply lcY_k <;> (first | walk_at "sx" | skip)
    show Ev _ _ _ (dat (.tuple [.str "frame", .int ((e.ans : Int) + (i : Int)), .int w, .int (e.told.length : Int)])) _
    walk_at "sx"
  case k1 =>
    with_reducible apply c_ret (x := dat (.tuple ((framesOf e).map encF))) (M1 := (p, endI T.C_End a b e) :: (a, tl e.out) :: (b, tl e.told) :: L)
    case hQ => exact hQ
    case hP => exact up_perm h1.symm hP
    case l => exact Le.refl _
    case h =>
      have hb : (!PyData.eqv (.list (((rowsOf e).zipIdx.map (frF e)).map encF)) (.list [])) = !(rowsOf e).isEmpty := by
        rw [eqv_nil, List.isEmpty_map, List.isEmpty_map]
        cases rowsOf e <;> rfl
      apply ev_if (b := !PyData.eqv (.list (((rowsOf e).zipIdx.map (frF e)).map encF)) (.list []))
      case h =>
        walk_at "sx"
      case h1 =>
        intro hb2
        rw [hb] at hb2
        have hne : ¬ rowsOf e = [] := by
          intro z
          rw [z] at hb2
          cases hb2
        have hfr : framesOf e = (rowsOf e).zipIdx.map (frF e) := by
          unfold framesOf
          rw [if_neg hne]
        rw [hfr]
        walk_at "sx"
      case h2 =>
        intro hb2
        rw [hb] at hb2
        have hne : rowsOf e = [] := by
          cases z : rowsOf e with
          | nil => rfl
          | cons _ _ => rw [z] at hb2; cases hb2
        have hfr : framesOf e = [⟨none, none, e.told.length⟩] := by
          unfold framesOf
          rw [if_pos hne]
        rw [hfr]
        show Ev _ _ _ (dat (.tuple [.tuple [.str "frame", .none, .none, .int (e.told.length : Int)]])) _
        walk_at "sx"
theorem tl_app (xs : List Int) (w : Int) : cLd (List.map PyData.int xs ++ [PyData.int w]) = tl (xs ++ [w]) := by rw [← List.map_singleton, ← List.map_append]
theorem eqv_oi (o : Option Int) (i : Int) : PyData.eqv (oi o) (.int i) = decide (o = some i) := EqOk.dec eqok_oi o (some i)
theorem End_hear_body {K : PySem.W.Frag} {mg : Str → Option Value} (T : Tx K mg) : ∀ Q ds M P Φ, ds.length = 3 → S_End_hear K T ds M P → RtQ Q Φ P → Cont (rd_End_hear_0 K T (fnD Q)) Φ (entry ["self", "epoch", "frame", "number", "word", "answered"] ds) M := by
  rintro Q ds M P Φ - ⟨p, a, b, e, ep, f, M', rfl, hwf, hl, ⟨L, h1, h2⟩, hP⟩ hQ
  have hC := T.F_End
  show Cont _ _ [some (val (.ref p)), some (dat (.int ep)), some (dat (encF f)), none, none, none] _
  have hQ := hQ.up
  refine c_perm h1 ?_
  show Cont _ _ _ ((p, _) :: (a, _) :: (b, _) :: L)
  walk_at "cut"
  walk_at "if"
  case h1 =>
    intro hb
    have hb := of_decide_eq_true hb
    have he : hearE e ep f = e := by unfold hearE; rw [if_pos hb]
    rw [he] at h2
    with_reducible apply c_retN
    case hQ => exact hQ
    case hP => exact up_perm h2.symm hP
    case l => exact Le.refl _
  case h2 =>
    intro hb
    have hb := of_decide_eq_false hb
    walk_at "st"
    walk_at "st"
    walk_at "st"
    refine c_cutW (fun ρ' M' => ρ' = [some (val (V.ref p)), some (dat (PyData.int ep)), some (dat (encF f)), some (dat (oi f.num)), some (dat (oi f.word)), some (dat (PyData.int ↑f.k))] ∧ M' = (p, cI T.C_End fN [val (.ref a), dat (.int (e.ans : Int)), val (.ref b), dat (.int ep)]) :: (a, tl e.out) :: (b, tl (hearE e ep f).told) :: L) ?_ ?_
    · have hq := eqv_oi f.num (e.told.length : Int)
      walk_at "if"
      case h1 =>
        intro hb2
        rw [hq] at hb2
        have hb2 := of_decide_eq_true hb2
        have hw : oi f.word = .int (f.word.getD 0) := by
          have := hwf (by rw [hb2]; rfl)
          cases z : f.word with
          | none => rw [z] at this; cases this
          | some w => rfl
        rw [hw]
        walk_at "st"
        walk_at "inv"
        refine ⟨rfl, ?_⟩
        have he : (hearE e ep f).told = e.told ++ [f.word.getD 0] := by unfold hearE; rw [if_neg hb, if_pos hb2]
        rw [he, tl_app]
      case h2 =>
        intro hb2
        rw [hq] at hb2
        have hb2 := of_decide_eq_false hb2
        walk_at "st"
        walk_at "inv"
        refine ⟨rfl, ?_⟩
        have he : (hearE e ep f).told = e.told := by unfold hearE; rw [if_neg hb, if_neg hb2]
        rw [he]
      all_goals trace_state
    · rintro ρ' M1 ⟨rfl, rfl⟩
      walk_at "if"
      case h1 =>
        intro hb2
        walk_at "st"
        refine c_end hQ ?_ (Le.refl _)
        refine up_perm ?_ hP
        have he : hearE e ep f = ⟨e.out, f.k, (hearE e ep f).told, ep⟩ := by
          simp only [Bool.and_eq_true, decide_eq_true_eq] at hb2
          unfold hearE
          rw [if_neg hb, if_pos (by omega)]
        rw [he] at h2
        exact h2.symm
      case h2 =>
        intro hb2
        walk_at "st"
        refine c_end hQ ?_ (Le.refl _)
        refine up_perm ?_ hP
        have he : hearE e ep f = ⟨e.out, e.ans, (hearE e ep f).told, ep⟩ := by
          rw [Bool.and_eq_false_iff, decide_eq_false_iff_not, decide_eq_false_iff_not] at hb2
          unfold hearE
          rw [if_neg hb, if_neg (by omega)]
        rw [he] at h2
        exact h2.symm
      all_goals trace_state

end Lw


set_option Elab.async false
set_option linter.all false
set_option maxRecDepth 100000
set_option maxHeartbeats 4000000
namespace Lw
open PySem L2 Sx
/-! ### steps -/
local macro_rules | `(tactic| walk_at "shp") => `(tactic| first
  | exact shp_int
  | exact shp_none
  | exact shp_bool
  | exact shp_oi _
  | (apply shp_str; first | decide +kernel | assumption)
  | (apply shp_list; walk_at "shpA")
  | (apply shp_tuple; walk_at "shpA")
  | assumption)
local macro_rules | `(tactic| walk_at "shpA") => `(tactic| first
  | exact shpA_nil
  | (apply shpA_cons; (· walk_at "shp"); walk_at "shpA")
  | (apply shpA_map; intro _ _; walk_at "shp"))
/-- what is left beside: closed, or left -/
local macro_rules | `(tactic| walk_at "side") => `(tactic| first
  | (with_reducible show Shp _ _); walk_at "shp"
  | (with_reducible show _ ≤ sizeLine); first | decide | (show _ ≤ 16777216; omega) | (show _ ≤ 16777216; simp only [List.length_map, List.length_append, List.length_cons, List.length_nil]; omega)
  | (with_reducible show _ < sizeLine); first | decide | (show _ < 16777216; omega) | (show _ < 16777216; simp only [List.length_map, List.length_append, List.length_cons, List.length_nil]; omega)
  | (with_reducible show CMul _ _); first | exact Or.inr ⟨by decide, by decide⟩ | exact Or.inl ⟨by decide, by decide⟩ | exact Or.inl ⟨by omega, by omega⟩ | exact Or.inr ⟨by omega, by omega⟩
  | (with_reducible show CPow _ _); exact ⟨by decide, by decide, by decide⟩
  | (with_reducible show CDiv _ _); first | exact ⟨by decide, by decide⟩ | exact ⟨by omega, by omega⟩
  | (with_reducible show Le _ _); first | with_reducible exact Le.refl _ | with_reducible assumption
  | (with_reducible show L2.atI _ _ = _); first | with_reducible assumption | exact rfl | exact atI_nat rfl
  | (with_reducible show _ < _); first | with_reducible assumption | decide | omega
  | (with_reducible show _ ≤ _); first | with_reducible assumption | decide | omega
  | (with_reducible show _ ∧ _); omega
  | (with_reducible show ∀ i, i ∈ _ → i ∈ _); decide
  | (with_reducible show (_ : Nat) = _); first | exact rfl | omega)
local macro_rules | `(tactic| walk_at "rm") => `(tactic| first
  | exact Rm.here
  | (apply Rm.there; walk_at "rm"))
local macro_rules | `(tactic| walk_at "perm") => `(tactic| first
  | with_reducible exact List.Perm.refl _
  | (apply perm_step; (· walk_at "rm"); walk_at "perm")
  | exact List.Perm.refl _)
local macro_rules | `(tactic| walk_at "pk") => `(tactic| first
  | with_reducible exact Pk.here
  | ((with_reducible apply Pk.there); walk_at "pk"))
/-- a part of a reading: what it gives. One word for all kinds -/
local macro_rules | `(tactic| walk_at "sx") => `(tactic| first
  -- an expression
  | with_reducible exact ev_int
  | with_reducible exact ev_bl
  | with_reducible exact ev_str
  | with_reducible exact ev_non
  | (with_reducible apply ev_var) <;> walk_at "sx"
  | (with_reducible apply ev_op) <;> walk_at "sx"
  | (with_reducible apply ev_fld) <;> walk_at "sx"
  | (with_reducible apply ev_cb) <;> walk_at "sx"
  | (with_reducible apply ev_tupD) <;> walk_at "sx"
  | (with_reducible apply ev_lstD) <;> walk_at "sx"
  | (with_reducible apply ev_tupV) <;> walk_at "sx"
  | (with_reducible apply ev_lstV) <;> walk_at "sx"
  | (with_reducible apply ev_slL) <;> walk_at "sx"
  | (with_reducible apply ev_slT1) <;> walk_at "sx"
  | (with_reducible apply ev_slT) <;> walk_at "sx"
  | (with_reducible apply ev_un) <;> walk_at "sx"
  | (with_reducible apply ev_chain) <;> walk_at "sx"
  | (with_reducible apply ev_andV) <;> walk_at "sx"
  | (with_reducible apply ev_orV) <;> walk_at "sx"
  | (with_reducible apply ev_notV) <;> walk_at "sx"
  | (with_reducible apply ev_lcY) <;> walk_at "sx"
  | (with_reducible apply ev_lc) <;> walk_at "sx"
  | ((with_reducible show ∀ a, a ∈ _ → ∃ ρ'' js, _); intro a ha; dsimp only [wipeE, List.set]; (first | with_reducible apply lcY_k | with_reducible apply lcF_k) <;> walk_at "sx")
  | (with_reducible apply ev_call) <;> walk_at "sx"
  | (with_reducible apply ev_meth) <;> walk_at "sx"
  | (with_reducible apply ev_bm) <;> walk_at "sx"
  | (with_reducible show Ev _ _ _ _ _); walk_at "own"
  -- a test
  | with_reducible exact et_yes
  | (with_reducible apply et_test) <;> walk_at "sx"
  | (with_reducible apply et_B) <;> walk_at "sx"
  | (with_reducible apply et_not) <;> walk_at "sx"
  | (with_reducible apply et_and) <;> walk_at "sx"
  | (with_reducible apply et_or) <;> walk_at "sx"
  -- arguments
  | with_reducible exact ea_nil
  | (with_reducible apply ea_cons) <;> walk_at "sx"
  | with_reducible exact ed_nil
  | (with_reducible apply ed_cons) <;> walk_at "sx"
  | with_reducible exact eo_none
  | (with_reducible apply eo_some) <;> walk_at "sx"
  -- what an operation gives
  | with_reducible exact rv_addI
  | with_reducible exact rv_int0
  | with_reducible exact rv_bl0
  | with_reducible exact rv_eqI
  | with_reducible exact rv_neI
  | with_reducible exact rv_eqS
  | with_reducible exact rv_neS
  | with_reducible exact rv_isN
  | with_reducible exact rv_notN
  | (with_reducible apply rv_intC) <;> walk_at "sx"
  | (with_reducible apply rv_addS) <;> walk_at "sx"
  | (with_reducible apply rv_ixL isl_dat) <;> walk_at "sx"
  | (with_reducible apply rv_ixT ist_dat) <;> walk_at "sx"
  | (with_reducible apply rv_ixLV) <;> walk_at "sx"
  | (apply rv_ixT ist_dat) <;> walk_at "sx"
  | (with_reducible apply rv_ixTV istv_vtup) <;> walk_at "sx"
  | (with_reducible apply rv_ixScr) <;> walk_at "sx"
  | (apply rv_ixL isl_dat) <;> walk_at "sx"
  | (with_reducible apply rv_ixL) <;> walk_at "sx"
  | (apply rv_cat) <;> walk_at "sx"
  | (with_reducible apply rv_eqD) <;> walk_at "sx"
  | (with_reducible apply rv_neD) <;> walk_at "sx"
  | with_reducible exact ru_neg
  | with_reducible exact rc_int
  | with_reducible exact rc_abs
  | with_reducible exact rc_max2
  | with_reducible exact rc_min2
  | with_reducible exact rc_lenScr
  | with_reducible exact rc_lenM isl_dat
  | ((with_reducible apply rc_lenM); (with_reducible apply isl_cell) <;> walk_at "sx")
  | with_reducible exact rc_lenMT
  | (with_reducible apply rc_lenL) <;> walk_at "sx"
  | (apply rc_lenT ist_dat)
  | (with_reducible apply rc_tupL) <;> walk_at "sx"
  | (apply rc_tupT)
  | (with_reducible apply rc_lstL) <;> walk_at "sx"
  | (apply rc_lstT ist_dat)
  | with_reducible exact rc_anyM
  | with_reducible exact rc_allM
  | ((with_reducible apply rm_append) <;> walk_at "sx")
  -- lists, tuples, data
  | with_reducible exact isl_dat
  | with_reducible exact isd_dat
  | with_reducible exact isd_scr
  | (with_reducible apply isl_cell) <;> walk_at "sx"
  | (with_reducible apply islv_cell) <;> walk_at "sx"
  | with_reducible exact islv_vlst
  | (with_reducible apply isd_cell) <;> walk_at "sx"
  | (with_reducible apply isd_vtup) <;> walk_at "sx"
  | (with_reducible apply isd_vlst) <;> walk_at "sx"
  | with_reducible exact isds_nil
  | (with_reducible apply isds_cons) <;> walk_at "sx"
  | with_reducible exact fzl_dat
  | with_reducible exact fzl_v
  | with_reducible exact fzt_dat
  | with_reducible exact fzt_v
  | (with_reducible apply ity_l) <;> walk_at "sx"
  | with_reducible exact ity_s
  | (with_reducible apply IsLst.v) <;> walk_at "sx"
  -- places
  | with_reducible exact At.here
  | (with_reducible apply At.there) <;> walk_at "sx"
  | with_reducible exact SetAt.here
  | (with_reducible apply SetAt.there) <;> walk_at "sx"
  | with_reducible exact List.mem_cons_self
  | (with_reducible apply List.mem_cons_of_mem) <;> walk_at "sx"
  | ((with_reducible show (_ : Addr × CD) ∈ _); with_reducible assumption)
  | with_reducible exact Put.here
  | (with_reducible apply Put.there) <;> walk_at "sx"
  | ((with_reducible show Put _ _ _ _ _); with_reducible assumption)
  | ((with_reducible show Sw _ _ _ _); with_reducible assumption)
  | with_reducible exact sw_nil
  | ((with_reducible apply sw_pick); (· walk_at "pk"); walk_at "sx")
  | ((with_reducible apply sw_skip); walk_at "sx")
  | with_reducible exact FGet.here
  | ((with_reducible apply FGet.there); (· decide +kernel); walk_at "sx")
  | with_reducible exact FPut.here
  | with_reducible exact FPut.new
  | ((with_reducible apply FPut.there); (· decide +kernel); walk_at "sx")
  | (with_reducible show ClsF _ _ _); with_reducible assumption
  | (with_reducible show RtQ _ _ _); assumption
  | (with_reducible show (_ : Str) ∈ _); decide +kernel
  | (with_reducible show ¬ (_ : Str) ∈ _); decide +kernel
  -- what is walked, targets
  | (with_reducible apply ei_rng1) <;> walk_at "sx"
  | (with_reducible apply ei_rng2) <;> walk_at "sx"
  | (with_reducible apply ei_enumD) <;> walk_at "sx"
  | (with_reducible apply ei_enum) <;> walk_at "sx"
  | (with_reducible apply ei_zip) <;> walk_at "sx"
  | (with_reducible apply ei_seqLM) <;> walk_at "sx"
  | (with_reducible apply ei_seqTM) <;> walk_at "sx"
  | (with_reducible apply ei_seqL) <;> walk_at "sx"
  | (with_reducible apply ei_seqT) <;> walk_at "sx"
  | (with_reducible apply tg_name) <;> walk_at "sx"
  | (with_reducible apply tg_tup istv_vtup) <;> walk_at "sx"
  | (with_reducible apply td_tup) <;> walk_at "sx"
  | with_reducible exact td_nil
  | (with_reducible apply td_cons) <;> walk_at "sx"
  | with_reducible exact tgs_nil
  | (with_reducible apply tgs_cons) <;> walk_at "sx"
  -- beside
  | walk_at "spec"
  | walk_at "side"
  | walk_at "leave")
/-- a question of another kind is left -/
local macro_rules | `(tactic| walk_at "leave") => `(tactic| first
  | with_reducible show Cont _ _ _ _
  | with_reducible show Shp _ _
  | with_reducible show _ ≤ _
  | with_reducible show _ < _
  | with_reducible show CMul _ _
  | with_reducible show CDiv _ _
  | with_reducible show CPow _ _
  | with_reducible show _ = _
  | with_reducible show Le _ _
  | ((with_reducible show _ = true → _); with_reducible assumption)
  | ((with_reducible show _ = true → _); intro _; walk_at "sx")
  | ((with_reducible show _ = false → _); intro _; walk_at "sx"))
/-- a plain statement -/
local macro_rules | `(tactic| walk_at "st") => `(tactic| first
  | (with_reducible apply c_seq); walk_at "st"
  | (with_reducible apply c_asg) <;> (first | walk_at "sx" | skip)
  | (with_reducible apply c_asgG) <;> (first | walk_at "sx" | skip)
  | (with_reducible apply c_par) <;> (first | walk_at "sx" | skip)
  | (with_reducible apply c_par3) <;> (first | walk_at "sx" | skip)
  | (with_reducible apply c_aug) <;> (first | walk_at "sx" | skip)
  | (with_reducible apply c_augS) <;> (first | walk_at "sx" | skip)
  | (with_reducible apply c_fld) <;> (first | walk_at "sx" | skip)
  | (with_reducible apply c_drop) <;> (first | walk_at "sx" | skip)
  | with_reducible apply c_next
  | with_reducible apply c_break
  | with_reducible apply c_cont)
/-- a value is handed back; a word is met again -/
local macro_rules | `(tactic| walk_at "ret") => `(tactic| (with_reducible apply c_ret) <;> (first | walk_at "sx" | skip))
local macro_rules | `(tactic| walk_at "inv") => `(tactic| (with_reducible apply c_inv) <;> (first | walk_at "side" | skip))
local macro_rules | `(tactic| walk_at "seq") => `(tactic| with_reducible apply c_seq)
local macro_rules | `(tactic| walk_at "cut") => `(tactic| with_reducible apply c_cut)
local macro_rules | `(tactic| walk_at "if") => `(tactic| ((with_reducible apply c_if); (case' h => first | walk_at "sx" | skip)))
local macro_rules | `(tactic| walk_at "fgt") => `(tactic| first
  | exact Fgt.nil
  | (with_reducible apply Fgt.keep; walk_at "fgt")
  | (with_reducible apply Fgt.drop; walk_at "fgt"))

theorem put_ev {K : PySem.W.Frag} {mg : Str → Option Value} {T : Tx K mg} {p a b : Addr} {e : EndS} {w : Int} {M M' : Cells} (h : Sw (endC T.C_End p a b e) (endC T.C_End p a b (putE e w)) M M') (hl : e.out.length ≤ 1000000) :
    S_End_put K T [val (.ref p), dat (.int w)] M (Det vn M') := ⟨p, a, b, e, w, M', rfl, hl, h, rfl, rfl⟩
theorem frames_ev {K : PySem.W.Frag} {mg : Str → Option Value} {T : Tx K mg} {p a b : Addr} {e : EndS} {M : Cells} (h : Sw (endC T.C_End p a b e) (endC T.C_End p a b e) M M) (hl : e.out.length ≤ 1000000) :
    S_End_frames K T [val (.ref p)] M (Det (dat (.tuple ((framesOf e).map encF))) M) := ⟨p, a, b, e, rfl, hl, h, rfl, rfl⟩
theorem hear_ev {K : PySem.W.Frag} {mg : Str → Option Value} {T : Tx K mg} {p a b : Addr} {e : EndS} {ep : Int} {f : Fm} {M M' : Cells} (h : Sw (endC T.C_End p a b e) (endC T.C_End p a b (hearE e ep f)) M M') (hf : f.num.isSome = true → f.word.isSome = true) (hl : e.told.length ≤ 1000000) :
    S_End_hear K T [val (.ref p), dat (.int ep), dat (encF f)] M (Det vn M') := ⟨p, a, b, e, ep, f, M', rfl, hf, hl, h, rfl, rfl⟩
local macro_rules | `(tactic| walk_at "spec") => `(tactic| first
  | with_reducible exact number_ev
  | (with_reducible apply take_ev) <;> walk_at "sx"
  | (with_reducible apply put_ev) <;> walk_at "sx"
  | (with_reducible apply frames_ev) <;> walk_at "sx"
  | (with_reducible apply hear_ev) <;> walk_at "sx")

/-- the letters -/
structure Lt where
  g : Bool
  ep : Int
  f : Fm
abbrev encL (l : Lt) : PyData := .tuple [.int (if l.g then 1 else 0), .int l.ep, encF l.f]
abbrev Mc (C p0 a0 b0 p1 a1 b1 : Addr) (e0 e1 : EndS) (pd : Addr) (dr : CD) : Cells := [(p1, endI C a1 b1 e1), (a1, tl e1.out), (b1, tl e1.told), (p0, endI C a0 b0 e0), (a0, tl e0.out), (b0, tl e0.told), (pd, dr)]
structure Ok14 (e0 e1 : EndS) (ls : List Lt) (ep : Int) (n : Nat) : Prop where
  d0 : Dir e0 e1
  d1 : Dir e1 e0
  p0 : e0.ep ≤ ep
  p1 : e1.ep ≤ ep
  l : ∀ l ∈ ls, (l.g = true → FOk e0 l.f) ∧ (l.g = false → FOk e1 l.f) ∧ l.ep ≤ ep
  n0 : e0.out.length ≤ n
  n1 : e1.out.length ≤ n
  nl : ls.length ≤ 3 * n
/-- the law's state between two turns -/
def J14 (K : PySem.W.Frag) (C : Addr) (s : List Int) (pd p0 a0 b0 p1 a1 b1 : Addr) (n : Nat) : Sx.Env → Cells → Prop := fun ρ' M' =>
  ∃ e0 e1 ls ep k, ρ' = [some (vscr K s), some (val (.ref pd)), some (vlst [val (.ref p0), val (.ref p1)]), some (dat (.list (ls.map encL))), some (dat (.int ep)), none, none, none, none, none, none, none, none, none, none, none, none, none] ∧
    M' = Mc C p0 a0 b0 p1 a1 b1 e0 e1 pd (cDraw K s k) ∧ Ok14 e0 e1 ls ep n

/-! ### a turn -/
abbrev R14 (K : PySem.W.Frag) (s : List Int) (pd p0 p1 : Addr) (ls : List Lt) (ep : Int) (d : VD) (kind at' : Int) : Sx.Env :=
  [some (vscr K s), some (val (.ref pd)), some (vlst [val (.ref p0), val (.ref p1)]), some (dat (.list (ls.map encL))), some (dat (.int ep)), some d, some (dat (.int kind)), some (dat (.int at')), none, none, none, none, none, none, none, none, none, none]
theorem Ok14.put0 {e0 e1 : EndS} {ls : List Lt} {ep : Int} {n : Nat} {w : Int} (O : Ok14 e0 e1 ls ep n) : Ok14 (putE e0 w) e1 ls ep (n + 1) :=
  ⟨(put_dir O.d0 O.d1).1, (put_dir O.d0 O.d1).2, O.p0, O.p1, fun l h => ⟨fun g => ((O.l l h).1 g).put, (O.l l h).2⟩, by
    show (e0.out ++ [w]).length ≤ _
    rw [List.length_append]; have := O.n0; simp; omega, Nat.le_succ_of_le O.n1, by have := O.nl; omega⟩
theorem Ok14.put1 {e0 e1 : EndS} {ls : List Lt} {ep : Int} {n : Nat} {w : Int} (O : Ok14 e0 e1 ls ep n) : Ok14 e0 (putE e1 w) ls ep (n + 1) :=
  ⟨(put_dir O.d1 O.d0).2, (put_dir O.d1 O.d0).1, O.p0, O.p1, fun l h => ⟨(O.l l h).1, fun g => ((O.l l h).2.1 g).put, (O.l l h).2.2⟩, Nat.le_succ_of_le O.n0, by
    show (e1.out ++ [w]).length ≤ _
    rw [List.length_append]; have := O.n1; simp; omega, by have := O.nl; omega⟩
theorem Ok14.succ {e0 e1 : EndS} {ls : List Lt} {ep : Int} {n : Nat} (O : Ok14 e0 e1 ls ep n) : Ok14 e0 e1 ls ep (n + 1) :=
  ⟨O.d0, O.d1, O.p0, O.p1, O.l, Nat.le_succ_of_le O.n0, Nat.le_succ_of_le O.n1, by have := O.nl; omega⟩
theorem Ok14.epoch {e0 e1 : EndS} {ls : List Lt} {ep : Int} {n : Nat} (O : Ok14 e0 e1 ls ep n) : Ok14 e0 e1 ls (ep + 1) (n + 1) :=
  ⟨O.d0, O.d1, by have := O.p0; omega, by have := O.p1; omega, fun l h => ⟨(O.l l h).1, (O.l l h).2.1, by have := (O.l l h).2.2; omega⟩, Nat.le_succ_of_le O.n0, Nat.le_succ_of_le O.n1, by have := O.nl; omega⟩
theorem Ok14.hear0 {e0 e1 : EndS} {ls ls' : List Lt} {ep : Int} {n : Nat} {l : Lt} (O : Ok14 e0 e1 ls ep n) (hl : l ∈ ls) (hg : l.g = false) (hs : ∀ x ∈ ls', x ∈ ls) (hn : ls'.length ≤ ls.length) : Ok14 (hearE e0 l.ep l.f) e1 ls' ep (n + 1) := by
  have h := O.l l hl
  have hd := hear_dir (ep := l.ep) O.d1 O.d0 (h.2.1 hg)
  refine ⟨hd.2, hd.1, ?_, O.p1, fun x hx => ⟨fun g => ((O.l x (hs x hx)).1 g).hear, (O.l x (hs x hx)).2⟩, by rw [hear_out]; exact Nat.le_succ_of_le O.n0, Nat.le_succ_of_le O.n1, by have := O.nl; omega⟩
  rcases (hear_ep e0 l.ep l.f).2 with z | z <;> rw [z]
  · exact O.p0
  · exact h.2.2
theorem Ok14.hear1 {e0 e1 : EndS} {ls ls' : List Lt} {ep : Int} {n : Nat} {l : Lt} (O : Ok14 e0 e1 ls ep n) (hl : l ∈ ls) (hg : l.g = true) (hs : ∀ x ∈ ls', x ∈ ls) (hn : ls'.length ≤ ls.length) : Ok14 e0 (hearE e1 l.ep l.f) ls' ep (n + 1) := by
  have h := O.l l hl
  have hd := hear_dir (ep := l.ep) O.d0 O.d1 (h.1 hg)
  refine ⟨hd.1, hd.2, O.p0, ?_, fun x hx => ⟨(O.l x (hs x hx)).1, fun g => ((O.l x (hs x hx)).2.1 g).hear, (O.l x (hs x hx)).2.2⟩, Nat.le_succ_of_le O.n0, by rw [hear_out]; exact Nat.le_succ_of_le O.n1, by have := O.nl; omega⟩
  rcases (hear_ep e1 l.ep l.f).2 with z | z <;> rw [z]
  · exact O.p1
  · exact h.2.2
theorem Ok14.sub {e0 e1 : EndS} {ls ls' : List Lt} {ep : Int} {n : Nat} (O : Ok14 e0 e1 ls ep n) (hs : ∀ x ∈ ls', x ∈ ls) (hn : ls'.length ≤ ls.length) : Ok14 e0 e1 ls' ep (n + 1) :=
  ⟨O.d0, O.d1, O.p0, O.p1, fun x hx => O.l x (hs x hx), Nat.le_succ_of_le O.n0, Nat.le_succ_of_le O.n1, by have := O.nl; omega⟩
theorem Ok14.send {e0 e1 : EndS} {ls : List Lt} {ep : Int} {n : Nat} {g : Bool} {fs : List Fm} (O : Ok14 e0 e1 ls ep n) (hf : ∀ f ∈ fs, if g then FOk e0 f else FOk e1 f) (hn : fs.length ≤ 3) : Ok14 e0 e1 (ls ++ fs.map fun f => ⟨g, ep, f⟩) ep (n + 1) := by
  refine ⟨O.d0, O.d1, O.p0, O.p1, fun x hx => ?_, Nat.le_succ_of_le O.n0, Nat.le_succ_of_le O.n1, by rw [List.length_append, List.length_map]; have := O.nl; omega⟩
  rcases List.mem_append.mp hx with hx | hx
  · exact O.l x hx
  · obtain ⟨f, h1, rfl⟩ := List.mem_map.mp hx
    have := hf f h1
    cases g with
    | true => exact ⟨fun _ => this, fun z => absurd (Eq.symm z) Bool.false_ne_true, Int.le_refl _⟩
    | false => exact ⟨fun z => absurd z Bool.false_ne_true, fun _ => this, Int.le_refl _⟩
local macro_rules | `(tactic| walk_at "fin") => `(tactic| ((with_reducible apply c_invF); (· exact ⟨_, _, _, _, _, rfl, rfl, by with_reducible assumption⟩); (· walk_at "fgt"); exact Le.refl _))

section
variable {K : PySem.W.Frag} {mg : Str → Option Value} {T : Tx K mg} {s : List Int} {pd p0 a0 b0 p1 a1 b1 : Addr} {e0 e1 : EndS} {ls : List Lt} {ep k : Int} {i : Nat} {d : VD} {kind at' : Int} {Ψ : Fr} {D : Ends}
theorem kind0 (hC : ClsF K T.C_End fN) (hD : D.nx = InvK Ψ (J14 K T.C_End s pd p0 a0 b0 p1 a1 b1 (i + 1))) (O : Ok14 e0 e1 ls ep i) (hi : i ≤ 80) (h0 : 0 ≤ at') (h2 : at' < 2) :
    Cont (rd_law_5 K T D) Ψ (R14 K s pd p0 p1 ls ep d kind at') (Mc T.C_End p0 a0 b0 p1 a1 b1 e0 e1 pd (cDraw K s k)) := by
  have hn0 := O.n0
  have hn1 := O.n1
  have hA : at' = 0 ∨ at' = 1 := by omega
  rcases hA with rfl | rfl
  · walk_at "st"
    rw [hD]
    have O' := O.put0 (w := tk s (k + 1) 50)
    walk_at "fin"
  · walk_at "st"
    rw [hD]
    have O' := O.put1 (w := tk s (k + 1) 50)
    walk_at "fin"
end

end Lw


set_option Elab.async false
set_option linter.all false
set_option maxRecDepth 100000
set_option maxHeartbeats 4000000
namespace Lw
open PySem L2 Sx
/-! ### steps -/
local macro_rules | `(tactic| walk_at "shp") => `(tactic| first
  | exact shp_int
  | exact shp_none
  | exact shp_bool
  | exact shp_oi _
  | (apply shp_str; first | decide +kernel | assumption)
  | (apply shp_list; walk_at "shpA")
  | (apply shp_tuple; walk_at "shpA")
  | assumption)
local macro_rules | `(tactic| walk_at "shpA") => `(tactic| first
  | exact shpA_nil
  | (apply shpA_cons; (· walk_at "shp"); walk_at "shpA")
  | (apply shpA_map; intro _ _; walk_at "shp"))
/-- what is left beside: closed, or left -/
local macro_rules | `(tactic| walk_at "side") => `(tactic| first
  | (with_reducible show Shp _ _); walk_at "shp"
  | (with_reducible show _ ≤ sizeLine); first | decide | (show _ ≤ 16777216; omega) | (show _ ≤ 16777216; simp only [List.length_map, List.length_append, List.length_cons, List.length_nil]; omega)
  | (with_reducible show _ < sizeLine); first | decide | (show _ < 16777216; omega) | (show _ < 16777216; simp only [List.length_map, List.length_append, List.length_cons, List.length_nil]; omega)
  | (with_reducible show CMul _ _); first | exact Or.inr ⟨by decide, by decide⟩ | exact Or.inl ⟨by decide, by decide⟩ | exact Or.inl ⟨by omega, by omega⟩ | exact Or.inr ⟨by omega, by omega⟩
  | (with_reducible show CPow _ _); exact ⟨by decide, by decide, by decide⟩
  | (with_reducible show CDiv _ _); first | exact ⟨by decide, by decide⟩ | exact ⟨by omega, by omega⟩
  | (with_reducible show Le _ _); first | with_reducible exact Le.refl _ | with_reducible assumption
  | (with_reducible show L2.atI _ _ = _); first | with_reducible assumption | exact rfl | exact atI_nat rfl
  | (with_reducible show _ < _); first | with_reducible assumption | decide | omega
  | (with_reducible show _ ≤ _); first | with_reducible assumption | decide | omega
  | (with_reducible show _ ∧ _); omega
  | (with_reducible show ∀ i, i ∈ _ → i ∈ _); decide
  | (with_reducible show (_ : Nat) = _); first | exact rfl | omega)
local macro_rules | `(tactic| walk_at "rm") => `(tactic| first
  | exact Rm.here
  | (apply Rm.there; walk_at "rm"))
local macro_rules | `(tactic| walk_at "perm") => `(tactic| first
  | with_reducible exact List.Perm.refl _
  | (apply perm_step; (· walk_at "rm"); walk_at "perm")
  | exact List.Perm.refl _)
local macro_rules | `(tactic| walk_at "pk") => `(tactic| first
  | with_reducible exact Pk.here
  | ((with_reducible apply Pk.there); walk_at "pk"))
/-- a part of a reading: what it gives. One word for all kinds -/
local macro_rules | `(tactic| walk_at "sx") => `(tactic| first
  -- an expression
  | with_reducible exact ev_int
  | with_reducible exact ev_bl
  | with_reducible exact ev_str
  | with_reducible exact ev_non
  | (with_reducible apply ev_var) <;> walk_at "sx"
  | (with_reducible apply ev_op) <;> walk_at "sx"
  | (with_reducible apply ev_fld) <;> walk_at "sx"
  | (with_reducible apply ev_cb) <;> walk_at "sx"
  | (with_reducible apply ev_tupD) <;> walk_at "sx"
  | (with_reducible apply ev_lstD) <;> walk_at "sx"
  | (with_reducible apply ev_tupV) <;> walk_at "sx"
  | (with_reducible apply ev_lstV) <;> walk_at "sx"
  | (with_reducible apply ev_slL) <;> walk_at "sx"
  | (with_reducible apply ev_slT1) <;> walk_at "sx"
  | (with_reducible apply ev_slT) <;> walk_at "sx"
  | (with_reducible apply ev_un) <;> walk_at "sx"
  | (with_reducible apply ev_chain) <;> walk_at "sx"
  | (with_reducible apply ev_andV) <;> walk_at "sx"
  | (with_reducible apply ev_orV) <;> walk_at "sx"
  | (with_reducible apply ev_notV) <;> walk_at "sx"
  | (with_reducible apply ev_lcY) <;> walk_at "sx"
  | (with_reducible apply ev_lc) <;> walk_at "sx"
  | ((with_reducible show ∀ a, a ∈ _ → ∃ ρ'' js, _); intro a ha; dsimp only [wipeE, List.set]; (first | with_reducible apply lcY_k | with_reducible apply lcF_k) <;> walk_at "sx")
  | (with_reducible apply ev_call) <;> walk_at "sx"
  | (with_reducible apply ev_meth) <;> walk_at "sx"
  | (with_reducible apply ev_bm) <;> walk_at "sx"
  | (with_reducible show Ev _ _ _ _ _); walk_at "own"
  -- a test
  | with_reducible exact et_yes
  | (with_reducible apply et_test) <;> walk_at "sx"
  | (with_reducible apply et_B) <;> walk_at "sx"
  | (with_reducible apply et_not) <;> walk_at "sx"
  | (with_reducible apply et_and) <;> walk_at "sx"
  | (with_reducible apply et_or) <;> walk_at "sx"
  -- arguments
  | with_reducible exact ea_nil
  | (with_reducible apply ea_cons) <;> walk_at "sx"
  | with_reducible exact ed_nil
  | (with_reducible apply ed_cons) <;> walk_at "sx"
  | with_reducible exact eo_none
  | (with_reducible apply eo_some) <;> walk_at "sx"
  -- what an operation gives
  | with_reducible exact rv_addI
  | with_reducible exact rv_int0
  | with_reducible exact rv_bl0
  | with_reducible exact rv_eqI
  | with_reducible exact rv_neI
  | with_reducible exact rv_eqS
  | with_reducible exact rv_neS
  | with_reducible exact rv_isN
  | with_reducible exact rv_notN
  | (with_reducible apply rv_intC) <;> walk_at "sx"
  | (with_reducible apply rv_addS) <;> walk_at "sx"
  | (with_reducible apply rv_ixL isl_dat) <;> walk_at "sx"
  | (with_reducible apply rv_ixT ist_dat) <;> walk_at "sx"
  | (with_reducible apply rv_ixLV) <;> walk_at "sx"
  | (apply rv_ixT ist_dat) <;> walk_at "sx"
  | (with_reducible apply rv_ixTV istv_vtup) <;> walk_at "sx"
  | (with_reducible apply rv_ixScr) <;> walk_at "sx"
  | (apply rv_ixL isl_dat) <;> walk_at "sx"
  | (with_reducible apply rv_ixL) <;> walk_at "sx"
  | (apply rv_cat) <;> walk_at "sx"
  | (with_reducible apply rv_eqD) <;> walk_at "sx"
  | (with_reducible apply rv_neD) <;> walk_at "sx"
  | with_reducible exact ru_neg
  | with_reducible exact rc_int
  | with_reducible exact rc_abs
  | with_reducible exact rc_max2
  | with_reducible exact rc_min2
  | with_reducible exact rc_lenScr
  | with_reducible exact rc_lenM isl_dat
  | ((with_reducible apply rc_lenM); (with_reducible apply isl_cell) <;> walk_at "sx")
  | with_reducible exact rc_lenMT
  | (with_reducible apply rc_lenL) <;> walk_at "sx"
  | (apply rc_lenT ist_dat)
  | (with_reducible apply rc_tupL) <;> walk_at "sx"
  | (apply rc_tupT)
  | (with_reducible apply rc_lstL) <;> walk_at "sx"
  | (apply rc_lstT ist_dat)
  | with_reducible exact rc_anyM
  | with_reducible exact rc_allM
  | ((with_reducible apply rm_append) <;> walk_at "sx")
  -- lists, tuples, data
  | with_reducible exact isl_dat
  | with_reducible exact isd_dat
  | with_reducible exact isd_scr
  | (with_reducible apply isl_cell) <;> walk_at "sx"
  | (with_reducible apply islv_cell) <;> walk_at "sx"
  | with_reducible exact islv_vlst
  | (with_reducible apply isd_cell) <;> walk_at "sx"
  | (with_reducible apply isd_vtup) <;> walk_at "sx"
  | (with_reducible apply isd_vlst) <;> walk_at "sx"
  | with_reducible exact isds_nil
  | (with_reducible apply isds_cons) <;> walk_at "sx"
  | with_reducible exact fzl_dat
  | with_reducible exact fzl_v
  | with_reducible exact fzt_dat
  | with_reducible exact fzt_v
  | (with_reducible apply ity_l) <;> walk_at "sx"
  | with_reducible exact ity_s
  | (with_reducible apply IsLst.v) <;> walk_at "sx"
  -- places
  | with_reducible exact At.here
  | (with_reducible apply At.there) <;> walk_at "sx"
  | with_reducible exact SetAt.here
  | (with_reducible apply SetAt.there) <;> walk_at "sx"
  | with_reducible exact List.mem_cons_self
  | (with_reducible apply List.mem_cons_of_mem) <;> walk_at "sx"
  | ((with_reducible show (_ : Addr × CD) ∈ _); with_reducible assumption)
  | with_reducible exact Put.here
  | (with_reducible apply Put.there) <;> walk_at "sx"
  | ((with_reducible show Put _ _ _ _ _); with_reducible assumption)
  | ((with_reducible show Sw _ _ _ _); with_reducible assumption)
  | with_reducible exact sw_nil
  | ((with_reducible apply sw_pick); (· walk_at "pk"); walk_at "sx")
  | ((with_reducible apply sw_skip); walk_at "sx")
  | with_reducible exact FGet.here
  | ((with_reducible apply FGet.there); (· decide +kernel); walk_at "sx")
  | with_reducible exact FPut.here
  | with_reducible exact FPut.new
  | ((with_reducible apply FPut.there); (· decide +kernel); walk_at "sx")
  | (with_reducible show ClsF _ _ _); with_reducible assumption
  | (with_reducible show RtQ _ _ _); assumption
  | (with_reducible show (_ : Str) ∈ _); decide +kernel
  | (with_reducible show ¬ (_ : Str) ∈ _); decide +kernel
  -- what is walked, targets
  | (with_reducible apply ei_rng1) <;> walk_at "sx"
  | (with_reducible apply ei_rng2) <;> walk_at "sx"
  | (with_reducible apply ei_enumD) <;> walk_at "sx"
  | (with_reducible apply ei_enum) <;> walk_at "sx"
  | (with_reducible apply ei_zip) <;> walk_at "sx"
  | (with_reducible apply ei_seqLM) <;> walk_at "sx"
  | (with_reducible apply ei_seqTM) <;> walk_at "sx"
  | (with_reducible apply ei_seqL) <;> walk_at "sx"
  | (with_reducible apply ei_seqT) <;> walk_at "sx"
  | (with_reducible apply tg_name) <;> walk_at "sx"
  | (with_reducible apply tg_tup istv_vtup) <;> walk_at "sx"
  | (with_reducible apply td_tup) <;> walk_at "sx"
  | with_reducible exact td_nil
  | (with_reducible apply td_cons) <;> walk_at "sx"
  | with_reducible exact tgs_nil
  | (with_reducible apply tgs_cons) <;> walk_at "sx"
  -- beside
  | walk_at "spec"
  | walk_at "side"
  | walk_at "leave")
/-- a question of another kind is left -/
local macro_rules | `(tactic| walk_at "leave") => `(tactic| first
  | with_reducible show Cont _ _ _ _
  | with_reducible show Shp _ _
  | with_reducible show _ ≤ _
  | with_reducible show _ < _
  | with_reducible show CMul _ _
  | with_reducible show CDiv _ _
  | with_reducible show CPow _ _
  | with_reducible show _ = _
  | with_reducible show Le _ _
  | ((with_reducible show _ = true → _); with_reducible assumption)
  | ((with_reducible show _ = true → _); intro _; walk_at "sx")
  | ((with_reducible show _ = false → _); intro _; walk_at "sx"))
/-- a plain statement -/
local macro_rules | `(tactic| walk_at "st") => `(tactic| first
  | (with_reducible apply c_seq); walk_at "st"
  | (with_reducible apply c_asg) <;> (first | walk_at "sx" | skip)
  | (with_reducible apply c_asgG) <;> (first | walk_at "sx" | skip)
  | (with_reducible apply c_par) <;> (first | walk_at "sx" | skip)
  | (with_reducible apply c_par3) <;> (first | walk_at "sx" | skip)
  | (with_reducible apply c_aug) <;> (first | walk_at "sx" | skip)
  | (with_reducible apply c_augS) <;> (first | walk_at "sx" | skip)
  | (with_reducible apply c_fld) <;> (first | walk_at "sx" | skip)
  | (with_reducible apply c_drop) <;> (first | walk_at "sx" | skip)
  | with_reducible apply c_next
  | with_reducible apply c_break
  | with_reducible apply c_cont)
/-- a value is handed back; a word is met again -/
local macro_rules | `(tactic| walk_at "ret") => `(tactic| (with_reducible apply c_ret) <;> (first | walk_at "sx" | skip))
local macro_rules | `(tactic| walk_at "inv") => `(tactic| (with_reducible apply c_inv) <;> (first | walk_at "side" | skip))
local macro_rules | `(tactic| walk_at "seq") => `(tactic| with_reducible apply c_seq)
local macro_rules | `(tactic| walk_at "cut") => `(tactic| with_reducible apply c_cut)
local macro_rules | `(tactic| walk_at "if") => `(tactic| ((with_reducible apply c_if); (case' h => first | walk_at "sx" | skip)))
local macro_rules | `(tactic| walk_at "fgt") => `(tactic| first
  | exact Fgt.nil
  | (with_reducible apply Fgt.keep; walk_at "fgt")
  | (with_reducible apply Fgt.drop; walk_at "fgt"))

local macro_rules | `(tactic| walk_at "spec") => `(tactic| first
  | with_reducible exact number_ev
  | (with_reducible apply take_ev) <;> walk_at "sx"
  | (with_reducible apply put_ev) <;> walk_at "sx"
  | (with_reducible apply frames_ev) <;> walk_at "sx"
  | (with_reducible apply hear_ev) <;> walk_at "sx")

local macro_rules | `(tactic| walk_at "fin") => `(tactic| ((with_reducible apply c_invF); (· exact ⟨_, _, _, _, _, rfl, rfl, by with_reducible assumption⟩); (· walk_at "fgt"); exact Le.refl _))

abbrev wordsOf (e : EndS) : List Fm := (framesOf e).filter fun f => !isNoneD (oi f.num)
theorem words_eq {e : EndS} : wordsOf e = (rowsOf e).zipIdx.map (frF e) := by
  unfold wordsOf framesOf
  split
  · rename_i h; rw [h]; rfl
  · rw [List.filter_eq_self]
    intro f hf
    obtain ⟨x, -, rfl⟩ := List.mem_map.mp hf
    rfl
theorem words_len {e : EndS} : (wordsOf e).length = (rowsOf e).length ∧ (rowsOf e).length ≤ 3 := by
  rw [words_eq, List.length_map, List.length_zipIdx]
  refine ⟨rfl, ?_⟩
  unfold rowsOf
  rw [List.length_take]
  omega
theorem words_word {e : EndS} : (wordsOf e).map (fun f => oi f.word) = (rowsOf e).map PyData.int := by
  rw [words_eq, List.map_map]
  have h : ∀ (xs : List Int) (n : Nat), (xs.zipIdx n).map ((fun f : Fm => oi f.word) ∘ frF e) = xs.map PyData.int := by
    intro xs
    induction xs with
    | nil => intro n; rfl
    | cons x xs ih => intro n; rw [List.zipIdx_cons, List.map_cons, List.map_cons, ih]; rfl
  exact h _ _
theorem frames_len {e : EndS} : (framesOf e).length = max 1 (wordsOf e).length := by
  rw [words_len.1]
  unfold framesOf
  split
  · rename_i h; rw [h]; rfl
  · rename_i h
    rw [List.length_map, List.length_zipIdx]
    cases hr : rowsOf e with
    | nil => exact absurd hr h
    | cons x xs => rw [List.length_cons]; omega
theorem rows_cut {e : EndS} : cutD (e.out.map PyData.int) (some (e.ans : Int)) (some ((e.ans : Int) + 3)) = (rowsOf e).map PyData.int := by
  rw [show ((e.ans : Int) + 3) = ((e.ans + 3 : Nat) : Int) by omega, cut_map, cut_nn]
  rw [Nat.add_sub_cancel_left]
  rfl
section
variable {K : PySem.W.Frag} {mg : Str → Option Value} {T : Tx K mg} {s : List Int} {pd p0 p1 p a b : Addr} {e : EndS} {ls : List Lt} {ep k : Int} {i : Nat} {d : VD} {kind at' : Int} {Ψ Φ : Fr} {D : Ends} {M : Cells} {P : VD → Cells → Prop}
theorem kind1 (hC : ClsF K T.C_End fN) (hi : i ≤ 80) (ho : e.out.length ≤ i) (ht : e.told.length ≤ i) (hl : ls.length ≤ 3 * i)
    (hp : L2.atI [val (.ref p0), val (.ref p1)] at' = some (val (.ref p))) (h1 : (p, endI T.C_End a b e) ∈ M) (h2 : (a, tl e.out) ∈ M) (h3 : (b, tl e.told) ∈ M) (hs : Sw (endC T.C_End p a b e) (endC T.C_End p a b e) M M)
    (hk : ∀ x8 x9, Cont D.nx Ψ [some (vscr K s), some (val (.ref pd)), some (vlst [val (.ref p0), val (.ref p1)]), some (dat (.list (ls.map encL ++ (framesOf e).map fun f => .tuple [.int (1 - at'), .int ep, encF f]))), some (dat (.int ep)), some d, some (dat (.int kind)), some (dat (.int at')), some x8, some x9, none, none, none, none, none, none, none, none] M) :
    Cont (rd_law_7 K T D) Ψ (R14 K s pd p0 p1 ls ep d kind at') M := by
  have hfl := frames_le e
  have hwl := words_len (e := e)
  walk_at "seq"
  apply c_asg <;> (first | walk_at "sx" | skip)
  walk_at "seq"
  apply c_asg <;> (first | walk_at "sx" | skip)

  walk_at "cut"
  walk_at "if"
  case hl => show (wordsOf e).length ≤ _; omega
  case se => rw [rows_cut]; walk_at "shp"
  case h1 =>
    intro hb
    exfalso
    have e1 : (List.map (fun a : Fm => oi a.word) (List.filter (fun a : Fm => !isNoneD (oi a.num)) (framesOf e))) = (rowsOf e).map PyData.int := words_word
    have e2 : (List.filter (fun a : Fm => !isNoneD (oi a.num)) (framesOf e)).length = (rowsOf e).length := words_len.1
    rw [e1, rows_cut, e2, (eqok_list eqok_int _ _).2 rfl] at hb
    simp at hb
    omega
  case h2 => 
    intro hb
    walk_at "st"
    walk_at "cut"
    walk_at "if"
    case h1 =>
      intro hb
      exfalso
      have e1 : (framesOf e).any (fun a => !decide ((a.k : Int) = (e.told.length : Int))) = false := by
        rw [List.any_eq_false]
        intro f hf
        rw [(frames_ok f hf).2]
        simp
      have e2 : (framesOf e).length = max 1 (List.filter (fun a : Fm => !isNoneD (oi a.num)) (framesOf e)).length := frames_len
      rw [e1] at hb
      simp at hb
      omega
    case h2 => 
      intro hb
      walk_at "st"
      walk_at "st"
      exact hk _ _
end

end Lw


set_option Elab.async false
set_option linter.all false
set_option maxRecDepth 100000
set_option maxHeartbeats 4000000
namespace Lw
open PySem L2 Sx
/-! ### steps -/
local macro_rules | `(tactic| walk_at "shp") => `(tactic| first
  | exact shp_int
  | exact shp_none
  | exact shp_bool
  | exact shp_oi _
  | (apply shp_str; first | decide +kernel | assumption)
  | (apply shp_list; walk_at "shpA")
  | (apply shp_tuple; walk_at "shpA")
  | assumption)
local macro_rules | `(tactic| walk_at "shpA") => `(tactic| first
  | exact shpA_nil
  | (apply shpA_cons; (· walk_at "shp"); walk_at "shpA")
  | (apply shpA_map; intro _ _; walk_at "shp"))
/-- what is left beside: closed, or left -/
local macro_rules | `(tactic| walk_at "side") => `(tactic| first
  | (with_reducible show Shp _ _); walk_at "shp"
  | (with_reducible show _ ≤ sizeLine); first | decide | (show _ ≤ 16777216; omega) | (show _ ≤ 16777216; simp only [List.length_map, List.length_append, List.length_cons, List.length_nil]; omega)
  | (with_reducible show _ < sizeLine); first | decide | (show _ < 16777216; omega) | (show _ < 16777216; simp only [List.length_map, List.length_append, List.length_cons, List.length_nil]; omega)
  | (with_reducible show CMul _ _); first | exact Or.inr ⟨by decide, by decide⟩ | exact Or.inl ⟨by decide, by decide⟩ | exact Or.inl ⟨by omega, by omega⟩ | exact Or.inr ⟨by omega, by omega⟩
  | (with_reducible show CPow _ _); exact ⟨by decide, by decide, by decide⟩
  | (with_reducible show CDiv _ _); first | exact ⟨by decide, by decide⟩ | exact ⟨by omega, by omega⟩
  | (with_reducible show Le _ _); first | with_reducible exact Le.refl _ | with_reducible assumption
  | (with_reducible show L2.atI _ _ = _); first | with_reducible assumption | exact rfl | exact atI_nat rfl
  | (with_reducible show _ < _); first | with_reducible assumption | decide | omega
  | (with_reducible show _ ≤ _); first | with_reducible assumption | decide | omega
  | (with_reducible show _ ∧ _); omega
  | (with_reducible show ∀ i, i ∈ _ → i ∈ _); decide
  | (with_reducible show (_ : Nat) = _); first | exact rfl | omega)
local macro_rules | `(tactic| walk_at "rm") => `(tactic| first
  | exact Rm.here
  | (apply Rm.there; walk_at "rm"))
local macro_rules | `(tactic| walk_at "perm") => `(tactic| first
  | with_reducible exact List.Perm.refl _
  | (apply perm_step; (· walk_at "rm"); walk_at "perm")
  | exact List.Perm.refl _)
local macro_rules | `(tactic| walk_at "pk") => `(tactic| first
  | with_reducible exact Pk.here
  | ((with_reducible apply Pk.there); walk_at "pk"))
/-- a part of a reading: what it gives. One word for all kinds -/
local macro_rules | `(tactic| walk_at "sx") => `(tactic| first
  -- an expression
  | with_reducible exact ev_int
  | with_reducible exact ev_bl
  | with_reducible exact ev_str
  | with_reducible exact ev_non
  | (with_reducible apply ev_var) <;> walk_at "sx"
  | (with_reducible apply ev_op) <;> walk_at "sx"
  | (with_reducible apply ev_fld) <;> walk_at "sx"
  | (with_reducible apply ev_cb) <;> walk_at "sx"
  | (with_reducible apply ev_tupD) <;> walk_at "sx"
  | (with_reducible apply ev_lstD) <;> walk_at "sx"
  | (with_reducible apply ev_tupV) <;> walk_at "sx"
  | (with_reducible apply ev_lstV) <;> walk_at "sx"
  | (with_reducible apply ev_slL) <;> walk_at "sx"
  | (with_reducible apply ev_slT1) <;> walk_at "sx"
  | (with_reducible apply ev_slT) <;> walk_at "sx"
  | (with_reducible apply ev_un) <;> walk_at "sx"
  | (with_reducible apply ev_chain) <;> walk_at "sx"
  | (with_reducible apply ev_andV) <;> walk_at "sx"
  | (with_reducible apply ev_orV) <;> walk_at "sx"
  | (with_reducible apply ev_notV) <;> walk_at "sx"
  | (with_reducible apply ev_lcY) <;> walk_at "sx"
  | (with_reducible apply ev_lc) <;> walk_at "sx"
  | ((with_reducible show ∀ a, a ∈ _ → ∃ ρ'' js, _); intro a ha; dsimp only [wipeE, List.set]; (first | with_reducible apply lcY_k | with_reducible apply lcF_k) <;> walk_at "sx")
  | (with_reducible apply ev_call) <;> walk_at "sx"
  | (with_reducible apply ev_meth) <;> walk_at "sx"
  | (with_reducible apply ev_bm) <;> walk_at "sx"
  | (with_reducible show Ev _ _ _ _ _); walk_at "own"
  -- a test
  | with_reducible exact et_yes
  | (with_reducible apply et_test) <;> walk_at "sx"
  | (with_reducible apply et_B) <;> walk_at "sx"
  | (with_reducible apply et_not) <;> walk_at "sx"
  | (with_reducible apply et_and) <;> walk_at "sx"
  | (with_reducible apply et_or) <;> walk_at "sx"
  -- arguments
  | with_reducible exact ea_nil
  | (with_reducible apply ea_cons) <;> walk_at "sx"
  | with_reducible exact ed_nil
  | (with_reducible apply ed_cons) <;> walk_at "sx"
  | with_reducible exact eo_none
  | (with_reducible apply eo_some) <;> walk_at "sx"
  -- what an operation gives
  | with_reducible exact rv_addI
  | with_reducible exact rv_int0
  | with_reducible exact rv_bl0
  | with_reducible exact rv_eqI
  | with_reducible exact rv_neI
  | with_reducible exact rv_eqS
  | with_reducible exact rv_neS
  | with_reducible exact rv_isN
  | with_reducible exact rv_notN
  | (with_reducible apply rv_intC) <;> walk_at "sx"
  | (with_reducible apply rv_addS) <;> walk_at "sx"
  | (with_reducible apply rv_ixL isl_dat) <;> walk_at "sx"
  | (with_reducible apply rv_ixT ist_dat) <;> walk_at "sx"
  | (with_reducible apply rv_ixLV) <;> walk_at "sx"
  | (apply rv_ixT ist_dat) <;> walk_at "sx"
  | (with_reducible apply rv_ixTV istv_vtup) <;> walk_at "sx"
  | (with_reducible apply rv_ixScr) <;> walk_at "sx"
  | (apply rv_ixL isl_dat) <;> walk_at "sx"
  | (with_reducible apply rv_ixL) <;> walk_at "sx"
  | (apply rv_cat) <;> walk_at "sx"
  | (with_reducible apply rv_eqD) <;> walk_at "sx"
  | (with_reducible apply rv_neD) <;> walk_at "sx"
  | with_reducible exact ru_neg
  | with_reducible exact rc_int
  | with_reducible exact rc_abs
  | with_reducible exact rc_max2
  | with_reducible exact rc_min2
  | with_reducible exact rc_lenScr
  | with_reducible exact rc_lenM isl_dat
  | ((with_reducible apply rc_lenM); (with_reducible apply isl_cell) <;> walk_at "sx")
  | with_reducible exact rc_lenMT
  | (with_reducible apply rc_lenL) <;> walk_at "sx"
  | (apply rc_lenT ist_dat)
  | (with_reducible apply rc_tupL) <;> walk_at "sx"
  | (apply rc_tupT)
  | (with_reducible apply rc_lstL) <;> walk_at "sx"
  | (apply rc_lstT ist_dat)
  | with_reducible exact rc_anyM
  | with_reducible exact rc_allM
  | ((with_reducible apply rm_append) <;> walk_at "sx")
  -- lists, tuples, data
  | with_reducible exact isl_dat
  | with_reducible exact isd_dat
  | with_reducible exact isd_scr
  | (with_reducible apply isl_cell) <;> walk_at "sx"
  | (with_reducible apply islv_cell) <;> walk_at "sx"
  | with_reducible exact islv_vlst
  | (with_reducible apply isd_cell) <;> walk_at "sx"
  | (with_reducible apply isd_vtup) <;> walk_at "sx"
  | (with_reducible apply isd_vlst) <;> walk_at "sx"
  | with_reducible exact isds_nil
  | (with_reducible apply isds_cons) <;> walk_at "sx"
  | with_reducible exact fzl_dat
  | with_reducible exact fzl_v
  | with_reducible exact fzt_dat
  | with_reducible exact fzt_v
  | (with_reducible apply ity_l) <;> walk_at "sx"
  | with_reducible exact ity_s
  | (with_reducible apply IsLst.v) <;> walk_at "sx"
  -- places
  | with_reducible exact At.here
  | (with_reducible apply At.there) <;> walk_at "sx"
  | with_reducible exact SetAt.here
  | (with_reducible apply SetAt.there) <;> walk_at "sx"
  | with_reducible exact List.mem_cons_self
  | (with_reducible apply List.mem_cons_of_mem) <;> walk_at "sx"
  | ((with_reducible show (_ : Addr × CD) ∈ _); with_reducible assumption)
  | with_reducible exact Put.here
  | (with_reducible apply Put.there) <;> walk_at "sx"
  | ((with_reducible show Put _ _ _ _ _); with_reducible assumption)
  | ((with_reducible show Sw _ _ _ _); with_reducible assumption)
  | with_reducible exact sw_nil
  | ((with_reducible apply sw_pick); (· walk_at "pk"); walk_at "sx")
  | ((with_reducible apply sw_skip); walk_at "sx")
  | with_reducible exact FGet.here
  | ((with_reducible apply FGet.there); (· decide +kernel); walk_at "sx")
  | with_reducible exact FPut.here
  | with_reducible exact FPut.new
  | ((with_reducible apply FPut.there); (· decide +kernel); walk_at "sx")
  | (with_reducible show ClsF _ _ _); with_reducible assumption
  | (with_reducible show RtQ _ _ _); assumption
  | (with_reducible show (_ : Str) ∈ _); decide +kernel
  | (with_reducible show ¬ (_ : Str) ∈ _); decide +kernel
  -- what is walked, targets
  | (with_reducible apply ei_rng1) <;> walk_at "sx"
  | (with_reducible apply ei_rng2) <;> walk_at "sx"
  | (with_reducible apply ei_enumD) <;> walk_at "sx"
  | (with_reducible apply ei_enum) <;> walk_at "sx"
  | (with_reducible apply ei_zip) <;> walk_at "sx"
  | (with_reducible apply ei_seqLM) <;> walk_at "sx"
  | (with_reducible apply ei_seqTM) <;> walk_at "sx"
  | (with_reducible apply ei_seqL) <;> walk_at "sx"
  | (with_reducible apply ei_seqT) <;> walk_at "sx"
  | (with_reducible apply tg_name) <;> walk_at "sx"
  | (with_reducible apply tg_tup istv_vtup) <;> walk_at "sx"
  | (with_reducible apply td_tup) <;> walk_at "sx"
  | with_reducible exact td_nil
  | (with_reducible apply td_cons) <;> walk_at "sx"
  | with_reducible exact tgs_nil
  | (with_reducible apply tgs_cons) <;> walk_at "sx"
  -- beside
  | walk_at "spec"
  | walk_at "side"
  | walk_at "leave")
/-- a question of another kind is left -/
local macro_rules | `(tactic| walk_at "leave") => `(tactic| first
  | with_reducible show Cont _ _ _ _
  | with_reducible show Shp _ _
  | with_reducible show _ ≤ _
  | with_reducible show _ < _
  | with_reducible show CMul _ _
  | with_reducible show CDiv _ _
  | with_reducible show CPow _ _
  | with_reducible show _ = _
  | with_reducible show Le _ _
  | ((with_reducible show _ = true → _); with_reducible assumption)
  | ((with_reducible show _ = true → _); intro _; walk_at "sx")
  | ((with_reducible show _ = false → _); intro _; walk_at "sx"))
/-- a plain statement -/
local macro_rules | `(tactic| walk_at "st") => `(tactic| first
  | (with_reducible apply c_seq); walk_at "st"
  | (with_reducible apply c_asg) <;> (first | walk_at "sx" | skip)
  | (with_reducible apply c_asgG) <;> (first | walk_at "sx" | skip)
  | (with_reducible apply c_par) <;> (first | walk_at "sx" | skip)
  | (with_reducible apply c_par3) <;> (first | walk_at "sx" | skip)
  | (with_reducible apply c_aug) <;> (first | walk_at "sx" | skip)
  | (with_reducible apply c_augS) <;> (first | walk_at "sx" | skip)
  | (with_reducible apply c_fld) <;> (first | walk_at "sx" | skip)
  | (with_reducible apply c_drop) <;> (first | walk_at "sx" | skip)
  | with_reducible apply c_next
  | with_reducible apply c_break
  | with_reducible apply c_cont)
/-- a value is handed back; a word is met again -/
local macro_rules | `(tactic| walk_at "ret") => `(tactic| (with_reducible apply c_ret) <;> (first | walk_at "sx" | skip))
local macro_rules | `(tactic| walk_at "inv") => `(tactic| (with_reducible apply c_inv) <;> (first | walk_at "side" | skip))
local macro_rules | `(tactic| walk_at "seq") => `(tactic| with_reducible apply c_seq)
local macro_rules | `(tactic| walk_at "cut") => `(tactic| with_reducible apply c_cut)
local macro_rules | `(tactic| walk_at "if") => `(tactic| ((with_reducible apply c_if); (case' h => first | walk_at "sx" | skip)))
local macro_rules | `(tactic| walk_at "fgt") => `(tactic| first
  | exact Fgt.nil
  | (with_reducible apply Fgt.keep; walk_at "fgt")
  | (with_reducible apply Fgt.drop; walk_at "fgt"))

local macro_rules | `(tactic| walk_at "spec") => `(tactic| first
  | with_reducible exact number_ev
  | (with_reducible apply take_ev) <;> walk_at "sx"
  | (with_reducible apply put_ev) <;> walk_at "sx"
  | (with_reducible apply frames_ev) <;> walk_at "sx"
  | (with_reducible apply hear_ev) <;> walk_at "sx")

local macro_rules | `(tactic| walk_at "fin") => `(tactic| ((with_reducible apply c_invF); (· exact ⟨_, _, _, _, _, rfl, rfl, by with_reducible assumption⟩); (· walk_at "fgt"); exact Le.refl _))

theorem eqv_same {t : List Int} {a b : Int} : PyData.eqv (.tuple [.list (t.map PyData.int), .int a, .int b]) (.tuple [.list (t.map PyData.int), .int a, .int b]) = true := by
  have h := (eqok_list eqok_int t t).2 rfl
  simp only [PyData.eqv, PyData.eqvAll] at h ⊢
  simp [h]
section
variable {K : PySem.W.Frag} {mg : Str → Option Value} {T : Tx K mg} {s : List Int} {pd p0 p1 p a b : Addr} {e : EndS} {ep lep g k : Int} {i : Nat} {d x3 x10 : VD} {f : Fm} {kind at' : Int} {Ψ Φ : Fr} {D : Ends} {N : Cells} {P : VD → Cells → Prop}
theorem hearing (hC : ClsF K T.C_End fN) (hi : i ≤ 80) (ho : e.out.length ≤ i) (ht : e.told.length ≤ i) (hf : f.num.isSome = true → f.word.isSome = true)
    (hp : L2.atI [val (.ref p0), val (.ref p1)] g = some (val (.ref p)))
    (hk : ∀ e' k' x14 x15, (e' = e ∨ e' = hearE e lep f) → Cont D.nx Ψ [some (vscr K s), some (val (.ref pd)), some (vlst [val (.ref p0), val (.ref p1)]), some x3, some (dat (.int ep)), some d, some (dat (.int kind)), some (dat (.int at')), none, none, some x10, some (dat (.int g)), some (dat (.int lep)), some (dat (encF f)), some x14, some x15, none, none] ((p, endI T.C_End a b e') :: (a, tl e'.out) :: (b, tl e'.told) :: (pd, cDraw K s k') :: N)) :
    Cont (rd_law_24 K T D) Ψ [some (vscr K s), some (val (.ref pd)), some (vlst [val (.ref p0), val (.ref p1)]), some x3, some (dat (.int ep)), some d, some (dat (.int kind)), some (dat (.int at')), none, none, some x10, some (dat (.int g)), some (dat (.int lep)), some (dat (encF f)), none, none, none, none] ((p, endI T.C_End a b e) :: (a, tl e.out) :: (b, tl e.told) :: (pd, cDraw K s k) :: N) := by
  walk_at "st"
  walk_at "st"
  with_reducible apply c_cutW (fun ρ' M' => ∃ e', (e' = e ∨ e' = hearE e lep f) ∧ ρ' = [some (vscr K s), some (val (.ref pd)), some (vlst [val (.ref p0), val (.ref p1)]), some x3, some (dat (.int ep)), some d, some (dat (.int kind)), some (dat (.int at')), none, none, some x10, some (dat (.int g)), some (dat (.int lep)), some (dat (encF f)), some (val (.ref p)), some (dat (.tuple [.list (e.told.map PyData.int), .int (e.ans : Int), .int e.ep])), none, none] ∧ M' = (p, endI T.C_End a b e') :: (a, tl e'.out) :: (b, tl e'.told) :: (pd, cDraw K s (k + 1)) :: N)
  case h =>
    walk_at "if"
    case h1 =>
      intro hb
      walk_at "st"
      exact c_inv ⟨_, .inr rfl, rfl, rfl⟩ (Le.refl _)
    case h2 =>
      intro hb
      walk_at "st"
      exact c_inv ⟨_, .inl rfl, rfl, rfl⟩ (Le.refl _)
  case k =>
    rintro ρ' M' ⟨e', he, rfl, rfl⟩
    walk_at "cut"
    walk_at "if"
    case h1 => 
      intro hb
      exfalso
      obtain ⟨h1, h2⟩ := Bool.and_eq_true_iff.mp hb
      have h1 := of_decide_eq_true h1
      have e1 : e' = e := by
        rcases he with h | h
        · exact h
        · rw [h, hear_old _ _ _ h1]
      rw [e1, eqv_same] at h2
      cases h2
    case h2 =>
      intro hb
      walk_at "st"
      walk_at "if"
      case h1 => 
        intro hb
        exfalso
        have h1 := hear_ep e lep f
        have h2 := hear_ans e lep f
        have h3 := (hear_told e lep f).1
        have e1 : e.ep ≤ e'.ep ∧ e.ans ≤ e'.ans ∧ e.told.length ≤ e'.told.length := by
          rcases he with rfl | rfl
          · omega
          · omega
        simp at hb
        omega
      case h2 => 
        intro hb
        walk_at "st"
        exact hk _ _ _ _ he
end

end Lw


set_option Elab.async false
set_option linter.all false
set_option maxRecDepth 100000
set_option maxHeartbeats 4000000
namespace Lw
open PySem L2 Sx
/-! ### steps -/
local macro_rules | `(tactic| walk_at "shp") => `(tactic| first
  | exact shp_int
  | exact shp_none
  | exact shp_bool
  | exact shp_oi _
  | (apply shp_str; first | decide +kernel | assumption)
  | (apply shp_list; walk_at "shpA")
  | (apply shp_tuple; walk_at "shpA")
  | assumption)
local macro_rules | `(tactic| walk_at "shpA") => `(tactic| first
  | exact shpA_nil
  | (apply shpA_cons; (· walk_at "shp"); walk_at "shpA")
  | (apply shpA_map; intro _ _; walk_at "shp"))
/-- what is left beside: closed, or left -/
local macro_rules | `(tactic| walk_at "side") => `(tactic| first
  | (with_reducible show Shp _ _); walk_at "shp"
  | (with_reducible show _ ≤ sizeLine); first | decide | (show _ ≤ 16777216; omega) | (show _ ≤ 16777216; simp only [List.length_map, List.length_append, List.length_cons, List.length_nil]; omega)
  | (with_reducible show _ < sizeLine); first | decide | (show _ < 16777216; omega) | (show _ < 16777216; simp only [List.length_map, List.length_append, List.length_cons, List.length_nil]; omega)
  | (with_reducible show CMul _ _); first | exact Or.inr ⟨by decide, by decide⟩ | exact Or.inl ⟨by decide, by decide⟩ | exact Or.inl ⟨by omega, by omega⟩ | exact Or.inr ⟨by omega, by omega⟩
  | (with_reducible show CPow _ _); exact ⟨by decide, by decide, by decide⟩
  | (with_reducible show CDiv _ _); first | exact ⟨by decide, by decide⟩ | exact ⟨by omega, by omega⟩
  | (with_reducible show Le _ _); first | with_reducible exact Le.refl _ | with_reducible assumption
  | (with_reducible show L2.atI _ _ = _); first | with_reducible assumption | exact rfl | exact atI_nat rfl
  | (with_reducible show _ < _); first | with_reducible assumption | decide | omega
  | (with_reducible show _ ≤ _); first | with_reducible assumption | decide | omega
  | (with_reducible show _ ∧ _); omega
  | (with_reducible show ∀ i, i ∈ _ → i ∈ _); decide
  | (with_reducible show (_ : Nat) = _); first | exact rfl | omega)
local macro_rules | `(tactic| walk_at "rm") => `(tactic| first
  | exact Rm.here
  | (apply Rm.there; walk_at "rm"))
local macro_rules | `(tactic| walk_at "perm") => `(tactic| first
  | with_reducible exact List.Perm.refl _
  | (apply perm_step; (· walk_at "rm"); walk_at "perm")
  | exact List.Perm.refl _)
local macro_rules | `(tactic| walk_at "pk") => `(tactic| first
  | with_reducible exact Pk.here
  | ((with_reducible apply Pk.there); walk_at "pk"))
/-- a part of a reading: what it gives. One word for all kinds -/
local macro_rules | `(tactic| walk_at "sx") => `(tactic| first
  -- an expression
  | with_reducible exact ev_int
  | with_reducible exact ev_bl
  | with_reducible exact ev_str
  | with_reducible exact ev_non
  | (with_reducible apply ev_var) <;> walk_at "sx"
  | (with_reducible apply ev_op) <;> walk_at "sx"
  | (with_reducible apply ev_fld) <;> walk_at "sx"
  | (with_reducible apply ev_cb) <;> walk_at "sx"
  | (with_reducible apply ev_tupD) <;> walk_at "sx"
  | (with_reducible apply ev_lstD) <;> walk_at "sx"
  | (with_reducible apply ev_tupV) <;> walk_at "sx"
  | (with_reducible apply ev_lstV) <;> walk_at "sx"
  | (with_reducible apply ev_slL) <;> walk_at "sx"
  | (with_reducible apply ev_slT1) <;> walk_at "sx"
  | (with_reducible apply ev_slT) <;> walk_at "sx"
  | (with_reducible apply ev_un) <;> walk_at "sx"
  | (with_reducible apply ev_chain) <;> walk_at "sx"
  | (with_reducible apply ev_andV) <;> walk_at "sx"
  | (with_reducible apply ev_orV) <;> walk_at "sx"
  | (with_reducible apply ev_notV) <;> walk_at "sx"
  | (with_reducible apply ev_lcY) <;> walk_at "sx"
  | (with_reducible apply ev_lc) <;> walk_at "sx"
  | ((with_reducible show ∀ a, a ∈ _ → ∃ ρ'' js, _); intro a ha; dsimp only [wipeE, List.set]; (first | with_reducible apply lcY_k | with_reducible apply lcF_k) <;> walk_at "sx")
  | (with_reducible apply ev_call) <;> walk_at "sx"
  | (with_reducible apply ev_meth) <;> walk_at "sx"
  | (with_reducible apply ev_bm) <;> walk_at "sx"
  | (with_reducible show Ev _ _ _ _ _); walk_at "own"
  -- a test
  | with_reducible exact et_yes
  | (with_reducible apply et_test) <;> walk_at "sx"
  | (with_reducible apply et_B) <;> walk_at "sx"
  | (with_reducible apply et_not) <;> walk_at "sx"
  | (with_reducible apply et_and) <;> walk_at "sx"
  | (with_reducible apply et_or) <;> walk_at "sx"
  -- arguments
  | with_reducible exact ea_nil
  | (with_reducible apply ea_cons) <;> walk_at "sx"
  | with_reducible exact ed_nil
  | (with_reducible apply ed_cons) <;> walk_at "sx"
  | with_reducible exact eo_none
  | (with_reducible apply eo_some) <;> walk_at "sx"
  -- what an operation gives
  | with_reducible exact rv_addI
  | with_reducible exact rv_int0
  | with_reducible exact rv_bl0
  | with_reducible exact rv_eqI
  | with_reducible exact rv_neI
  | with_reducible exact rv_eqS
  | with_reducible exact rv_neS
  | with_reducible exact rv_isN
  | with_reducible exact rv_notN
  | (with_reducible apply rv_intC) <;> walk_at "sx"
  | (with_reducible apply rv_addS) <;> walk_at "sx"
  | (with_reducible apply rv_ixL isl_dat) <;> walk_at "sx"
  | (with_reducible apply rv_ixT ist_dat) <;> walk_at "sx"
  | (with_reducible apply rv_ixLV) <;> walk_at "sx"
  | (apply rv_ixT ist_dat) <;> walk_at "sx"
  | (with_reducible apply rv_ixTV istv_vtup) <;> walk_at "sx"
  | (with_reducible apply rv_ixScr) <;> walk_at "sx"
  | (apply rv_ixL isl_dat) <;> walk_at "sx"
  | (with_reducible apply rv_ixL) <;> walk_at "sx"
  | (apply rv_cat) <;> walk_at "sx"
  | (with_reducible apply rv_eqD) <;> walk_at "sx"
  | (with_reducible apply rv_neD) <;> walk_at "sx"
  | with_reducible exact ru_neg
  | with_reducible exact rc_int
  | with_reducible exact rc_abs
  | with_reducible exact rc_max2
  | with_reducible exact rc_min2
  | with_reducible exact rc_lenScr
  | with_reducible exact rc_lenM isl_dat
  | ((with_reducible apply rc_lenM); (with_reducible apply isl_cell) <;> walk_at "sx")
  | with_reducible exact rc_lenMT
  | (with_reducible apply rc_lenL) <;> walk_at "sx"
  | (apply rc_lenT ist_dat)
  | (with_reducible apply rc_tupL) <;> walk_at "sx"
  | (apply rc_tupT)
  | (with_reducible apply rc_lstL) <;> walk_at "sx"
  | (apply rc_lstT ist_dat)
  | with_reducible exact rc_anyM
  | with_reducible exact rc_allM
  | ((with_reducible apply rm_append) <;> walk_at "sx")
  -- lists, tuples, data
  | with_reducible exact isl_dat
  | with_reducible exact isd_dat
  | with_reducible exact isd_scr
  | (with_reducible apply isl_cell) <;> walk_at "sx"
  | (with_reducible apply islv_cell) <;> walk_at "sx"
  | with_reducible exact islv_vlst
  | (with_reducible apply isd_cell) <;> walk_at "sx"
  | (with_reducible apply isd_vtup) <;> walk_at "sx"
  | (with_reducible apply isd_vlst) <;> walk_at "sx"
  | with_reducible exact isds_nil
  | (with_reducible apply isds_cons) <;> walk_at "sx"
  | with_reducible exact fzl_dat
  | with_reducible exact fzl_v
  | with_reducible exact fzt_dat
  | with_reducible exact fzt_v
  | (with_reducible apply ity_l) <;> walk_at "sx"
  | with_reducible exact ity_s
  | (with_reducible apply IsLst.v) <;> walk_at "sx"
  -- places
  | with_reducible exact At.here
  | (with_reducible apply At.there) <;> walk_at "sx"
  | with_reducible exact SetAt.here
  | (with_reducible apply SetAt.there) <;> walk_at "sx"
  | with_reducible exact List.mem_cons_self
  | (with_reducible apply List.mem_cons_of_mem) <;> walk_at "sx"
  | ((with_reducible show (_ : Addr × CD) ∈ _); with_reducible assumption)
  | with_reducible exact Put.here
  | (with_reducible apply Put.there) <;> walk_at "sx"
  | ((with_reducible show Put _ _ _ _ _); with_reducible assumption)
  | ((with_reducible show Sw _ _ _ _); with_reducible assumption)
  | with_reducible exact sw_nil
  | ((with_reducible apply sw_pick); (· walk_at "pk"); walk_at "sx")
  | ((with_reducible apply sw_skip); walk_at "sx")
  | with_reducible exact FGet.here
  | ((with_reducible apply FGet.there); (· decide +kernel); walk_at "sx")
  | with_reducible exact FPut.here
  | with_reducible exact FPut.new
  | ((with_reducible apply FPut.there); (· decide +kernel); walk_at "sx")
  | (with_reducible show ClsF _ _ _); with_reducible assumption
  | (with_reducible show RtQ _ _ _); assumption
  | (with_reducible show (_ : Str) ∈ _); decide +kernel
  | (with_reducible show ¬ (_ : Str) ∈ _); decide +kernel
  -- what is walked, targets
  | (with_reducible apply ei_rng1) <;> walk_at "sx"
  | (with_reducible apply ei_rng2) <;> walk_at "sx"
  | (with_reducible apply ei_enumD) <;> walk_at "sx"
  | (with_reducible apply ei_enum) <;> walk_at "sx"
  | (with_reducible apply ei_zip) <;> walk_at "sx"
  | (with_reducible apply ei_seqLM) <;> walk_at "sx"
  | (with_reducible apply ei_seqTM) <;> walk_at "sx"
  | (with_reducible apply ei_seqL) <;> walk_at "sx"
  | (with_reducible apply ei_seqT) <;> walk_at "sx"
  | (with_reducible apply tg_name) <;> walk_at "sx"
  | (with_reducible apply tg_tup istv_vtup) <;> walk_at "sx"
  | (with_reducible apply td_tup) <;> walk_at "sx"
  | with_reducible exact td_nil
  | (with_reducible apply td_cons) <;> walk_at "sx"
  | with_reducible exact tgs_nil
  | (with_reducible apply tgs_cons) <;> walk_at "sx"
  -- beside
  | walk_at "spec"
  | walk_at "side"
  | walk_at "leave")
/-- a question of another kind is left -/
local macro_rules | `(tactic| walk_at "leave") => `(tactic| first
  | with_reducible show Cont _ _ _ _
  | with_reducible show Shp _ _
  | with_reducible show _ ≤ _
  | with_reducible show _ < _
  | with_reducible show CMul _ _
  | with_reducible show CDiv _ _
  | with_reducible show CPow _ _
  | with_reducible show _ = _
  | with_reducible show Le _ _
  | ((with_reducible show _ = true → _); with_reducible assumption)
  | ((with_reducible show _ = true → _); intro _; walk_at "sx")
  | ((with_reducible show _ = false → _); intro _; walk_at "sx"))
/-- a plain statement -/
local macro_rules | `(tactic| walk_at "st") => `(tactic| first
  | (with_reducible apply c_seq); walk_at "st"
  | (with_reducible apply c_asg) <;> (first | walk_at "sx" | skip)
  | (with_reducible apply c_asgG) <;> (first | walk_at "sx" | skip)
  | (with_reducible apply c_par) <;> (first | walk_at "sx" | skip)
  | (with_reducible apply c_par3) <;> (first | walk_at "sx" | skip)
  | (with_reducible apply c_aug) <;> (first | walk_at "sx" | skip)
  | (with_reducible apply c_augS) <;> (first | walk_at "sx" | skip)
  | (with_reducible apply c_fld) <;> (first | walk_at "sx" | skip)
  | (with_reducible apply c_drop) <;> (first | walk_at "sx" | skip)
  | with_reducible apply c_next
  | with_reducible apply c_break
  | with_reducible apply c_cont)
/-- a value is handed back; a word is met again -/
local macro_rules | `(tactic| walk_at "ret") => `(tactic| (with_reducible apply c_ret) <;> (first | walk_at "sx" | skip))
local macro_rules | `(tactic| walk_at "inv") => `(tactic| (with_reducible apply c_inv) <;> (first | walk_at "side" | skip))
local macro_rules | `(tactic| walk_at "seq") => `(tactic| with_reducible apply c_seq)
local macro_rules | `(tactic| walk_at "cut") => `(tactic| with_reducible apply c_cut)
local macro_rules | `(tactic| walk_at "if") => `(tactic| ((with_reducible apply c_if); (case' h => first | walk_at "sx" | skip)))
local macro_rules | `(tactic| walk_at "fgt") => `(tactic| first
  | exact Fgt.nil
  | (with_reducible apply Fgt.keep; walk_at "fgt")
  | (with_reducible apply Fgt.drop; walk_at "fgt"))

local macro_rules | `(tactic| walk_at "spec") => `(tactic| first
  | with_reducible exact number_ev
  | (with_reducible apply take_ev) <;> walk_at "sx"
  | (with_reducible apply put_ev) <;> walk_at "sx"
  | (with_reducible apply frames_ev) <;> walk_at "sx"
  | (with_reducible apply hear_ev) <;> walk_at "sx")

local macro_rules | `(tactic| walk_at "fin") => `(tactic| ((with_reducible apply c_invF); (· exact ⟨_, _, _, _, _, rfl, rfl, by with_reducible assumption⟩); (· walk_at "fgt"); exact Le.refl _))

section
variable {K : PySem.W.Frag} {mg : Str → Option Value} {T : Tx K mg} {s : List Int} {pd p0 a0 b0 p1 a1 b1 : Addr} {e0 e1 : EndS} {ls : List Lt} {ep k : Int} {i : Nat} {d : VD} {kind at' : Int} {Ψ : Fr} {D : Ends}
theorem deliver (hC : ClsF K T.C_End fN) (hD : D.nx = InvK Ψ (J14 K T.C_End s pd p0 a0 b0 p1 a1 b1 (i + 1))) (O : Ok14 e0 e1 ls ep i) (hi : i ≤ 80) :
    Cont (rd_law_18 K T D) Ψ (R14 K s pd p0 p1 ls ep d kind at') (Mc T.C_End p0 a0 b0 p1 a1 b1 e0 e1 pd (cDraw K s k)) := by
  have hn0 := O.n0
  have hn1 := O.n1
  have hnl := O.nl
  have ht0 : e0.told.length ≤ i := Nat.le_trans O.d1.l hn1
  have ht1 : e1.told.length ≤ i := Nat.le_trans O.d0.l hn0
  walk_at "if"
  case h2 =>
    intro hb
    walk_at "st"
    rw [hD]
    have O' := O.succ
    walk_at "fin"
  case h1 =>
    intro hb
    rw [eqv_nil] at hb
    have hpos : 0 < ls.length := by
      cases ls with
      | nil => cases hb
      | cons x xs => simp
    have hpos' : 0 < (ls.length : Int) := by omega
    have hq1 := tk_nn (s := s) (k := k + 1) (m := (ls.length : Int)) hpos'
    have hq2 := tk_lt (s := s) (k := k + 1) (m := (ls.length : Int)) hpos'
    walk_at "st"
    obtain ⟨n, hn⟩ : ∃ n : Nat, tk s (k + 1) (ls.length : Int) = (n : Int) := ⟨_, (Int.toNat_of_nonneg hq1).symm⟩
    rw [hn] at hq2 ⊢
    have hn' : n < ls.length := by omega
    obtain ⟨l, hl⟩ : ∃ l, ls[n]? = some l := ⟨_, List.getElem?_eq_getElem hn'⟩
    have hmem : l ∈ ls := List.mem_of_getElem? hl
    have hat : L2.atI (ls.map encL) (n : Int) = some (encL l) := atI_nat (by rw [List.getElem?_map, hl]; rfl)
    obtain ⟨g, lep, f⟩ := l
    have hf : f.num.isSome = true → f.word.isSome = true := by
      cases g with
      | true => exact ((O.l _ hmem).1 rfl).wf
      | false => exact ((O.l _ hmem).2.1 rfl).wf
    walk_at "st"
    with_reducible apply c_cutW (fun ρ' M' => ∃ ls' : List Lt, (∀ x ∈ ls', x ∈ ls) ∧ ls'.length ≤ ls.length ∧ ρ' = [some (vscr K s), some (val (.ref pd)), some (vlst [val (.ref p0), val (.ref p1)]), some (dat (.list (ls'.map encL))), some (dat (.int ep)), some d, some (dat (.int kind)), some (dat (.int at')), none, none, some (dat (.int n)), some (dat (.int (if g then 1 else 0))), some (dat (.int lep)), some (dat (encF f)), none, none, none, none] ∧ M' = Mc T.C_End p0 a0 b0 p1 a1 b1 e0 e1 pd (cDraw K s (k + 1 + 1)))
    case h =>
      walk_at "if"
      case h1 =>
        intro hb
        have ec : cutD (ls.map encL) none (some (n : Int)) ++ cutD (ls.map encL) (some ((n : Int) + 1)) none = (ls.take n ++ ls.drop (n + 1)).map encL := by
          rw [cut_map, cut_map, cut_0n, show ((n : Int) + 1) = ((n + 1 : Nat) : Int) by omega, cut_n0, List.map_append]
        apply c_asg <;> (first | walk_at "sx" | skip)
        · rw [← List.length_append, ec, List.length_map, List.length_append, List.length_take, List.length_drop]
          show _ ≤ 16777216
          omega
        · rw [ec]
          exact c_inv ⟨_, fun x hx => by
            rcases List.mem_append.mp hx with hx | hx
            · exact List.mem_of_mem_take hx
            · exact List.mem_of_mem_drop hx, by rw [List.length_append, List.length_take, List.length_drop]; omega, rfl, rfl⟩ (Le.refl _)
      case h2 =>
        intro hb
        walk_at "st"
        exact c_inv ⟨_, fun x hx => hx, Nat.le_refl _, rfl, rfl⟩ (Le.refl _)
    case k =>
      rintro ρ' M' ⟨ls', hs', hl', rfl, rfl⟩
      cases g with
      | true =>
        with_reducible apply c_perm (M' := (p1, endI T.C_End a1 b1 e1) :: (a1, tl e1.out) :: (b1, tl e1.told) :: (pd, cDraw K s (k + 1 + 1)) :: [(p0, endI T.C_End a0 b0 e0), (a0, tl e0.out), (b0, tl e0.told)])
        · walk_at "perm"
        apply hearing (g := 1) (i := i) hC hi hn1 ht1 hf rfl
        rintro e' k' x14 x15 he
        have O' : Ok14 e0 e' ls' ep (i + 1) := by
          rcases he with rfl | rfl
          · exact O.sub hs' hl'
          · exact O.hear1 hmem rfl hs' hl'
        rw [hD]
        with_reducible apply c_perm (M' := Mc T.C_End p0 a0 b0 p1 a1 b1 e0 e' pd (cDraw K s k'))
        · walk_at "perm"
        walk_at "fin"
      | false =>
        with_reducible apply c_perm (M' := (p0, endI T.C_End a0 b0 e0) :: (a0, tl e0.out) :: (b0, tl e0.told) :: (pd, cDraw K s (k + 1 + 1)) :: [(p1, endI T.C_End a1 b1 e1), (a1, tl e1.out), (b1, tl e1.told)])
        · walk_at "perm"
        apply hearing (g := 0) (i := i) hC hi hn0 ht0 hf rfl
        rintro e' k' x14 x15 he
        have O' : Ok14 e' e1 ls' ep (i + 1) := by
          rcases he with rfl | rfl
          · exact O.sub hs' hl'
          · exact O.hear0 hmem rfl hs' hl'
        rw [hD]
        with_reducible apply c_perm (M' := Mc T.C_End p0 a0 b0 p1 a1 b1 e' e1 pd (cDraw K s k'))
        · walk_at "perm"
        walk_at "fin"
  all_goals trace_state
end

end Lw


set_option Elab.async false
set_option linter.all false
set_option maxRecDepth 100000
set_option maxHeartbeats 4000000
namespace Lw
open PySem L2 Sx
/-! ### steps -/
local macro_rules | `(tactic| walk_at "shp") => `(tactic| first
  | exact shp_int
  | exact shp_none
  | exact shp_bool
  | exact shp_oi _
  | (apply shp_str; first | decide +kernel | assumption)
  | (apply shp_list; walk_at "shpA")
  | (apply shp_tuple; walk_at "shpA")
  | assumption)
local macro_rules | `(tactic| walk_at "shpA") => `(tactic| first
  | exact shpA_nil
  | (apply shpA_cons; (· walk_at "shp"); walk_at "shpA")
  | (apply shpA_map; intro _ _; walk_at "shp"))
/-- what is left beside: closed, or left -/
local macro_rules | `(tactic| walk_at "side") => `(tactic| first
  | (with_reducible show Shp _ _); walk_at "shp"
  | (with_reducible show _ ≤ sizeLine); first | decide | (show _ ≤ 16777216; omega) | (show _ ≤ 16777216; simp only [List.length_map, List.length_append, List.length_cons, List.length_nil]; omega)
  | (with_reducible show _ < sizeLine); first | decide | (show _ < 16777216; omega) | (show _ < 16777216; simp only [List.length_map, List.length_append, List.length_cons, List.length_nil]; omega)
  | (with_reducible show CMul _ _); first | exact Or.inr ⟨by decide, by decide⟩ | exact Or.inl ⟨by decide, by decide⟩ | exact Or.inl ⟨by omega, by omega⟩ | exact Or.inr ⟨by omega, by omega⟩
  | (with_reducible show CPow _ _); exact ⟨by decide, by decide, by decide⟩
  | (with_reducible show CDiv _ _); first | exact ⟨by decide, by decide⟩ | exact ⟨by omega, by omega⟩
  | (with_reducible show Le _ _); first | with_reducible exact Le.refl _ | with_reducible assumption
  | (with_reducible show L2.atI _ _ = _); first | with_reducible assumption | exact rfl | exact atI_nat rfl
  | (with_reducible show _ < _); first | with_reducible assumption | decide | omega
  | (with_reducible show _ ≤ _); first | with_reducible assumption | decide | omega
  | (with_reducible show _ ∧ _); omega
  | (with_reducible show ∀ i, i ∈ _ → i ∈ _); decide
  | (with_reducible show (_ : Nat) = _); first | exact rfl | omega)
local macro_rules | `(tactic| walk_at "rm") => `(tactic| first
  | exact Rm.here
  | (apply Rm.there; walk_at "rm"))
local macro_rules | `(tactic| walk_at "perm") => `(tactic| first
  | with_reducible exact List.Perm.refl _
  | (apply perm_step; (· walk_at "rm"); walk_at "perm")
  | exact List.Perm.refl _)
local macro_rules | `(tactic| walk_at "pk") => `(tactic| first
  | with_reducible exact Pk.here
  | ((with_reducible apply Pk.there); walk_at "pk"))
/-- a part of a reading: what it gives. One word for all kinds -/
local macro_rules | `(tactic| walk_at "sx") => `(tactic| first
  -- an expression
  | with_reducible exact ev_int
  | with_reducible exact ev_bl
  | with_reducible exact ev_str
  | with_reducible exact ev_non
  | (with_reducible apply ev_var) <;> walk_at "sx"
  | (with_reducible apply ev_op) <;> walk_at "sx"
  | (with_reducible apply ev_fld) <;> walk_at "sx"
  | (with_reducible apply ev_cb) <;> walk_at "sx"
  | (with_reducible apply ev_tupD) <;> walk_at "sx"
  | (with_reducible apply ev_lstD) <;> walk_at "sx"
  | (with_reducible apply ev_tupV) <;> walk_at "sx"
  | (with_reducible apply ev_lstV) <;> walk_at "sx"
  | (with_reducible apply ev_slL) <;> walk_at "sx"
  | (with_reducible apply ev_slT1) <;> walk_at "sx"
  | (with_reducible apply ev_slT) <;> walk_at "sx"
  | (with_reducible apply ev_un) <;> walk_at "sx"
  | (with_reducible apply ev_chain) <;> walk_at "sx"
  | (with_reducible apply ev_andV) <;> walk_at "sx"
  | (with_reducible apply ev_orV) <;> walk_at "sx"
  | (with_reducible apply ev_notV) <;> walk_at "sx"
  | (with_reducible apply ev_lcY) <;> walk_at "sx"
  | (with_reducible apply ev_lc) <;> walk_at "sx"
  | ((with_reducible show ∀ a, a ∈ _ → ∃ ρ'' js, _); intro a ha; dsimp only [wipeE, List.set]; (first | with_reducible apply lcY_k | with_reducible apply lcF_k) <;> walk_at "sx")
  | (with_reducible apply ev_call) <;> walk_at "sx"
  | (with_reducible apply ev_meth) <;> walk_at "sx"
  | (with_reducible apply ev_bm) <;> walk_at "sx"
  | (with_reducible show Ev _ _ _ _ _); walk_at "own"
  -- a test
  | with_reducible exact et_yes
  | (with_reducible apply et_test) <;> walk_at "sx"
  | (with_reducible apply et_B) <;> walk_at "sx"
  | (with_reducible apply et_not) <;> walk_at "sx"
  | (with_reducible apply et_and) <;> walk_at "sx"
  | (with_reducible apply et_or) <;> walk_at "sx"
  -- arguments
  | with_reducible exact ea_nil
  | (with_reducible apply ea_cons) <;> walk_at "sx"
  | with_reducible exact ed_nil
  | (with_reducible apply ed_cons) <;> walk_at "sx"
  | with_reducible exact eo_none
  | (with_reducible apply eo_some) <;> walk_at "sx"
  -- what an operation gives
  | with_reducible exact rv_addI
  | with_reducible exact rv_int0
  | with_reducible exact rv_bl0
  | with_reducible exact rv_eqI
  | with_reducible exact rv_neI
  | with_reducible exact rv_eqS
  | with_reducible exact rv_neS
  | with_reducible exact rv_isN
  | with_reducible exact rv_notN
  | (with_reducible apply rv_intC) <;> walk_at "sx"
  | (with_reducible apply rv_addS) <;> walk_at "sx"
  | (with_reducible apply rv_ixL isl_dat) <;> walk_at "sx"
  | (with_reducible apply rv_ixT ist_dat) <;> walk_at "sx"
  | (with_reducible apply rv_ixLV) <;> walk_at "sx"
  | (apply rv_ixT ist_dat) <;> walk_at "sx"
  | (with_reducible apply rv_ixTV istv_vtup) <;> walk_at "sx"
  | (with_reducible apply rv_ixScr) <;> walk_at "sx"
  | (apply rv_ixL isl_dat) <;> walk_at "sx"
  | (with_reducible apply rv_ixL) <;> walk_at "sx"
  | (apply rv_cat) <;> walk_at "sx"
  | (with_reducible apply rv_eqD) <;> walk_at "sx"
  | (with_reducible apply rv_neD) <;> walk_at "sx"
  | with_reducible exact ru_neg
  | with_reducible exact rc_int
  | with_reducible exact rc_abs
  | with_reducible exact rc_max2
  | with_reducible exact rc_min2
  | with_reducible exact rc_lenScr
  | with_reducible exact rc_lenM isl_dat
  | ((with_reducible apply rc_lenM); (with_reducible apply isl_cell) <;> walk_at "sx")
  | with_reducible exact rc_lenMT
  | (with_reducible apply rc_lenL) <;> walk_at "sx"
  | (apply rc_lenT ist_dat)
  | (with_reducible apply rc_tupL) <;> walk_at "sx"
  | (apply rc_tupT)
  | (with_reducible apply rc_lstL) <;> walk_at "sx"
  | (apply rc_lstT ist_dat)
  | with_reducible exact rc_anyM
  | with_reducible exact rc_allM
  | ((with_reducible apply rm_append) <;> walk_at "sx")
  -- lists, tuples, data
  | with_reducible exact isl_dat
  | with_reducible exact isd_dat
  | with_reducible exact isd_scr
  | (with_reducible apply isl_cell) <;> walk_at "sx"
  | (with_reducible apply islv_cell) <;> walk_at "sx"
  | with_reducible exact islv_vlst
  | (with_reducible apply isd_cell) <;> walk_at "sx"
  | (with_reducible apply isd_vtup) <;> walk_at "sx"
  | (with_reducible apply isd_vlst) <;> walk_at "sx"
  | with_reducible exact isds_nil
  | (with_reducible apply isds_cons) <;> walk_at "sx"
  | with_reducible exact fzl_dat
  | with_reducible exact fzl_v
  | with_reducible exact fzt_dat
  | with_reducible exact fzt_v
  | (with_reducible apply ity_l) <;> walk_at "sx"
  | with_reducible exact ity_s
  | (with_reducible apply IsLst.v) <;> walk_at "sx"
  -- places
  | with_reducible exact At.here
  | (with_reducible apply At.there) <;> walk_at "sx"
  | with_reducible exact SetAt.here
  | (with_reducible apply SetAt.there) <;> walk_at "sx"
  | with_reducible exact List.mem_cons_self
  | (with_reducible apply List.mem_cons_of_mem) <;> walk_at "sx"
  | ((with_reducible show (_ : Addr × CD) ∈ _); with_reducible assumption)
  | with_reducible exact Put.here
  | (with_reducible apply Put.there) <;> walk_at "sx"
  | ((with_reducible show Put _ _ _ _ _); with_reducible assumption)
  | ((with_reducible show Sw _ _ _ _); with_reducible assumption)
  | with_reducible exact sw_nil
  | ((with_reducible apply sw_pick); (· walk_at "pk"); walk_at "sx")
  | ((with_reducible apply sw_skip); walk_at "sx")
  | with_reducible exact FGet.here
  | ((with_reducible apply FGet.there); (· decide +kernel); walk_at "sx")
  | with_reducible exact FPut.here
  | with_reducible exact FPut.new
  | ((with_reducible apply FPut.there); (· decide +kernel); walk_at "sx")
  | (with_reducible show ClsF _ _ _); with_reducible assumption
  | (with_reducible show RtQ _ _ _); assumption
  | (with_reducible show (_ : Str) ∈ _); decide +kernel
  | (with_reducible show ¬ (_ : Str) ∈ _); decide +kernel
  -- what is walked, targets
  | (with_reducible apply ei_rng1) <;> walk_at "sx"
  | (with_reducible apply ei_rng2) <;> walk_at "sx"
  | (with_reducible apply ei_enumD) <;> walk_at "sx"
  | (with_reducible apply ei_enum) <;> walk_at "sx"
  | (with_reducible apply ei_zip) <;> walk_at "sx"
  | (with_reducible apply ei_seqLM) <;> walk_at "sx"
  | (with_reducible apply ei_seqTM) <;> walk_at "sx"
  | (with_reducible apply ei_seqL) <;> walk_at "sx"
  | (with_reducible apply ei_seqT) <;> walk_at "sx"
  | (with_reducible apply tg_name) <;> walk_at "sx"
  | (with_reducible apply tg_tup istv_vtup) <;> walk_at "sx"
  | (with_reducible apply td_tup) <;> walk_at "sx"
  | with_reducible exact td_nil
  | (with_reducible apply td_cons) <;> walk_at "sx"
  | with_reducible exact tgs_nil
  | (with_reducible apply tgs_cons) <;> walk_at "sx"
  -- beside
  | walk_at "spec"
  | walk_at "side"
  | walk_at "leave")
/-- a question of another kind is left -/
local macro_rules | `(tactic| walk_at "leave") => `(tactic| first
  | with_reducible show Cont _ _ _ _
  | with_reducible show Shp _ _
  | with_reducible show _ ≤ _
  | with_reducible show _ < _
  | with_reducible show CMul _ _
  | with_reducible show CDiv _ _
  | with_reducible show CPow _ _
  | with_reducible show _ = _
  | with_reducible show Le _ _
  | ((with_reducible show _ = true → _); with_reducible assumption)
  | ((with_reducible show _ = true → _); intro _; walk_at "sx")
  | ((with_reducible show _ = false → _); intro _; walk_at "sx"))
/-- a plain statement -/
local macro_rules | `(tactic| walk_at "st") => `(tactic| first
  | (with_reducible apply c_seq); walk_at "st"
  | (with_reducible apply c_asg) <;> (first | walk_at "sx" | skip)
  | (with_reducible apply c_asgG) <;> (first | walk_at "sx" | skip)
  | (with_reducible apply c_par) <;> (first | walk_at "sx" | skip)
  | (with_reducible apply c_par3) <;> (first | walk_at "sx" | skip)
  | (with_reducible apply c_aug) <;> (first | walk_at "sx" | skip)
  | (with_reducible apply c_augS) <;> (first | walk_at "sx" | skip)
  | (with_reducible apply c_fld) <;> (first | walk_at "sx" | skip)
  | (with_reducible apply c_drop) <;> (first | walk_at "sx" | skip)
  | with_reducible apply c_next
  | with_reducible apply c_break
  | with_reducible apply c_cont)
/-- a value is handed back; a word is met again -/
local macro_rules | `(tactic| walk_at "ret") => `(tactic| (with_reducible apply c_ret) <;> (first | walk_at "sx" | skip))
local macro_rules | `(tactic| walk_at "inv") => `(tactic| (with_reducible apply c_inv) <;> (first | walk_at "side" | skip))
local macro_rules | `(tactic| walk_at "seq") => `(tactic| with_reducible apply c_seq)
local macro_rules | `(tactic| walk_at "cut") => `(tactic| with_reducible apply c_cut)
local macro_rules | `(tactic| walk_at "if") => `(tactic| ((with_reducible apply c_if); (case' h => first | walk_at "sx" | skip)))
local macro_rules | `(tactic| walk_at "fgt") => `(tactic| first
  | exact Fgt.nil
  | (with_reducible apply Fgt.keep; walk_at "fgt")
  | (with_reducible apply Fgt.drop; walk_at "fgt"))

local macro_rules | `(tactic| walk_at "spec") => `(tactic| first
  | with_reducible exact number_ev
  | (with_reducible apply take_ev) <;> walk_at "sx"
  | (with_reducible apply put_ev) <;> walk_at "sx"
  | (with_reducible apply frames_ev) <;> walk_at "sx"
  | (with_reducible apply hear_ev) <;> walk_at "sx")

local macro_rules | `(tactic| walk_at "fin") => `(tactic| ((with_reducible apply c_invF); (· exact ⟨_, _, _, _, _, rfl, rfl, by with_reducible assumption⟩); (· walk_at "fgt"); exact Le.refl _))

theorem told_cut {s r : EndS} (h : Dir s r) : cutD (s.out.map PyData.int) none (some (r.told.length : Int)) = r.told.map PyData.int := by
  rw [cut_map, cut_0n, ← h.t]
section
variable {K : PySem.W.Frag} {mg : Str → Option Value} {T : Tx K mg} {s : List Int} {pd p0 a0 b0 p1 a1 b1 : Addr} {e0 e1 : EndS} {ls : List Lt} {ep k : Int} {i : Nat} {d : VD} {kind at' : Int} {Ψ Φ : Fr} {D : Ends} {P : VD → Cells → Prop}
theorem kind1' (hC : ClsF K T.C_End fN) (hD : D.nx = InvK Ψ (J14 K T.C_End s pd p0 a0 b0 p1 a1 b1 (i + 1))) (O : Ok14 e0 e1 ls ep i) (hi : i ≤ 80) (h0 : 0 ≤ at') (h2 : at' < 2) :
    Cont (rd_law_7 K T D) Ψ (R14 K s pd p0 p1 ls ep d kind at') (Mc T.C_End p0 a0 b0 p1 a1 b1 e0 e1 pd (cDraw K s k)) := by
  have hn0 := O.n0
  have hn1 := O.n1
  have hnl := O.nl
  have ht0 : e0.told.length ≤ i := Nat.le_trans O.d1.l hn1
  have ht1 : e1.told.length ≤ i := Nat.le_trans O.d0.l hn0
  have hA : at' = 0 ∨ at' = 1 := by omega
  rcases hA with rfl | rfl
  · apply kind1 (p := p0) (a := a0) (b := b0) (e := e0) (i := i) hC hi hn0 ht0 hnl rfl
    · walk_at "sx"
    · walk_at "sx"
    · walk_at "sx"
    · walk_at "sx"
    · intro x8 x9
      rw [hD, show ls.map encL ++ (framesOf e0).map (fun f => PyData.tuple [.int (1 - 0), .int ep, encF f]) = (ls ++ (framesOf e0).map fun f => (⟨true, ep, f⟩ : Lt)).map encL by rw [List.map_append, List.map_map]; rfl]
      have O' := O.send (g := true) (fun f hf => (frames_ok (e := e0) f hf).1) (frames_le e0)
      walk_at "fin"
  · apply kind1 (p := p1) (a := a1) (b := b1) (e := e1) (i := i) hC hi hn1 ht1 hnl rfl
    · walk_at "sx"
    · walk_at "sx"
    · walk_at "sx"
    · walk_at "sx"
    · intro x8 x9
      rw [hD, show ls.map encL ++ (framesOf e1).map (fun f => PyData.tuple [.int (1 - 1), .int ep, encF f]) = (ls ++ (framesOf e1).map fun f => (⟨false, ep, f⟩ : Lt)).map encL by rw [List.map_append, List.map_map]; rfl]
      have O' := O.send (g := false) (fun f hf => (frames_ok (e := e1) f hf).1) (frames_le e1)
      walk_at "fin"
theorem kind2 (hC : ClsF K T.C_End fN) (hD : D.nx = InvK Ψ (J14 K T.C_End s pd p0 a0 b0 p1 a1 b1 (i + 1))) (O : Ok14 e0 e1 ls ep i) (hi : i ≤ 80) :
    Cont (rd_law_16 K T D) Ψ (R14 K s pd p0 p1 ls ep d kind at') (Mc T.C_End p0 a0 b0 p1 a1 b1 e0 e1 pd (cDraw K s k)) := by
  by_cases hk : kind = 2
  · subst hk
    with_reducible apply c_if (b := decide (tk s (k + 1) 4 = 0)) (M1 := Mc T.C_End p0 a0 b0 p1 a1 b1 e0 e1 pd (cDraw K s (k + 1)))
    case h =>
      apply et_andT
      · apply EvT.eq
        · walk_at "sx"
        · exact decide_eq_true rfl
      · walk_at "sx"
    case h1 =>
      intro hb
      walk_at "st"
      rw [hD]
      have O' := O.epoch
      walk_at "fin"
    case h2 =>
      intro hb
      exact deliver hC hD O hi
  · with_reducible apply c_if (b := false) (M1 := Mc T.C_End p0 a0 b0 p1 a1 b1 e0 e1 pd (cDraw K s k))
    case h =>
      apply et_andF
      apply EvT.eq
      · walk_at "sx"
      · exact decide_eq_false hk
    case h1 => intro hb; cases hb
    case h2 =>
      intro hb
      exact deliver hC hD O hi
theorem check14 (hC : ClsF K T.C_End fN) (hD : D.nx = InvK Φ (J14 K T.C_End s pd p0 a0 b0 p1 a1 b1 (i + 1))) (O : Ok14 e0 e1 ls ep (i + 1)) (hi : i ≤ 80) :
    Cont (rd_law_36 K T D) Φ [some (vscr K s), some (val (.ref pd)), some (vlst [val (.ref p0), val (.ref p1)]), some (dat (.list (ls.map encL))), some (dat (.int ep)), none, none, none, none, none, none, none, none, none, none, none, none, none] (Mc T.C_End p0 a0 b0 p1 a1 b1 e0 e1 pd (cDraw K s k)) := by
  have hn0 := O.n0
  have hn1 := O.n1
  have ht0 : e0.told.length ≤ i + 1 := Nat.le_trans O.d1.l hn1
  have ht1 : e1.told.length ≤ i + 1 := Nat.le_trans O.d0.l hn0
  with_reducible apply c_for (I := fun _ ρ' M' => (∃ x16 x17, ρ' = [some (vscr K s), some (val (.ref pd)), some (vlst [val (.ref p0), val (.ref p1)]), some (dat (.list (ls.map encL))), some (dat (.int ep)), none, none, none, none, none, none, none, none, none, none, none, x16, x17]) ∧ M' = Mc T.C_End p0 a0 b0 p1 a1 b1 e0 e1 pd (cDraw K s k))
  case h => walk_at "sx"
  case h0 => exact ⟨⟨_, _, rfl⟩, rfl⟩
  case hd =>
    rintro ρ' M' ⟨⟨x16, x17, rfl⟩, rfl⟩
    rw [hD]
    have O' := O
    walk_at "fin"
  case hs =>
    rintro Ψ hΨ j d ρ' M' hj ⟨⟨x16, x17, rfl⟩, rfl⟩
    have hz : j = 0 ∧ d = dat (.tuple [.int 0, .int 1]) ∨ j = 1 ∧ d = dat (.tuple [.int 1, .int 0]) := by
      match j, hj with
      | 0, h => exact .inl ⟨rfl, (Option.some.inj h).symm⟩
      | 1, h => exact .inr ⟨rfl, (Option.some.inj h).symm⟩
    rcases hz with ⟨rfl, rfl⟩ | ⟨rfl, rfl⟩
    · apply for_k <;> (first | walk_at "sx" | skip)
      walk_at "if"
      case h => rw [told_cut O.d1]; walk_at "shp"
      case h1 =>
        intro hb
        exfalso
        have ha := O.d0.a
        rw [told_cut O.d1, (eqok_list eqok_int _ _).2 rfl] at hb
        simp at hb
        omega
      case h2 =>
        intro hb
        walk_at "st"
        exact c_inv ⟨⟨_, _, rfl⟩, rfl⟩ (Le.refl _)
    · apply for_k <;> (first | walk_at "sx" | skip)
      walk_at "if"
      case h => rw [told_cut O.d0]; walk_at "shp"
      case h1 =>
        intro hb
        exfalso
        have ha := O.d1.a
        rw [told_cut O.d0, (eqok_list eqok_int _ _).2 rfl] at hb
        simp at hb
        omega
      case h2 =>
        intro hb
        walk_at "st"
        exact c_inv ⟨⟨_, _, rfl⟩, rfl⟩ (Le.refl _)
theorem turn14 (hC : ClsF K T.C_End fN) (hD : D.nx = InvK Φ (J14 K T.C_End s pd p0 a0 b0 p1 a1 b1 (i + 1))) (O : Ok14 e0 e1 ls ep i) (hi : i ≤ 80) (h0 : 0 ≤ at') (h2 : at' < 2) :
    Cont (rd_law_4 K T D) Φ (R14 K s pd p0 p1 ls ep d kind at') (Mc T.C_End p0 a0 b0 p1 a1 b1 e0 e1 pd (cDraw K s k)) := by
  with_reducible apply c_cutW (J14 K T.C_End s pd p0 a0 b0 p1 a1 b1 (i + 1))
  case h =>
    walk_at "if"
    case h1 =>
      intro hb
      exact kind0 hC rfl O hi h0 h2
    case h2 =>
      intro hb
      walk_at "if"
      case h1 =>
        intro hb
        exact kind1' hC rfl O hi h0 h2
      case h2 =>
        intro hb
        exact kind2 hC rfl O hi
  case k =>
    rintro ρ' M' ⟨e0, e1, ls, ep, k, rfl, rfl, O⟩
    exact check14 hC hD O hi
end

end Lw


set_option Elab.async false
set_option linter.all false
set_option maxRecDepth 100000
set_option maxHeartbeats 4000000
namespace Lw
open PySem L2 Sx
/-! ### steps -/
local macro_rules | `(tactic| walk_at "shp") => `(tactic| first
  | exact shp_int
  | exact shp_none
  | exact shp_bool
  | exact shp_oi _
  | (apply shp_str; first | decide +kernel | assumption)
  | (apply shp_list; walk_at "shpA")
  | (apply shp_tuple; walk_at "shpA")
  | assumption)
local macro_rules | `(tactic| walk_at "shpA") => `(tactic| first
  | exact shpA_nil
  | (apply shpA_cons; (· walk_at "shp"); walk_at "shpA")
  | (apply shpA_map; intro _ _; walk_at "shp"))
/-- what is left beside: closed, or left -/
local macro_rules | `(tactic| walk_at "side") => `(tactic| first
  | (with_reducible show Shp _ _); walk_at "shp"
  | (with_reducible show _ ≤ sizeLine); first | decide | (show _ ≤ 16777216; omega) | (show _ ≤ 16777216; simp only [List.length_map, List.length_append, List.length_cons, List.length_nil]; omega)
  | (with_reducible show _ < sizeLine); first | decide | (show _ < 16777216; omega) | (show _ < 16777216; simp only [List.length_map, List.length_append, List.length_cons, List.length_nil]; omega)
  | (with_reducible show CMul _ _); first | exact Or.inr ⟨by decide, by decide⟩ | exact Or.inl ⟨by decide, by decide⟩ | exact Or.inl ⟨by omega, by omega⟩ | exact Or.inr ⟨by omega, by omega⟩
  | (with_reducible show CPow _ _); exact ⟨by decide, by decide, by decide⟩
  | (with_reducible show CDiv _ _); first | exact ⟨by decide, by decide⟩ | exact ⟨by omega, by omega⟩
  | (with_reducible show Le _ _); first | with_reducible exact Le.refl _ | with_reducible assumption
  | (with_reducible show L2.atI _ _ = _); first | with_reducible assumption | exact rfl | exact atI_nat rfl
  | (with_reducible show _ < _); first | with_reducible assumption | decide | omega
  | (with_reducible show _ ≤ _); first | with_reducible assumption | decide | omega
  | (with_reducible show _ ∧ _); omega
  | (with_reducible show ∀ i, i ∈ _ → i ∈ _); decide
  | (with_reducible show (_ : Nat) = _); first | exact rfl | omega)
local macro_rules | `(tactic| walk_at "rm") => `(tactic| first
  | exact Rm.here
  | (apply Rm.there; walk_at "rm"))
local macro_rules | `(tactic| walk_at "perm") => `(tactic| first
  | with_reducible exact List.Perm.refl _
  | (apply perm_step; (· walk_at "rm"); walk_at "perm")
  | exact List.Perm.refl _)
local macro_rules | `(tactic| walk_at "pk") => `(tactic| first
  | with_reducible exact Pk.here
  | ((with_reducible apply Pk.there); walk_at "pk"))
/-- a part of a reading: what it gives. One word for all kinds -/
local macro_rules | `(tactic| walk_at "sx") => `(tactic| first
  -- an expression
  | with_reducible exact ev_int
  | with_reducible exact ev_bl
  | with_reducible exact ev_str
  | with_reducible exact ev_non
  | (with_reducible apply ev_var) <;> walk_at "sx"
  | (with_reducible apply ev_op) <;> walk_at "sx"
  | (with_reducible apply ev_fld) <;> walk_at "sx"
  | (with_reducible apply ev_cb) <;> walk_at "sx"
  | (with_reducible apply ev_tupD) <;> walk_at "sx"
  | (with_reducible apply ev_lstD) <;> walk_at "sx"
  | (with_reducible apply ev_tupV) <;> walk_at "sx"
  | (with_reducible apply ev_lstV) <;> walk_at "sx"
  | (with_reducible apply ev_slL) <;> walk_at "sx"
  | (with_reducible apply ev_slT1) <;> walk_at "sx"
  | (with_reducible apply ev_slT) <;> walk_at "sx"
  | (with_reducible apply ev_un) <;> walk_at "sx"
  | (with_reducible apply ev_chain) <;> walk_at "sx"
  | (with_reducible apply ev_andV) <;> walk_at "sx"
  | (with_reducible apply ev_orV) <;> walk_at "sx"
  | (with_reducible apply ev_notV) <;> walk_at "sx"
  | (with_reducible apply ev_lcY) <;> walk_at "sx"
  | (with_reducible apply ev_lc) <;> walk_at "sx"
  | ((with_reducible show ∀ a, a ∈ _ → ∃ ρ'' js, _); intro a ha; dsimp only [wipeE, List.set]; (first | with_reducible apply lcY_k | with_reducible apply lcF_k) <;> walk_at "sx")
  | (with_reducible apply ev_call) <;> walk_at "sx"
  | (with_reducible apply ev_meth) <;> walk_at "sx"
  | (with_reducible apply ev_bm) <;> walk_at "sx"
  | (with_reducible show Ev _ _ _ _ _); walk_at "own"
  -- a test
  | with_reducible exact et_yes
  | (with_reducible apply et_test) <;> walk_at "sx"
  | (with_reducible apply et_B) <;> walk_at "sx"
  | (with_reducible apply et_not) <;> walk_at "sx"
  | (with_reducible apply et_and) <;> walk_at "sx"
  | (with_reducible apply et_or) <;> walk_at "sx"
  -- arguments
  | with_reducible exact ea_nil
  | (with_reducible apply ea_cons) <;> walk_at "sx"
  | with_reducible exact ed_nil
  | (with_reducible apply ed_cons) <;> walk_at "sx"
  | with_reducible exact eo_none
  | (with_reducible apply eo_some) <;> walk_at "sx"
  -- what an operation gives
  | with_reducible exact rv_addI
  | with_reducible exact rv_int0
  | with_reducible exact rv_bl0
  | with_reducible exact rv_eqI
  | with_reducible exact rv_neI
  | with_reducible exact rv_eqS
  | with_reducible exact rv_neS
  | with_reducible exact rv_isN
  | with_reducible exact rv_notN
  | (with_reducible apply rv_intC) <;> walk_at "sx"
  | (with_reducible apply rv_addS) <;> walk_at "sx"
  | (with_reducible apply rv_ixL isl_dat) <;> walk_at "sx"
  | (with_reducible apply rv_ixT ist_dat) <;> walk_at "sx"
  | (with_reducible apply rv_ixLV) <;> walk_at "sx"
  | (apply rv_ixT ist_dat) <;> walk_at "sx"
  | (with_reducible apply rv_ixTV istv_vtup) <;> walk_at "sx"
  | (with_reducible apply rv_ixScr) <;> walk_at "sx"
  | (apply rv_ixL isl_dat) <;> walk_at "sx"
  | (with_reducible apply rv_ixL) <;> walk_at "sx"
  | (apply rv_cat) <;> walk_at "sx"
  | (with_reducible apply rv_eqD) <;> walk_at "sx"
  | (with_reducible apply rv_neD) <;> walk_at "sx"
  | with_reducible exact ru_neg
  | with_reducible exact rc_int
  | with_reducible exact rc_abs
  | with_reducible exact rc_max2
  | with_reducible exact rc_min2
  | with_reducible exact rc_lenScr
  | with_reducible exact rc_lenM isl_dat
  | ((with_reducible apply rc_lenM); (with_reducible apply isl_cell) <;> walk_at "sx")
  | with_reducible exact rc_lenMT
  | (with_reducible apply rc_lenL) <;> walk_at "sx"
  | (apply rc_lenT ist_dat)
  | (with_reducible apply rc_tupL) <;> walk_at "sx"
  | (apply rc_tupT)
  | (with_reducible apply rc_lstL) <;> walk_at "sx"
  | (apply rc_lstT ist_dat)
  | with_reducible exact rc_anyM
  | with_reducible exact rc_allM
  | ((with_reducible apply rm_append) <;> walk_at "sx")
  -- lists, tuples, data
  | with_reducible exact isl_dat
  | with_reducible exact isd_dat
  | with_reducible exact isd_scr
  | (with_reducible apply isl_cell) <;> walk_at "sx"
  | (with_reducible apply islv_cell) <;> walk_at "sx"
  | with_reducible exact islv_vlst
  | (with_reducible apply isd_cell) <;> walk_at "sx"
  | (with_reducible apply isd_vtup) <;> walk_at "sx"
  | (with_reducible apply isd_vlst) <;> walk_at "sx"
  | with_reducible exact isds_nil
  | (with_reducible apply isds_cons) <;> walk_at "sx"
  | with_reducible exact fzl_dat
  | with_reducible exact fzl_v
  | with_reducible exact fzt_dat
  | with_reducible exact fzt_v
  | (with_reducible apply ity_l) <;> walk_at "sx"
  | with_reducible exact ity_s
  | (with_reducible apply IsLst.v) <;> walk_at "sx"
  -- places
  | with_reducible exact At.here
  | (with_reducible apply At.there) <;> walk_at "sx"
  | with_reducible exact SetAt.here
  | (with_reducible apply SetAt.there) <;> walk_at "sx"
  | with_reducible exact List.mem_cons_self
  | (with_reducible apply List.mem_cons_of_mem) <;> walk_at "sx"
  | ((with_reducible show (_ : Addr × CD) ∈ _); with_reducible assumption)
  | with_reducible exact Put.here
  | (with_reducible apply Put.there) <;> walk_at "sx"
  | ((with_reducible show Put _ _ _ _ _); with_reducible assumption)
  | ((with_reducible show Sw _ _ _ _); with_reducible assumption)
  | with_reducible exact sw_nil
  | ((with_reducible apply sw_pick); (· walk_at "pk"); walk_at "sx")
  | ((with_reducible apply sw_skip); walk_at "sx")
  | with_reducible exact FGet.here
  | ((with_reducible apply FGet.there); (· decide +kernel); walk_at "sx")
  | with_reducible exact FPut.here
  | with_reducible exact FPut.new
  | ((with_reducible apply FPut.there); (· decide +kernel); walk_at "sx")
  | (with_reducible show ClsF _ _ _); with_reducible assumption
  | (with_reducible show RtQ _ _ _); assumption
  | (with_reducible show (_ : Str) ∈ _); decide +kernel
  | (with_reducible show ¬ (_ : Str) ∈ _); decide +kernel
  -- what is walked, targets
  | (with_reducible apply ei_rng1) <;> walk_at "sx"
  | (with_reducible apply ei_rng2) <;> walk_at "sx"
  | (with_reducible apply ei_enumD) <;> walk_at "sx"
  | (with_reducible apply ei_enum) <;> walk_at "sx"
  | (with_reducible apply ei_zip) <;> walk_at "sx"
  | (with_reducible apply ei_seqLM) <;> walk_at "sx"
  | (with_reducible apply ei_seqTM) <;> walk_at "sx"
  | (with_reducible apply ei_seqL) <;> walk_at "sx"
  | (with_reducible apply ei_seqT) <;> walk_at "sx"
  | (with_reducible apply tg_name) <;> walk_at "sx"
  | (with_reducible apply tg_tup istv_vtup) <;> walk_at "sx"
  | (with_reducible apply td_tup) <;> walk_at "sx"
  | with_reducible exact td_nil
  | (with_reducible apply td_cons) <;> walk_at "sx"
  | with_reducible exact tgs_nil
  | (with_reducible apply tgs_cons) <;> walk_at "sx"
  -- beside
  | walk_at "spec"
  | walk_at "side"
  | walk_at "leave")
/-- a question of another kind is left -/
local macro_rules | `(tactic| walk_at "leave") => `(tactic| first
  | with_reducible show Cont _ _ _ _
  | with_reducible show Shp _ _
  | with_reducible show _ ≤ _
  | with_reducible show _ < _
  | with_reducible show CMul _ _
  | with_reducible show CDiv _ _
  | with_reducible show CPow _ _
  | with_reducible show _ = _
  | with_reducible show Le _ _
  | ((with_reducible show _ = true → _); with_reducible assumption)
  | ((with_reducible show _ = true → _); intro _; walk_at "sx")
  | ((with_reducible show _ = false → _); intro _; walk_at "sx"))
/-- a plain statement -/
local macro_rules | `(tactic| walk_at "st") => `(tactic| first
  | (with_reducible apply c_seq); walk_at "st"
  | (with_reducible apply c_asg) <;> (first | walk_at "sx" | skip)
  | (with_reducible apply c_asgG) <;> (first | walk_at "sx" | skip)
  | (with_reducible apply c_par) <;> (first | walk_at "sx" | skip)
  | (with_reducible apply c_par3) <;> (first | walk_at "sx" | skip)
  | (with_reducible apply c_aug) <;> (first | walk_at "sx" | skip)
  | (with_reducible apply c_augS) <;> (first | walk_at "sx" | skip)
  | (with_reducible apply c_fld) <;> (first | walk_at "sx" | skip)
  | (with_reducible apply c_drop) <;> (first | walk_at "sx" | skip)
  | with_reducible apply c_next
  | with_reducible apply c_break
  | with_reducible apply c_cont)
/-- a value is handed back; a word is met again -/
local macro_rules | `(tactic| walk_at "ret") => `(tactic| (with_reducible apply c_ret) <;> (first | walk_at "sx" | skip))
local macro_rules | `(tactic| walk_at "inv") => `(tactic| (with_reducible apply c_inv) <;> (first | walk_at "side" | skip))
local macro_rules | `(tactic| walk_at "seq") => `(tactic| with_reducible apply c_seq)
local macro_rules | `(tactic| walk_at "cut") => `(tactic| with_reducible apply c_cut)
local macro_rules | `(tactic| walk_at "if") => `(tactic| ((with_reducible apply c_if); (case' h => first | walk_at "sx" | skip)))
local macro_rules | `(tactic| walk_at "fgt") => `(tactic| first
  | exact Fgt.nil
  | (with_reducible apply Fgt.keep; walk_at "fgt")
  | (with_reducible apply Fgt.drop; walk_at "fgt"))

local macro_rules | `(tactic| walk_at "spec") => `(tactic| first
  | with_reducible exact number_ev
  | (with_reducible apply take_ev) <;> walk_at "sx"
  | (with_reducible apply put_ev) <;> walk_at "sx"
  | (with_reducible apply frames_ev) <;> walk_at "sx"
  | (with_reducible apply hear_ev) <;> walk_at "sx")

local macro_rules | `(tactic| walk_at "fin") => `(tactic| ((with_reducible apply c_invF); (· exact ⟨_, _, _, _, _, rfl, rfl, by with_reducible assumption⟩); (· walk_at "fgt"); exact Le.refl _))

section
variable {K : PySem.W.Frag} {mg : Str → Option Value} {T : Tx K mg} {s : List Int} {pd p0 a0 b0 p1 a1 b1 p a b q a' b' : Addr} {e e' e0 e1 : EndS} {ls : List Lt} {ep k at' : Int} {i : Nat} {x5 x7 x13 : Option VD} {d : VD} {Ψ Φ : Fr} {D : Ends} {dr : CD} {P : VD → Cells → Prop}
theorem fold_succ {ep : Int} {fs : List Fm} {m : Nat} {f : Fm} {r : EndS} (h : fs[m]? = some f) : (fs.take (m + 1)).foldl (fun r f => hearE r ep f) r = hearE ((fs.take m).foldl (fun r f => hearE r ep f) r) ep f := by
  rw [List.take_succ, h, List.foldl_append]
  rfl
theorem inner (hC : ClsF K T.C_End fN) (g1 : Dir e e') (g2 : Dir e' e) (hn : e.out.length ≤ 200) (hn' : e'.out.length ≤ 200)
    (hp : L2.atI [val (.ref p0), val (.ref p1)] at' = some (val (.ref p))) (hq : L2.atI [val (.ref p0), val (.ref p1)] (1 - at') = some (val (.ref q)))
    (hk : ∀ x13, Cont D.nx Φ [some (vscr K s), some (val (.ref pd)), some (vlst [val (.ref p0), val (.ref p1)]), some (dat (.list (ls.map encL))), some (dat (.int ep)), x5, none, some (dat (.int at')), none, none, none, none, none, x13, none, none, none, none] ((q, endI T.C_End a' b' (allHear e e' ep)) :: (a', tl (allHear e e' ep).out) :: (b', tl (allHear e e' ep).told) :: (p, endI T.C_End a b e) :: (a, tl e.out) :: (b, tl e.told) :: [(pd, dr)])) :
    Cont (rd_law_42 K T D) Φ [some (vscr K s), some (val (.ref pd)), some (vlst [val (.ref p0), val (.ref p1)]), some (dat (.list (ls.map encL))), some (dat (.int ep)), x5, none, some (dat (.int at')), none, none, none, none, none, x13, none, none, none, none] ((q, endI T.C_End a' b' e') :: (a', tl e'.out) :: (b', tl e'.told) :: (p, endI T.C_End a b e) :: (a, tl e.out) :: (b, tl e.told) :: [(pd, dr)]) := by
  have ht := g1.l
  have ht' := g2.l
  with_reducible apply c_for (I := fun m ρ' M' => ∃ r x13, r = ((framesOf e).take m).foldl (fun r f => hearE r ep f) e' ∧ Dir e r ∧ Dir r e ∧ ρ' = [some (vscr K s), some (val (.ref pd)), some (vlst [val (.ref p0), val (.ref p1)]), some (dat (.list (ls.map encL))), some (dat (.int ep)), x5, none, some (dat (.int at')), none, none, none, none, none, x13, none, none, none, none] ∧ M' = (q, endI T.C_End a' b' r) :: (a', tl r.out) :: (b', tl r.told) :: (p, endI T.C_End a b e) :: (a, tl e.out) :: (b, tl e.told) :: [(pd, dr)])
  case h => walk_at "sx"
  case h0 => exact ⟨_, _, rfl, g1, g2, rfl, rfl⟩
  case hd =>
    rintro ρ' M' ⟨r, x13, hr, d1, d2, rfl, rfl⟩
    rw [List.length_map, List.take_length] at hr
    subst hr
    exact hk _
  case hs =>
    rintro Ψ hΨ m d ρ' M' hj ⟨r, x13, hr, d1, d2, rfl, rfl⟩
    rw [List.getElem?_map] at hj
    cases hf : (framesOf e)[m]? with
    | none => rw [hf] at hj; cases hj
    | some f =>
      rw [hf] at hj
      cases hj
      have hok := frames_ok (e := e) f (List.mem_of_getElem? hf)
      have hwf := hok.1.wf
      have hd := hear_dir (ep := ep) d1 d2 hok.1
      have hl := d1.l
      apply for_k <;> (first | walk_at "sx" | skip)
      walk_at "st"
      exact c_inv ⟨_, _, by rw [fold_succ hf, hr], hd.1, hd.2, rfl, rfl⟩ (Le.refl _)
theorem end14 (hC : ClsF K T.C_End fN) (hQ : RtQ D.rt Φ P) (hP : ∀ M', P (dat (.bool true)) M') (O : Ok14 e0 e1 ls ep i) (hi : i ≤ 80) :
    Cont (rd_law_40 K T D) Φ [some (vscr K s), some (val (.ref pd)), some (vlst [val (.ref p0), val (.ref p1)]), some (dat (.list (ls.map encL))), some (dat (.int ep)), none, none, none, none, none, none, none, none, none, none, none, none, none] (Mc T.C_End p0 a0 b0 p1 a1 b1 e0 e1 pd (cDraw K s k)) := by
  have hn0 := O.n0
  have hn1 := O.n1
  generalize cDraw K s k = dr
  walk_at "cut"
  with_reducible apply c_for (I := fun j ρ' M' => ∃ f0 f1 x5 x7 x13, f0.out = e0.out ∧ f1.out = e1.out ∧ Rd j f0 f1 ep ∧ ρ' = [some (vscr K s), some (val (.ref pd)), some (vlst [val (.ref p0), val (.ref p1)]), some (dat (.list (ls.map encL))), some (dat (.int ep)), x5, none, x7, none, none, none, none, none, x13, none, none, none, none] ∧ M' = Mc T.C_End p0 a0 b0 p1 a1 b1 f0 f1 pd dr)
  case h => walk_at "sx"
  case h0 => exact ⟨e0, e1, none, none, none, rfl, rfl, ⟨O.d0, O.d1, O.p0, O.p1, by simp, by simp, fun h => absurd h (Nat.lt_irrefl 0)⟩, rfl, rfl⟩
  case hs =>
    rintro Ψ hΨ j d ρ' M' hj ⟨f0, f1, x5, x7, x13, o0, o1, R, rfl, rfl⟩
    apply for_k <;> (first | walk_at "sx" | skip)
    obtain ⟨g1, q1, R'⟩ := R.next
    have n0 : f0.out.length ≤ 200 := by rw [o0]; omega
    have n1 : f1.out.length ≤ 200 := by rw [o1]; omega
    with_reducible apply c_for (I := fun m ρ' M' => ∃ x7 x13, ρ' = [some (vscr K s), some (val (.ref pd)), some (vlst [val (.ref p0), val (.ref p1)]), some (dat (.list (ls.map encL))), some (dat (.int ep)), some d, none, x7, none, none, none, none, none, x13, none, none, none, none] ∧ M' = (match m with
      | 0 => Mc T.C_End p0 a0 b0 p1 a1 b1 f0 f1 pd dr
      | 1 => Mc T.C_End p0 a0 b0 p1 a1 b1 f0 (allHear f0 f1 ep) pd dr
      | _ => Mc T.C_End p0 a0 b0 p1 a1 b1 (allHear (allHear f0 f1 ep) f0 ep) (allHear f0 f1 ep) pd dr))
    case h => walk_at "sx"
    case h0 => exact ⟨_, _, rfl, rfl⟩
    case hd =>
      rintro ρ' M' ⟨x7, x13, rfl, rfl⟩
      exact c_inv ⟨_, _, _, _, _, by unfold allHear; rw [fold_out]; exact o0, by unfold allHear; rw [fold_out]; exact o1, R', rfl, rfl⟩ (Le.refl _)
    case hs =>
      rintro Ψ' hΨ' m d' ρ' M' hm ⟨x7, x13, rfl, rfl⟩
      have hz : m = 0 ∧ d' = dat (.int 0) ∨ m = 1 ∧ d' = dat (.int 1) := by
        match m, hm with
        | 0, h => exact .inl ⟨rfl, (Option.some.inj h).symm⟩
        | 1, h => exact .inr ⟨rfl, (Option.some.inj h).symm⟩
      rcases hz with ⟨rfl, rfl⟩ | ⟨rfl, rfl⟩
      · apply for_k <;> (first | walk_at "sx" | skip)
        apply inner (at' := 0) hC R.a R.b n0 n1 rfl rfl
        intro x13
        exact c_inv ⟨_, _, rfl, rfl⟩ (Le.refl _)
      · apply for_k <;> (first | walk_at "sx" | skip)
        with_reducible apply c_perm (M' := (p0, endI T.C_End a0 b0 f0) :: (a0, tl f0.out) :: (b0, tl f0.told) :: (p1, endI T.C_End a1 b1 (allHear f0 f1 ep)) :: (a1, tl (allHear f0 f1 ep).out) :: (b1, tl (allHear f0 f1 ep).told) :: [(pd, dr)])
        · walk_at "perm"
        apply inner (at' := 1) hC g1.u g1.d (by unfold allHear; rw [fold_out]; exact n1) n0 rfl rfl
        intro x13
        with_reducible apply c_perm (M' := Mc T.C_End p0 a0 b0 p1 a1 b1 (allHear (allHear f0 f1 ep) f0 ep) (allHear f0 f1 ep) pd dr)
        · walk_at "perm"
        exact c_inv ⟨_, _, rfl, rfl⟩ (Le.refl _)
  case hd =>
    rintro ρ' M' ⟨f0, f1, x5, x7, x13, o0, o1, R, rfl, rfl⟩
    obtain ⟨z1, z2, z3⟩ := R.last (by simp [irange]; omega) (by rw [o0]; simp [irange]; omega) (by rw [o1]; simp [irange]; omega)
    have n0 : f0.out.length ≤ 200 := by rw [o0]; omega
    have n1 : f1.out.length ≤ 200 := by rw [o1]; omega
    have m0 : f0.told.length ≤ 200 := by rw [z1]; exact n1
    have m1 : f1.told.length ≤ 200 := by rw [z2]; exact n0
    with_reducible apply c_ret (hQ := hQ) (l := Le.refl _)
    case h => walk_at "sx"
    case hP =>
      have h1 : PyData.eqv (.list (f0.told.map PyData.int)) (.list (f1.out.map PyData.int)) = true := by rw [z1]; exact (eqok_list eqok_int _ _).2 rfl
      have h2 : PyData.eqv (.list (f1.told.map PyData.int)) (.list (f0.out.map PyData.int)) = true := by rw [z2]; exact (eqok_list eqok_int _ _).2 rfl
      have h3 : decide ((f0.ans : Int) = (f0.out.length : Int)) = true := decide_eq_true (by omega)
      rw [h1, h2, h3]
      exact hP _
end

end Lw


set_option Elab.async false
set_option linter.all false
set_option maxRecDepth 100000
set_option maxHeartbeats 4000000
namespace Lw
open PySem L2 Sx
/-! ### steps -/
local macro_rules | `(tactic| walk_at "shp") => `(tactic| first
  | exact shp_int
  | exact shp_none
  | exact shp_bool
  | exact shp_oi _
  | (apply shp_str; first | decide +kernel | assumption)
  | (apply shp_list; walk_at "shpA")
  | (apply shp_tuple; walk_at "shpA")
  | assumption)
local macro_rules | `(tactic| walk_at "shpA") => `(tactic| first
  | exact shpA_nil
  | (apply shpA_cons; (· walk_at "shp"); walk_at "shpA")
  | (apply shpA_map; intro _ _; walk_at "shp"))
/-- what is left beside: closed, or left -/
local macro_rules | `(tactic| walk_at "side") => `(tactic| first
  | (with_reducible show Shp _ _); walk_at "shp"
  | (with_reducible show _ ≤ sizeLine); first | decide | (show _ ≤ 16777216; omega) | (show _ ≤ 16777216; simp only [List.length_map, List.length_append, List.length_cons, List.length_nil]; omega)
  | (with_reducible show _ < sizeLine); first | decide | (show _ < 16777216; omega) | (show _ < 16777216; simp only [List.length_map, List.length_append, List.length_cons, List.length_nil]; omega)
  | (with_reducible show CMul _ _); first | exact Or.inr ⟨by decide, by decide⟩ | exact Or.inl ⟨by decide, by decide⟩ | exact Or.inl ⟨by omega, by omega⟩ | exact Or.inr ⟨by omega, by omega⟩
  | (with_reducible show CPow _ _); exact ⟨by decide, by decide, by decide⟩
  | (with_reducible show CDiv _ _); first | exact ⟨by decide, by decide⟩ | exact ⟨by omega, by omega⟩
  | (with_reducible show Le _ _); first | with_reducible exact Le.refl _ | with_reducible assumption
  | (with_reducible show L2.atI _ _ = _); first | with_reducible assumption | exact rfl | exact atI_nat rfl
  | (with_reducible show _ < _); first | with_reducible assumption | decide | omega
  | (with_reducible show _ ≤ _); first | with_reducible assumption | decide | omega
  | (with_reducible show _ ∧ _); omega
  | (with_reducible show ∀ i, i ∈ _ → i ∈ _); decide
  | (with_reducible show (_ : Nat) = _); first | exact rfl | omega)
local macro_rules | `(tactic| walk_at "rm") => `(tactic| first
  | exact Rm.here
  | (apply Rm.there; walk_at "rm"))
local macro_rules | `(tactic| walk_at "perm") => `(tactic| first
  | with_reducible exact List.Perm.refl _
  | (apply perm_step; (· walk_at "rm"); walk_at "perm")
  | exact List.Perm.refl _)
local macro_rules | `(tactic| walk_at "pk") => `(tactic| first
  | with_reducible exact Pk.here
  | ((with_reducible apply Pk.there); walk_at "pk"))
/-- a part of a reading: what it gives. One word for all kinds -/
local macro_rules | `(tactic| walk_at "sx") => `(tactic| first
  -- an expression
  | with_reducible exact ev_int
  | with_reducible exact ev_bl
  | with_reducible exact ev_str
  | with_reducible exact ev_non
  | (with_reducible apply ev_var) <;> walk_at "sx"
  | (with_reducible apply ev_op) <;> walk_at "sx"
  | (with_reducible apply ev_fld) <;> walk_at "sx"
  | (with_reducible apply ev_cb) <;> walk_at "sx"
  | (with_reducible apply ev_tupD) <;> walk_at "sx"
  | (with_reducible apply ev_lstD) <;> walk_at "sx"
  | (with_reducible apply ev_tupV) <;> walk_at "sx"
  | (with_reducible apply ev_lstV) <;> walk_at "sx"
  | (with_reducible apply ev_slL) <;> walk_at "sx"
  | (with_reducible apply ev_slT1) <;> walk_at "sx"
  | (with_reducible apply ev_slT) <;> walk_at "sx"
  | (with_reducible apply ev_un) <;> walk_at "sx"
  | (with_reducible apply ev_chain) <;> walk_at "sx"
  | (with_reducible apply ev_andV) <;> walk_at "sx"
  | (with_reducible apply ev_orV) <;> walk_at "sx"
  | (with_reducible apply ev_notV) <;> walk_at "sx"
  | (with_reducible apply ev_lcY) <;> walk_at "sx"
  | (with_reducible apply ev_lc) <;> walk_at "sx"
  | ((with_reducible show ∀ a, a ∈ _ → ∃ ρ'' js, _); intro a ha; dsimp only [wipeE, List.set]; (first | with_reducible apply lcY_k | with_reducible apply lcF_k) <;> walk_at "sx")
  | (with_reducible apply ev_call) <;> walk_at "sx"
  | (with_reducible apply ev_meth) <;> walk_at "sx"
  | (with_reducible apply ev_bm) <;> walk_at "sx"
  | (with_reducible show Ev _ _ _ _ _); walk_at "own"
  -- a test
  | with_reducible exact et_yes
  | (with_reducible apply et_test) <;> walk_at "sx"
  | (with_reducible apply et_B) <;> walk_at "sx"
  | (with_reducible apply et_not) <;> walk_at "sx"
  | (with_reducible apply et_and) <;> walk_at "sx"
  | (with_reducible apply et_or) <;> walk_at "sx"
  -- arguments
  | with_reducible exact ea_nil
  | (with_reducible apply ea_cons) <;> walk_at "sx"
  | with_reducible exact ed_nil
  | (with_reducible apply ed_cons) <;> walk_at "sx"
  | with_reducible exact eo_none
  | (with_reducible apply eo_some) <;> walk_at "sx"
  -- what an operation gives
  | with_reducible exact rv_addI
  | with_reducible exact rv_int0
  | with_reducible exact rv_bl0
  | with_reducible exact rv_eqI
  | with_reducible exact rv_neI
  | with_reducible exact rv_eqS
  | with_reducible exact rv_neS
  | with_reducible exact rv_isN
  | with_reducible exact rv_notN
  | (with_reducible apply rv_intC) <;> walk_at "sx"
  | (with_reducible apply rv_addS) <;> walk_at "sx"
  | (with_reducible apply rv_ixL isl_dat) <;> walk_at "sx"
  | (with_reducible apply rv_ixT ist_dat) <;> walk_at "sx"
  | (with_reducible apply rv_ixLV) <;> walk_at "sx"
  | (apply rv_ixT ist_dat) <;> walk_at "sx"
  | (with_reducible apply rv_ixTV istv_vtup) <;> walk_at "sx"
  | (with_reducible apply rv_ixScr) <;> walk_at "sx"
  | (apply rv_ixL isl_dat) <;> walk_at "sx"
  | (with_reducible apply rv_ixL) <;> walk_at "sx"
  | (apply rv_cat) <;> walk_at "sx"
  | (with_reducible apply rv_eqD) <;> walk_at "sx"
  | (with_reducible apply rv_neD) <;> walk_at "sx"
  | with_reducible exact ru_neg
  | with_reducible exact rc_int
  | with_reducible exact rc_abs
  | with_reducible exact rc_max2
  | with_reducible exact rc_min2
  | with_reducible exact rc_lenScr
  | with_reducible exact rc_lenM isl_dat
  | ((with_reducible apply rc_lenM); (with_reducible apply isl_cell) <;> walk_at "sx")
  | with_reducible exact rc_lenMT
  | (with_reducible apply rc_lenL) <;> walk_at "sx"
  | (apply rc_lenT ist_dat)
  | (with_reducible apply rc_tupL) <;> walk_at "sx"
  | (apply rc_tupT)
  | (with_reducible apply rc_lstL) <;> walk_at "sx"
  | (apply rc_lstT ist_dat)
  | with_reducible exact rc_anyM
  | with_reducible exact rc_allM
  | ((with_reducible apply rm_append) <;> walk_at "sx")
  -- lists, tuples, data
  | with_reducible exact isl_dat
  | with_reducible exact isd_dat
  | with_reducible exact isd_scr
  | (with_reducible apply isl_cell) <;> walk_at "sx"
  | (with_reducible apply islv_cell) <;> walk_at "sx"
  | with_reducible exact islv_vlst
  | (with_reducible apply isd_cell) <;> walk_at "sx"
  | (with_reducible apply isd_vtup) <;> walk_at "sx"
  | (with_reducible apply isd_vlst) <;> walk_at "sx"
  | with_reducible exact isds_nil
  | (with_reducible apply isds_cons) <;> walk_at "sx"
  | with_reducible exact fzl_dat
  | with_reducible exact fzl_v
  | with_reducible exact fzt_dat
  | with_reducible exact fzt_v
  | (with_reducible apply ity_l) <;> walk_at "sx"
  | with_reducible exact ity_s
  | (with_reducible apply IsLst.v) <;> walk_at "sx"
  -- places
  | with_reducible exact At.here
  | (with_reducible apply At.there) <;> walk_at "sx"
  | with_reducible exact SetAt.here
  | (with_reducible apply SetAt.there) <;> walk_at "sx"
  | with_reducible exact List.mem_cons_self
  | (with_reducible apply List.mem_cons_of_mem) <;> walk_at "sx"
  | ((with_reducible show (_ : Addr × CD) ∈ _); with_reducible assumption)
  | with_reducible exact Put.here
  | (with_reducible apply Put.there) <;> walk_at "sx"
  | ((with_reducible show Put _ _ _ _ _); with_reducible assumption)
  | ((with_reducible show Sw _ _ _ _); with_reducible assumption)
  | with_reducible exact sw_nil
  | ((with_reducible apply sw_pick); (· walk_at "pk"); walk_at "sx")
  | ((with_reducible apply sw_skip); walk_at "sx")
  | with_reducible exact FGet.here
  | ((with_reducible apply FGet.there); (· decide +kernel); walk_at "sx")
  | with_reducible exact FPut.here
  | with_reducible exact FPut.new
  | ((with_reducible apply FPut.there); (· decide +kernel); walk_at "sx")
  | (with_reducible show ClsF _ _ _); with_reducible assumption
  | (with_reducible show RtQ _ _ _); assumption
  | (with_reducible show (_ : Str) ∈ _); decide +kernel
  | (with_reducible show ¬ (_ : Str) ∈ _); decide +kernel
  -- what is walked, targets
  | (with_reducible apply ei_rng1) <;> walk_at "sx"
  | (with_reducible apply ei_rng2) <;> walk_at "sx"
  | (with_reducible apply ei_enumD) <;> walk_at "sx"
  | (with_reducible apply ei_enum) <;> walk_at "sx"
  | (with_reducible apply ei_zip) <;> walk_at "sx"
  | (with_reducible apply ei_seqLM) <;> walk_at "sx"
  | (with_reducible apply ei_seqTM) <;> walk_at "sx"
  | (with_reducible apply ei_seqL) <;> walk_at "sx"
  | (with_reducible apply ei_seqT) <;> walk_at "sx"
  | (with_reducible apply tg_name) <;> walk_at "sx"
  | (with_reducible apply tg_tup istv_vtup) <;> walk_at "sx"
  | (with_reducible apply td_tup) <;> walk_at "sx"
  | with_reducible exact td_nil
  | (with_reducible apply td_cons) <;> walk_at "sx"
  | with_reducible exact tgs_nil
  | (with_reducible apply tgs_cons) <;> walk_at "sx"
  -- beside
  | walk_at "spec"
  | walk_at "side"
  | walk_at "leave")
/-- a question of another kind is left -/
local macro_rules | `(tactic| walk_at "leave") => `(tactic| first
  | with_reducible show Cont _ _ _ _
  | with_reducible show Shp _ _
  | with_reducible show _ ≤ _
  | with_reducible show _ < _
  | with_reducible show CMul _ _
  | with_reducible show CDiv _ _
  | with_reducible show CPow _ _
  | with_reducible show _ = _
  | with_reducible show Le _ _
  | ((with_reducible show _ = true → _); with_reducible assumption)
  | ((with_reducible show _ = true → _); intro _; walk_at "sx")
  | ((with_reducible show _ = false → _); intro _; walk_at "sx"))
/-- a plain statement -/
local macro_rules | `(tactic| walk_at "st") => `(tactic| first
  | (with_reducible apply c_seq); walk_at "st"
  | (with_reducible apply c_asg) <;> (first | walk_at "sx" | skip)
  | (with_reducible apply c_asgG) <;> (first | walk_at "sx" | skip)
  | (with_reducible apply c_par) <;> (first | walk_at "sx" | skip)
  | (with_reducible apply c_par3) <;> (first | walk_at "sx" | skip)
  | (with_reducible apply c_aug) <;> (first | walk_at "sx" | skip)
  | (with_reducible apply c_augS) <;> (first | walk_at "sx" | skip)
  | (with_reducible apply c_fld) <;> (first | walk_at "sx" | skip)
  | (with_reducible apply c_drop) <;> (first | walk_at "sx" | skip)
  | with_reducible apply c_next
  | with_reducible apply c_break
  | with_reducible apply c_cont)
/-- a value is handed back; a word is met again -/
local macro_rules | `(tactic| walk_at "ret") => `(tactic| (with_reducible apply c_ret) <;> (first | walk_at "sx" | skip))
local macro_rules | `(tactic| walk_at "inv") => `(tactic| (with_reducible apply c_inv) <;> (first | walk_at "side" | skip))
local macro_rules | `(tactic| walk_at "seq") => `(tactic| with_reducible apply c_seq)
local macro_rules | `(tactic| walk_at "cut") => `(tactic| with_reducible apply c_cut)
local macro_rules | `(tactic| walk_at "if") => `(tactic| ((with_reducible apply c_if); (case' h => first | walk_at "sx" | skip)))
local macro_rules | `(tactic| walk_at "fgt") => `(tactic| first
  | exact Fgt.nil
  | (with_reducible apply Fgt.keep; walk_at "fgt")
  | (with_reducible apply Fgt.drop; walk_at "fgt"))

local macro_rules | `(tactic| walk_at "spec") => `(tactic| first
  | with_reducible exact number_ev
  | (with_reducible apply take_ev) <;> walk_at "sx"
  | (with_reducible apply put_ev) <;> walk_at "sx"
  | (with_reducible apply frames_ev) <;> walk_at "sx"
  | (with_reducible apply hear_ev) <;> walk_at "sx")

local macro_rules | `(tactic| walk_at "fin") => `(tactic| ((with_reducible apply c_invF); (· exact ⟨_, _, _, _, _, rfl, rfl, by with_reducible assumption⟩); (· walk_at "fgt"); exact Le.refl _))

theorem law_body {K : PySem.W.Frag} {mg : Str → Option Value} (T : Tx K mg) : ∀ Q ds M P Φ, ds.length = 1 → S_law K T ds M P → RtQ Q Φ P → Cont (rd_law_0 K T (fnD Q)) Φ (entry ["_law_script", "_law_draw", "_law_ends", "_law_letters", "_law_epoch", "_law_turn", "_law_kind", "_law_at", "_law_frames", "_law_words", "_law_place", "_law_goal", "_law_old", "_law_frame", "_law_end", "_law_before", "_law_one", "_law_other"] ds) M := by
  rintro Q ds M P Φ - ⟨s, rfl, rfl, hs63, hP⟩ hQ
  have hC := T.F_End
  show Cont _ _ [some (vscr K s), none, none, none, none, none, none, none, none, none, none, none, none, none, none, none, none, none] _
  walk_at "seq"
  refine c_asgR (er_lstC (ds := [vscr K s, dat (.int 0)]) (by walk_at "sx") (by walk_at "side")) ?_
  rintro y M1 ⟨pd, rfl, rfl⟩
  apply asgR_k <;> (first | walk_at "sx" | skip)
  walk_at "seq"
  refine c_asgGR (P := fun x M' => ∃ p0 a0 b0 p1 a1 b1, x = vtup [vlst [val (.ref p0), val (.ref p1)], dat (.list []), dat (.int 1)] ∧ M' = Mc T.C_End p0 a0 b0 p1 a1 b1 e00 e00 pd (cDraw K s 0)) ?_ ?_
  · refine er_tupV (ear_cons (er_lstV (P := fun y N => ∃ p0 a0 b0 p1 a1 b1, y = vlst [val (.ref p0), val (.ref p1)] ∧ N = Mc T.C_End p0 a0 b0 p1 a1 b1 e00 e00 pd (cDraw K s 0)) ?_) ?_)
    · refine ear_cons (er_make (P := fun y N => ∃ p a b, y = val (.ref p) ∧ N = (p, endI T.C_End a b e00) :: (a, tl []) :: (b, tl []) :: [(pd, cDraw K s 0)]) ea_nil rfl fun p => ⟨p, _, rfl, rfl, fun a b => ⟨rfl, p, a, b, rfl, rfl⟩⟩) ?_
      rintro x M1 ⟨p0, a0, b0, rfl, rfl⟩
      refine ear_cons (er_make (P := fun y N => ∃ p a b, y = val (.ref p) ∧ N = (p, endI T.C_End a b e00) :: (a, tl []) :: (b, tl []) :: (p0, endI T.C_End a0 b0 e00) :: (a0, tl []) :: (b0, tl []) :: [(pd, cDraw K s 0)]) ea_nil rfl fun p => ⟨p, _, rfl, rfl, fun a b => ⟨rfl, p, a, b, rfl, rfl⟩⟩) ?_
      rintro x M1 ⟨p1, a1, b1, rfl, rfl⟩
      exact ear_nil ⟨by walk_at "side", p0, a0, b0, p1, a1, b1, rfl, rfl⟩
    · rintro x M1 ⟨p0, a0, b0, p1, a1, b1, rfl, rfl⟩
      refine EvAR.of (ds := [dat (.list []), dat (.int 1)]) (by walk_at "sx") ⟨by walk_at "side", p0, a0, b0, p1, a1, b1, rfl, rfl⟩
  rintro x M1 ⟨p0, a0, b0, p1, a1, b1, rfl, rfl⟩
  apply asgGR_k <;> (first | walk_at "sx" | skip)
  walk_at "cut"
  have hn0 := tk_nn (s := s) (k := 0 + 1) (m := 40) (by decide)
  have hn1 := tk_lt (s := s) (k := 0 + 1) (m := 40) (by decide)
  with_reducible apply c_for (I := fun i => J14 K T.C_End s pd p0 a0 b0 p1 a1 b1 i)
  case h => walk_at "sx"
  case h0 =>
    exact ⟨e00, e00, [], 1, 0 + 1, rfl, rfl, ⟨Nat.le_refl _, Nat.le_refl _, rfl⟩, ⟨Nat.le_refl _, Nat.le_refl _, rfl⟩, by decide, by decide, (fun _ h => nomatch h), Nat.le_refl _, Nat.le_refl _, Nat.le_refl _⟩
  case hd =>
    rw [show (irange 0 (40 + tk s (0 + 1) 40).toNat).length = (40 + tk s (0 + 1) 40).toNat by simp [irange]]
    generalize hn : (40 + tk s (0 + 1) 40).toNat = n
    have hn80 : n ≤ 80 := by omega
    rintro ρ' M' ⟨e0, e1, ls, ep, k, rfl, rfl, O⟩
    exact end14 hC hQ hP O hn80
  case hs =>
    rintro Ψ hΨ i d ρ' M' hi ⟨e0, e1, ls, ep, k, rfl, rfl, O⟩
    have hi80 : i ≤ 80 := by
      have := (List.getElem?_eq_some_iff.mp hi).1
      rw [show (irange 0 (40 + tk s (0 + 1) 40).toNat).length = (40 + tk s (0 + 1) 40).toNat by simp [irange]] at this
      omega
    apply for_k <;> (first | walk_at "sx" | skip)
    walk_at "st"
    exact turn14 hC rfl O hi80 (tk_nn (by decide)) (tk_lt (by decide))

theorem ok_law_number {P : Program} {w : World} {K : PySem.W.Frag} {mg : Str → Option Value} {base : Heap} (T : Tx K mg)
    (R : ∀ Q ds M P Φ, ds.length = 2 → S_law_number K T ds M P → RtQ Q Φ P → Cont (rd_law_number_0 K T (fnD Q)) Φ (entry ["_law_script", "_law_index", "_law_cell", "_law_blend"] ds) M) :
    FnOk P w K mg base CX0 1 T.f_law_number T.fd_law_number ["_law_script", "_law_index"] (spF 2 (S_law_number K T)) := by
  refine T.F_law_number.ok sc_law_number (fun vs H Q E h => spF_len h) fun cdv A outer s H vs Q E hr h => ⟨(rd_law_number_0 K T), ?_, fn_start h (R Q)⟩
  exact (Evl.pss_cut (ps_if (pt_cmpR (op_eqU hr.units) (pv 0) (pe_lst pa_nil) (nomark _))
      (pss_one (ps_ret (pe_callTy call_int1' (by rfl) T.no_int (by decide +kernel) (pa_cons (pe_op op_mod (pe_op op_addU (pe_op op_mul (pv 1) pe_int) pe_int) pe_int) pa_nil))))
      pss_nil)
      (pss_cons (ps_set (i := 2) sc_law_number.nd rfl (by first | exact Or.inl rfl | exact Or.inr rfl) (pe_ix ix_seq (pv 0) (pe_op op_mod (pv 1) (pe_callB call_lenU (by rfl) T.no_len PySem.boot_len (pa_cons (pv 0) pa_nil))) (fun _ _ => rfl)))
      (Evl.pss_cut (ps_if (pt_cmpR op_ge (pe_callB call_abs' (by rfl) T.no_abs (by decide +kernel) (pa_cons (pv 2) pa_nil)) (pe_op op_pow pe_int pe_int) (nomark _))
      (pss_one (ps_set (i := 2) sc_law_number.nd rfl (by first | exact Or.inl rfl | exact Or.inr rfl) (pe_op op_mod (pv 2) (pe_op op_pow pe_int pe_int))))
      pss_nil)
      (pss_cons (ps_set (i := 3) sc_law_number.nd rfl (by first | exact Or.inl rfl | exact Or.inr rfl) (pe_op op_mod (pe_op op_addU (pe_op op_mul (pe_op op_addU (pv 2) (pe_op op_mul pe_int (pv 1))) pe_int) (pe_op op_mul pe_int (pe_callB call_lenU (by rfl) T.no_len PySem.boot_len (pa_cons (pv 0) pa_nil)))) pe_int))
      (pss_one (ps_ret (pe_callTy call_int1' (by rfl) T.no_int (by decide +kernel) (pa_cons (pe_op op_mod (pe_op op_addU (pe_op op_mul (pe_op op_mod (pe_op op_mul (pv 3) pe_int) pe_int) pe_int) (pv 1)) pe_int) pa_nil))))))))
theorem ok_law_take {P : Program} {w : World} {K : PySem.W.Frag} {mg : Str → Option Value} {base : Heap} (T : Tx K mg)
    (G_law_number : FnOk P w K mg base CX0 1 T.f_law_number T.fd_law_number ["_law_script", "_law_index"] (spF 2 (S_law_number K T)))
    (R : ∀ Q ds M P Φ, ds.length = 2 → S_law_take K T ds M P → RtQ Q Φ P → Cont (rd_law_take_0 K T (fnD Q)) Φ (entry ["_law_draw", "_law_many"] ds) M) :
    FnOk P w K mg base CX0 2 T.f_law_take T.fd_law_take ["_law_draw", "_law_many"] (spF 2 (S_law_take K T)) := by
  refine T.F_law_take.ok sc_law_take (fun vs H Q E h => spF_len h) fun cdv A outer s H vs Q E hr h => ⟨(rd_law_take_0 K T), ?_, fn_start h (R Q)⟩
  exact (pss_cons (ps_augS (pv 0) pe_int get_list pe_int ip_add set_list)
      (pss_one (ps_ret (pe_op op_mod (pe_callTy call_int1' (by rfl) T.no_int (by decide +kernel) (pa_cons (pe_call (G_law_number) (hr.mono (by decide)) rfl T.mg_law_number T.k_law_number T.b_law_number .nil pass0 (pa_cons (pe_ix ix_seq (pv 0) pe_int (fun _ _ => rfl)) (pa_cons (pe_callTy call_int1' (by rfl) T.no_int (by decide +kernel) (pa_cons (pe_ix ix_seq (pv 0) pe_int (fun _ _ => rfl)) pa_nil)) pa_nil))) pa_nil)) (pv 1)))))
theorem ok_End_init {P : Program} {w : World} {K : PySem.W.Frag} {mg : Str → Option Value} {base : Heap} (T : Tx K mg)
    (R : ∀ Q ds M P Φ, ds.length = 1 → S_End_init K T ds M P → RtQ Q Φ P → Cont (rd_End_init_0 K T (fnD Q)) Φ (entry ["self"] ds) M) :
    FnOk P w K mg base CX0 1 T.f_End_init T.fd_End_init ["self"] (spF 1 (S_End_init K T)) := by
  refine T.F_End_init.ok sc_End_init (fun vs H Q E h => spF_len h) fun cdv A outer s H vs Q E hr h => ⟨(rd_End_init_0 K T), ?_, fn_start h (R Q)⟩
  exact (pss_cons (ps_fld (pv 0) (pe_lst pa_nil) rfl)
      (pss_cons (ps_fld (pv 0) pe_int rfl)
      (pss_cons (ps_fld (pv 0) (pe_lst pa_nil) rfl)
      (pss_one (ps_fld (pv 0) pe_int rfl)))))
theorem ok_End_put {P : Program} {w : World} {K : PySem.W.Frag} {mg : Str → Option Value} {base : Heap} (T : Tx K mg)
    (R : ∀ Q ds M P Φ, ds.length = 2 → S_End_put K T ds M P → RtQ Q Φ P → Cont (rd_End_put_0 K T (fnD Q)) Φ (entry ["self", "word"] ds) M) :
    FnOk P w K mg base CX0 1 T.f_End_put T.fd_End_put ["self", "word"] (spF 2 (S_End_put K T)) := by
  refine T.F_End_put.ok sc_End_put (fun vs H Q E h => spF_len h) fun cdv A outer s H vs Q E hr h => ⟨(rd_End_put_0 K T), ?_, fn_start h (R Q)⟩
  exact (pss_one (ps_expr (pe_bm PySem.F.plainAttrs_list PySem.F.slot_list_append PySem.F.type_list_append mt_append (pe_fld (pv 0) rfl) (pa_cons (pv 1) pa_nil))))
theorem ok_End_frames {P : Program} {w : World} {K : PySem.W.Frag} {mg : Str → Option Value} {base : Heap} (T : Tx K mg)
    (R : ∀ Q ds M P Φ, ds.length = 1 → S_End_frames K T ds M P → RtQ Q Φ P → Cont (rd_End_frames_0 K T (fnD Q)) Φ (entry ["self", "rows", "found", "at", "word"] ds) M) :
    FnOk P w K mg base CX0 1 T.f_End_frames T.fd_End_frames ["self"] (spF 1 (S_End_frames K T)) := by
  refine T.F_End_frames.ok sc_End_frames (fun vs H Q E h => spF_len h) fun cdv A outer s H vs Q E hr h => ⟨(rd_End_frames_0 K T), ?_, fn_start h (R Q)⟩
  exact (pss_cons (ps_set (i := 1) sc_End_frames.nd rfl (by first | exact Or.inl rfl | exact Or.inr rfl) (pe_slice sl_U (pe_fld (pv 0) rfl) (po_some (pe_fld (pv 0) rfl)) (po_some (pe_op op_addU (pe_fld (pv 0) rfl) (pe_glob rfl T.mg_WINDOW ⟨_, rfl⟩)))))
      (pss_cons (ps_setLc (i := 2) (own := [("at", 3), ("word", 4)]) (g := (gTup K 2 (gCons (gName 3) (gCons (gName 4) gNil)))) (tt := tYes) rfl sc_End_frames.nd rfl rfl (sw_true rfl rfl rfl (by decide +kernel)) (pi_enum (by rfl) T.no_enumerate (pa_cons (pv 1) pa_nil)) (blkOk_by (own := [("at", 3), ("word", 4)]) (N := ["self", "rows", "found", "at", "word"]) (sc := defScope s_End_frames) (by decide +kernel)) (fun _ _ _ _ _ => (pg_tup rfl (pgs_cons (pg_name (i := 3) sc_End_frames.nd rfl (by first | exact Or.inl rfl | exact Or.inr rfl)) (pgs_cons (pg_name (i := 4) sc_End_frames.nd rfl (by first | exact Or.inl rfl | exact Or.inr rfl)) pgs_nil)))) (fun _ _ _ _ _ => pts_nil) (fun _ _ _ _ _ => (pe_tup (pa_cons pe_str (pa_cons (pe_op op_addU (pe_fld (pv 0) rfl) (pv 3)) (pa_cons (pv 4) (pa_cons (pe_callB call_lenU (by rfl) T.no_len PySem.boot_len (pa_cons (pe_fld (pv 0) rfl) pa_nil)) pa_nil)))))))
      (pss_one (ps_ret (pe_ifExp (pt_cmpR (op_neU hr.units) (pv 2) (pe_lst pa_nil) (nomark _)) (pe_callTy call_tuple_of' (by rfl) T.no_tuple (by decide +kernel) (pa_cons (pv 2) pa_nil)) (pe_tup (pa_cons (pe_tup (pa_cons pe_str (pa_cons pe_non (pa_cons pe_non (pa_cons (pe_callB call_lenU (by rfl) T.no_len PySem.boot_len (pa_cons (pe_fld (pv 0) rfl) pa_nil)) pa_nil))))) pa_nil)))))))
theorem ok_End_hear {P : Program} {w : World} {K : PySem.W.Frag} {mg : Str → Option Value} {base : Heap} (T : Tx K mg)
    (R : ∀ Q ds M P Φ, ds.length = 3 → S_End_hear K T ds M P → RtQ Q Φ P → Cont (rd_End_hear_0 K T (fnD Q)) Φ (entry ["self", "epoch", "frame", "number", "word", "answered"] ds) M) :
    FnOk P w K mg base CX0 1 T.f_End_hear T.fd_End_hear ["self", "epoch", "frame"] (spF 3 (S_End_hear K T)) := by
  refine T.F_End_hear.ok sc_End_hear (fun vs H Q E h => spF_len h) fun cdv A outer s H vs Q E hr h => ⟨(rd_End_hear_0 K T), ?_, fn_start h (R Q)⟩
  exact (Evl.pss_cut (ps_if (pt_cmpR op_lt (pv 1) (pe_fld (pv 0) rfl) (nomark _))
      (pss_one ps_retN)
      pss_nil)
      (pss_cons (ps_fld (pv 0) (pv 1) rfl)
      (pss_cons (ps_asg (pe_slice sl_U (pv 2) (po_some pe_int) po_none) (pg_tup rfl (pgs_cons (pg_name (i := 3) sc_End_hear.nd rfl (by first | exact Or.inl rfl | exact Or.inr rfl)) (pgs_cons (pg_name (i := 4) sc_End_hear.nd rfl (by first | exact Or.inl rfl | exact Or.inr rfl)) (pgs_cons (pg_name (i := 5) sc_End_hear.nd rfl (by first | exact Or.inl rfl | exact Or.inr rfl)) pgs_nil)))))
      (Evl.pss_cut (ps_if (pt_cmpR (op_eqU hr.units) (pv 3) (pe_callB call_lenU (by rfl) T.no_len PySem.boot_len (pa_cons (pe_fld (pv 0) rfl) pa_nil)) (nomark _))
      (pss_one (ps_expr (pe_bm PySem.F.plainAttrs_list PySem.F.slot_list_append PySem.F.type_list_append mt_append (pe_fld (pv 0) rfl) (pa_cons (pv 4) pa_nil))))
      pss_nil)
      (pss_one (ps_if (pt_chain op_lt op_le (pe_fld (pv 0) rfl) (pv 5) (pe_callB call_lenU (by rfl) T.no_len PySem.boot_len (pa_cons (pe_fld (pv 0) rfl) pa_nil)))
      (pss_one (ps_fld (pv 0) (pv 5) rfl))
      pss_nil))))))
theorem ok_law {P : Program} {w : World} {K : PySem.W.Frag} {mg : Str → Option Value} {base : Heap} (T : Tx K mg)
    (G_End_frames : FnOk P w K mg base CX0 1 T.f_End_frames T.fd_End_frames ["self"] (spF 1 (S_End_frames K T)))
    (G_End_hear : FnOk P w K mg base CX0 1 T.f_End_hear T.fd_End_hear ["self", "epoch", "frame"] (spF 3 (S_End_hear K T)))
    (G_End_init : FnOk P w K mg base CX0 1 T.f_End_init T.fd_End_init ["self"] (spF 1 (S_End_init K T)))
    (G_End_put : FnOk P w K mg base CX0 1 T.f_End_put T.fd_End_put ["self", "word"] (spF 2 (S_End_put K T)))
    (G_law_take : FnOk P w K mg base CX0 2 T.f_law_take T.fd_law_take ["_law_draw", "_law_many"] (spF 2 (S_law_take K T)))
    (R : ∀ Q ds M P Φ, ds.length = 1 → S_law K T ds M P → RtQ Q Φ P → Cont (rd_law_0 K T (fnD Q)) Φ (entry ["_law_script", "_law_draw", "_law_ends", "_law_letters", "_law_epoch", "_law_turn", "_law_kind", "_law_at", "_law_frames", "_law_words", "_law_place", "_law_goal", "_law_old", "_law_frame", "_law_end", "_law_before", "_law_one", "_law_other"] ds) M) :
    FnOk P w K mg base CX0 3 T.f_law T.fd_law ["_law_script"] (spF 1 (S_law K T)) := by
  refine T.F_law.ok sc_law (fun vs H Q E h => spF_len h) fun cdv A outer s H vs Q E hr h => ⟨(rd_law_0 K T), ?_, fn_start h (R Q)⟩
  exact (pss_cons (ps_set (i := 1) sc_law.nd rfl (by first | exact Or.inl rfl | exact Or.inr rfl) (pe_lst (pa_cons (pv 0) (pa_cons pe_int pa_nil))))
      (pss_cons (ps_asg (pe_tup (pa_cons (pe_lst (pa_cons (pe_make0 T.M_End (G_End_init) (hr.mono (by decide)) rfl T.mg_End T.b_End_init .nil pass0) (pa_cons (pe_make0 T.M_End (G_End_init) (hr.mono (by decide)) rfl T.mg_End T.b_End_init .nil pass0) pa_nil))) (pa_cons (pe_lst pa_nil) (pa_cons pe_int pa_nil)))) (pg_tup rfl (pgs_cons (pg_name (i := 2) sc_law.nd rfl (by first | exact Or.inl rfl | exact Or.inr rfl)) (pgs_cons (pg_name (i := 3) sc_law.nd rfl (by first | exact Or.inl rfl | exact Or.inr rfl)) (pgs_cons (pg_name (i := 4) sc_law.nd rfl (by first | exact Or.inl rfl | exact Or.inr rfl)) pgs_nil)))))
      (Evl.pss_cut (ps_for PassesOwn.never rfl (pi_range1 rfl T.no_range (pa_cons (pe_op op_addU pe_int (pe_call (G_law_take) (hr.mono (by decide)) rfl T.mg_law_take T.k_law_take T.b_law_take .nil pass0 (pa_cons (pv 1) (pa_cons pe_int pa_nil)))) pa_nil)) (pg_name (i := 5) sc_law.nd rfl (by first | exact Or.inl rfl | exact Or.inr rfl))
      (pss_cons (ps_asg (pe_tup (pa_cons (pe_call (G_law_take) (hr.mono (by decide)) rfl T.mg_law_take T.k_law_take T.b_law_take .nil pass0 (pa_cons (pv 1) (pa_cons pe_int pa_nil))) (pa_cons (pe_call (G_law_take) (hr.mono (by decide)) rfl T.mg_law_take T.k_law_take T.b_law_take .nil pass0 (pa_cons (pv 1) (pa_cons pe_int pa_nil))) pa_nil))) (pg_tup rfl (pgs_cons (pg_name (i := 6) sc_law.nd rfl (by first | exact Or.inl rfl | exact Or.inr rfl)) (pgs_cons (pg_name (i := 7) sc_law.nd rfl (by first | exact Or.inl rfl | exact Or.inr rfl)) pgs_nil))))
      (Evl.pss_cut (ps_if (pt_cmpR (op_eqU hr.units) (pv 6) pe_int (nomark _))
      (pss_one (ps_expr (pe_meth (pe_ix ix_seq (pv 2) (pv 7) (fun _ _ => rfl)) T.F_End.cl T.m_End_put (G_End_put) (hr.mono (by decide)) T.b_End_put .nil pass0 (pa_cons (pe_call (G_law_take) (hr.mono (by decide)) rfl T.mg_law_take T.k_law_take T.b_law_take .nil pass0 (pa_cons (pv 1) (pa_cons pe_int pa_nil))) pa_nil))))
      (pss_one (ps_if (pt_cmpR (op_eqU hr.units) (pv 6) pe_int (nomark _))
      (pss_cons (ps_set (i := 8) sc_law.nd rfl (by first | exact Or.inl rfl | exact Or.inr rfl) (pe_meth0 (pe_ix ix_seq (pv 2) (pv 7) (fun _ _ => rfl)) T.F_End.cl T.m_End_frames (G_End_frames) (hr.mono (by decide)) T.b_End_frames .nil pass0))
      (pss_cons (ps_setLc (i := 9) (own := [("_law_frame", 13)]) (g := (gName 13)) (tt := (tTest (tOp rNotN (tOp (rIx K) (tVar 13) (tC (.int 1))) (tC .non)))) rfl sc_law.nd rfl rfl (sw_true rfl rfl rfl (by decide +kernel)) (pi_seq (pv 8)) (blkOk_by (own := [("_law_frame", 13)]) (N := ["_law_script", "_law_draw", "_law_ends", "_law_letters", "_law_epoch", "_law_turn", "_law_kind", "_law_at", "_law_frames", "_law_words", "_law_place", "_law_goal", "_law_old", "_law_frame", "_law_end", "_law_before", "_law_one", "_law_other"]) (sc := defScope s_law) (by decide +kernel)) (fun _ _ _ _ _ => (pg_name (i := 13) sc_law.nd rfl (by first | exact Or.inl rfl | exact Or.inr rfl))) (fun _ _ _ _ _ => (pts_one (pt_cmpR op_notN' (pe_ix ix_seq (pv 13) pe_int (fun _ _ => rfl)) pe_non (nomark _)))) (fun _ _ _ _ _ => (pv 13)))
      (Evl.pss_cut (ps_if (PW.pt (pw_or (pt_cmpR op_gt (pe_callB call_lenU (by rfl) T.no_len PySem.boot_len (pa_cons (pv 9) pa_nil)) pe_int (nomark _)) (pw_or1 (pt_cmpR (op_neU hr.units) (pe_lc (own := [("_law_frame", 13)]) (g := (gName 13)) (tt := tYes) rfl sc_law.nd (pi_seq (pv 9)) (blkOk_by (own := [("_law_frame", 13)]) (N := ["_law_script", "_law_draw", "_law_ends", "_law_letters", "_law_epoch", "_law_turn", "_law_kind", "_law_at", "_law_frames", "_law_words", "_law_place", "_law_goal", "_law_old", "_law_frame", "_law_end", "_law_before", "_law_one", "_law_other"]) (sc := defScope s_law) (by decide +kernel)) (fun _ _ _ _ _ => (pg_name (i := 13) sc_law.nd rfl (by first | exact Or.inl rfl | exact Or.inr rfl))) (fun _ _ _ _ _ => pts_nil) (fun _ _ _ _ _ => (pe_ix ix_seq (pv 13) pe_int (fun _ _ => rfl)))) (pe_slice sl_U (pe_fld (pe_ix ix_seq (pv 2) (pv 7) (fun _ _ => rfl)) rfl) (po_some (pe_fld (pe_ix ix_seq (pv 2) (pv 7) (fun _ _ => rfl)) rfl)) (po_some (pe_op op_addU (pe_fld (pe_ix ix_seq (pv 2) (pv 7) (fun _ _ => rfl)) rfl) pe_int))) (nomark _)))))
      (pss_one (ps_ret pe_bl))
      pss_nil)
      (Evl.pss_cut (ps_if (PW.pt (pw_or (pt_val (pe_callB (cr_any rfl) (by rfl) T.no_any (by decide +kernel) (pa_cons (pe_lc (own := [("_law_frame", 13)]) (g := (gName 13)) (tt := tYes) rfl sc_law.nd (pi_seq (pv 8)) (blkOk_by (own := [("_law_frame", 13)]) (N := ["_law_script", "_law_draw", "_law_ends", "_law_letters", "_law_epoch", "_law_turn", "_law_kind", "_law_at", "_law_frames", "_law_words", "_law_place", "_law_goal", "_law_old", "_law_frame", "_law_end", "_law_before", "_law_one", "_law_other"]) (sc := defScope s_law) (by decide +kernel)) (fun _ _ _ _ _ => (pg_name (i := 13) sc_law.nd rfl (by first | exact Or.inl rfl | exact Or.inr rfl))) (fun _ _ _ _ _ => pts_nil) (fun _ _ _ _ _ => (pe_cmpR (op_neU hr.units) (pe_ix ix_seq (pv 13) pe_int (fun _ _ => rfl)) (pe_callB call_lenU (by rfl) T.no_len PySem.boot_len (pa_cons (pe_fld (pe_ix ix_seq (pv 2) (pv 7) (fun _ _ => rfl)) rfl) pa_nil)) (nomark _)))) pa_nil))) (pw_or1 (pt_cmpR (op_neU hr.units) (pe_callB call_lenU (by rfl) T.no_len PySem.boot_len (pa_cons (pv 8) pa_nil)) (pe_callB (call_max2' rfl) (by rfl) T.no_max (by decide +kernel) (pa_cons pe_int (pa_cons (pe_callB call_lenU (by rfl) T.no_len PySem.boot_len (pa_cons (pv 9) pa_nil)) pa_nil))) (nomark _)))))
      (pss_one (ps_ret pe_bl))
      pss_nil)
      (pss_one (ps_set (i := 3) sc_law.nd rfl (by first | exact Or.inl rfl | exact Or.inr rfl) (pe_op op_addU (pv 3) (pe_lc (own := [("_law_frame", 13)]) (g := (gName 13)) (tt := tYes) rfl sc_law.nd (pi_seq (pv 8)) (blkOk_by (own := [("_law_frame", 13)]) (N := ["_law_script", "_law_draw", "_law_ends", "_law_letters", "_law_epoch", "_law_turn", "_law_kind", "_law_at", "_law_frames", "_law_words", "_law_place", "_law_goal", "_law_old", "_law_frame", "_law_end", "_law_before", "_law_one", "_law_other"]) (sc := defScope s_law) (by decide +kernel)) (fun _ _ _ _ _ => (pg_name (i := 13) sc_law.nd rfl (by first | exact Or.inl rfl | exact Or.inr rfl))) (fun _ _ _ _ _ => pts_nil) (fun _ _ _ _ _ => (pe_tup (pa_cons (pe_op op_sub pe_int (pv 7)) (pa_cons (pv 4) (pa_cons (pv 13) pa_nil)))))))))))))
      (pss_one (ps_if (PW.pt (pw_and (pt_cmpR (op_eqU hr.units) (pv 6) pe_int (nomark _)) (pw_and1 (pt_cmpR (op_eqU hr.units) (pe_call (G_law_take) (hr.mono (by decide)) rfl T.mg_law_take T.k_law_take T.b_law_take .nil pass0 (pa_cons (pv 1) (pa_cons pe_int pa_nil))) pe_int (nomark _)))))
      (pss_one (ps_aug (i := 4) sc_law.nd rfl (by first | exact Or.inl rfl | exact Or.inr rfl) pe_int ip_add))
      (pss_one (ps_if (pt_cmpR (op_neU hr.units) (pv 3) (pe_lst pa_nil) (nomark _))
      (pss_cons (ps_set (i := 10) sc_law.nd rfl (by first | exact Or.inl rfl | exact Or.inr rfl) (pe_call (G_law_take) (hr.mono (by decide)) rfl T.mg_law_take T.k_law_take T.b_law_take .nil pass0 (pa_cons (pv 1) (pa_cons (pe_callB call_lenU (by rfl) T.no_len PySem.boot_len (pa_cons (pv 3) pa_nil)) pa_nil))))
      (pss_cons (ps_asg (pe_ix ix_seq (pv 3) (pv 10) (fun _ _ => rfl)) (pg_tup rfl (pgs_cons (pg_name (i := 11) sc_law.nd rfl (by first | exact Or.inl rfl | exact Or.inr rfl)) (pgs_cons (pg_name (i := 12) sc_law.nd rfl (by first | exact Or.inl rfl | exact Or.inr rfl)) (pgs_cons (pg_name (i := 13) sc_law.nd rfl (by first | exact Or.inl rfl | exact Or.inr rfl)) pgs_nil)))))
      (Evl.pss_cut (ps_if (pt_cmpR op_gt (pe_call (G_law_take) (hr.mono (by decide)) rfl T.mg_law_take T.k_law_take T.b_law_take .nil pass0 (pa_cons (pv 1) (pa_cons pe_int pa_nil))) pe_int (nomark _))
      (pss_one (ps_set (i := 3) sc_law.nd rfl (by first | exact Or.inl rfl | exact Or.inr rfl) (pe_op op_addU (pe_slice sl_U (pv 3) po_none (po_some (pv 10))) (pe_slice sl_U (pv 3) (po_some (pe_op op_addU (pv 10) pe_int)) po_none))))
      pss_nil)
      (pss_cons (ps_set (i := 14) sc_law.nd rfl (by first | exact Or.inl rfl | exact Or.inr rfl) (pe_ix ix_seq (pv 2) (pv 11) (fun _ _ => rfl)))
      (pss_cons (ps_set (i := 15) sc_law.nd rfl (by first | exact Or.inl rfl | exact Or.inr rfl) (pe_tup (pa_cons (pe_callTy call_list_of' (by rfl) T.no_list (by decide +kernel) (pa_cons (pe_fld (pv 14) rfl) pa_nil)) (pa_cons (pe_fld (pv 14) rfl) (pa_cons (pe_fld (pv 14) rfl) pa_nil)))))
      (Evl.pss_cut (ps_if (pt_cmpR op_gt (pe_call (G_law_take) (hr.mono (by decide)) rfl T.mg_law_take T.k_law_take T.b_law_take .nil pass0 (pa_cons (pv 1) (pa_cons pe_int pa_nil))) pe_int (nomark _))
      (pss_one (ps_expr (pe_meth (pv 14) T.F_End.cl T.m_End_hear (G_End_hear) (hr.mono (by decide)) T.b_End_hear .nil pass0 (pa_cons (pv 12) (pa_cons (pv 13) pa_nil)))))
      pss_nil)
      (Evl.pss_cut (ps_if (PW.pt (pw_and (pt_cmpR op_lt (pv 12) (pe_ix ix_seq (pv 15) pe_int (fun _ _ => rfl)) (nomark _)) (pw_and1 (pt_cmpR (op_neU hr.units) (pe_tup (pa_cons (pe_fld (pv 14) rfl) (pa_cons (pe_fld (pv 14) rfl) (pa_cons (pe_fld (pv 14) rfl) pa_nil)))) (pv 15) (nomark _)))))
      (pss_one (ps_ret pe_bl))
      pss_nil)
      (pss_one (ps_if (PW.pt (pw_or (pt_cmpR op_lt (pe_fld (pv 14) rfl) (pe_ix ix_seq (pv 15) pe_int (fun _ _ => rfl)) (nomark _)) (pw_or (pt_cmpR op_lt (pe_fld (pv 14) rfl) (pe_ix ix_seq (pv 15) pe_int (fun _ _ => rfl)) (nomark _)) (pw_or1 (pt_cmpR op_lt (pe_callB call_lenU (by rfl) T.no_len PySem.boot_len (pa_cons (pe_fld (pv 14) rfl) pa_nil)) (pe_callB call_lenU (by rfl) T.no_len PySem.boot_len (pa_cons (pe_ix ix_seq (pv 15) pe_int (fun _ _ => rfl)) pa_nil)) (nomark _))))))
      (pss_one (ps_ret pe_bl))
      pss_nil)))))))))
      pss_nil)))))))
      (pss_one (ps_for PassesOwn.never rfl (pi_seq (pe_tup (pa_cons (pe_tup (pa_cons pe_int (pa_cons pe_int pa_nil))) (pa_cons (pe_tup (pa_cons pe_int (pa_cons pe_int pa_nil))) pa_nil)))) (pg_tup rfl (pgs_cons (pg_name (i := 16) sc_law.nd rfl (by first | exact Or.inl rfl | exact Or.inr rfl)) (pgs_cons (pg_name (i := 17) sc_law.nd rfl (by first | exact Or.inl rfl | exact Or.inr rfl)) pgs_nil)))
      (pss_one (ps_if (PW.pt (pw_or (pt_cmpR (op_neU hr.units) (pe_fld (pe_ix ix_seq (pv 2) (pv 16) (fun _ _ => rfl)) rfl) (pe_slice sl_U (pe_fld (pe_ix ix_seq (pv 2) (pv 17) (fun _ _ => rfl)) rfl) po_none (po_some (pe_callB call_lenU (by rfl) T.no_len PySem.boot_len (pa_cons (pe_fld (pe_ix ix_seq (pv 2) (pv 16) (fun _ _ => rfl)) rfl) pa_nil)))) (nomark _)) (pw_or1 (pt_cmpR op_gt (pe_fld (pe_ix ix_seq (pv 2) (pv 16) (fun _ _ => rfl)) rfl) (pe_callB call_lenU (by rfl) T.no_len PySem.boot_len (pa_cons (pe_fld (pe_ix ix_seq (pv 2) (pv 17) (fun _ _ => rfl)) rfl) pa_nil)) (nomark _)))))
      (pss_one (ps_ret pe_bl))
      pss_nil)))))))
      (Evl.pss_cut (ps_for PassesOwn.never rfl (pi_range1 rfl T.no_range (pa_cons (pe_op op_addU (pe_op op_mul pe_int (pe_callB (call_max2' rfl) (by rfl) T.no_max (by decide +kernel) (pa_cons (pe_callB call_lenU (by rfl) T.no_len PySem.boot_len (pa_cons (pe_fld (pe_ix ix_seq (pv 2) pe_int (fun _ _ => rfl)) rfl) pa_nil)) (pa_cons (pe_callB call_lenU (by rfl) T.no_len PySem.boot_len (pa_cons (pe_fld (pe_ix ix_seq (pv 2) pe_int (fun _ _ => rfl)) rfl) pa_nil)) pa_nil)))) pe_int) pa_nil)) (pg_name (i := 5) sc_law.nd rfl (by first | exact Or.inl rfl | exact Or.inr rfl))
      (pss_one (ps_for PassesOwn.never rfl (pi_seq (pe_tup (pa_cons pe_int (pa_cons pe_int pa_nil)))) (pg_name (i := 7) sc_law.nd rfl (by first | exact Or.inl rfl | exact Or.inr rfl))
      (pss_one (ps_for PassesOwn.never rfl (pi_seq (pe_meth0 (pe_ix ix_seq (pv 2) (pv 7) (fun _ _ => rfl)) T.F_End.cl T.m_End_frames (G_End_frames) (hr.mono (by decide)) T.b_End_frames .nil pass0)) (pg_name (i := 13) sc_law.nd rfl (by first | exact Or.inl rfl | exact Or.inr rfl))
      (pss_one (ps_expr (pe_meth (pe_ix ix_seq (pv 2) (pe_op op_sub pe_int (pv 7)) (fun _ _ => rfl)) T.F_End.cl T.m_End_hear (G_End_hear) (hr.mono (by decide)) T.b_End_hear .nil pass0 (pa_cons (pv 4) (pa_cons (pv 13) pa_nil))))))))))
      (pss_one (ps_ret (pe_and (pe_cmpR (op_eqU hr.units) (pe_fld (pe_ix ix_seq (pv 2) pe_int (fun _ _ => rfl)) rfl) (pe_fld (pe_ix ix_seq (pv 2) pe_int (fun _ _ => rfl)) rfl) (nomark _)) (pe_and (pe_cmpR (op_eqU hr.units) (pe_fld (pe_ix ix_seq (pv 2) pe_int (fun _ _ => rfl)) rfl) (pe_fld (pe_ix ix_seq (pv 2) pe_int (fun _ _ => rfl)) rfl) (nomark _)) (pe_one (pe_cmpR (op_eqU hr.units) (pe_fld (pe_ix ix_seq (pv 2) pe_int (fun _ _ => rfl)) rfl) (pe_callB call_lenU (by rfl) T.no_len PySem.boot_len (pa_cons (pe_fld (pe_ix ix_seq (pv 2) pe_int (fun _ _ => rfl)) rfl) pa_nil)) (nomark _)))))))))))
def spLaw (K : PySem.W.Frag) : Sp := spF 1 (SLaw K)
theorem spLaw_intro {K : PySem.W.Frag} {H : Hp} {a : Addr} {ns : List Int} (hl : ns.length ≤ 63) (hS : SqL K H a (ns.map V.int)) : spLaw K [.ref a] H (fun v _ => v = .bl true) fun _ _ _ => False :=
  ⟨Fr.top, [], [], [vscr K ns], [], fun x _ => x = dat (.bool true), ⟨H, fun _ _ h => h, ⟨trivial, .cons ⟨a, rfl, hS⟩ .nil⟩, ⟨rfl, fun i x h => nomatch h⟩, List.nodup_nil, fun c hc => nomatch hc⟩, rfl, ⟨ns, rfl, rfl, hl, fun _ => rfl⟩, fun x M' v H' hx ⟨F, s⟩ => by
    subst hx
    cases s.fr.2
    rfl⟩
theorem law_ok {P : Program} {w : World} {K : PySem.W.Frag} {mg : Str → Option Value} {base : Heap} (T : Tx K mg) : FnOk P w K mg base CX0 3 T.f_law T.fd_law ["_law_script"] (spLaw K) := by
  have H_End_init := ok_End_init (P := P) (w := w) (base := base) T (R := End_init_body T)
  have H_End_put := ok_End_put (P := P) (w := w) (base := base) T (R := End_put_body T)
  have H_End_frames := ok_End_frames (P := P) (w := w) (base := base) T (R := End_frames_body T)
  have H_End_hear := ok_End_hear (P := P) (w := w) (base := base) T (R := End_hear_body T)
  have H_law_number := ok_law_number (P := P) (w := w) (base := base) T (R := law_number_body T)
  have H_law_take := ok_law_take (P := P) (w := w) (base := base) T (G_law_number := H_law_number) (R := law_take_body T)
  have H_law := ok_law (P := P) (w := w) (base := base) T (G_End_frames := H_End_frames) (G_End_hear := H_End_hear) (G_End_init := H_End_init) (G_End_put := H_End_put) (G_law_take := H_law_take) (R := law_body T)
  exact H_law
theorem all_mk {l : PySem.W.OpenLaw} {w : World} {K : PySem.W.Frag} {h : Heap} {mg : Str → Option Value} {fa C_End f_End_init f_End_put f_End_frames f_End_hear f_law_number f_law_take f_law : Addr} (X : K.In h) (G : h.Ns mainGlobals mg) (hfa : mg "law" = some (.ref fa))
    {od_End_init an_End_init od_End_put an_End_put od_End_frames an_End_frames od_End_hear an_End_hear od_law_number an_law_number od_law_take an_law_take od_law an_law : Option Addr} {sl_End_init sl_End_put sl_End_frames sl_End_hear sl_law_number sl_law_take sl_law : Array (Option Value)} {oc_End_init kV_End_init dc_End_init pm_End_init cd_End_init ct_End_init oc_End_put kV_End_put dc_End_put pm_End_put cd_End_put ct_End_put oc_End_frames kV_End_frames dc_End_frames pm_End_frames cd_End_frames ct_End_frames oc_End_hear kV_End_hear dc_End_hear pm_End_hear cd_End_hear ct_End_hear oc_law_number kV_law_number dc_law_number pm_law_number cd_law_number ct_law_number oc_law_take kV_law_take dc_law_take pm_law_take cd_law_take ct_law_take oc_law kV_law dc_law pm_law cd_law ct_law : Value} {t_WINDOW : Tok}
    (aC_End : PySem.W.nsIn K mainGlobals "End" = some (some (.ref C_End)))
    (pg_End : PySem.W.plainGet K C_End Str.empty = true)
    (hd_End : PySem.W.hasDictIn K C_End = true)
    (po_End : PySem.W.plainOver K C_End = true)
    (sa_End : PySem.W.findIn K (.ref C_End) "__setattr__" = some (some (.builtin "object.__setattr__")))
    (mk_End : PySem.W.makesIn K C_End = true)
    (kc_End : PySem.W.keepIn K (.ref C_End) = true)
    (na_End_0 : PySem.W.findIn K (.ref C_End) "out" = some none)
    (na_End_1 : PySem.W.findIn K (.ref C_End) "answered" = some none)
    (na_End_2 : PySem.W.findIn K (.ref C_End) "told" = some none)
    (na_End_3 : PySem.W.findIn K (.ref C_End) "epoch" = some none)
    (a_End_init : PySem.W.findIn K (.ref C_End) "__init__" = some (some (.ref f_End_init)))
    (i_End_init : PySem.W.isFn K (.ref f_End_init) = true)
    (l_End_init : K.lookup f_End_init = some ⟨oc_End_init, od_End_init, .func (PySem.W.fnOf "__init__" "End.__init__" (defArgs s_End_init) (defBody s_End_init) (defScope s_End_init) .none kV_End_init dc_End_init pm_End_init an_End_init cd_End_init ct_End_init), sl_End_init⟩)
    (c_End_init : PySem.W.codeIn K cd_End_init "End.__init__" = true)
    (k_End_init : PySem.W.keepIn K (.ref f_End_init) = true)
    (a_End_put : PySem.W.findIn K (.ref C_End) "put" = some (some (.ref f_End_put)))
    (i_End_put : PySem.W.isFn K (.ref f_End_put) = true)
    (l_End_put : K.lookup f_End_put = some ⟨oc_End_put, od_End_put, .func (PySem.W.fnOf "put" "End.put" (defArgs s_End_put) (defBody s_End_put) (defScope s_End_put) .none kV_End_put dc_End_put pm_End_put an_End_put cd_End_put ct_End_put), sl_End_put⟩)
    (c_End_put : PySem.W.codeIn K cd_End_put "End.put" = true)
    (k_End_put : PySem.W.keepIn K (.ref f_End_put) = true)
    (a_End_frames : PySem.W.findIn K (.ref C_End) "frames" = some (some (.ref f_End_frames)))
    (i_End_frames : PySem.W.isFn K (.ref f_End_frames) = true)
    (l_End_frames : K.lookup f_End_frames = some ⟨oc_End_frames, od_End_frames, .func (PySem.W.fnOf "frames" "End.frames" (defArgs s_End_frames) (defBody s_End_frames) (defScope s_End_frames) .none kV_End_frames dc_End_frames pm_End_frames an_End_frames cd_End_frames ct_End_frames), sl_End_frames⟩)
    (c_End_frames : PySem.W.codeIn K cd_End_frames "End.frames" = true)
    (k_End_frames : PySem.W.keepIn K (.ref f_End_frames) = true)
    (a_End_hear : PySem.W.findIn K (.ref C_End) "hear" = some (some (.ref f_End_hear)))
    (i_End_hear : PySem.W.isFn K (.ref f_End_hear) = true)
    (l_End_hear : K.lookup f_End_hear = some ⟨oc_End_hear, od_End_hear, .func (PySem.W.fnOf "hear" "End.hear" (defArgs s_End_hear) (defBody s_End_hear) (defScope s_End_hear) .none kV_End_hear dc_End_hear pm_End_hear an_End_hear cd_End_hear ct_End_hear), sl_End_hear⟩)
    (c_End_hear : PySem.W.codeIn K cd_End_hear "End.hear" = true)
    (k_End_hear : PySem.W.keepIn K (.ref f_End_hear) = true)
    (a_law_number : PySem.W.nsIn K mainGlobals "_law_number" = some (some (.ref f_law_number)))
    (i_law_number : PySem.W.isFn K (.ref f_law_number) = true)
    (l_law_number : K.lookup f_law_number = some ⟨oc_law_number, od_law_number, .func (PySem.W.fnOf "_law_number" "_law_number" (defArgs s_law_number) (defBody s_law_number) (defScope s_law_number) .none kV_law_number dc_law_number pm_law_number an_law_number cd_law_number ct_law_number), sl_law_number⟩)
    (c_law_number : PySem.W.codeIn K cd_law_number "_law_number" = true)
    (k_law_number : PySem.W.keepIn K (.ref f_law_number) = true)
    (a_law_take : PySem.W.nsIn K mainGlobals "_law_take" = some (some (.ref f_law_take)))
    (i_law_take : PySem.W.isFn K (.ref f_law_take) = true)
    (l_law_take : K.lookup f_law_take = some ⟨oc_law_take, od_law_take, .func (PySem.W.fnOf "_law_take" "_law_take" (defArgs s_law_take) (defBody s_law_take) (defScope s_law_take) .none kV_law_take dc_law_take pm_law_take an_law_take cd_law_take ct_law_take), sl_law_take⟩)
    (c_law_take : PySem.W.codeIn K cd_law_take "_law_take" = true)
    (k_law_take : PySem.W.keepIn K (.ref f_law_take) = true)
    (a_law : PySem.W.nsIn K mainGlobals "law" = some (some (.ref f_law)))
    (i_law : PySem.W.isFn K (.ref f_law) = true)
    (l_law : K.lookup f_law = some ⟨oc_law, od_law, .func (PySem.W.fnOf "law" "law" (defArgs s_law) (defBody s_law) (defScope s_law) .none kV_law dc_law pm_law an_law cd_law ct_law), sl_law⟩)
    (c_law : PySem.W.codeIn K cd_law "law" = true)
    (k_law : PySem.W.keepIn K (.ref f_law) = true)
    (a_WINDOW : PySem.W.nsIn K mainGlobals "WINDOW" = some (some (.int 3 t_WINDOW)))
    (z_abs : PySem.W.nsIn K mainGlobals "abs" = some none)
    (z_any : PySem.W.nsIn K mainGlobals "any" = some none)
    (z_enumerate : PySem.W.nsIn K mainGlobals "enumerate" = some none)
    (z_int : PySem.W.nsIn K mainGlobals "int" = some none)
    (z_len : PySem.W.nsIn K mainGlobals "len" = some none)
    (z_list : PySem.W.nsIn K mainGlobals "list" = some none)
    (z_max : PySem.W.nsIn K mainGlobals "max" = some none)
    (z_range : PySem.W.nsIn K mainGlobals "range" = some none)
    (z_tuple : PySem.W.nsIn K mainGlobals "tuple" = some none)
    : ∃ fd : FuncData, (∀ (s : Shared) (v : Value), BindsTo s fd ⟨[v], []⟩ [("_law_script", v)]) ∧ ∀ base : Heap, K.In base → base.Ns mainGlobals mg → FnOk l.prog w K mg base CX0 3 fa fd ["_law_script"] (spLaw K) := by
  have e := hfa.symm.trans (PySem.W.mg_of X G a_law)
  obtain rfl : f_law = fa := by cases e; rfl
  let T : Tx K mg := {
    C_End := C_End
    f_End_init := f_End_init
    fd_End_init := PySem.W.fnOf "__init__" "End.__init__" (defArgs s_End_init) (defBody s_End_init) (defScope s_End_init) .none kV_End_init dc_End_init pm_End_init an_End_init cd_End_init ct_End_init
    f_End_put := f_End_put
    fd_End_put := PySem.W.fnOf "put" "End.put" (defArgs s_End_put) (defBody s_End_put) (defScope s_End_put) .none kV_End_put dc_End_put pm_End_put an_End_put cd_End_put ct_End_put
    f_End_frames := f_End_frames
    fd_End_frames := PySem.W.fnOf "frames" "End.frames" (defArgs s_End_frames) (defBody s_End_frames) (defScope s_End_frames) .none kV_End_frames dc_End_frames pm_End_frames an_End_frames cd_End_frames ct_End_frames
    f_End_hear := f_End_hear
    fd_End_hear := PySem.W.fnOf "hear" "End.hear" (defArgs s_End_hear) (defBody s_End_hear) (defScope s_End_hear) .none kV_End_hear dc_End_hear pm_End_hear an_End_hear cd_End_hear ct_End_hear
    f_law_number := f_law_number
    fd_law_number := PySem.W.fnOf "_law_number" "_law_number" (defArgs s_law_number) (defBody s_law_number) (defScope s_law_number) .none kV_law_number dc_law_number pm_law_number an_law_number cd_law_number ct_law_number
    f_law_take := f_law_take
    fd_law_take := PySem.W.fnOf "_law_take" "_law_take" (defArgs s_law_take) (defBody s_law_take) (defScope s_law_take) .none kV_law_take dc_law_take pm_law_take an_law_take cd_law_take ct_law_take
    f_law := f_law
    fd_law := PySem.W.fnOf "law" "law" (defArgs s_law) (defBody s_law) (defScope s_law) .none kV_law dc_law pm_law an_law cd_law ct_law
    F_End := ⟨⟨pg_End, hd_End, po_End, sa_End⟩, fun f hf => by
      simp only [List.mem_cons, List.not_mem_nil, or_false] at hf
      rcases hf with rfl | rfl | rfl | rfl
      all_goals assumption⟩
    mg_End := PySem.W.mg_of X G aC_End
    M_End := ⟨mk_End, a_End_init, i_End_init, kc_End⟩
    F_End_init := fun_mk (st := s_End_init) l_End_init c_End_init k_End_init
    k_End_init := k_End_init
    b_End_init := (fun_mk (st := s_End_init) l_End_init c_End_init k_End_init).binds (ps := ["self"]) fun _ _ _ _ _ _ us hl => match us, hl with | [_], _ => rfl
    F_End_put := fun_mk (st := s_End_put) l_End_put c_End_put k_End_put
    k_End_put := k_End_put
    b_End_put := (fun_mk (st := s_End_put) l_End_put c_End_put k_End_put).binds (ps := ["self", "word"]) fun _ _ _ _ _ _ us hl => match us, hl with | [_, _], _ => rfl
    m_End_put := ⟨a_End_put, i_End_put, k_End_put⟩
    F_End_frames := fun_mk (st := s_End_frames) l_End_frames c_End_frames k_End_frames
    k_End_frames := k_End_frames
    b_End_frames := (fun_mk (st := s_End_frames) l_End_frames c_End_frames k_End_frames).binds (ps := ["self"]) fun _ _ _ _ _ _ us hl => match us, hl with | [_], _ => rfl
    m_End_frames := ⟨a_End_frames, i_End_frames, k_End_frames⟩
    F_End_hear := fun_mk (st := s_End_hear) l_End_hear c_End_hear k_End_hear
    k_End_hear := k_End_hear
    b_End_hear := (fun_mk (st := s_End_hear) l_End_hear c_End_hear k_End_hear).binds (ps := ["self", "epoch", "frame"]) fun _ _ _ _ _ _ us hl => match us, hl with | [_, _, _], _ => rfl
    m_End_hear := ⟨a_End_hear, i_End_hear, k_End_hear⟩
    F_law_number := fun_mk (st := s_law_number) l_law_number c_law_number k_law_number
    k_law_number := k_law_number
    b_law_number := (fun_mk (st := s_law_number) l_law_number c_law_number k_law_number).binds (ps := ["_law_script", "_law_index"]) fun _ _ _ _ _ _ us hl => match us, hl with | [_, _], _ => rfl
    mg_law_number := PySem.W.mg_of X G a_law_number
    F_law_take := fun_mk (st := s_law_take) l_law_take c_law_take k_law_take
    k_law_take := k_law_take
    b_law_take := (fun_mk (st := s_law_take) l_law_take c_law_take k_law_take).binds (ps := ["_law_draw", "_law_many"]) fun _ _ _ _ _ _ us hl => match us, hl with | [_, _], _ => rfl
    mg_law_take := PySem.W.mg_of X G a_law_take
    F_law := fun_mk (st := s_law) l_law c_law k_law
    k_law := k_law
    b_law := (fun_mk (st := s_law) l_law c_law k_law).binds (ps := ["_law_script"]) fun _ _ _ _ _ _ us hl => match us, hl with | [_], _ => rfl
    mg_law := PySem.W.mg_of X G a_law
    t_WINDOW := t_WINDOW
    mg_WINDOW := PySem.W.mg_of X G a_WINDOW
    no_abs := PySem.W.mg_none_of X G z_abs
    no_any := PySem.W.mg_none_of X G z_any
    no_enumerate := PySem.W.mg_none_of X G z_enumerate
    no_int := PySem.W.mg_none_of X G z_int
    no_len := PySem.W.mg_none_of X G z_len
    no_list := PySem.W.mg_none_of X G z_list
    no_max := PySem.W.mg_none_of X G z_max
    no_range := PySem.W.mg_none_of X G z_range
    no_tuple := PySem.W.mg_none_of X G z_tuple }
  exact ⟨T.fd_law, fun s v => .of_eq rfl, fun base _ _ => law_ok T⟩
theorem walk {l : PySem.W.OpenLaw} {q : Program} {loose : List Str} {XP : (Str → Option Value) → Heap → Prop} {YP : World → Heap → Prop} {d : DefRec} {K : Params → PySem.W.Frag} (hn : l.most = some 63) (hdf : d.params.defaults = [])
    (hY : ∀ (w : World) (h : Heap), YP w h → (K w.params).In h)
    (F : ∀ (w : World) (mg : Str → Option Value) (fa : Addr) (h : Heap), (K w.params).In h → h.Ns mainGlobals mg → mg d.name = some (.ref fa) →
      ∃ fd : FuncData, (∀ (s : Shared) (u : Value), BindsTo s fd ⟨[u], []⟩ [("_law_script", u)]) ∧ ∀ base : Heap, (K w.params).In base → base.Ns mainGlobals mg → FnOk l.prog w (K w.params) mg base CX0 3 fa fd ["_law_script"] (spLaw (K w.params))) :
    PySem.W.WalkO q loose XP YP l.row.toRowW d [] (fun f vs => PySem.call f vs) :=
  L2.walk_of (n := 63) (k := 3) (x := "_law_script") (CX := fun _ => CX0) (sp := fun w => spLaw (K w.params)) hn (by decide) hdf ⟨rfl, by decide, by decide⟩ hY F (fun _ H a ns hl _ hS => spLaw_intro hl hS) fun _ _ _ _ _ z => z
end Lw
open PySem PySem.W PyProof.Rows
set_option maxRecDepth 100000 in
set_option maxHeartbeats 0 in
theorem PySem.Challenge.cw_mastcalls_k14_whole_ends_holds : PySem.Challenge.rw_mastcalls_k14_whole_ends.Holds := by
  w_on; o_law; k_head; (case hw => w_witness2)
  k_fill
  refine Lw.walk (l := PySem.Challenge.rw_mastcalls_k14_whole_ends) rfl rfl (fun w h Y => PySem.W.kIn_of Y) ?F
  case F =>
    intro w mg fa h KX G hmg
    refine' Lw.all_mk KX G hmg ?aC_End ?pg_End ?hd_End ?po_End ?sa_End ?mk_End ?kc_End ?na_End_0 ?na_End_1 ?na_End_2 ?na_End_3 ?a_End_init ?i_End_init ?l_End_init ?c_End_init ?k_End_init ?a_End_put ?i_End_put ?l_End_put ?c_End_put ?k_End_put ?a_End_frames ?i_End_frames ?l_End_frames ?c_End_frames ?k_End_frames ?a_End_hear ?i_End_hear ?l_End_hear ?c_End_hear ?k_End_hear ?a_law_number ?i_law_number ?l_law_number ?c_law_number ?k_law_number ?a_law_take ?i_law_take ?l_law_take ?c_law_take ?k_law_take ?a_law ?i_law ?l_law ?c_law ?k_law ?a_WINDOW ?z_abs ?z_any ?z_enumerate ?z_int ?z_len ?z_list ?z_max ?z_range ?z_tuple
    (case aC_End => k_is)
    (case pg_End => k_is)
    (case hd_End => k_is)
    (case po_End => k_is)
    (case sa_End => k_is)
    (case mk_End => k_is)
    (case kc_End => k_is)
    (case na_End_0 => k_is)
    (case na_End_1 => k_is)
    (case na_End_2 => k_is)
    (case na_End_3 => k_is)
    (case a_End_init => k_is)
    (case i_End_init => k_is)
    (case l_End_init => k_is)
    (case c_End_init => k_is)
    (case k_End_init => k_is)
    (case a_End_put => k_is)
    (case i_End_put => k_is)
    (case l_End_put => k_is)
    (case c_End_put => k_is)
    (case k_End_put => k_is)
    (case a_End_frames => k_is)
    (case i_End_frames => k_is)
    (case l_End_frames => k_is)
    (case c_End_frames => k_is)
    (case k_End_frames => k_is)
    (case a_End_hear => k_is)
    (case i_End_hear => k_is)
    (case l_End_hear => k_is)
    (case c_End_hear => k_is)
    (case k_End_hear => k_is)
    (case a_law_number => k_is)
    (case i_law_number => k_is)
    (case l_law_number => k_is)
    (case c_law_number => k_is)
    (case k_law_number => k_is)
    (case a_law_take => k_is)
    (case i_law_take => k_is)
    (case l_law_take => k_is)
    (case c_law_take => k_is)
    (case k_law_take => k_is)
    (case a_law => k_is)
    (case i_law => k_is)
    (case l_law => k_is)
    (case c_law => k_is)
    (case k_law => k_is)
    (case a_WINDOW => k_is)
    (case z_abs => k_is)
    (case z_any => k_is)
    (case z_enumerate => k_is)
    (case z_int => k_is)
    (case z_len => k_is)
    (case z_list => k_is)
    (case z_max => k_is)
    (case z_range => k_is)
    (case z_tuple => k_is)
