import PyProof.Rows.All
import Wide.All
import OpenK.AllK
import Wide.FinOn
import HandS.ForMost
import HandS.ForExc
import HandS.Walk
import HandS.Conv
import HandS.TupAny
import HandS.IsInst
import HandS.Flow
import HandS.Deep
import KE.DataFind
import HandS.Zip
import KE.GoesMore
import HandS.TupLe
import HandS.SortOrd
import HandS.SortInts
import OpenK.KWalk
import OpenK.KOps
import KE.KFmtOwn
import PyProof.InstNe
import HandS.TupSets
import HandS.Strs
import KE.DataMinMax
import KE.SortData
import KE.KTupSum
import HandS.ExcIs
import HandS.TryMany
import HandS.TupMul
import HandS.Exc
import HandS.Codes
import HandS.OwnEq
import HandS.Text
import HandS.FStr
import HandS.RaiseMore
import HandS.ExcInit
import HandS.ExcField
import HandS.Replace
import PySem.Challenge.RW_markedpaths_k10_text
set_option Elab.async false
set_option linter.all false
set_option maxRecDepth 100000
/-! # A functional reading: what an expression or a block computes over plain data -/
namespace FE
open PySem L2

/-! ## heaps -/
def Ex (H H' : Hp) : Prop := ∀ a o, H a = some o → H' a = some o
theorem Ex.refl (H : Hp) : Ex H H := fun _ _ h => h
theorem Ex.trans {H H1 H2 : Hp} (a : Ex H H1) (b : Ex H1 H2) : Ex H H2 := fun x o h => b x o (a x o h)
theorem Ex.new {H : Hp} {p : Addr} {o : HO} (h : H p = none) : Ex H (upd H p o) := fun a u e => by
  rw [upd_ne (ne_of_none e h)]
  exact e
theorem Ex.mut {H H' : Hp} {p : Addr} {o : HO} (e : Ex H H') (h : H p = none) : Ex H (upd H' p o) := fun a u ha => by
  rw [upd_ne (ne_of_none ha h)]
  exact e a u ha
theorem Ex.back {H H' : Hp} {p : Addr} (e : Ex H H') (h : H' p = none) : H p = none := by
  cases h1 : H p with
  | none => rfl
  | some o =>
    rw [e p o h1] at h
    cases h
theorem ex_rd {H H' : Hp} {a : Addr} {u : HO} (e : Ex H H') (h : Rd H a u) : Rd H' a u := by
  rcases h with h | ⟨o, h⟩
  · exact Or.inl (e a _ h)
  · exact Or.inr ⟨o, e a _ h⟩
theorem ex_l {K : PySem.W.Frag} {H H' : Hp} {a : Addr} {xs : List V} (e : Ex H H') (h : SqL K H a xs) : SqL K H' a xs := by
  rcases h with h | h
  · exact Or.inl (ex_rd e h)
  · exact Or.inr h
theorem ex_t {K : PySem.W.Frag} {H H' : Hp} {a : Addr} {xs : List V} (e : Ex H H') (h : SqT K H a xs) : SqT K H' a xs := by
  rcases h with h | h
  · exact Or.inl (ex_rd e h)
  · exact Or.inr h
abbrev D := PyData
variable {K : PySem.W.Frag}
mutual
theorem Dp.ex {H H' : Hp} (e : Ex H H') : ∀ (d : D) {v : V}, Dp K H v d → Dp K H' v d
  | .none, _, h => by cases h; exact .non
  | .bool _, _, h => by cases h; exact .bl _
  | .int _, _, h => by cases h; exact .int _
  | .str _, _, h => by cases h; exact .str _
  | .list ds, _, h => by
    cases h with
    | lst h1 h2 => exact .lst (ex_l e h1) (DpAll.ex e ds h2)
  | .tuple ds, _, h => by
    cases h with
    | tup h1 h2 => exact .tup (ex_t e h1) (DpAll.ex e ds h2)
  | .dict _, _, h => by cases h
theorem DpAll.ex {H H' : Hp} (e : Ex H H') : ∀ (ds : List D) {vs : List V}, DpAll K H vs ds → DpAll K H' vs ds
  | [], _, h => by cases h; exact .nil
  | d :: ds, _, h => by
    cases h with
    | cons h1 h2 => exact .cons (Dp.ex e d h1) (DpAll.ex e ds h2)
end
theorem DpAll.len {H : Hp} : ∀ {vs : List V} {ds : List D}, DpAll K H vs ds → vs.length = ds.length
  | _, _, .nil => rfl
  | _, _, .cons _ t => by simp [DpAll.len t]
theorem DpAll.get {H : Hp} : ∀ {vs : List V} {ds : List D} {i : Nat} {d : D}, DpAll K H vs ds → ds[i]? = some d → ∃ v, vs[i]? = some v ∧ Dp K H v d
  | _, _, _, _, .nil, e => by simp at e
  | _, _, 0, _, .cons h t, e => by simp at e; subst e; exact ⟨_, rfl, h⟩
  | _, _, i + 1, d, .cons _ t, e => by
    obtain ⟨v, h1, h2⟩ := DpAll.get (i := i) (d := d) t (by simpa using e)
    exact ⟨v, by simpa using h1, h2⟩
theorem DpAll.getV {H : Hp} : ∀ {vs : List V} {ds : List D} {i : Nat} {v : V}, DpAll K H vs ds → vs[i]? = some v → ∃ d, ds[i]? = some d ∧ Dp K H v d
  | _, _, _, _, .nil, e => by simp at e
  | _, _, 0, _, .cons h t, e => by simp at e; subst e; exact ⟨_, rfl, h⟩
  | _, _, i + 1, d, .cons _ t, e => by
    obtain ⟨v, h1, h2⟩ := DpAll.getV (i := i) (v := d) t (by simpa using e)
    exact ⟨v, by simpa using h1, h2⟩
theorem DpAll.app {H : Hp} : ∀ {vs ws : List V} {ds es : List D}, DpAll K H vs ds → DpAll K H ws es → DpAll K H (vs ++ ws) (ds ++ es)
  | _, _, _, _, .nil, s => s
  | _, _, _, _, .cons h t, s => .cons h (DpAll.app t s)
theorem DpAll.tk {H : Hp} : ∀ {vs : List V} {ds : List D} (n : Nat), DpAll K H vs ds → DpAll K H (vs.take n) (ds.take n)
  | _, _, 0, _ => by simpa using DpAll.nil
  | _, _, n + 1, .nil => by simpa using DpAll.nil
  | _, _, n + 1, .cons h t => by simpa using DpAll.cons h (DpAll.tk n t)
theorem DpAll.dr {H : Hp} : ∀ {vs : List V} {ds : List D} (n : Nat), DpAll K H vs ds → DpAll K H (vs.drop n) (ds.drop n)
  | _, _, 0, h => by simpa using h
  | _, _, n + 1, .nil => by simpa using DpAll.nil
  | _, _, n + 1, .cons h t => by simpa using DpAll.dr n t
theorem DpAll.rev {H : Hp} : ∀ {vs : List V} {ds : List D}, DpAll K H vs ds → DpAll K H vs.reverse ds.reverse
  | _, _, .nil => .nil
  | _, _, .cons h t => by
    rw [List.reverse_cons, List.reverse_cons]
    exact DpAll.app (DpAll.rev t) (.cons h .nil)

/-- the lasting part G of H grows to G', H to H'; nothing of H that was not lasting becomes so -/
structure Ext (G H G' H' : Hp) : Prop where
  g : Ex G G'
  h : Ex H H'
  gh : Ex G' H'
  new : ∀ a, G a = none → H a ≠ none → G' a = none
theorem Ext.refl {G H : Hp} (e : Ex G H) : Ext G H G H := ⟨Ex.refl _, Ex.refl _, e, fun _ h _ => h⟩
theorem Ext.trans {G H G1 H1 G2 H2 : Hp} (a : Ext G H G1 H1) (b : Ext G1 H1 G2 H2) : Ext G H G2 H2 :=
  ⟨a.g.trans b.g, a.h.trans b.h, b.gh, fun x h1 h2 => b.new x (a.new x h1 h2) (fun z => h2 (a.h.back z))⟩
/-- a new lasting object -/
theorem Ext.lay {G H : Hp} {p : Addr} {o : HO} (e : Ex G H) (hp : H p = none) : Ext G H (upd G p o) (upd H p o) := by
  refine ⟨Ex.new (e.back hp), Ex.new hp, fun a u h => ?_, fun a h1 h2 => ?_⟩
  · by_cases z : a = p
    · subst z; rw [upd_same] at h; rw [upd_same]; exact h
    · rw [upd_ne z] at h ⊢; exact e a u h
  · have z : a ≠ p := fun z => h2 (by rw [z]; exact hp)
    rw [upd_ne z]; exact h1
/-- a new object that may yet change -/
theorem Ext.own {G H : Hp} {p : Addr} {o : HO} (e : Ex G H) (hp : H p = none) : Ext G H G (upd H p o) :=
  ⟨Ex.refl _, Ex.new hp, Ex.mut e (e.back hp), fun _ h _ => h⟩

/-! ## results -/
/-- an exception: which class, what its line says -/
structure Exn where
  k : Nat
  line : Option D
inductive R (α : Type) where
  | ok (a : α)
  | exc (e : Exn)
  | bad
def R.bind {α β : Type} : R α → (α → R β) → R β
  | .ok a, f => f a
  | .exc e, _ => .exc e
  | .bad, _ => .bad
instance : Monad R where
  pure := fun a => .ok a
  bind := R.bind

/-- a planner: its fields; nd: the graph's tuple of edges is known -/
structure ObD where
  g : D
  m : D
  ch : D
  kept : D
  nd : Bool
/-- a slot: lasting data; an own list that may yet change; a value as it is -/
inductive SV where
  | sh (d : D)
  /-- lasting data, a graph: its tuple of edges is a known object without a dict -/
  | gr (d : D)
  | ow (ds : List D)
  | raw (v : V)
  /-- a caught error at a, its dict at dd, which says the line -/
  | xr (a dd : Addr) (l : D)
  /-- a planner of this def's own -/
  | ob (P : ObD)
  /-- a planner that is only looked at -/
  | rd (P : ObD)
abbrev Rho := List (Option SV)
/-- v is a pair, its second item a known tuple without a dict -/
def GrV (K : PySem.W.Frag) (G : Hp) (v : V) (d : D) : Prop := ∃ (a : Addr) (x : V) (q : Addr) (o : Obj) (vs : List V) (n : D) (es : List D), v = .ref a ∧ d = .tuple [n, .tuple es] ∧ SqT K G a [x, .ref q] ∧ G q = some (.frz o (.tup vs)) ∧ o.cls = .type "tuple" ∧ o.dict = none ∧ DpAll K G vs es
theorem GrV.ex {K : PySem.W.Frag} {G G' : Hp} {v : V} {d : D} (h : GrV K G v d) (e : Ex G G') : GrV K G' v d := by
  obtain ⟨a, x, q, o, vs, n, es, h0, h1, h2, h3, h4, h5, h6⟩ := h
  exact ⟨a, x, q, o, vs, n, es, h0, h1, ex_t e h2, e q _ h3, h4, h5, DpAll.ex e _ h6⟩
/-- C is the class of planners -/
def IsPl (K : PySem.W.Frag) (C : Addr) : Prop := PySem.W.nsIn K mainGlobals "Planner" = some (some (.ref C))
theorem IsPl.uniq {K : PySem.W.Frag} {C C' : Addr} (h : IsPl K C) (h' : IsPl K C') : C = C' := by
  unfold IsPl at h h'
  rw [h] at h'
  cases h'
  rfl
def ObOk (K : PySem.W.Frag) (G H : Hp) (p : Addr) (P : ObD) : Prop := ∃ (dx : Addr) (vg vm vc vk : V) (C : Addr), IsPl K C ∧ G p = none ∧ H p = some (.ins C dx [("graph", vg), ("marks", vm), ("chosen", vc), ("kept", vk)]) ∧ H dx = some (.own p) ∧
  Dp K G vg P.g ∧ (P.nd = true → GrV K G vg P.g) ∧ Dp K G vm P.m ∧ Dp K G vc P.ch ∧ Dp K G vk P.kept
theorem ObOk.ext {K : PySem.W.Frag} {G H G' H' : Hp} {p : Addr} {P : ObD} (e : Ext G H G' H') (h : ObOk K G H p P) : ObOk K G' H' p P := by
  obtain ⟨dx, vg, vm, vc, vk, C, hc, h1, h2, h3, h4, h5, h6, h7, h8⟩ := h
  exact ⟨dx, vg, vm, vc, vk, C, hc, e.new p h1 (by rw [h2]; simp), e.h p _ h2, e.h dx _ h3, Dp.ex e.g _ h4, fun z => (h5 z).ex e.g, Dp.ex e.g _ h6, Dp.ex e.g _ h7, Dp.ex e.g _ h8⟩
/-- another object is written -/
theorem ObOk.other {K : PySem.W.Frag} {G H : Hp} {p q : Addr} {P : ObD} {o : HO} (h : ObOk K G H p P) (hq : H q = none ∨ ∃ ws, H q = some (.lst ws)) : ObOk K G (upd H q o) p P := by
  obtain ⟨dx, vg, vm, vc, vk, C, hc, h1, h2, h3, h4⟩ := h
  have n1 : p ≠ q := fun z => by subst z; rcases hq with w | ⟨ws, w⟩ <;> (rw [h2] at w; cases w)
  have n2 : dx ≠ q := fun z => by subst z; rcases hq with w | ⟨ws, w⟩ <;> (rw [h3] at w; cases w)
  exact ⟨dx, vg, vm, vc, vk, C, hc, h1, by rw [upd_ne n1]; exact h2, by rw [upd_ne n2]; exact h3, h4⟩
def SvOk (K : PySem.W.Frag) (G H : Hp) : Option SV → Option V → Prop
  | none, _ => True
  | some (.sh d), x => ∃ v, x = some v ∧ Dp K G v d
  | some (.gr d), x => ∃ v, x = some v ∧ Dp K G v d ∧ GrV K G v d
  | some (.ow ds), x => ∃ p vs, x = some (.ref p) ∧ G p = none ∧ H p = some (.lst vs) ∧ DpAll K G vs ds
  | some (.raw v), x => x = some v
  | some (.xr a dd l), x => x = some (.ref a) ∧ ∃ v, G dd = some (.xd [("line", v)]) ∧ Dp K G v l
  | some (.ob P), x => ∃ p, x = some (.ref p) ∧ ObOk K G H p P
  | some (.rd P), x => ∃ p, x = some (.ref p) ∧ ObOk K G H p P
def isOw : Option SV → Bool
  | some (.ow _) => true
  | some (.ob _) => true
  | some (.rd _) => true
  | _ => false
/-- made since the def began -/
def isOn : Option SV → Bool
  | some (.ow _) => true
  | some (.ob _) => true
  | _ => false
theorem isOn_ow {o : Option SV} (h : isOn o = true) : isOw o = true := by
  unfold isOn at h
  split at h
  · rfl
  · rfl
  · cases h
theorem isOn_no {o : Option SV} (h : isOw o = false) : isOn o = false := by
  cases q : isOn o with
  | false => rfl
  | true => rw [isOn_ow q] at h; cases h
structure EnvOk (K : PySem.W.Frag) (G H : Hp) (σ : L2.St) (ρ : Rho) : Prop where
  ext : Ex G H
  len : σ.length = ρ.length
  at_ : ∀ (i : Nat) (o : Option SV), ρ[i]? = some o → ∃ x, σ[i]? = some x ∧ SvOk K G H o x
  sep : ∀ (i j : Nat) (o u : Option SV) (p : Addr), i ≠ j → ρ[i]? = some o → ρ[j]? = some u → isOw o = true → isOw u = true → σ[i]? = some (some (.ref p)) → σ[j]? ≠ some (some (.ref p))
theorem SvOk.ext {G H G' H' : Hp} (e : Ext G H G' H') : ∀ {o : Option SV} {x : Option V}, SvOk K G H o x → SvOk K G' H' o x
  | none, _, _ => trivial
  | some (.sh d), _, ⟨v, h, k⟩ => ⟨v, h, Dp.ex e.g d k⟩
  | some (.gr d), _, ⟨v, h, k, g⟩ => ⟨v, h, Dp.ex e.g d k, g.ex e.g⟩
  | some (.ow ds), _, ⟨p, vs, h, g, k, l⟩ => ⟨p, vs, h, e.new p g (by rw [k]; simp), e.h p _ k, DpAll.ex e.g ds l⟩
  | some (.raw v), _, h => h
  | some (.xr a dd l), _, ⟨h, v, k, d⟩ => ⟨h, v, e.g dd _ k, Dp.ex e.g l d⟩
  | some (.ob P), _, ⟨p, h, k⟩ => ⟨p, h, k.ext e⟩
  | some (.rd P), _, ⟨p, h, k⟩ => ⟨p, h, k.ext e⟩
theorem EnvOk.mono {G H G' H' : Hp} {σ : L2.St} {ρ : Rho} (k : EnvOk K G H σ ρ) (e : Ext G H G' H') : EnvOk K G' H' σ ρ :=
  ⟨e.gh, k.len, fun i o h => let ⟨x, h1, h2⟩ := k.at_ i o h; ⟨x, h1, h2.ext e⟩, k.sep⟩
theorem EnvOk.sh {G H : Hp} {σ : L2.St} {ρ : Rho} {i : Nat} {d : D} (k : EnvOk K G H σ ρ) (h : ρ[i]? = some (some (.sh d))) : ∃ v, σ[i]? = some (some v) ∧ Dp K G v d := by
  obtain ⟨x, h1, v, h2, h3⟩ := k.at_ i _ h
  exact ⟨v, by rw [h1, h2], h3⟩
theorem EnvOk.gr {G H : Hp} {σ : L2.St} {ρ : Rho} {i : Nat} {d : D} (k : EnvOk K G H σ ρ) (h : ρ[i]? = some (some (.gr d))) : ∃ v, σ[i]? = some (some v) ∧ Dp K G v d ∧ GrV K G v d := by
  obtain ⟨x, h1, v, h2, h3⟩ := k.at_ i _ h
  exact ⟨v, by rw [h1, h2], h3⟩
theorem EnvOk.ow {G H : Hp} {σ : L2.St} {ρ : Rho} {i : Nat} {ds : List D} (k : EnvOk K G H σ ρ) (h : ρ[i]? = some (some (.ow ds))) : ∃ p vs, σ[i]? = some (some (.ref p)) ∧ G p = none ∧ H p = some (.lst vs) ∧ DpAll K G vs ds := by
  obtain ⟨x, h1, p, vs, h2, h3⟩ := k.at_ i _ h
  exact ⟨p, vs, by rw [h1, h2], h3⟩
theorem EnvOk.rd {G H : Hp} {σ : L2.St} {ρ : Rho} {i : Nat} {P : ObD} (k : EnvOk K G H σ ρ) (h : ρ[i]? = some (some (.rd P))) : ∃ p, σ[i]? = some (some (.ref p)) ∧ ObOk K G H p P := by
  obtain ⟨x, h1, p, h2, h3⟩ := k.at_ i _ h
  exact ⟨p, by rw [h1, h2], h3⟩
theorem EnvOk.ob {G H : Hp} {σ : L2.St} {ρ : Rho} {i : Nat} {P : ObD} (k : EnvOk K G H σ ρ) (h : ρ[i]? = some (some (.ob P))) : ∃ p, σ[i]? = some (some (.ref p)) ∧ ObOk K G H p P := by
  obtain ⟨x, h1, p, h2, h3⟩ := k.at_ i _ h
  exact ⟨p, by rw [h1, h2], h3⟩
theorem EnvOk.xr {G H : Hp} {σ : L2.St} {ρ : Rho} {i : Nat} {a dd : Addr} {l : D} (k : EnvOk K G H σ ρ) (h : ρ[i]? = some (some (.xr a dd l))) : σ[i]? = some (some (.ref a)) ∧ ∃ v, G dd = some (.xd [("line", v)]) ∧ Dp K G v l := by
  obtain ⟨x, h1, h2, h3⟩ := k.at_ i _ h
  exact ⟨by rw [h1]; exact congrArg some h2, h3⟩
theorem EnvOk.raw {G H : Hp} {σ : L2.St} {ρ : Rho} {i : Nat} {v : V} (k : EnvOk K G H σ ρ) (h : ρ[i]? = some (some (.raw v))) : σ[i]? = some (some v) := by
  obtain ⟨x, h1, h2⟩ := k.at_ i _ h
  rw [h1]; exact congrArg some h2
/-- a slot is stored: anything that is no own list of another slot -/
theorem EnvOk.set {G H : Hp} {σ : L2.St} {ρ : Rho} {i : Nat} {o : Option SV} {x : Option V} (k : EnvOk K G H σ ρ) (h : SvOk K G H o x)
    (hs : isOw o = true → ∀ (j : Nat) (u : Option SV) (p : Addr), j ≠ i → ρ[j]? = some u → isOw u = true → x = some (.ref p) → σ[j]? ≠ some (some (.ref p))) : EnvOk K G H (σ.set i x) (ρ.set i o) := by
  refine ⟨k.ext, by simp [k.len], fun j u hj => ?_, fun j l u w p hne hj hl ou ow hjp hlp => ?_⟩
  · by_cases z : i = j
    · subst z
      by_cases hi : i < ρ.length
      · rw [List.getElem?_set_self hi] at hj
        cases hj
        exact ⟨x, List.getElem?_set_self (by rw [k.len]; exact hi), h⟩
      · rw [List.getElem?_eq_none (by simpa using hi)] at hj; cases hj
    · rw [List.getElem?_set_ne z] at hj
      obtain ⟨y, h1, h2⟩ := k.at_ j u hj
      exact ⟨y, by rw [List.getElem?_set_ne z]; exact h1, h2⟩
  · by_cases zj : i = j
    · subst zj
      have zl : i ≠ l := hne
      rw [List.getElem?_set_ne zl] at hl hlp
      by_cases hi : i < ρ.length
      · rw [List.getElem?_set_self hi] at hj
        cases hj
        rw [List.getElem?_set_self (by rw [k.len]; exact hi)] at hjp
        exact hs ou l w p (fun z => zl z.symm) hl ow (Option.some.inj hjp) hlp
      · rw [List.getElem?_eq_none (by simpa using hi)] at hj; cases hj
    · rw [List.getElem?_set_ne zj] at hj hjp
      by_cases zl : i = l
      · subst zl
        by_cases hi : i < ρ.length
        · rw [List.getElem?_set_self hi] at hl
          cases hl
          rw [List.getElem?_set_self (by rw [k.len]; exact hi)] at hlp
          exact hs ow j u p (fun z => zj z.symm) hj ou (Option.some.inj hlp) hjp
        · rw [List.getElem?_eq_none (by simpa using hi)] at hl; cases hl
      · rw [List.getElem?_set_ne zl] at hl hlp
        exact k.sep j l u w p hne hj hl ou ow hjp hlp
/-- less may be known of a slot -/
theorem EnvOk.forget {G H : Hp} {σ : L2.St} {ρ : Rho} {i : Nat} (k : EnvOk K G H σ ρ) : EnvOk K G H σ (ρ.set i none) := by
  refine ⟨k.ext, by simp [k.len], fun j u hj => ?_, fun j l u w p hne hj hl ou ow hjp hlp => ?_⟩
  · by_cases z : i = j
    · subst z
      by_cases hi : i < ρ.length
      · rw [List.getElem?_set_self hi] at hj
        cases hj
        have hi' : i < σ.length := by rw [k.len]; exact hi
        exact ⟨σ[i], List.getElem?_eq_getElem hi', trivial⟩
      · rw [List.getElem?_eq_none (by simpa using hi)] at hj; cases hj
    · rw [List.getElem?_set_ne z] at hj
      exact k.at_ j u hj
  · have no : ∀ {m : Nat} {y : Option SV}, (ρ.set i none)[m]? = some y → isOw y = true → ρ[m]? = some y := fun {m y} hm hy => by
      by_cases z : i = m
      · subst z
        by_cases hi : i < ρ.length
        · rw [List.getElem?_set_self hi] at hm; cases hm; cases hy
        · rw [List.getElem?_eq_none (by simpa using hi)] at hm; cases hm
      · rw [List.getElem?_set_ne z] at hm; exact hm
    exact k.sep j l u w p hne (no hj ou) (no hl ow) ou ow hjp hlp
end FE

namespace FE
open PySem L2

/-! ## readings -/
abbrev CA := Nat → Addr
def ExcAt (K : PySem.W.Frag) (ca : CA) (G H : Hp) (e : Exn) (c : Value) (d : Option Addr) : Prop :=
  c = .ref (ca e.k) ∧ match e.line with
    | none => d = none
    | some x => ∃ dd v, d = some dd ∧ G dd = some (.xd [("line", v)]) ∧ Dp K G v x
/-- what is wanted of a result -/
def ARes {α : Type} (K : PySem.W.Frag) (ca : CA) (W : WX) (σ : L2.St) (G H : Hp) (k : α → Prop) : R α → Prop
  | .ok a => k a
  | .exc e => ∀ c dd G' H', Ext G H G' H' → ExcAt K ca G' H' e c dd → W c dd σ H'
  | .bad => False
theorem ARes.bind {α β : Type} {K : PySem.W.Frag} {ca : CA} {W : WX} {σ : L2.St} {G H : Hp} {k : β → Prop} {x : R α} {f : α → R β} (h : ARes K ca W σ G H k (x >>= f)) :
    ARes K ca W σ G H (fun a => ARes K ca W σ G H k (f a)) x := by
  cases x with
  | ok a => exact h
  | exc e => exact h
  | bad => exact h
theorem ARes.mono {α : Type} {K : PySem.W.Frag} {ca : CA} {W : WX} {σ : L2.St} {G H G' H' : Hp} {k k' : α → Prop} {x : R α} (e : Ext G H G' H') (h : ARes K ca W σ G H k x) (hk : ∀ a, k a → k' a) : ARes K ca W σ G' H' k' x := by
  cases x with
  | ok a => exact hk a h
  | exc z => exact fun c dd G2 H2 e2 q => h c dd G2 H2 (e.trans e2) q
  | bad => exact h
theorem ARes.imp {α : Type} {K : PySem.W.Frag} {ca : CA} {W : WX} {σ : L2.St} {G H : Hp} {k k' : α → Prop} {x : R α} (h : ARes K ca W σ G H k x) (hk : ∀ a, k a → k' a) : ARes K ca W σ G H k' x := by
  cases x with
  | ok a => exact hk a h
  | exc z => exact h
  | bad => exact h
def R.of {α : Type} : Option α → R α
  | some a => .ok a
  | none => .bad

/-- v is d, its top object known to H alone -/
def DpB (K : PySem.W.Frag) (G H : Hp) (v : V) : D → Prop
  | .list ds => ∃ p vs, v = .ref p ∧ SqL K H p vs ∧ DpAll K G vs ds
  | d => Dp K G v d
section
variable {K : PySem.W.Frag} {G H G' H' : Hp} {v : V} {d : D}
theorem DpB.of (e : Ex G H) : ∀ {d : D}, Dp K G v d → DpB K G H v d
  | .none, h => h
  | .bool _, h => h
  | .int _, h => h
  | .str _, h => h
  | .list ds, h => by
    cases h with
    | lst h1 h2 => exact ⟨_, _, rfl, ex_l e h1, h2⟩
  | .tuple ds, h => h
  | .dict _, h => by cases h
theorem DpB.dp (e : Ex G H) : ∀ {d : D}, DpB K G H v d → Dp K H v d
  | .none, h => Dp.ex e _ h
  | .bool _, h => Dp.ex e _ h
  | .int _, h => Dp.ex e _ h
  | .str _, h => Dp.ex e _ h
  | .list ds, ⟨p, vs, h1, h2, h3⟩ => by
    subst h1
    exact .lst h2 (DpAll.ex e ds h3)
  | .tuple ds, h => Dp.ex e _ h
  | .dict _, h => by cases h
theorem DpB.ex (eg : Ex G G') (eh : Ex H H') : ∀ {d : D}, DpB K G H v d → DpB K G' H' v d
  | .none, h => Dp.ex eg _ h
  | .bool _, h => Dp.ex eg _ h
  | .int _, h => Dp.ex eg _ h
  | .str _, h => Dp.ex eg _ h
  | .list ds, ⟨p, vs, h1, h2, h3⟩ => ⟨p, vs, h1, ex_l eh h2, DpAll.ex eg ds h3⟩
  | .tuple ds, h => Dp.ex eg _ h
  | .dict _, h => by cases h
end

/-- lasting data; data whose top is borrowed; a new list that is the taker's own; a truth; arguments -/
def tSem (K : PySem.W.Frag) (ca : CA) (W : WX) (f : Rho → R D) : TE := fun σ H Q => ∃ G ρ, EnvOk K G H σ ρ ∧
  ARes K ca W σ G H (fun d => ∀ v G' H', Ext G H G' H' → Dp K G' v d → Q v H') (f ρ)
def tSemB (K : PySem.W.Frag) (ca : CA) (W : WX) (f : Rho → R D) : TE := fun σ H Q => ∃ G ρ, EnvOk K G H σ ρ ∧
  ARes K ca W σ G H (fun d => ∀ v G' H', Ext G H G' H' → DpB K G' H' v d → Q v H') (f ρ)
def tSemL (K : PySem.W.Frag) (ca : CA) (W : WX) (f : Rho → R (List D)) : TE := fun σ H Q => ∃ G ρ, EnvOk K G H σ ρ ∧
  ARes K ca W σ G H (fun ds => ∀ p vs G' H', Ext G H G' H' → H p = none → G' p = none → H' p = some (.lst vs) → DpAll K G' vs ds → Q (.ref p) H') (f ρ)
def tSemT (K : PySem.W.Frag) (ca : CA) (W : WX) (f : Rho → R Bool) : TT := fun σ H Q => ∃ G ρ, EnvOk K G H σ ρ ∧
  ARes K ca W σ G H (fun b => ∀ G' H', Ext G H G' H' → Q b H') (f ρ)
def tSemA (K : PySem.W.Frag) (ca : CA) (W : WX) (f : Rho → R (List D)) : TA := fun σ H Q => ∃ G ρ, EnvOk K G H σ ρ ∧
  ARes K ca W σ G H (fun ds => ∀ vs G' H', Ext G H G' H' → DpAll K G' vs ds → Q vs H') (f ρ)
abbrev FE (X : Cx) (ca : CA) (W : WX) (f : Rho → R D) (e : Expr) : Prop := PE X e (tSem X.K ca W f)
abbrev FB (X : Cx) (ca : CA) (W : WX) (f : Rho → R D) (e : Expr) : Prop := PE X e (tSemB X.K ca W f)
abbrev FL (X : Cx) (ca : CA) (W : WX) (f : Rho → R (List D)) (e : Expr) : Prop := PE X e (tSemL X.K ca W f)
abbrev FT (X : Cx) (ca : CA) (W : WX) (f : Rho → R Bool) (e : Expr) : Prop := PT X e (tSemT X.K ca W f)
abbrev FA (X : Cx) (ca : CA) (W : WX) (f : Rho → R (List D)) (es : List Expr) : Prop := PA X es (tSemA X.K ca W f)

section
variable {X : Cx} {ca : CA} {W : WX} {e a b : Expr} {es : List Expr} {pos : Pos}
theorem PEimp {t t' : TE} (h : PE X e t) (k : ∀ σ H Q, t' σ H Q → t σ H Q) : PE X e t' := ⟨fun pins s σ H Q I q => h.run pins s σ H Q I (k σ H Q q)⟩
theorem PTimp {t t' : TT} (h : PT X e t) (k : ∀ σ H Q, t' σ H Q → t σ H Q) : PT X e t' := ⟨fun pins s σ H Q I q => h.run pins s σ H Q I (k σ H Q q)⟩
theorem PAimp {t t' : TA} (h : PA X es t) (k : ∀ σ H Q, t' σ H Q → t σ H Q) : PA X es t' := ⟨fun pos pins s σ H Q I q => h.run pos pins s σ H Q I (k σ H Q q)⟩
/-- the semantics is what it is equal to -/
theorem FEeq {f g : Rho → R D} (h : FE X ca W f e) (k : ∀ ρ, f ρ = g ρ) : FE X ca W g e := by
  have z : f = g := funext k
  rw [← z]; exact h
theorem fb_fe {f : Rho → R D} (h : FE X ca W f e) : FB X ca W f e := PEimp h fun σ H Q ⟨G, ρ, env, q⟩ =>
  ⟨G, ρ, env, q.imp fun d k v G' H' e dv => k v G' H' e (DpB.of e.gh dv)⟩
theorem fe_fl {f : Rho → R (List D)} (h : FL X ca W f e) : FE X ca W (fun ρ => do let ds ← f ρ; pure (.list ds)) e := PEimp h fun σ H Q ⟨G, ρ, env, q⟩ =>
  ⟨G, ρ, env, q.bind.imp fun ds k p vs G' H' e hp gp hl dv => by
    refine k (.ref p) (upd G' p (.lst vs)) H' ⟨fun x o hx => ?_, e.h, fun x o hx => ?_, fun x h1 h2 => ?_⟩ (.lst (Or.inl (Or.inl upd_same)) (DpAll.ex (Ex.new gp) ds dv))
    · rw [upd_ne (ne_of_none (e.g x o hx) gp)]; exact e.g x o hx
    · by_cases z : x = p
      · subst z; rw [upd_same] at hx; rw [hl, hx]
      · rw [upd_ne z] at hx; exact e.gh x o hx
    · have z : x ≠ p := fun z => h2 (by rw [z]; exact hp)
      rw [upd_ne z]; exact e.new x h1 h2⟩
theorem fb_fl {f : Rho → R (List D)} (h : FL X ca W f e) : FB X ca W (fun ρ => do let ds ← f ρ; pure (.list ds)) e := fb_fe (fe_fl h)

/-! ## names and constants -/
def gv (i : Nat) (ρ : Rho) : R D := match ρ[i]? with
  | some (some (.sh d)) => .ok d
  | some (some (.gr d)) => .ok d
  | _ => .bad
def go (i : Nat) (ρ : Rho) : R D := match ρ[i]? with
  | some (some (.ow ds)) => .ok (.list ds)
  | _ => .bad
theorem fe_var {i : Nat} (h : PE X e (tVar i)) : FE X ca W (gv i) e := PEimp h fun σ H Q ⟨G, ρ, env, q⟩ => by
  unfold gv at q
  split at q
  · rename_i d hd
    obtain ⟨v, h1, h2⟩ := env.sh hd
    exact ⟨v, h1, q v G H (Ext.refl env.ext) h2⟩
  · rename_i d hd
    obtain ⟨v, h1, h2, _⟩ := env.gr hd
    exact ⟨v, h1, q v G H (Ext.refl env.ext) h2⟩
  · exact q.elim
theorem fb_own {i : Nat} (h : PE X e (tVar i)) : FB X ca W (go i) e := PEimp h fun σ H Q ⟨G, ρ, env, q⟩ => by
  unfold go at q
  split at q
  · rename_i d hd
    obtain ⟨p, vs, h1, h2, h3, h4⟩ := env.ow hd
    exact ⟨.ref p, h1, q (.ref p) G H (Ext.refl env.ext) ⟨p, vs, rfl, Or.inl (Or.inl h3), h4⟩⟩
  · exact q.elim
theorem fe_c {v : V} {d : D} (h : PE X e (tC v)) (hd : ∀ G, Dp X.K G v d) : FE X ca W (fun _ => .ok d) e := PEimp h fun σ H Q ⟨G, ρ, env, q⟩ => q v G H (Ext.refl env.ext) (hd G)
theorem fe_int {i : Int} {j} : FE X ca W (fun _ => .ok (.int i)) (.Constant (.int i) j pos) := fe_c pe_int fun _ => .int _
theorem fe_bl {i : Bool} {j} : FE X ca W (fun _ => .ok (.bool i)) (.Constant (.bool i) j pos) := fe_c pe_bl fun _ => .bl _
theorem fe_non {j} : FE X ca W (fun _ => .ok .none) (.Constant .none j pos) := fe_c pe_non fun _ => .non
theorem fe_str {i : Str} {j} : FE X ca W (fun _ => .ok (.str i)) (.Constant (.str i) j pos) := fe_c pe_str fun _ => .str _
theorem fe_gint {x : Str} {i : Int} (hg : Gl X x) (hm : ∃ t, X.mg x = some (.int i t)) (hd : (x == ("__debug__" : Str)) = false := by decide) : FE X ca W (fun _ => .ok (.int i)) (.Name x pos) := by
  obtain ⟨t, hm⟩ := hm
  exact fe_c (pe_glob (v := .int i) hg hm ⟨t, rfl⟩ hd) fun _ => .int _
theorem fe_gstr {x : Str} {i : Str} (hg : Gl X x) (hm : ∃ t, X.mg x = some (.str i t)) (hd : (x == ("__debug__" : Str)) = false := by decide) : FE X ca W (fun _ => .ok (.str i)) (.Name x pos) := by
  obtain ⟨t, hm⟩ := hm
  exact fe_c (pe_glob (v := .str i) hg hm ⟨t, rfl⟩ hd) fun _ => .str _

/-! ## arguments, displays -/
theorem fa_nil : FA X ca W (fun _ => .ok []) [] := PAimp pa_nil fun σ H Q ⟨G, ρ, env, q⟩ => q [] G H (Ext.refl env.ext) .nil
theorem fa_cons {f : Rho → R D} {g : Rho → R (List D)} (ha : FE X ca W f e) (hr : FA X ca W g es) (hs : starEach (e :: es) X.env = (false, eval e X.env) :: starEach es X.env := by rfl) :
    FA X ca W (fun ρ => do let d ← f ρ; let ds ← g ρ; pure (d :: ds)) (e :: es) := PAimp (pa_cons ha hr hs) fun σ H Q ⟨G, ρ, env, q⟩ => by
  refine ⟨G, ρ, env, q.bind.imp fun d q v G1 H1 e1 dv => ⟨G1, ρ, env.mono e1, ?_⟩⟩
  exact q.bind.mono e1 fun ds k vs G2 H2 e2 dvs => k (v :: vs) G2 H2 (e1.trans e2) (.cons (Dp.ex e2.g d dv) dvs)
def szMax : Nat := 8000000
def chk (n : Nat) : R Unit := if n ≤ szMax then .ok () else .bad
theorem szLe {n : Nat} (h : n ≤ szMax) : n ≤ sizeLine := Nat.le_trans h (by decide)
theorem szLt {n : Nat} (h : n ≤ szMax) : n < sizeLine := Nat.lt_of_le_of_lt h (by decide)
theorem ARes.chk {K : PySem.W.Frag} {ca : CA} {W : WX} {σ : L2.St} {G H : Hp} {β : Type} {k : β → Prop} {n : Nat} {f : R β} (h : ARes K ca W σ G H k (do chk n; f)) : n ≤ szMax ∧ ARes K ca W σ G H k f := by
  unfold FE.chk at h
  by_cases z : n ≤ szMax
  · rw [if_pos z] at h; exact ⟨z, h⟩
  · rw [if_neg z] at h; exact h.elim
theorem fe_tup {x1} {f : Rho → R (List D)} (h : FA X ca W f es) : FE X ca W (fun ρ => do let ds ← f ρ; chk ds.length; pure (.tuple ds)) (.Tuple es x1 pos) := PEimp (pe_tup h) fun σ H Q ⟨G, ρ, env, q⟩ =>
  ⟨G, ρ, env, q.bind.imp fun ds k vs G1 H1 e1 dvs => by
    obtain ⟨z, k⟩ := k.chk
    refine ⟨by rw [DpAll.len dvs]; exact szLe z, fun p hp => ?_⟩
    exact k (.ref p) _ _ (e1.trans (Ext.lay e1.gh hp)) (.tup (Or.inl (Or.inl upd_same)) (DpAll.ex (Ex.new (e1.gh.back hp)) ds dvs))⟩
theorem fl_lst {f : Rho → R (List D)} (h : FA X ca W f es) : FL X ca W (fun ρ => do let ds ← f ρ; chk ds.length; pure ds) (.List es pos) := PEimp (pe_lst h) fun σ H Q ⟨G, ρ, env, q⟩ =>
  ⟨G, ρ, env, q.bind.imp fun ds k vs G1 H1 e1 dvs => by
    obtain ⟨z, k⟩ := k.chk
    refine ⟨by rw [DpAll.len dvs]; exact szLe z, fun p hp => ?_⟩
    exact k p vs _ _ (e1.trans (Ext.own e1.gh hp)) (e1.h.back hp) (e1.gh.back hp) upd_same dvs⟩

/-! ## operators -/
/-- an operation by values does what g says over data -/
def ROp (K : PySem.W.Frag) (r : R2) (g : D → D → Option D) : Prop := ∀ (G H : Hp) (x y : V) (a b d : D) (Q : VK), Ex G H → DpB K G H x a → DpB K G H y b → g a b = some d →
  (∀ v G' H', Ext G H G' H' → Dp K G' v d → Q v H') → r x y H Q
def op2 (g : D → D → Option D) (f h : Rho → R D) : Rho → R D := fun ρ => do let x ← f ρ; let y ← h ρ; R.of (g x y)
theorem tOp_sem {r : R2} {g : D → D → Option D} {f h : Rho → R D} {σ : L2.St} {H : Hp} {Q : VK} (hr : ROp X.K r g) (q : tSem X.K ca W (op2 g f h) σ H Q) :
    tOp r (tSemB X.K ca W f) (tSemB X.K ca W h) σ H Q := by
  obtain ⟨G, ρ, env, q⟩ := q
  refine ⟨G, ρ, env, q.bind.imp fun x q u G1 H1 e1 dx => ⟨G1, ρ, env.mono e1, q.bind.mono e1 fun y q w G2 H2 e2 dy => ?_⟩⟩
  cases hg : g x y with
  | none => rw [hg] at q; exact q.elim
  | some d =>
    rw [hg] at q
    exact hr G2 H2 u w x y d Q e2.gh (dx.ex e2.g e2.h) dy hg fun v G' H' e dv => q v G' H' ((e1.trans e2).trans e) dv
theorem fe_op {op : Operator} {r : R2} {g : D → D → Option D} {f h : Rho → R D} (ho : OpR X (binaryOp op) r) (hr : ROp X.K r g) (ha : FB X ca W f a) (hb : FB X ca W h b) :
    FE X ca W (op2 g f h) (.BinOp a op b pos) := PEimp (pe_op ho ha hb) fun σ H Q q => tOp_sem hr q
theorem fe_cmp {op : CmpOp} {r : R2} {g : D → D → Option D} {f h : Rho → R D} (ho : OpR X (compareOp op) r) (hr : ROp X.K r g) (ha : FB X ca W f a) (hb : FB X ca W h b) (hm : behindInMarks op b = false) :
    FE X ca W (op2 g f h) (.Compare a [op] [b] pos) := PEimp (pe_cmpR ho ha hb hm) fun σ H Q q => tOp_sem hr q
def bl? : D → Option Bool
  | .bool b => some b
  | _ => none
def asB (f : Rho → R D) : Rho → R Bool := fun ρ => do let d ← f ρ; R.of (bl? d)
theorem tTest_sem {f : Rho → R D} {t : TE} {σ : L2.St} {H : Hp} {Q : Bool → Hp → Prop} (ht : ∀ Q, tSem X.K ca W f σ H Q → t σ H Q) (q : tSemT X.K ca W (asB f) σ H Q) : tTest t σ H Q := by
  obtain ⟨G, ρ, env, q⟩ := q
  refine ht _ ⟨G, ρ, env, q.bind.imp fun d q v G' H' e dv => ?_⟩
  cases dv with
  | bl b => exact ⟨b, rfl, q G' H' e⟩
  | _ => exact q.elim
theorem ft_cmp {op : CmpOp} {r : R2} {g : D → D → Option D} {f h : Rho → R D} (ho : OpR X (compareOp op) r) (hr : ROp X.K r g) (ha : FB X ca W f a) (hb : FB X ca W h b) (hm : behindInMarks op b = false) :
    FT X ca W (asB (op2 g f h)) (.Compare a [op] [b] pos) := PTimp (pt_cmpR ho ha hb hm) fun σ H Q q => tTest_sem (fun Q q => tOp_sem hr q) q
/-- a op b op' c -/
def chain (g g' : D → D → Option D) (f h k : Rho → R D) : Rho → R D := fun ρ => do
  let x ← f ρ; let y ← h ρ; let b ← R.of ((g x y).bind bl?)
  if b = true then (do let z ← k ρ; R.of (g' y z)) else .ok (.bool false)
theorem tChain_sem {r r' : R2} {g g' : D → D → Option D} {f h k : Rho → R D} {σ : L2.St} {H : Hp} {Q : VK} (hr : ROp X.K r g) (hr' : ROp X.K r' g') (q : tSem X.K ca W (chain g g' f h k) σ H Q) :
    tChain r r' (tSemB X.K ca W f) (tSemB X.K ca W h) (tSemB X.K ca W k) σ H Q := by
  obtain ⟨G, ρ, env, q⟩ := q
  refine ⟨G, ρ, env, q.bind.imp fun x q u G1 H1 e1 dx => ⟨G1, ρ, env.mono e1, q.bind.mono e1 fun y q w G2 H2 e2 dy => ?_⟩⟩
  have q := q.bind
  cases hg : g x y with
  | none => rw [hg] at q; exact q.elim
  | some d =>
    rw [hg] at q
    refine hr G2 H2 u w x y d _ e2.gh (dx.ex e2.g e2.h) dy hg fun v G3 H3 e3 dv => ?_
    have e13 : Ext G H G3 H3 := (e1.trans e2).trans e3
    cases dv with
    | bl c =>
      refine ⟨c, rfl, ?_⟩
      cases c with
      | false =>
        rw [if_neg Bool.false_ne_true]
        exact q (.bl false) G3 H3 e13 (.bl false)
      | true =>
        rw [if_pos rfl]
        refine ⟨G3, ρ, env.mono e13, ?_⟩
        have q2 : ARes X.K ca W σ G H (fun d => ∀ v G' H', Ext G H G' H' → Dp X.K G' v d → Q v H') (do let z ← k ρ; R.of (g' y z)) := q
        refine q2.bind.mono e13 fun z q w' G4 H4 e4 dz => ?_
        cases hg' : g' y z with
        | none => rw [hg'] at q; exact q.elim
        | some d' =>
          rw [hg'] at q
          exact hr' G4 H4 w w' y z d' Q e4.gh ((dy.ex e3.g e3.h).ex e4.g e4.h) dz hg' fun v G' H' e dv => q v G' H' ((e13.trans e4).trans e) dv
    | _ => exact q.elim
theorem fe_chain {op op' : CmpOp} {c : Expr} {r r' : R2} {g g' : D → D → Option D} {f h k : Rho → R D} (ho : OpR X (compareOp op) r) (ho' : OpR X (compareOp op') r') (hr : ROp X.K r g) (hr' : ROp X.K r' g') (ha : FB X ca W f a) (hb : FB X ca W h b) (hc : FB X ca W k c)
    (hm : lastMarks [op, op'] [b, c] = false := by with_unfolding_all rfl) : FE X ca W (chain g g' f h k) (.Compare a [op, op'] [b, c] pos) := PEimp (pe_chain ho ho' ha hb hc hm) fun σ H Q q => tChain_sem hr hr' q
theorem ft_chain {op op' : CmpOp} {c : Expr} {r r' : R2} {g g' : D → D → Option D} {f h k : Rho → R D} (ho : OpR X (compareOp op) r) (ho' : OpR X (compareOp op') r') (hr : ROp X.K r g) (hr' : ROp X.K r' g') (ha : FB X ca W f a) (hb : FB X ca W h b) (hc : FB X ca W k c)
    (hm : lastMarks [op, op'] [b, c] = false := by with_unfolding_all rfl) : FT X ca W (asB (chain g g' f h k)) (.Compare a [op, op'] [b, c] pos) := PTimp (pt_chain ho ho' ha hb hc hm) fun σ H Q q => tTest_sem (fun Q q => tChain_sem hr hr' q) q

/-! ## truth, and, or, not, if -/
def tru? : D → Option Bool
  | .none => some false
  | .bool b => some b
  | .int i => some (i != 0)
  | .str y => if y.length ≤ szMax then some ((y.length : Int) != 0) else none
  | .list ds => some (!ds.isEmpty)
  | .tuple ds => some (!ds.isEmpty)
  | .dict _ => none
def tru (f : Rho → R D) : Rho → R Bool := fun ρ => do let d ← f ρ; R.of (tru? d)
theorem isEmpty_dp {K : PySem.W.Frag} {G : Hp} {vs : List V} {ds : List D} (h : DpAll K G vs ds) : vs.isEmpty = ds.isEmpty := by
  cases h <;> rfl
theorem truV_dp {K : PySem.W.Frag} {G H : Hp} {v : V} (eg : Ex G H) : ∀ {d : D} {b : Bool}, DpB K G H v d → tru? d = some b → TruV K v H b
  | .none, b, h, e => by cases h; cases e; rfl
  | .bool c, b, h, e => by cases h; cases e; rfl
  | .int i, b, h, e => by cases h; cases e; rfl
  | .str y, b, h, e => by
    cases h
    have e : (if y.length ≤ szMax then some ((y.length : Int) != 0) else none) = some b := e
    by_cases z : y.length ≤ szMax
    · rw [if_pos z] at e; cases e; exact ⟨szLe z, rfl⟩
    · rw [if_neg z] at e; cases e
  | .list ds, b, ⟨p, vs, h1, h2, h3⟩, e => by
    subst h1; cases e
    exact Or.inl ⟨vs, h2, by rw [isEmpty_dp h3]⟩
  | .tuple ds, b, h, e => by
    cases h with
    | tup h2 h3 => cases e; exact Or.inr (Or.inl ⟨_, ex_t eg h2, by rw [isEmpty_dp h3]⟩)
  | .dict _, b, h, e => by cases e
theorem ft_tru {f : Rho → R D} (h : FB X ca W f e) (he : ∀ whole, isTrue e X.env whole = (do let v ← whole; standAt e.pos; holding [v] (truthy v)) := by intro _; rfl) : FT X ca W (tru f) e :=
  PTimp (pt_truth h he) fun σ H Q ⟨G, ρ, env, q⟩ => ⟨G, ρ, env, q.bind.imp fun d q v G' H' e dv => by
    cases hb : tru? d with
    | none => rw [hb] at q; exact q.elim
    | some b => rw [hb] at q; exact ⟨b, truV_dp e.gh dv hb, q G' H' e⟩⟩
def notT (f : Rho → R Bool) : Rho → R Bool := fun ρ => do let b ← f ρ; pure (!b)
def andT (f g : Rho → R Bool) : Rho → R Bool := fun ρ => do let b ← f ρ; if b = true then g ρ else pure false
def orT (f g : Rho → R Bool) : Rho → R Bool := fun ρ => do let b ← f ρ; if b = true then pure true else g ρ
theorem ft_not {f : Rho → R Bool} (h : FT X ca W f a) : FT X ca W (notT f) (.UnaryOp .Not a pos) := PTimp (pt_not h) fun σ H Q ⟨G, ρ, env, q⟩ => ⟨G, ρ, env, q.bind.imp fun b q G' H' e => q G' H' e⟩
abbrev FW (X : Cx) (ca : CA) (W : WX) (f : Rho → R Bool) (e : Expr) : Prop := PW X e (tSemT X.K ca W f)
theorem PWimp {t t' : TT} (h : PW X e t) (k : ∀ σ H Q, t' σ H Q → t σ H Q) : PW X e t' := ⟨fun wh pins s σ H Q I q => h.run wh pins s σ H Q I (k σ H Q q)⟩
theorem fw_and1 {f : Rho → R Bool} (h : FT X ca W f a) : FW X ca W f (.BoolOp .And [a] pos) := pw_and1 h
theorem fw_or1 {f : Rho → R Bool} (h : FT X ca W f a) : FW X ca W f (.BoolOp .Or [a] pos) := pw_or1 h
theorem fw_and {f g : Rho → R Bool} {rest : List Expr} (ha : FT X ca W f a) (hb : FW X ca W g (.BoolOp .And (b :: rest) pos)) : FW X ca W (andT f g) (.BoolOp .And (a :: b :: rest) pos) := PWimp (pw_and ha hb) fun σ H Q ⟨G, ρ, env, q⟩ =>
  ⟨G, ρ, env, q.bind.imp fun c q G1 H1 e1 => by
    cases c with
    | true => rw [if_pos rfl]; exact ⟨G1, ρ, env.mono e1, (show ARes X.K ca W σ G H _ (g ρ) from q).mono e1 fun b k G2 H2 e2 => k G2 H2 (e1.trans e2)⟩
    | false => rw [if_neg Bool.false_ne_true]; exact q G1 H1 e1⟩
theorem fw_or {f g : Rho → R Bool} {rest : List Expr} (ha : FT X ca W f a) (hb : FW X ca W g (.BoolOp .Or (b :: rest) pos)) : FW X ca W (orT f g) (.BoolOp .Or (a :: b :: rest) pos) := PWimp (pw_or ha hb) fun σ H Q ⟨G, ρ, env, q⟩ =>
  ⟨G, ρ, env, q.bind.imp fun c q G1 H1 e1 => by
    cases c with
    | false => rw [if_neg Bool.false_ne_true]; exact ⟨G1, ρ, env.mono e1, (show ARes X.K ca W σ G H _ (g ρ) from q).mono e1 fun b k G2 H2 e2 => k G2 H2 (e1.trans e2)⟩
    | true => rw [if_pos rfl]; exact q G1 H1 e1⟩
theorem ft_w {f : Rho → R Bool} (h : FW X ca W f e) : FT X ca W f e := h.pt
/-- as values: the parts are truths -/
def andV (f g : Rho → R D) : Rho → R D := fun ρ => do let d ← f ρ; let b ← R.of (bl? d); if b = true then g ρ else pure (.bool false)
def orV (f g : Rho → R D) : Rho → R D := fun ρ => do let d ← f ρ; let b ← R.of (bl? d); if b = true then pure (.bool true) else g ρ
theorem fe_one {op} {f : Rho → R D} (h : FE X ca W f a) : FE X ca W f (.BoolOp op [a] pos) := pe_one h
theorem ARes.blq {K : PySem.W.Frag} {ca : CA} {W : WX} {σ : L2.St} {G H G' : Hp} {β : Type} {k : β → Prop} {d : D} {v : V} {f : Bool → R β} (h : ARes K ca W σ G H k (do let b ← R.of (bl? d); f b)) (dv : Dp K G' v d) :
    ∃ b, v = .bl b ∧ d = .bool b ∧ ARes K ca W σ G H k (f b) := by
  cases dv with
  | bl b => exact ⟨b, rfl, rfl, h⟩
  | _ => exact h.elim
theorem fe_and {f g : Rho → R D} {rest : List Expr} (ha : FE X ca W f a) (hb : FE X ca W g (.BoolOp .And (b :: rest) pos)) : FE X ca W (andV f g) (.BoolOp .And (a :: b :: rest) pos) := PEimp (pe_and ha hb) fun σ H Q ⟨G, ρ, env, q⟩ =>
  ⟨G, ρ, env, q.bind.imp fun d q v G1 H1 e1 dv => by
    obtain ⟨b, rfl, rfl, q⟩ := q.blq dv
    refine ⟨b, rfl, ?_⟩
    cases b with
    | true => rw [if_pos rfl]; exact ⟨G1, ρ, env.mono e1, (show ARes X.K ca W σ G H _ (g ρ) from q).mono e1 fun b k v G2 H2 e2 => k v G2 H2 (e1.trans e2)⟩
    | false => rw [if_neg Bool.false_ne_true]; exact q _ G1 H1 e1 (.bl false)⟩
theorem fe_or {f g : Rho → R D} {rest : List Expr} (ha : FE X ca W f a) (hb : FE X ca W g (.BoolOp .Or (b :: rest) pos)) : FE X ca W (orV f g) (.BoolOp .Or (a :: b :: rest) pos) := PEimp (pe_or ha hb) fun σ H Q ⟨G, ρ, env, q⟩ =>
  ⟨G, ρ, env, q.bind.imp fun d q v G1 H1 e1 dv => by
    obtain ⟨b, rfl, rfl, q⟩ := q.blq dv
    refine ⟨b, rfl, ?_⟩
    cases b with
    | false => rw [if_neg Bool.false_ne_true]; exact ⟨G1, ρ, env.mono e1, (show ARes X.K ca W σ G H _ (g ρ) from q).mono e1 fun b k v G2 H2 e2 => k v G2 H2 (e1.trans e2)⟩
    | true => rw [if_pos rfl]; exact q _ G1 H1 e1 (.bl true)⟩
def notV (f : Rho → R D) : Rho → R D := fun ρ => do let d ← f ρ; let b ← R.of (tru? d); pure (.bool (!b))
theorem fe_not {f : Rho → R D} (h : FB X ca W f a) : FE X ca W (notV f) (.UnaryOp .Not a pos) := PEimp (pe_notT h) fun σ H Q ⟨G, ρ, env, q⟩ => ⟨G, ρ, env, q.bind.imp fun d q v G' H' e dv => by
  cases hb : tru? d with
  | none => rw [hb] at q; exact q.elim
  | some b => rw [hb] at q; exact ⟨b, truV_dp e.gh dv hb, q _ G' H' e (.bl _)⟩⟩
def ifE (c : Rho → R Bool) (f g : Rho → R D) : Rho → R D := fun ρ => do let b ← c ρ; if b = true then f ρ else g ρ
theorem fe_if {c : Expr} {t : Rho → R Bool} {f g : Rho → R D} (hc : FT X ca W t c) (ha : FE X ca W f a) (hb : FE X ca W g b) : FE X ca W (ifE t f g) (.IfExp c a b pos) := PEimp (pe_ifExp hc ha hb) fun σ H Q ⟨G, ρ, env, q⟩ =>
  ⟨G, ρ, env, q.bind.imp fun c q G1 H1 e1 => by
    cases c with
    | true => rw [if_pos rfl]; exact ⟨G1, ρ, env.mono e1, (show ARes X.K ca W σ G H _ (f ρ) from q).mono e1 fun b k v G2 H2 e2 => k v G2 H2 (e1.trans e2)⟩
    | false => rw [if_neg Bool.false_ne_true]; exact ⟨G1, ρ, env.mono e1, (show ARes X.K ca W σ G H _ (g ρ) from q).mono e1 fun b k v G2 H2 e2 => k v G2 H2 (e1.trans e2)⟩⟩
end
end FE

namespace FE
open PySem L2 PyProof.Rows PySem.Spec
theorem OpR.or {X : Cx} {f : Value → Value → Sem Value} {r r' : R2} (h : OpR X f r) (h' : OpR X f r') : OpR X f (fun x y H Q => r x y H Q ∨ r' x y H Q) := by
  intro pins s σ H x y v u Q I rx ry q
  rcases q with q | q
  · exact h pins s σ H x y v u Q I rx ry q
  · exact h' pins s σ H x y v u Q I rx ry q
section
variable {K : PySem.W.Frag}
theorem Dp.int_of {G H : Hp} {x : V} {i : Int} (h : DpB K G H x (.int i)) : x = .int i := by cases h; rfl
theorem Dp.str_of {G H : Hp} {x : V} {i : Str} (h : DpB K G H x (.str i)) : x = .str i := by cases h; rfl
theorem rop_int {C : Int → Int → Prop} {g : Int → Int → V} {f : D → D → Option D} (hf : ∀ a b d, f a b = some d → ∃ i j, a = .int i ∧ b = .int j ∧ C i j ∧ ∀ G, Dp K G (g i j) d) : ROp K (rI C g) f := by
  intro G H x y a b d Q e dx dy hg k
  obtain ⟨i, j, rfl, rfl, hc, hd⟩ := hf a b d hg
  exact ⟨i, j, Dp.int_of dx, Dp.int_of dy, hc, k _ G H (Ext.refl e) (hd G)⟩
theorem rop_int0 {g : Int → Int → V} {f : D → D → Option D} (hf : ∀ a b d, f a b = some d → ∃ i j, a = .int i ∧ b = .int j ∧ ∀ G, Dp K G (g i j) d) : ROp K (rI0 g) f := by
  intro G H x y a b d Q e dx dy hg k
  obtain ⟨i, j, rfl, rfl, hd⟩ := hf a b d hg
  exact ⟨i, j, Dp.int_of dx, Dp.int_of dy, k _ G H (Ext.refl e) (hd G)⟩
theorem Dp.newl {G H : Hp} {p : Addr} {vs : List V} {ds : List D} (e : Ex G H) (hp : H p = none) (h : DpAll K G vs ds) : Ext G H (upd G p (.lst vs)) (upd H p (.lst vs)) ∧ Dp K (upd G p (.lst vs)) (.ref p) (.list ds) :=
  ⟨Ext.lay e hp, .lst (Or.inl (Or.inl upd_same)) (DpAll.ex (Ex.new (e.back hp)) ds h)⟩
theorem Dp.newt {G H : Hp} {p : Addr} {vs : List V} {ds : List D} (e : Ex G H) (hp : H p = none) (h : DpAll K G vs ds) : Ext G H (upd G p (.tup vs)) (upd H p (.tup vs)) ∧ Dp K (upd G p (.tup vs)) (.ref p) (.tuple ds) :=
  ⟨Ext.lay e hp, .tup (Or.inl (Or.inl upd_same)) (DpAll.ex (Ex.new (e.back hp)) ds h)⟩
theorem Dp.lst_of {G H : Hp} {x : V} {ds : List D} (h : DpB K G H x (.list ds)) : ∃ p vs, x = .ref p ∧ SqL K H p vs ∧ DpAll K G vs ds := h
theorem Dp.tup_of {G H : Hp} {x : V} {ds : List D} (e : Ex G H) (h : DpB K G H x (.tuple ds)) : ∃ p vs, x = .ref p ∧ SqT K H p vs ∧ DpAll K G vs ds ∧ Dp K G (.ref p) (.tuple ds) := by
  have h' : Dp K G x (.tuple ds) := h
  cases h' with
  | tup h1 h2 => exact ⟨_, _, rfl, ex_t e h1, h2, .tup h1 h2⟩
theorem nil_of {G : Hp} {ds : List D} (h : DpAll K G [] ds) : ds = [] := by cases h; rfl
/-! ### a + b -/
/-- list + list, whoever holds them -/
def rCatG (K : PySem.W.Frag) : R2 := fun x y H Q => ∃ l b xs zs, x = .ref l ∧ y = .ref b ∧ SqL K H l xs ∧ SqL K H b zs ∧ xs.length + zs.length ≤ sizeLine ∧ ∀ p, H p = none → Q (.ref p) (upd H p (.lst (xs ++ zs)))
theorem op_catG {X : Cx} : OpR X (binaryOp .Add) (rCatG X.K) := by
  intro pins s σ H x y v u Q I rx ry h
  obtain ⟨l, b, xs, zs, rfl, rfl, hH, hB, hz, q⟩ := h
  cases rx
  cases ry
  obtain ⟨its, r, ⟨⟨cls, dd, data, sl⟩, n, ho, hc, hdn, hd⟩, h1⟩ := I.list hH
  obtain ⟨its2, r2, ⟨⟨cls2, dd2, data2, sl2⟩, n2, ho2, hc2, hdn2, hd2⟩, h2⟩ := I.list hB
  simp only at hc hd hc2 hd2
  subst hc hd hc2 hd2
  have ea : its.toArray ++ its2.toArray = (its ++ its2).toArray := by simp
  refine concat_meets ⟨_, ho, rfl⟩ ⟨_, ho2, rfl⟩ noFill_list_add seq_list_add PySem.F.slot_list_add PySem.F.entry_list_add (PySem.F.args_list_add_2 _ _) (list_addW l b its.toArray its2.toArray n n2 dd dd2 sl sl2 (by rw [List.size_toArray, List.size_toArray, ← r.length, ← r2.length]; omega)) ⟨ho, ho2, ?_⟩
  rw [ea]
  exact ⟨.ref _, _, I.lnew (t' := s.toks) (r.append r2) (by rw [List.length_append]; omega), rfl, q _ I.fresh⟩
def rAddA (K : PySem.W.Frag) : R2 := fun x y H Q => rI0 (fun i j => .int (i + j)) x y H Q ∨ (∃ i j, x = .str i ∧ y = .str j ∧ i.length + j.length ≤ sizeLine ∧ Q (.str (i ++ j)) H) ∨ rCatG K x y H Q ∨ rCatA K x y H Q
theorem op_addA {X : Cx} : OpR X (binaryOp .Add) (rAddA X.K) := OpR.or op_add (OpR.or op_add_str (OpR.or op_catG op_catA))
def addD : D → D → Option D
  | .int i, .int j => some (.int (i + j))
  | .str x, .str y => if x.length + y.length ≤ szMax then some (.str (x ++ y)) else none
  | .list xs, .list ys => if xs.length + ys.length ≤ szMax then some (.list (xs ++ ys)) else none
  | .tuple xs, .tuple ys => if xs.length + ys.length ≤ szMax then some (.tuple (xs ++ ys)) else none
  | _, _ => none
theorem ite_some {α : Type} {c : Prop} [Decidable c] {x y : α} (h : (if c then some x else none) = some y) : c ∧ x = y := by
  by_cases z : c
  · rw [if_pos z] at h; exact ⟨z, Option.some.inj h⟩
  · rw [if_neg z] at h; cases h
theorem rop_add : ROp K (rAddA K) addD := by
  intro G H x y a b d Q e dx dy hg k
  cases a <;> cases b <;> try (cases hg; done)
  case int.int i j => cases hg; exact Or.inl ⟨i, j, Dp.int_of dx, Dp.int_of dy, k _ G H (Ext.refl e) (.int _)⟩
  case str.str i j =>
    obtain ⟨z, rfl⟩ := ite_some hg
    exact Or.inr (Or.inl ⟨i, j, Dp.str_of dx, Dp.str_of dy, szLe z, k _ G H (Ext.refl e) (.str _)⟩)
  case list.list xs ys =>
    obtain ⟨z, rfl⟩ := ite_some hg
    obtain ⟨p, vs, rfl, h1, h2⟩ := Dp.lst_of dx
    obtain ⟨p', ws, rfl, h1', h2'⟩ := Dp.lst_of dy
    refine Or.inr (Or.inr (Or.inl ⟨p, p', vs, ws, rfl, rfl, h1, h1', by rw [DpAll.len h2, DpAll.len h2']; exact szLe z, fun q hq => ?_⟩))
    exact k _ _ _ (Dp.newl e hq (DpAll.app h2 h2')).1 (Dp.newl e hq (DpAll.app h2 h2')).2
  case tuple.tuple xs ys =>
    obtain ⟨z, rfl⟩ := ite_some hg
    obtain ⟨p, vs, rfl, h1, h2, h3⟩ := Dp.tup_of e dx
    obtain ⟨p', ws, rfl, h1', h2', h3'⟩ := Dp.tup_of e dy
    refine Or.inr (Or.inr (Or.inr ⟨p, p', vs, ws, rfl, rfl, h1, h1', by rw [DpAll.len h2, DpAll.len h2']; exact szLe z, fun hn => ?_, fun _ hn => ?_, fun _ _ q hq => ?_⟩))
    · subst hn; have z := nil_of h2; subst z; exact k _ G H (Ext.refl e) h3'
    · subst hn; have z := nil_of h2'; subst z; rw [List.append_nil] at k; exact k _ G H (Ext.refl e) h3
    · exact k _ _ _ (Dp.newt e hq (DpAll.app h2 h2')).1 (Dp.newt e hq (DpAll.app h2 h2')).2
/-! ### ints -/
def subD : D → D → Option D
  | .int i, .int j => some (.int (i - j))
  | _, _ => none
def modD : D → D → Option D
  | .int i, .int j => if 0 < j then some (.int (i % j)) else none
  | _, _ => none
def fdivD : D → D → Option D
  | .int i, .int j => if 0 < j ∧ j < 1073741824 then some (.int (i / j)) else none
  | _, _ => none
def powD : D → D → Option D
  | .int i, .int j => if 0 ≤ j ∧ j ≤ 1000000 ∧ i.natAbs < 2 ^ 64 then some (.int (i ^ j.toNat)) else none
  | _, _ => none
theorem rop_sub : ROp K (rI0 fun i j => .int (i - j)) subD := rop_int0 fun a b d h => by
  cases a <;> cases b <;> try (cases h; done)
  cases h; exact ⟨_, _, rfl, rfl, fun _ => .int _⟩
theorem rop_mod : ROp K (rI (fun _ j => 0 < j) fun i j => .int (i % j)) modD := rop_int fun a b d h => by
  cases a <;> cases b <;> try (cases h; done)
  obtain ⟨z, rfl⟩ := ite_some h
  exact ⟨_, _, rfl, rfl, z, fun _ => .int _⟩
theorem rop_fdiv : ROp K (rI CDiv fun i j => .int (i / j)) fdivD := rop_int fun a b d h => by
  cases a <;> cases b <;> try (cases h; done)
  obtain ⟨z, rfl⟩ := ite_some h
  exact ⟨_, _, rfl, rfl, z, fun _ => .int _⟩
theorem rop_pow : ROp K (rI CPow fun i j => .int (i ^ j.toNat)) powD := rop_int fun a b d h => by
  cases a <;> cases b <;> try (cases h; done)
  obtain ⟨z, rfl⟩ := ite_some h
  exact ⟨_, _, rfl, rfl, z, fun _ => .int _⟩
/-- int * int (one of them small), list * int -/
def mulD : D → D → Option D
  | .int i, .int j => if (-(2 ^ 64) < i ∧ i < 2 ^ 64) ∨ (-(2 ^ 64) < j ∧ j < 2 ^ 64) then some (.int (i * j)) else none
  | _, _ => none
theorem rop_mul : ROp K (rI CMul fun i j => .int (i * j)) mulD := rop_int fun a b d h => by
  cases a <;> cases b <;> try (cases h; done)
  obtain ⟨z, rfl⟩ := ite_some h
  exact ⟨_, _, rfl, rfl, z, fun _ => .int _⟩
def cmpI (p : Int → Int → Bool) : D → D → Option D
  | .int i, .int j => some (.bool (p i j))
  | _, _ => none
theorem rop_cmpI {p : Int → Int → Bool} : ROp K (rI0 fun i j => .bl (p i j)) (cmpI p) := rop_int0 fun a b d h => by
  cases a <;> cases b <;> try (cases h; done)
  cases h; exact ⟨_, _, rfl, rfl, fun _ => .bl _⟩
/-! ### ==, != -/
def eqD : D → D → Option D := fun a b => if SeqAt.shaped a = true ∧ SeqAt.shaped b = true then some (.bool (PyData.eqv a b)) else none
def neD : D → D → Option D := fun a b => if SeqAt.shaped a = true ∧ SeqAt.shaped b = true then some (.bool (!PyData.eqv a b)) else none
theorem rop_eq : ROp K (rEqD K) eqD := by
  intro G H x y a b d Q e dx dy hg k
  obtain ⟨⟨z1, z2⟩, rfl⟩ := ite_some hg
  exact ⟨a, b, dx.dp e, dy.dp e, z1, z2, k _ G H (Ext.refl e) (.bl _)⟩
theorem rop_ne : ROp K (rNeD K) neD := by
  intro G H x y a b d Q e dx dy hg k
  obtain ⟨⟨z1, z2⟩, rfl⟩ := ite_some hg
  exact ⟨a, b, dx.dp e, dy.dp e, z1, z2, k _ G H (Ext.refl e) (.bl _)⟩
/-! ### in, not in -/
def itemsOf : D → Option (List D)
  | .list ds => some ds
  | .tuple ds => some ds
  | _ => none
def rInA (K : PySem.W.Frag) (neg : Bool) : R2 := fun x y H Q => ∃ d c ds, Dp K H x d ∧ Dp K H y c ∧ itemsOf c = some ds ∧ SeqAt.shaped d = true ∧ SeqAt.shaped c = true ∧ Q (.bl (if neg then !ds.any fun z => PyData.eqv z d else ds.any fun z => PyData.eqv z d)) H
theorem op_inA {X : Cx} (hu : X.A.units + 65 < cLine) : OpR X (compareOp .In) (rInA X.K false) := by
  intro pins s σ H x y v u Q I rx ry h
  obtain ⟨d, c, ds, hd, he, hi, sd, se, q⟩ := h
  obtain ⟨as, r1⟩ := Dp.reads I d x v hd rx
  obtain ⟨bs, r2⟩ := Dp.reads I c y u he ry
  cases c <;> try (cases hi; done)
  case list es =>
    cases hi
    exact SeqAt.in_list_reads r2 r1 (SeqAt.canLay_of_shaped se) (SeqAt.canLay_of_shaped sd) (room_in_shaped sd hu) ⟨.bl _, H, I, rfl, q⟩
  case tuple es =>
    cases hi
    exact SeqAt.in_tuple_reads r2 r1 (SeqAt.canLay_of_shaped se) (SeqAt.canLay_of_shaped sd) (room_in_shaped sd hu) ⟨.bl _, H, I, rfl, q⟩
theorem op_ninA {X : Cx} (hu : X.A.units + 65 < cLine) : OpR X (compareOp .NotIn) (rInA X.K true) := by
  intro pins s σ H x y v u Q I rx ry h
  obtain ⟨d, c, ds, hd, he, hi, sd, se, q⟩ := h
  obtain ⟨as, r1⟩ := Dp.reads I d x v hd rx
  obtain ⟨bs, r2⟩ := Dp.reads I c y u he ry
  cases c <;> try (cases hi; done)
  case list es =>
    cases hi
    exact SeqAt.notIn_list_reads r2 r1 (SeqAt.canLay_of_shaped se) (SeqAt.canLay_of_shaped sd) (room_in_shaped sd hu) ⟨.bl _, H, I, rfl, q⟩
  case tuple es =>
    cases hi
    exact SeqAt.notIn_tuple_reads r2 r1 (SeqAt.canLay_of_shaped se) (SeqAt.canLay_of_shaped sd) (room_in_shaped sd hu) ⟨.bl _, H, I, rfl, q⟩
def memD (d : D) (ds : List D) : Bool := ds.any fun z => PyData.eqv z d
def inD (neg : Bool) : D → D → Option D := fun d c => if SeqAt.shaped d = true ∧ SeqAt.shaped c = true then (itemsOf c).map fun ds => .bool (if neg then !memD d ds else memD d ds) else none
theorem rop_in {neg : Bool} : ROp K (rInA K neg) (inD neg) := by
  intro G H x y a b d Q e dx dy hg k
  have hg' : (if SeqAt.shaped a = true ∧ SeqAt.shaped b = true then (itemsOf b).map fun ds => PyData.bool (if neg then !memD a ds else memD a ds) else none) = some d := hg
  by_cases z : SeqAt.shaped a = true ∧ SeqAt.shaped b = true
  · rw [if_pos z] at hg'
    cases hi : itemsOf b with
    | none => rw [hi] at hg'; cases hg'
    | some ds =>
      rw [hi] at hg'
      cases hg'
      exact ⟨a, b, ds, dx.dp e, dy.dp e, hi, z.1, z.2, k _ G H (Ext.refl e) (.bl _)⟩
  · rw [if_neg z] at hg'; cases hg'
end
section
variable {X : Cx} {ca : CA} {W : WX} {e a b : Expr} {f g h : Rho → R D} {pos : Pos} {k : Nat}
theorem fe_add (ha : FB X ca W f a) (hb : FB X ca W g b) : FE X ca W (op2 addD f g) (.BinOp a .Add b pos) := fe_op op_addA rop_add ha hb
theorem fe_sub (ha : FB X ca W f a) (hb : FB X ca W g b) : FE X ca W (op2 subD f g) (.BinOp a .Sub b pos) := fe_op op_sub rop_sub ha hb
theorem fe_mul (ha : FB X ca W f a) (hb : FB X ca W g b) : FE X ca W (op2 mulD f g) (.BinOp a .Mult b pos) := fe_op op_mul rop_mul ha hb
theorem fe_mod (ha : FB X ca W f a) (hb : FB X ca W g b) : FE X ca W (op2 modD f g) (.BinOp a .Mod b pos) := fe_op op_mod rop_mod ha hb
theorem fe_fdiv (ha : FB X ca W f a) (hb : FB X ca W g b) : FE X ca W (op2 fdivD f g) (.BinOp a .FloorDiv b pos) := fe_op op_fdiv rop_fdiv ha hb
theorem fe_pow (ha : FB X ca W f a) (hb : FB X ca W g b) : FE X ca W (op2 powD f g) (.BinOp a .Pow b pos) := fe_op op_pow rop_pow ha hb
abbrev ltD : D → D → Option D := cmpI fun i j => decide (i < j)
abbrev leD : D → D → Option D := cmpI fun i j => decide (i ≤ j)
abbrev gtD : D → D → Option D := cmpI fun i j => decide (j < i)
abbrev geD : D → D → Option D := cmpI fun i j => decide (j ≤ i)
theorem fe_lt (ha : FB X ca W f a) (hb : FB X ca W g b) : FE X ca W (op2 ltD f g) (.Compare a [.Lt] [b] pos) := fe_cmp op_lt rop_cmpI ha hb (nomark _)
theorem fe_le (ha : FB X ca W f a) (hb : FB X ca W g b) : FE X ca W (op2 leD f g) (.Compare a [.LtE] [b] pos) := fe_cmp op_le rop_cmpI ha hb (nomark _)
theorem fe_gt (ha : FB X ca W f a) (hb : FB X ca W g b) : FE X ca W (op2 gtD f g) (.Compare a [.Gt] [b] pos) := fe_cmp op_gt rop_cmpI ha hb (nomark _)
theorem fe_ge (ha : FB X ca W f a) (hb : FB X ca W g b) : FE X ca W (op2 geD f g) (.Compare a [.GtE] [b] pos) := fe_cmp op_ge rop_cmpI ha hb (nomark _)
theorem ft_lt (ha : FB X ca W f a) (hb : FB X ca W g b) : FT X ca W (asB (op2 ltD f g)) (.Compare a [.Lt] [b] pos) := ft_cmp op_lt rop_cmpI ha hb (nomark _)
theorem ft_le (ha : FB X ca W f a) (hb : FB X ca W g b) : FT X ca W (asB (op2 leD f g)) (.Compare a [.LtE] [b] pos) := ft_cmp op_le rop_cmpI ha hb (nomark _)
theorem ft_gt (ha : FB X ca W f a) (hb : FB X ca W g b) : FT X ca W (asB (op2 gtD f g)) (.Compare a [.Gt] [b] pos) := ft_cmp op_gt rop_cmpI ha hb (nomark _)
theorem ft_ge (ha : FB X ca W f a) (hb : FB X ca W g b) : FT X ca W (asB (op2 geD f g)) (.Compare a [.GtE] [b] pos) := ft_cmp op_ge rop_cmpI ha hb (nomark _)
theorem fe_lele {c : Expr} (ha : FB X ca W f a) (hb : FB X ca W g b) (hc : FB X ca W h c) (hm : lastMarks [.LtE, .LtE] [b, c] = false := by with_unfolding_all rfl) : FE X ca W (chain leD leD f g h) (.Compare a [.LtE, .LtE] [b, c] pos) := fe_chain op_le op_le rop_cmpI rop_cmpI ha hb hc hm
theorem ft_lele {c : Expr} (ha : FB X ca W f a) (hb : FB X ca W g b) (hc : FB X ca W h c) (hm : lastMarks [.LtE, .LtE] [b, c] = false := by with_unfolding_all rfl) : FT X ca W (asB (chain leD leD f g h)) (.Compare a [.LtE, .LtE] [b, c] pos) := ft_chain op_le op_le rop_cmpI rop_cmpI ha hb hc hm
theorem hu64 {A : Around} (hr : Room k A) : A.units + 64 < cLine := hr.units
theorem hu65 {A : Around} (hr : Room k A) : A.units + 65 < cLine := by have := hr.un; omega
theorem fe_eq (hr : Room k X.A) (ha : FB X ca W f a) (hb : FB X ca W g b) : FE X ca W (op2 eqD f g) (.Compare a [.Eq] [b] pos) := fe_cmp (op_eqD (hu64 hr)) rop_eq ha hb (nomark _)
theorem fe_ne (hr : Room k X.A) (ha : FB X ca W f a) (hb : FB X ca W g b) : FE X ca W (op2 neD f g) (.Compare a [.NotEq] [b] pos) := fe_cmp (op_neD (hu64 hr)) rop_ne ha hb (nomark _)
theorem ft_eq (hr : Room k X.A) (ha : FB X ca W f a) (hb : FB X ca W g b) : FT X ca W (asB (op2 eqD f g)) (.Compare a [.Eq] [b] pos) := ft_cmp (op_eqD (hu64 hr)) rop_eq ha hb (nomark _)
theorem ft_ne (hr : Room k X.A) (ha : FB X ca W f a) (hb : FB X ca W g b) : FT X ca W (asB (op2 neD f g)) (.Compare a [.NotEq] [b] pos) := ft_cmp (op_neD (hu64 hr)) rop_ne ha hb (nomark _)
theorem fe_in (hr : Room k X.A) (ha : FB X ca W f a) (hb : FB X ca W g b) (hm : behindInMarks .In b = false := by with_unfolding_all rfl) : FE X ca W (op2 (inD false) f g) (.Compare a [.In] [b] pos) := fe_cmp (op_inA (hu65 hr)) rop_in ha hb hm
theorem fe_nin (hr : Room k X.A) (ha : FB X ca W f a) (hb : FB X ca W g b) (hm : behindInMarks .NotIn b = false := by with_unfolding_all rfl) : FE X ca W (op2 (inD true) f g) (.Compare a [.NotIn] [b] pos) := fe_cmp (op_ninA (hu65 hr)) rop_in ha hb hm
theorem ft_in (hr : Room k X.A) (ha : FB X ca W f a) (hb : FB X ca W g b) (hm : behindInMarks .In b = false := by with_unfolding_all rfl) : FT X ca W (asB (op2 (inD false) f g)) (.Compare a [.In] [b] pos) := ft_cmp (op_inA (hu65 hr)) rop_in ha hb hm
theorem ft_nin (hr : Room k X.A) (ha : FB X ca W f a) (hb : FB X ca W g b) (hm : behindInMarks .NotIn b = false := by with_unfolding_all rfl) : FT X ca W (asB (op2 (inD true) f g)) (.Compare a [.NotIn] [b] pos) := ft_cmp (op_ninA (hu65 hr)) rop_in ha hb hm
end
end FE

namespace FE
open PySem L2 PyProof.Rows PySem.Spec
section
variable {K : PySem.W.Frag}
theorem DpAll.atI {G : Hp} {vs : List V} {ds : List D} {i : Int} {d : D} (h : DpAll K G vs ds) (e : atI ds i = some d) : ∃ v, L2.atI vs i = some v ∧ Dp K G v d := by
  unfold L2.atI at e ⊢
  rw [DpAll.len h]
  cases q : ixN ds.length i with
  | none => rw [q] at e; cases e
  | some j => rw [q] at e; exact DpAll.get h e
/-! ## subscripts -/
def idxD : D → D → Option D
  | .list ds, .int i => atI ds i
  | .tuple ds, .int i => atI ds i
  | .str z, .int i => if z.length ≤ szMax then (atI z.cps.toList i).map fun c => .str ⟨#[c]⟩ else none
  | _, _ => none
theorem rop_ix : ROp K (rIx K) idxD := by
  intro G H x y a b d Q e dx dy hg k
  cases a <;> cases b <;> try (cases hg; done)
  case list.int ds i =>
    obtain ⟨p, vs, rfl, h1, h2⟩ := Dp.lst_of dx
    obtain ⟨v, h3, h4⟩ := DpAll.atI h2 hg
    exact Or.inl ⟨p, vs, i, v, rfl, Dp.int_of dy, h1, h3, k v G H (Ext.refl e) h4⟩
  case tuple.int ds i =>
    obtain ⟨p, vs, rfl, h1, h2, _⟩ := Dp.tup_of e dx
    obtain ⟨v, h3, h4⟩ := DpAll.atI h2 hg
    exact Or.inr (Or.inl ⟨p, vs, i, v, rfl, Dp.int_of dy, h1, h3, k v G H (Ext.refl e) h4⟩)
  case str.int z i =>
    have hg' : (if z.length ≤ szMax then (L2.atI z.cps.toList i).map fun c => PyData.str ⟨#[c]⟩ else none) = some d := hg
    by_cases q : z.length ≤ szMax
    · rw [if_pos q] at hg'
      cases hc : L2.atI z.cps.toList i with
      | none => rw [hc] at hg'; cases hg'
      | some c =>
        rw [hc] at hg'; cases hg'
        exact Or.inr (Or.inr ⟨z, i, c, Dp.str_of dx, Dp.int_of dy, szLe q, hc, k _ G H (Ext.refl e) (.str _)⟩)
    · rw [if_neg q] at hg'; cases hg'
/-! ## slices -/
def cutL {α : Type} (xs : List α) (lo hi : Option Int) : List α := (xs.drop (HT.sIx xs.length 0 lo)).take (HT.sIx xs.length xs.length hi - HT.sIx xs.length 0 lo)
theorem DpAll.cut {G : Hp} {vs : List V} {ds : List D} (h : DpAll K G vs ds) (lo hi : Option Int) : DpAll K G (cutV vs lo hi) (cutL ds lo hi) := by
  unfold cutV cutL
  rw [DpAll.len h]
  exact DpAll.tk _ (DpAll.dr _ h)
theorem cutL_whole {α : Type} {xs : List α} {lo hi : Option Int} (h : HT.sIx xs.length 0 lo = 0 ∧ HT.sIx xs.length xs.length hi = xs.length) : cutL xs lo hi = xs := by
  unfold cutL
  rw [h.1, h.2, List.drop_zero, Nat.sub_zero, List.take_length]
def tSemO (K : PySem.W.Frag) (ca : CA) (W : WX) (f : Rho → R (Option Int)) : TO := fun σ H Q => ∃ G ρ, EnvOk K G H σ ρ ∧
  ARes K ca W σ G H (fun o => ∀ G' H', Ext G H G' H' → Q o H') (f ρ)
abbrev FO (X : Cx) (ca : CA) (W : WX) (f : Rho → R (Option Int)) (e : Option Expr) : Prop := PO X e (tSemO X.K ca W f)
def int? : D → Option Int
  | .int i => some i
  | _ => none
def someP (f : Rho → R D) : Rho → R (Option Int) := fun ρ => do let d ← f ρ; let i ← R.of (int? d); pure (some i)
def sliceD : D → Option Int → Option Int → Option D
  | .list ds, lo, hi => some (.list (cutL ds lo hi))
  | .tuple ds, lo, hi => some (.tuple (cutL ds lo hi))
  | _, _, _ => none
def sliceF (f : Rho → R D) (lo hi : Rho → R (Option Int)) : Rho → R D := fun ρ => do let d ← f ρ; let l ← lo ρ; let h ← hi ρ; R.of (sliceD d l h)
def rSlS (K : PySem.W.Frag) : V → Option Int → Option Int → Hp → VK → Prop := fun x lo hi H Q => rSlL K x lo hi H Q ∨ rSlA K x lo hi H Q
theorem sl_seq {X : Cx} : SlR X (rSlS X.K) := SlR.or sl_list sl_tupA
theorem rsl_ok {G H : Hp} {x : V} {d c : D} {lo hi : Option Int} {Q : VK} (e : Ex G H) (dx : DpB K G H x d) (hg : sliceD d lo hi = some c) (k : ∀ v G' H', Ext G H G' H' → Dp K G' v c → Q v H') : rSlS K x lo hi H Q := by
  cases d <;> try (cases hg; done)
  case list ds =>
    cases hg
    obtain ⟨p, vs, rfl, h1, h2⟩ := Dp.lst_of dx
    exact Or.inl ⟨p, vs, rfl, h1, fun q hq => k _ _ _ (Dp.newl e hq (DpAll.cut h2 lo hi)).1 (Dp.newl e hq (DpAll.cut h2 lo hi)).2⟩
  case tuple ds =>
    cases hg
    obtain ⟨p, vs, rfl, h1, h2, h3⟩ := Dp.tup_of e dx
    refine Or.inr ⟨p, vs, rfl, h1, fun hw => ?_, fun _ q hq => k _ _ _ (Dp.newt e hq (DpAll.cut h2 lo hi)).1 (Dp.newt e hq (DpAll.cut h2 lo hi)).2⟩
    rw [DpAll.len h2] at hw
    rw [cutL_whole hw] at k
    exact k _ G H (Ext.refl e) h3
end
section
variable {X : Cx} {ca : CA} {W : WX} {e a b : Expr} {f g h : Rho → R D} {pos p2 : Pos} {k : Nat}
theorem fe_ix (ha : FB X ca W f a) (hb : FB X ca W g b) (hs : PlainIx b := by exact fun _ _ => rfl) : FE X ca W (op2 idxD f g) (.Subscript a b pos) := PEimp (pe_ix ix_seq ha hb hs) fun σ H Q q => tOp_sem rop_ix q
theorem POimp {t t' : TO} {e : Option Expr} (h : PO X e t) (k : ∀ σ H Q, t' σ H Q → t σ H Q) : PO X e t' := ⟨fun pins s σ H Q I q => h.run pins s σ H Q I (k σ H Q q)⟩
theorem fo_none : FO X ca W (fun _ => .ok none) none := POimp po_none fun σ H Q ⟨G, ρ, env, q⟩ => q G H (Ext.refl env.ext)
theorem fo_some (h : FE X ca W f e) : FO X ca W (someP f) (some e) := POimp (po_some h) fun σ H Q ⟨G, ρ, env, q⟩ => ⟨G, ρ, env, q.bind.imp fun d q v G' H' e dv => by
  have q := q.bind
  cases dv with
  | int i => exact ⟨i, rfl, q G' H' e⟩
  | _ => exact q.elim⟩
theorem fe_slice {lo hi : Option Expr} {l u : Rho → R (Option Int)} (he : FB X ca W f e) (hl : FO X ca W l lo) (hu : FO X ca W u hi) : FE X ca W (sliceF f l u) (.Subscript e (.Slice lo hi none p2) pos) := PEimp (pe_slice sl_seq he hl hu) fun σ H Q ⟨G, ρ, env, q⟩ => by
  refine ⟨G, ρ, env, q.bind.imp fun d q v G1 H1 e1 dv => ⟨G1, ρ, env.mono e1, q.bind.mono e1 fun lo q G2 H2 e2 => ⟨G2, ρ, env.mono (e1.trans e2), q.bind.mono (e1.trans e2) fun hi q G3 H3 e3 => ?_⟩⟩⟩
  cases hg : sliceD d lo hi with
  | none => rw [hg] at q; exact q.elim
  | some c =>
    rw [hg] at q
    exact rsl_ok e3.gh ((dv.ex e2.g e2.h).ex e3.g e3.h) hg fun v G' H' e dv => q v G' H' (((e1.trans e2).trans e3).trans e) dv

/-! ## built-in functions -/
def RFn1 (K : PySem.W.Frag) (r : List V → Hp → VK → Prop) (g : D → Option D) : Prop := ∀ (G H : Hp) (x : V) (a d : D) (Q : VK), Ex G H → DpB K G H x a → g a = some d → (∀ v G' H', Ext G H G' H' → Dp K G' v d → Q v H') → r [x] H Q
def RFn2 (K : PySem.W.Frag) (r : List V → Hp → VK → Prop) (g : D → D → Option D) : Prop := ∀ (G H : Hp) (x y : V) (a b d : D) (Q : VK), Ex G H → DpB K G H x a → DpB K G H y b → g a b = some d → (∀ v G' H', Ext G H G' H' → Dp K G' v d → Q v H') → r [x, y] H Q
def fn1 (g : D → Option D) (f : Rho → R D) : Rho → R D := fun ρ => do let d ← f ρ; R.of (g d)
theorem tCB1 {r : List V → Hp → VK → Prop} {g : D → Option D} {σ : L2.St} {H : Hp} {Q : VK} (hr : RFn1 X.K r g) (q : tSem X.K ca W (fn1 g f) σ H Q) : tCB r (tCons (tSemB X.K ca W f) tNil) σ H Q := by
  obtain ⟨G, ρ, env, q⟩ := q
  refine ⟨G, ρ, env, q.bind.imp fun d q v G1 H1 e1 dv => ?_⟩
  cases hg : g d with
  | none => rw [hg] at q; exact q.elim
  | some c => rw [hg] at q; exact hr G1 H1 v d c Q e1.gh dv hg fun v G' H' e dv => q v G' H' (e1.trans e) dv
theorem tCB2 {r : List V → Hp → VK → Prop} {g : D → D → Option D} {σ : L2.St} {H : Hp} {Q : VK} (hr : RFn2 X.K r g) (q : tSem X.K ca W (op2 g f h) σ H Q) : tCB r (tCons (tSemB X.K ca W f) (tCons (tSemB X.K ca W h) tNil)) σ H Q := by
  obtain ⟨G, ρ, env, q⟩ := q
  refine ⟨G, ρ, env, q.bind.imp fun x q u G1 H1 e1 dx => ⟨G1, ρ, env.mono e1, q.bind.mono e1 fun y q w G2 H2 e2 dy => ?_⟩⟩
  cases hg : g x y with
  | none => rw [hg] at q; exact q.elim
  | some d => rw [hg] at q; exact hr G2 H2 u w x y d Q e2.gh (dx.ex e2.g e2.h) dy hg fun v G' H' e dv => q v G' H' ((e1.trans e2).trans e) dv
variable {nm : Str} {p : Pos} {id T : String}
theorem fe_b1 {r : List V → Hp → VK → Prop} {d1 : D → Option D} (hc : CallR X (.builtin id) r) (hr : RFn1 X.K r d1) (hg : Gl X nm) (hm : X.mg nm = none) (hv : bootBuiltins nm = some (.builtin id)) (ha : FB X ca W f e)
    (hn : nm ≠ "__name__" := by decide) (hdb : (nm == ("__debug__" : Str)) = false := by decide) (hs : starEach [e] X.env = (false, eval e X.env) :: starEach [] X.env := by rfl) (hpl : (backTo pos (starEach [] X.env)).any (·.1) = false := by rfl) :
    FE X ca W (fn1 d1 f) (.Call (.Name nm p) [e] [] pos) := PEimp (pe_callB hc hg hm hv (pa_cons ha pa_nil hs) hn hdb hs hpl) fun σ H Q q => tCB1 hr q
theorem fe_t1 {r : List V → Hp → VK → Prop} {d1 : D → Option D} (hc : CallR X (.type T) r) (hr : RFn1 X.K r d1) (hg : Gl X nm) (hm : X.mg nm = none) (hv : bootBuiltins nm = some (.type T)) (ha : FB X ca W f e)
    (hn : nm ≠ "__name__" := by decide) (hdb : (nm == ("__debug__" : Str)) = false := by decide) (hs : starEach [e] X.env = (false, eval e X.env) :: starEach [] X.env := by rfl) (hpl : (backTo pos (starEach [] X.env)).any (·.1) = false := by rfl) :
    FE X ca W (fn1 d1 f) (.Call (.Name nm p) [e] [] pos) := PEimp (pe_callTy hc hg hm hv (pa_cons ha pa_nil hs) hn hdb hs hpl) fun σ H Q q => tCB1 hr q
theorem fe_b2 {r : List V → Hp → VK → Prop} {d2 : D → D → Option D} (hc : CallR X (.builtin id) r) (hr : RFn2 X.K r d2) (hg : Gl X nm) (hm : X.mg nm = none) (hv : bootBuiltins nm = some (.builtin id)) (ha : FB X ca W f a) (hb : FB X ca W h b)
    (hn : nm ≠ "__name__" := by decide) (hdb : (nm == ("__debug__" : Str)) = false := by decide) (hs : starEach [a, b] X.env = (false, eval a X.env) :: starEach [b] X.env := by rfl) (hs2 : starEach [b] X.env = (false, eval b X.env) :: starEach [] X.env := by rfl) (hpl : (backTo pos (starEach [b] X.env)).any (·.1) = false := by rfl) :
    FE X ca W (op2 d2 f h) (.Call (.Name nm p) [a, b] [] pos) := PEimp (pe_callB hc hg hm hv (pa_cons ha (pa_cons hb pa_nil hs2) hs) hn hdb hs hpl) fun σ H Q q => tCB2 hr q
end
section
variable {K : PySem.W.Frag}
/-! ### len -/
def lenD : D → Option D
  | .list ds => some (.int ds.length)
  | .tuple ds => some (.int ds.length)
  | .str z => if z.length ≤ szMax then some (.int z.length) else none
  | _ => none
def rLenA (K : PySem.W.Frag) : List V → Hp → VK → Prop := fun xs H Q => (∃ p ys, xs = [.ref p] ∧ (SqL K H p ys ∨ SqT K H p ys) ∧ Q (.int ys.length) H) ∨ (∃ z, xs = [.str z] ∧ z.length ≤ sizeLine ∧ Q (.int z.length) H)
theorem call_lenA {X : Cx} : CallR X (.builtin "len") (rLenA X.K) := CallR.or call_len_seq call_len_str
theorem rfn_len : RFn1 K (rLenA K) lenD := by
  intro G H x a d Q e dx hg k
  cases a <;> try (cases hg; done)
  case list ds =>
    cases hg
    obtain ⟨p, vs, rfl, h1, h2⟩ := Dp.lst_of dx
    exact Or.inl ⟨p, vs, rfl, Or.inl h1, by rw [DpAll.len h2]; exact k _ G H (Ext.refl e) (.int _)⟩
  case tuple ds =>
    cases hg
    obtain ⟨p, vs, rfl, h1, h2, _⟩ := Dp.tup_of e dx
    exact Or.inl ⟨p, vs, rfl, Or.inr h1, by rw [DpAll.len h2]; exact k _ G H (Ext.refl e) (.int _)⟩
  case str z =>
    obtain ⟨z1, rfl⟩ := ite_some hg
    exact Or.inr ⟨z, by rw [Dp.str_of dx], szLe z1, k _ G H (Ext.refl e) (.int _)⟩
/-! ### min, max of two -/
def max2D : D → D → Option D
  | .int i, .int j => some (.int (if j > i then j else i))
  | _, _ => none
def min2D : D → D → Option D
  | .int i, .int j => some (.int (if j < i then j else i))
  | _, _ => none
theorem rfn_max2 : RFn2 K (fun xs H Q => ∃ i j, xs = [.int i, .int j] ∧ Q (.int (if j > i then j else i)) H) max2D := by
  intro G H x y a b d Q e dx dy hg k
  cases a <;> cases b <;> try (cases hg; done)
  cases hg
  exact ⟨_, _, by rw [Dp.int_of dx, Dp.int_of dy], k _ G H (Ext.refl e) (.int _)⟩
theorem rfn_min2 : RFn2 K (fun xs H Q => ∃ i j, xs = [.int i, .int j] ∧ Q (.int (if j < i then j else i)) H) min2D := by
  intro G H x y a b d Q e dx dy hg k
  cases a <;> cases b <;> try (cases hg; done)
  cases hg
  exact ⟨_, _, by rw [Dp.int_of dx, Dp.int_of dy], k _ G H (Ext.refl e) (.int _)⟩
/-! ### tuple(x), list(x) -/
def tupleD : D → Option D
  | .list ds => some (.tuple ds)
  | .tuple ds => some (.tuple ds)
  | _ => none
/-! ### sum of ints -/
def ints? : List D → Option (List Int)
  | [] => some []
  | .int i :: ds => (ints? ds).map (i :: ·)
  | _ :: _ => none
theorem ints_dp {G : Hp} : ∀ {vs : List V} {ds : List D} {ns : List Int}, DpAll K G vs ds → ints? ds = some ns → vs = ns.map V.int
  | _, _, ns, .nil, e => by cases e; rfl
  | _, _, ns, @DpAll.cons _ _ v vs d ds h t, e => by
    cases d <;> try (cases e; done)
    case int i =>
      have e' : (ints? ds).map (i :: ·) = some ns := e
      cases q : ints? ds with
      | none => rw [q] at e'; cases e'
      | some ms =>
        rw [q] at e'; cases e'
        cases h
        rw [List.map_cons, ← ints_dp t q]
def sumD : D → Option D
  | .list ds => (ints? ds).map fun ns => .int ns.sum
  | _ => none
theorem rfn_sum : RFn1 K (rSum K) sumD := by
  intro G H x a d Q e dx hg k
  cases a <;> try (cases hg; done)
  case list ds =>
    have hg' : (ints? ds).map (fun ns => PyData.int ns.sum) = some d := hg
    cases q : ints? ds with
    | none => rw [q] at hg'; cases hg'
    | some ns =>
      rw [q] at hg'; cases hg'
      obtain ⟨p, vs, rfl, h1, h2⟩ := Dp.lst_of dx
      rw [ints_dp h2 q] at h1
      exact ⟨p, ns, rfl, h1, k _ G H (Ext.refl e) (.int _)⟩
end
section
variable {X : Cx} {ca : CA} {W : WX} {e a b : Expr} {f g h : Rho → R D} {pos p p2 : Pos} {k : Nat}
theorem fe_len (hg : Gl X "len") (hm : X.mg "len" = none) (ha : FB X ca W f e) (hs : starEach [e] X.env = (false, eval e X.env) :: starEach [] X.env := by rfl) : FE X ca W (fn1 lenD f) (.Call (.Name "len" p) [e] [] pos) := fe_b1 call_lenA rfn_len hg hm PySem.boot_len ha (hs := hs)
theorem boot_max : bootBuiltins "max" = some (.builtin "max") := by decide +kernel
theorem boot_min : bootBuiltins "min" = some (.builtin "min") := by decide +kernel
theorem boot_sum : bootBuiltins "sum" = some (.builtin "sum") := by decide +kernel
theorem fe_max2 (hc : X.calm = true) (hg : Gl X "max") (hm : X.mg "max" = none) (ha : FB X ca W f a) (hb : FB X ca W g b) (hs : starEach [a, b] X.env = (false, eval a X.env) :: starEach [b] X.env := by rfl) (hs2 : starEach [b] X.env = (false, eval b X.env) :: starEach [] X.env := by rfl) (hpl : (backTo pos (starEach [b] X.env)).any (·.1) = false := by rfl) :
    FE X ca W (op2 max2D f g) (.Call (.Name "max" p) [a, b] [] pos) := fe_b2 (call_max2 hc) rfn_max2 hg hm boot_max ha hb (hs := hs) (hs2 := hs2) (hpl := hpl)
theorem fe_min2 (hc : X.calm = true) (hg : Gl X "min") (hm : X.mg "min" = none) (ha : FB X ca W f a) (hb : FB X ca W g b) (hs : starEach [a, b] X.env = (false, eval a X.env) :: starEach [b] X.env := by rfl) (hs2 : starEach [b] X.env = (false, eval b X.env) :: starEach [] X.env := by rfl) (hpl : (backTo pos (starEach [b] X.env)).any (·.1) = false := by rfl) :
    FE X ca W (op2 min2D f g) (.Call (.Name "min" p) [a, b] [] pos) := fe_b2 (call_min2 hc) rfn_min2 hg hm boot_min ha hb (hs := hs) (hs2 := hs2) (hpl := hpl)
theorem fe_sum (hc : X.calm = true) (hg : Gl X "sum") (hm : X.mg "sum" = none) (ha : FB X ca W f e) (hs : starEach [e] X.env = (false, eval e X.env) :: starEach [] X.env := by rfl) : FE X ca W (fn1 sumD f) (.Call (.Name "sum" p) [e] [] pos) := fe_b1 (cr_sum hc) rfn_sum hg hm boot_sum ha (hs := hs)
/-- tuple(x) -/
theorem fe_tuple (hg : Gl X "tuple") (hm : X.mg "tuple" = none) (ha : FB X ca W f e) (hs : starEach [e] X.env = (false, eval e X.env) :: starEach [] X.env := by rfl) : FE X ca W (fn1 tupleD f) (.Call (.Name "tuple" p) [e] [] pos) := by
  refine PEimp (pe_tupleOf (ta := tSemB X.K ca W f) hg hm ha hs) fun σ H Q ⟨G, ρ, env, q⟩ => ?_
  refine ⟨G, ρ, env, q.bind.imp fun d q v G1 H1 e1 dv => ?_⟩
  cases d <;> try (exact q.elim)
  case list ds =>
    obtain ⟨p, vs, rfl, h1, h2⟩ := Dp.lst_of dv
    exact Or.inl ⟨p, vs, rfl, h1, fun r hr => q _ _ _ (e1.trans (Dp.newt e1.gh hr h2).1) (Dp.newt e1.gh hr h2).2⟩
  case tuple ds =>
    obtain ⟨p, vs, rfl, h1, h2, h3⟩ := Dp.tup_of e1.gh dv
    exact Or.inr ⟨p, vs, rfl, h1, q _ _ _ e1 h3⟩
/-! ### isinstance(x, T) -/
def tyN : D → String
  | .none => "NoneType"
  | .bool _ => "bool"
  | .int _ => "int"
  | .str _ => "str"
  | .list _ => "list"
  | .tuple _ => "tuple"
  | .dict _ => "dict"
def isiD (T : String) (d : D) : Option D := (kitB (tyN d) T).map fun b => .bool b
theorem tyX_dp {K : PySem.W.Frag} {G H : Hp} (e : Ex G H) : ∀ {d : D} {x : V}, DpB K G H x d → TyX K H x (.type (tyN d))
  | .none, _, h => by cases h; exact .base .non
  | .bool _, _, h => by cases h; exact .base (.bl _)
  | .int _, _, h => by cases h; exact .base (.int _)
  | .str _, _, h => by cases h; exact .base (.str _)
  | .list ds, _, ⟨p, vs, h1, h2, h3⟩ => by
    subst h1
    rcases h2 with (h2 | ⟨o, h2⟩) | ⟨o, its, n, h2, h3, _⟩
    · exact .base (.lst h2)
    · exact .base (.frz h2)
    · exact .kList h2 h3
  | .tuple ds, _, h => by
    obtain ⟨p, vs, rfl, h2, _⟩ := Dp.tup_of e h
    rcases h2 with (h2 | ⟨o, h2⟩) | ⟨o, its, n, h2, h3, _⟩
    · exact .base (.tup h2)
    · exact .fTuple h2
    · exact .kTuple h2 h3
  | .dict _, _, h => by cases h
theorem boot_isi : bootBuiltins "isinstance" = some (.builtin "isinstance") := by decide +kernel
theorem fe_isi {T : String} {nm : Str} (hg : Gl X "isinstance") (hm : X.mg "isinstance" = none) (ha : FB X ca W f e) (hg2 : Gl X nm) (hm2 : X.mg nm = none) (hv2 : bootBuiltins nm = some (.type T)) (hn2 : nm ≠ "__name__" := by decide) (hd2 : (nm == ("__debug__" : Str)) = false := by decide)
    (hs : starEach [e, .Name nm p2] X.env = (false, eval e X.env) :: starEach [.Name nm p2] X.env := by rfl) (hpl : (backTo pos (starEach [.Name nm p2] X.env)).any (·.1) = false := by rfl) :
    FE X ca W (fn1 (isiD T) f) (.Call (.Name "isinstance" p) [e, .Name nm p2] [] pos) := by
  refine PEimp (pe_callB call_isi hg hm boot_isi (pa_cons (te := tSemB X.K ca W f) ha (pa_cons (pe_bltn (v := .ty T) hg2 hm2 hv2 rfl hn2 hd2) pa_nil) hs) (he := hs) (hpl := hpl)) fun σ H Q ⟨G, ρ, env, q⟩ => ?_
  refine ⟨G, ρ, env, q.bind.imp fun d q v G1 H1 e1 dv => ?_⟩
  have q' : ARes X.K ca W σ G H (fun d => ∀ v G' H', Ext G H G' H' → Dp X.K G' v d → Q v H') (R.of ((kitB (tyN d) T).map fun b => PyData.bool b)) := q
  cases hk : kitB (tyN d) T with
  | none => rw [hk] at q'; exact q'.elim
  | some b => rw [hk] at q'; exact ⟨v, .ty T, .type (tyN d), .type T, b, rfl, .ty T, tyX_dp e1.gh dv, kit_ty hk, q' _ G1 H1 e1 (.bl b)⟩

/-! ## own calls -/
/-- a def's promise: what sem says of the arguments' data -/
def spSem (K : PySem.W.Frag) (ca : CA) (n : Nat) (sem : List D → R D) : Sp := fun vs H Q E => ∃ G ds, Ex G H ∧ DpAll K G vs ds ∧ ds.length = n ∧ match sem ds with
  | .ok d => ∀ v G' H', Ext G H G' H' → Dp K G' v d → Q v H'
  | .exc x => ∀ c dd G' H', Ext G H G' H' → ExcAt K ca G' H' x c dd → E c dd H'
  | .bad => False
theorem spSem_len {K : PySem.W.Frag} {ca : CA} {ps : List Str} {sem : List D → R D} : ∀ vs H Q E, spSem K ca ps.length sem vs H Q E → vs.length = ps.length := fun vs H Q E ⟨G, ds, h1, h2, h3, _⟩ => by rw [DpAll.len h2, h3]
def callF (n : Nat) (sem : List D → R D) (f : Rho → R (List D)) : Rho → R D := fun ρ => do let ds ← f ρ; if ds.length = n then sem ds else .bad
theorem fe_call {fa : Addr} {fd : FuncData} {ps : List Str} {sem : List D → R D} {x : Str} {es : List Expr} {fA : Rho → R (List D)} (tk : Takes X W) (F : FnOk X.prog X.w X.K X.mg X.base (L2.CX X.prog X.w) k fa fd ps (spSem X.K ca ps.length sem)) {j : Nat} (hr : Room j X.A) (hkj : k ≤ j) (hg : Gl X x) (hm : X.mg x = some (.ref fa)) (hk : PySem.W.keepIn X.K (.ref fa) = true)
    (hb : Binds X.K fd ps []) (ha : FA X ca W fA (e :: es)) (hdb : (x == ("__debug__" : Str)) = false := by decide) (he : starEach (e :: es) X.env = (false, eval e X.env) :: starEach es X.env := by rfl) (hpl : (backTo pos (starEach es X.env)).any (·.1) = false := by rfl) :
    FE X ca W (callF ps.length sem fA) (.Call (.Name x p) (e :: es) [] pos) := by
  refine PEimp (pe_callS F (hr.mono hkj) hg hm hk hb (fun σ => passAt tk σ) ha hdb he hpl) fun σ H Q ⟨G, ρ, env, q⟩ => ?_
  refine ⟨G, ρ, env, q.bind.imp fun ds q vs G1 H1 e1 dvs => ?_⟩
  by_cases hl : ds.length = ps.length
  · rw [if_pos hl] at q
    refine ⟨G1, ds, e1.gh, dvs, hl, ?_⟩
    cases hsem : sem ds with
    | ok d => rw [hsem] at q; exact fun v G' H' e2 dv => q v G' H' (e1.trans e2) dv
    | exc z => rw [hsem] at q; exact fun c dd G' H' e2 hx => q c dd G' H' (e1.trans e2) hx
    | bad => rw [hsem] at q; exact q
  · rw [if_neg hl] at q; exact q.elim
end
end FE

namespace FE
open PySem L2 PyProof.Rows PySem.Spec
/-! ## statements -/
inductive Out where
  | nx (ρ : Rho)
  | ret (d : D)
  | exc (e : Exn)
  | bad
/-- the own lists' places satisfy P -/
def OwnP (P : Addr → Prop) (σ : L2.St) (ρ : Rho) : Prop := ∀ (i : Nat) (o : Option SV) (p : Addr), ρ[i]? = some o → isOn o = true → σ[i]? = some (some (.ref p)) → P p
structure StOk (K : PySem.W.Frag) (G0 H0 G H : Hp) (σ : L2.St) (ρ : Rho) : Prop where
  env : EnvOk K G H σ ρ
  ext : Ext G0 H0 G H
  own : OwnP (fun p => H0 p = none) σ ρ
def SRes (K : PySem.W.Frag) (ca : CA) (W : WX) (Dn : Ends) (G0 H0 : Hp) : Out → Prop
  | .nx ρ => ∀ σ G H, StOk K G0 H0 G H σ ρ → Dn.nx σ H
  | .ret d => ∀ v G H, Ext G0 H0 G H → Dp K G v d → Dn.rt v H
  | .exc e => ∀ c dd σ G H, Ext G0 H0 G H → ExcAt K ca G H e c dd → W c dd σ H
  | .bad => False
def tSt (K : PySem.W.Frag) (ca : CA) (W : WX) (g : Rho → Out) : TS := fun Dn σ H => ∃ G0 H0 G ρ, StOk K G0 H0 G H σ ρ ∧ SRes K ca W Dn G0 H0 (g ρ)
abbrev FS (X : Cx) (ca : CA) (W : WX) (g : Rho → Out) (st : Stmt) : Prop := PS X st (tSt X.K ca W g)
abbrev FSs (X : Cx) (ca : CA) (W : WX) (g : Rho → Out) (st : List Stmt) : Prop := PSs X st (tSt X.K ca W g)
/-- a result, then a statement's end -/
def R.out {α : Type} : R α → (α → Out) → Out
  | .ok a, f => f a
  | .exc e, _ => .exc e
  | .bad, _ => .bad
theorem StOk.mono {K : PySem.W.Frag} {G0 H0 G H G' H' : Hp} {σ : L2.St} {ρ : Rho} (s : StOk K G0 H0 G H σ ρ) (e : Ext G H G' H') : StOk K G0 H0 G' H' σ ρ := ⟨s.env.mono e, s.ext.trans e, s.own⟩
theorem SRes.out {K : PySem.W.Frag} {ca : CA} {W : WX} {Dn : Ends} {G0 H0 G H : Hp} {σ : L2.St} {ρ : Rho} {α : Type} {x : R α} {f : α → Out} (s : StOk K G0 H0 G H σ ρ) (h : SRes K ca W Dn G0 H0 (x.out f)) : ARes K ca W σ G H (fun a => SRes K ca W Dn G0 H0 (f a)) x := by
  cases x with
  | ok a => exact h
  | exc e => exact fun c dd G' H' e1 q => h c dd σ G' H' (s.ext.trans e1) q
  | bad => exact h
/-- a slot stored: lasting data -/
theorem OwnP.set_sh {P : Addr → Prop} {σ : L2.St} {ρ : Rho} {i : Nat} {o : Option SV} {x : Option V} (h : OwnP P σ ρ) (ho : isOn o = false) : OwnP P (σ.set i x) (ρ.set i o) := by
  intro j u p hj hu hp
  by_cases z : i = j
  · subst z
    by_cases hi : i < ρ.length
    · rw [List.getElem?_set_self hi] at hj; cases hj; rw [ho] at hu; cases hu
    · rw [List.getElem?_eq_none (by simpa using hi)] at hj; cases hj
  · rw [List.getElem?_set_ne z] at hj hp
    exact h j u p hj hu hp
theorem OwnP.set_ow {P : Addr → Prop} {σ : L2.St} {ρ : Rho} {i : Nat} {o : Option SV} {q : Addr} (h : OwnP P σ ρ) (hq : P q) (hl : σ.length = ρ.length) : OwnP P (σ.set i (some (.ref q))) (ρ.set i o) := by
  intro j u p hj hu hp
  by_cases z : i = j
  · subst z
    by_cases hi : i < ρ.length
    · rw [List.getElem?_set_self (by rw [hl]; exact hi)] at hp
      cases hp; exact hq
    · rw [List.getElem?_eq_none (by simpa using hi)] at hj; cases hj
  · rw [List.getElem?_set_ne z] at hj hp
    exact h j u p hj hu hp
theorem EnvOk.set_sh {K : PySem.W.Frag} {G H : Hp} {σ : L2.St} {ρ : Rho} {i : Nat} {v : V} {d : D} (k : EnvOk K G H σ ρ) (h : Dp K G v d) : EnvOk K G H (σ.set i (some v)) (ρ.set i (some (.sh d))) :=
  k.set (o := some (.sh d)) (x := some v) ⟨v, rfl, h⟩ fun z => Bool.noConfusion z
theorem StOk.set_sh {K : PySem.W.Frag} {G0 H0 G H : Hp} {σ : L2.St} {ρ : Rho} {i : Nat} {v : V} {d : D} (s : StOk K G0 H0 G H σ ρ) (h : Dp K G v d) : StOk K G0 H0 G H (σ.set i (some v)) (ρ.set i (some (.sh d))) :=
  ⟨s.env.set_sh h, s.ext, s.own.set_sh rfl⟩
theorem StOk.set_ow {K : PySem.W.Frag} {G0 H0 G H G' H' : Hp} {σ : L2.St} {ρ : Rho} {i : Nat} {p : Addr} {vs : List V} {ds : List D} (s : StOk K G0 H0 G H σ ρ) (e : Ext G H G' H') (hp : H p = none) (gp : G' p = none) (hl : H' p = some (.lst vs)) (hd : DpAll K G' vs ds) :
    StOk K G0 H0 G' H' (σ.set i (some (.ref p))) (ρ.set i (some (.ow ds))) := by
  have s' := s.mono e
  refine ⟨s'.env.set (o := some (.ow ds)) (x := some (.ref p)) ⟨p, vs, rfl, gp, hl, hd⟩ fun _ j u q hj hu ow hq hσ => ?_, s'.ext, s'.own.set_ow (s.ext.h.back hp) s.env.len⟩
  cases hq
  obtain ⟨x, h1, h2⟩ := s.env.at_ j u hu
  cases u with
  | none => cases ow
  | some sv =>
    cases sv with
    | ow es =>
      obtain ⟨p', vs', h3, h4, h5, h6⟩ := h2
      rw [h1, h3] at hσ
      cases hσ
      rw [hp] at h5; cases h5
    | sh d => cases ow
    | gr d => cases ow
    | raw v => cases ow
    | xr a dd l => cases ow
    | ob P =>
      obtain ⟨p', h3, dx, vg, vm, vc, vk, _, _, _, h5, _⟩ := h2
      rw [h1, h3] at hσ
      cases hσ
      rw [hp] at h5; cases h5
    | rd P =>
      obtain ⟨p', h3, dx, vg, vm, vc, vk, _, _, _, h5, _⟩ := h2
      rw [h1, h3] at hσ
      cases hσ
      rw [hp] at h5; cases h5
section
variable {X : Cx} {ca : CA} {W : WX} {e a b : Expr} {st : Stmt} {rest : List Stmt} {pos p2 : Pos}
theorem PSimp {t t' : TS} (h : PS X st t) (k : ∀ Dn σ H, t' Dn σ H → t Dn σ H) : PS X st t' := ⟨fun pins s σ H Dn I q => h.run pins s σ H Dn I (k Dn σ H q)⟩
theorem PSsimp {t t' : TS} (h : PSs X rest t) (k : ∀ Dn σ H, t' Dn σ H → t Dn σ H) : PSs X rest t' := ⟨fun pins s σ H Dn I q => h.run pins s σ H Dn I (k Dn σ H q)⟩
def seqS (g h : Rho → Out) : Rho → Out := fun ρ => match g ρ with
  | .nx ρ' => h ρ'
  | .ret d => .ret d
  | .exc e => .exc e
  | .bad => .bad
theorem fss_cons {g h : Rho → Out} (h1 : FS X ca W g st) (h2 : FSs X ca W h rest) : FSs X ca W (seqS g h) (st :: rest) := PSsimp (pss_cons h1 h2) fun Dn σ H ⟨G0, H0, G, ρ, s, q⟩ => by
  refine ⟨G0, H0, G, ρ, s, ?_⟩
  unfold seqS at q
  cases hg : g ρ with
  | nx ρ' => rw [hg] at q; exact fun σ' G' H' s' => ⟨G0, H0, G', ρ', s', q⟩
  | ret d => rw [hg] at q; exact q
  | exc e => rw [hg] at q; exact q
  | bad => rw [hg] at q; exact q
theorem fss_one {g : Rho → Out} (h1 : FS X ca W g st) : FSs X ca W g [st] := pss_one h1
theorem fss_nil : FSs X ca W Out.nx [] := PSsimp pss_nil fun Dn σ H ⟨G0, H0, G, ρ, s, q⟩ => q σ G H s
theorem fs_pass : FS X ca W Out.nx (.Pass pos) := PSimp ps_pass fun Dn σ H ⟨G0, H0, G, ρ, s, q⟩ => q σ G H s
/-- x = e -/
def setF (i : Nat) (f : Rho → R D) : Rho → Out := fun ρ => (f ρ).out fun d => .nx (ρ.set i (some (.sh d)))
theorem tAsg_sem {i : Nat} {f : Rho → R D} {te : TE} {Dn : Ends} {σ : L2.St} {H : Hp} (ht : ∀ Q, tSem X.K ca W f σ H Q → te σ H Q) (q : tSt X.K ca W (setF i f) Dn σ H) : tAsg te (gName i) Dn σ H := by
  obtain ⟨G0, H0, G, ρ, s, q⟩ := q
  exact ht _ ⟨G, ρ, s.env, (SRes.out s q).imp fun d q v G' H' e dv => q _ G' H' ((s.mono e).set_sh dv)⟩
theorem fs_set {i : Nat} {x : Str} {pos' : Pos} {f : Rho → R D} (hN : X.N.Nodup) (hi : X.N[i]? = some x) (hx : Loc X.env.scope x) (he : FE X ca W f e) (hs : swapsWith e (some (.Name x pos')) pos.line X.env = pure false := by rfl) (hf : X.fn x = true ∨ X.env.scope.names.lookup x = some .local := by first | exact .inl rfl | exact .inr rfl | assumption) :
    FS X ca W (setF i f) (.Assign [.Name x pos'] e pos) := PSimp (ps_set hN hi hx he hs hf) fun Dn σ H q => tAsg_sem (fun _ q => q) q
/-- x = e, e a new list that the def will change -/
def setL (i : Nat) (f : Rho → R (List D)) : Rho → Out := fun ρ => (f ρ).out fun ds => .nx (ρ.set i (some (.ow ds)))
theorem tAsg_semL {i : Nat} {f : Rho → R (List D)} {te : TE} {Dn : Ends} {σ : L2.St} {H : Hp} (ht : ∀ Q, tSemL X.K ca W f σ H Q → te σ H Q) (q : tSt X.K ca W (setL i f) Dn σ H) : tAsg te (gName i) Dn σ H := by
  obtain ⟨G0, H0, G, ρ, s, q⟩ := q
  exact ht _ ⟨G, ρ, s.env, (SRes.out s q).imp fun ds q p vs G' H' e hp gp hl dv => q _ G' H' (s.set_ow e hp gp hl dv)⟩
theorem fs_setL {i : Nat} {x : Str} {pos' : Pos} {f : Rho → R (List D)} (hN : X.N.Nodup) (hi : X.N[i]? = some x) (hx : Loc X.env.scope x) (he : FL X ca W f e) (hs : swapsWith e (some (.Name x pos')) pos.line X.env = pure false := by rfl) (hf : X.fn x = true ∨ X.env.scope.names.lookup x = some .local := by first | exact .inl rfl | exact .inr rfl | assumption) :
    FS X ca W (setL i f) (.Assign [.Name x pos'] e pos) := PSimp (ps_set hN hi hx he hs hf) fun Dn σ H q => tAsg_semL (fun _ q => q) q
/-- return e -/
def retF (f : Rho → R D) : Rho → Out := fun ρ => (f ρ).out .ret
theorem fs_ret {f : Rho → R D} (he : FE X ca W f e) : FS X ca W (retF f) (.Return (some e) pos) := PSimp (ps_ret he) fun Dn σ H ⟨G0, H0, G, ρ, s, q⟩ =>
  ⟨G, ρ, s.env, (SRes.out s q).imp fun d q v G' H' e dv => q v G' H' (s.ext.trans e) dv⟩
theorem fs_retN : FS X ca W (fun _ => .ret .none) (.Return none pos) := PSimp ps_retN fun Dn σ H ⟨G0, H0, G, ρ, s, q⟩ => q .non G H s.ext .non
/-- return x, x an own list: it lasts from then on -/
theorem fs_retO {i : Nat} (h : PE X e (tVar i)) : FS X ca W (retF (go i)) (.Return (some e) pos) := PSimp (ps_ret h) fun Dn σ H ⟨G0, H0, G, ρ, s, q⟩ => by
  unfold retF go at q
  split at q
  · rename_i d hd
    obtain ⟨p, vs, h1, h2, h3, h4⟩ := s.env.ow hd
    have hp0 : H0 p = none := s.own i _ p hd rfl h1
    refine ⟨.ref p, h1, q (.ref p) (upd G p (.lst vs)) H ?_ (.lst (Or.inl (Or.inl upd_same)) (DpAll.ex (Ex.new h2) _ h4))⟩
    refine ⟨fun x o hx => ?_, s.ext.h, fun x o hx => ?_, fun x z1 z2 => ?_⟩
    · have z := s.ext.g x o hx
      rw [upd_ne (ne_of_none z h2)]; exact z
    · by_cases z : x = p
      · subst z; rw [upd_same] at hx; cases hx; exact h3
      · rw [upd_ne z] at hx; exact s.env.ext x o hx
    · have z : x ≠ p := fun z => z2 (by rw [z]; exact hp0)
      rw [upd_ne z]; exact s.ext.new x z1 z2
  · exact q.elim
/-- e, its value dropped -/
def dropF (f : Rho → R D) : Rho → Out := fun ρ => (f ρ).out fun _ => .nx ρ
theorem fs_expr {f : Rho → R D} (he : FE X ca W f e) (hs : swapsWith e none pos.line X.env = pure false := by rfl) : FS X ca W (dropF f) (.Expr e pos) := PSimp (ps_expr he hs) fun Dn σ H ⟨G0, H0, G, ρ, s, q⟩ =>
  ⟨G, ρ, s.env, (SRes.out s q).imp fun d q v G' H' e dv => q σ G' H' (s.mono e)⟩
/-- if -/
def ifS (c : Rho → R Bool) (g h : Rho → Out) : Rho → Out := fun ρ => (c ρ).out fun b => if b = true then g ρ else h ρ
theorem fs_if {c : Expr} {x y : List Stmt} {f : Rho → R Bool} {g h : Rho → Out} (hc : FT X ca W f c) (hx : FSs X ca W g x) (hy : FSs X ca W h y) : FS X ca W (ifS f g h) (.If c x y pos) := PSimp (ps_if hc hx hy) fun Dn σ H ⟨G0, H0, G, ρ, s, q⟩ =>
  ⟨G, ρ, s.env, (SRes.out s q).imp fun b q G' H' e => by
    cases b with
    | true => rw [if_pos rfl]; exact ⟨G0, H0, G', ρ, s.mono e, q⟩
    | false => rw [if_neg Bool.false_ne_true]; exact ⟨G0, H0, G', ρ, s.mono e, q⟩⟩
/-! ## targets -/
theorem wipe_get : ∀ (vs : List Nat) (σ : L2.St) (j : Nat), (L2.wipe σ vs)[j]? = if j ∈ vs then (σ[j]?).map fun _ => none else σ[j]?
  | [], σ, j => by simp [L2.wipe]
  | v :: vs, σ, j => by
    show ((L2.wipe σ vs).set v none)[j]? = _
    have ih := wipe_get vs σ j
    by_cases z : v = j
    · subst z
      rw [if_pos List.mem_cons_self]
      by_cases q : v < σ.length
      · rw [List.getElem?_set_self (by rw [wipe_length]; exact q), List.getElem?_eq_getElem q]; rfl
      · rw [List.getElem?_eq_none (by simpa [wipe_length] using q), List.getElem?_eq_none (by simpa using q)]; rfl
    · rw [List.getElem?_set_ne z, ih]
      by_cases q : j ∈ vs
      · rw [if_pos q, if_pos (List.mem_cons_of_mem _ q)]
      · rw [if_neg q, if_neg (fun h => (List.mem_cons.mp h).elim (fun e => z e.symm) q)]
theorem wipe_set {σ : L2.St} {i : Nat} {x : Option V} {vs : List Nat} (h : i ∈ vs) : L2.wipe (σ.set i x) vs = L2.wipe σ vs := by
  apply List.ext_getElem?
  intro j
  rw [wipe_get, wipe_get]
  by_cases z : j ∈ vs
  · rw [if_pos z, if_pos z]
    by_cases e : i = j
    · subst e
      by_cases q : i < σ.length
      · rw [List.getElem?_set_self q, List.getElem?_eq_getElem q]; rfl
      · rw [List.getElem?_eq_none (by simpa using q), List.getElem?_eq_none (by simpa using q)]
    · rw [List.getElem?_set_ne e]
  · rw [if_neg z, if_neg z, List.getElem?_set_ne (fun e => z (by rw [← e]; exact h))]
theorem wipe_wipe (σ : L2.St) (vs : List Nat) : L2.wipe (L2.wipe σ vs) vs = L2.wipe σ vs := by
  apply List.ext_getElem?
  intro j
  rw [wipe_get vs (L2.wipe σ vs), wipe_get]
  by_cases z : j ∈ vs
  · rw [if_pos z, if_pos z, Option.map_map]; rfl
  · rw [if_neg z, if_neg z]
/-- a target stores the data d, in slots of is -/
structure GOk (K : PySem.W.Frag) (t : TG) (u : D → Rho → Option Rho) (is : List Nat) : Prop where
  run : ∀ (G H : Hp) (σ : L2.St) (ρ ρ' : Rho) (v : V) (d : D) (Q : L2.St → Hp → Prop), EnvOk K G H σ ρ → Dp K G v d → u d ρ = some ρ' →
    (∀ σ', EnvOk K G H σ' ρ' → (∀ P, OwnP P σ ρ → OwnP P σ' ρ') → (∀ vs : List Nat, (∀ j ∈ is, j ∈ vs) → L2.wipe σ' vs = L2.wipe σ vs) → Q σ' H) → t v σ H Q
def FG (X : Cx) (u : D → Rho → Option Rho) (is : List Nat) (tg : Expr) (t : TG) : Prop := PG X tg t ∧ GOk X.K t u is
def tg1 (i : Nat) : D → Rho → Option Rho := fun d ρ => some (ρ.set i (some (.sh d)))
def tg2 (i j : Nat) : D → Rho → Option Rho := fun d ρ => match d with
  | .tuple [a, b] => some ((ρ.set i (some (.sh a))).set j (some (.sh b)))
  | _ => none
theorem gok1 {K : PySem.W.Frag} {i : Nat} : GOk K (gName i) (tg1 i) [i] := ⟨fun G H σ ρ ρ' v d Q env dv hu k => by
  cases hu
  exact k _ (env.set_sh dv) (fun P h => h.set_sh rfl) fun vs h => wipe_set (h i List.mem_cons_self)⟩
theorem gok2 {K : PySem.W.Frag} {i j : Nat} : GOk K (gTup K 2 (gCons (gName i) (gCons (gName j) gNil))) (tg2 i j) [i, j] := ⟨fun G H σ ρ ρ' v d Q env dv hu k => by
  unfold tg2 at hu
  split at hu
  · rename_i a b
    cases hu
    cases dv with
    | tup h1 h2 =>
      cases h2 with
      | cons ha h2 =>
        cases h2 with
        | cons hb h2 =>
          cases h2
          exact ⟨_, _, rfl, ex_t env.ext h1, rfl, _, _, rfl, _, _, rfl, rfl, k _ ((env.set_sh ha).set_sh hb) (fun P h => (h.set_sh rfl).set_sh rfl) fun vs h => by
            rw [wipe_set (h j (by simp)), wipe_set (h i (by simp))]⟩
  · cases hu⟩
theorem fg1 {i : Nat} {x : Str} (h : PG X (.Name x pos) (gName i)) : FG X (tg1 i) [i] (.Name x pos) (gName i) := ⟨h, gok1⟩
theorem fg2 {i j : Nat} {tg : Expr} (h : PG X tg (gTup X.K 2 (gCons (gName i) (gCons (gName j) gNil)))) : FG X (tg2 i j) [i, j] tg (gTup X.K 2 (gCons (gName i) (gCons (gName j) gNil))) := ⟨h, gok2⟩
/-- a, b = e -/
def unpF (u : D → Rho → Option Rho) (f : Rho → R D) : Rho → Out := fun ρ => (f ρ).out fun d => match u d ρ with
  | some ρ' => .nx ρ'
  | none => .bad
theorem fs_unp {tg : Expr} {t : TG} {u : D → Rho → Option Rho} {f : Rho → R D} (he : FE X ca W f e) {is : List Nat} (hg : FG X u is tg t) (hs : swapsWithSole [tg] e pos.line X.env = pure false := by rfl) (hw : swappedStores [tg] e X.env = pure none := by rfl)
    (h1 : (assignEach [tg] X.env).map (·.2) = [assign tg X.env] := by rfl) : FS X ca W (unpF u f) (.Assign [tg] e pos) := PSimp (ps_asg he hg.1 hs hw h1) fun Dn σ H ⟨G0, H0, G, ρ, s, q⟩ =>
  ⟨G, ρ, s.env, (SRes.out s q).imp fun d q v G' H' e dv => by
    cases hu : u d ρ with
    | none => rw [hu] at q; exact q.elim
    | some ρ' =>
      rw [hu] at q
      exact hg.2.run G' H' σ ρ ρ' v d _ (s.mono e).env dv hu fun σ' env' ow _ => q σ' G' H' ⟨env', (s.mono e).ext, ow _ s.own⟩⟩
/-- a, b = x, y -/
def parF (i j : Nat) (f g : Rho → R D) : Rho → Out := fun ρ => (f ρ).out fun a => (g ρ).out fun b => .nx ((ρ.set i (some (.sh a))).set j (some (.sh b)))
theorem fs_par {i j : Nat} {x y : Str} {f g : Rho → R D} {px py pt : Pos} {kt k2 pt2} (hc : X.calm = true) (hN : X.N.Nodup) (hi : X.N[i]? = some x) (hj : X.N[j]? = some y) (hij : i ≠ j)
    (hx : X.env.scope.names.lookup x = some .local) (hy : X.env.scope.names.lookup y = some .local) (ha : FE X ca W f a) (hb : FE X ca W g b) (hs1 : starEach [a, b] X.env = (false, eval a X.env) :: starEach [b] X.env := by rfl) (hs2 : starEach [b] X.env = (false, eval b X.env) :: starEach [] X.env := by rfl)
    (hw : swappedStores [.Tuple [.Name x px, .Name y py] kt pt] (.Tuple [a, b] k2 pt2) X.env = pure (some [x, y]))
    (hs : swapsWithSole [.Tuple [.Name x px, .Name y py] kt pt] (.Tuple [a, b] k2 pt2) pos.line X.env = pure false := by rfl) :
    FS X ca W (parF i j f g) (.Assign [.Tuple [.Name x px, .Name y py] kt pt] (.Tuple [a, b] k2 pt2) pos) := PSimp (ps_par hc hN hi hj hij hx hy (pa_cons ha (pa_cons hb pa_nil hs2) hs1) hw hs) fun Dn σ H ⟨G0, H0, G, ρ, s, q⟩ => by
  refine ⟨G, ρ, s.env, (SRes.out s q).imp fun d q v G1 H1 e1 dv => ⟨G1, ρ, (s.mono e1).env, (SRes.out (s.mono e1) q).imp fun d2 q w G2 H2 e2 dw => ?_⟩⟩
  exact ⟨v, w, rfl, q _ G2 H2 ((((s.mono e1).mono e2).set_sh (Dp.ex e2.g _ dv)).set_sh dw)⟩
end
end FE

namespace FE
open PySem L2 PyProof.Rows PySem.Spec
/-! ## lists that change -/
section
theorem list_extendW (l : Addr) (items : Array Value) (n : Nat) (b : Addr) (items2 : Array Value) (n2 : Nat) (dd2 : Option Addr) (sl2 : Array (Option Value)) (hc0 : ¬(!items.isEmpty && Builtin.List.listTooLong (items.size + items2.size)) = true) (hc1 : items.size ≤ sizeLine) (hs2 : items.size + items2.size ≤ sizeLine + 1) :
    Meets (Builtin.«list.extend» ⟨[.ref l, .ref b], []⟩) (fun _ R s => s.heap.get? l = some { cls := .type "list", dict := none, data := .seq items n, slots := #[] } ∧ s.heap.get? b = some { cls := .type "list", dict := dd2, data := .seq items2 n2, slots := sl2 } ∧ R (.ok (.ret Value.none)) { s with heap := s.heap.update l (Obj.mapSeq fun x => x ++ items2), toks := s.toks }) :=
  .of_wp fun prog w A R s h => by
    obtain ⟨hp, g, d, tk, os⟩ := s; obtain ⟨hl, hb, h⟩ := h; have f1 := AutoSeq1.idx_int; have f2 := AutoSeq1.sub_tuple_tuple; have f3 := AutoSeq1.sub_list_list; have f4 := AutoSeq1.sub_tuple_list; have f5 := AutoSeq1.sub_list_tuple;
    have hz' : (items ++ items2).size ≤ sizeLine + 1 := by rw [Array.size_append]; exact hs2
    wp_walk using (wpAny_updateSeq hl rfl (hz := hc1) (_hz' := hz')), AutoSeq1.wpAny_loadPart' hl, AutoSeq1.wpAny_loadPart' hb; exact ⟨_, rfl, h⟩
theorem list_extendWT (l : Addr) (items : Array Value) (n : Nat) (b : Addr) (items2 : Array Value) (n2 : Nat) (dd2 : Option Addr) (sl2 : Array (Option Value)) (hc0 : ¬(!items.isEmpty && Builtin.List.listTooLong (items.size + items2.size)) = true) (hc1 : items.size ≤ sizeLine) (hs2 : items.size + items2.size ≤ sizeLine + 1) :
    Meets (Builtin.«list.extend» ⟨[.ref l, .ref b], []⟩) (fun _ R s => s.heap.get? l = some { cls := .type "list", dict := none, data := .seq items n, slots := #[] } ∧ s.heap.get? b = some { cls := .type "tuple", dict := dd2, data := .seq items2 n2, slots := sl2 } ∧ R (.ok (.ret Value.none)) { s with heap := s.heap.update l (Obj.mapSeq fun x => x ++ items2), toks := s.toks }) :=
  .of_wp fun prog w A R s h => by
    obtain ⟨hp, g, d, tk, os⟩ := s; obtain ⟨hl, hb, h⟩ := h; have f1 := AutoSeq1.idx_int; have f2 := AutoSeq1.sub_tuple_tuple; have f3 := AutoSeq1.sub_list_list; have f4 := AutoSeq1.sub_tuple_list; have f5 := AutoSeq1.sub_list_tuple;
    have hz' : (items ++ items2).size ≤ sizeLine + 1 := by rw [Array.size_append]; exact hs2
    wp_walk using (wpAny_updateSeq hl rfl (hz := hc1) (_hz' := hz')), AutoSeq1.wpAny_loadPart' hl, AutoSeq1.wpAny_loadPart' hb; exact ⟨_, rfl, h⟩
end
def rExtG (K : PySem.W.Frag) : V → List V → Hp → VK → Prop := fun x vs H Q => ∃ l b xs zs, x = .ref l ∧ vs = [.ref b] ∧ H l = some (.lst xs) ∧ (SqL K H b zs ∨ SqT K H b zs) ∧ xs.length + zs.length ≤ sizeLine ∧ Q .non (upd H l (.lst (xs ++ zs)))
theorem mt_extG {X : Cx} : MtM X "list.extend" (rExtG X.K) := by
  intro pins s σ H x vs v us Q I rx rv h
  obtain ⟨l, b, xs, zs, rfl, rfl, hH, hB, hz, q⟩ := h
  cases rx
  obtain ⟨u, rfl, ru⟩ := rv.one
  cases ru
  obtain ⟨z, its, n, r, hl, e⟩ := I.lstM hH
  rcases hB with hB | hB
  · obtain ⟨its2, r2, ⟨⟨cls2, dd2, data2, sl2⟩, n2, ho2, hc2, hdn2, hd2⟩, z2⟩ := I.list hB
    simp only at hc2 hd2
    subst hc2 hd2
    have hsz : its.toArray.size + its2.toArray.size ≤ sizeLine := by rw [List.size_toArray, List.size_toArray, ← hl, ← r2.length]; exact hz
    have hlong : ¬ (!its.toArray.isEmpty && Builtin.List.listTooLong (its.toArray.size + its2.toArray.size)) = true := by
      rw [notLongL hsz, Bool.and_false]
      exact Bool.false_ne_true
    refine call_meets PySem.F.slot_list_extend ⟨_, e, rfl⟩ PySem.F.entry_list_extend (PySem.F.args_list_extend_2 _ _)
      (list_extendW l its.toArray n b its2.toArray n2 dd2 sl2 hlong (by rw [List.size_toArray]; omega) (by omega)) ⟨e, ho2, ?_⟩
    refine ⟨.non, _, I.lset (its' := its ++ its2) hH e (by simp) (r.append r2) ?_, rfl, q⟩
    rw [List.length_append]
    omega
  · obtain ⟨its2, r2, ⟨⟨cls2, dd2, data2, sl2⟩, ho2, hc2, n2, hd2⟩, z2⟩ := I.tuple hB
    simp only at hc2 hd2
    subst hc2 hd2
    have hsz : its.toArray.size + its2.toArray.size ≤ sizeLine := by rw [List.size_toArray, List.size_toArray, ← hl, ← r2.length]; exact hz
    have hlong : ¬ (!its.toArray.isEmpty && Builtin.List.listTooLong (its.toArray.size + its2.toArray.size)) = true := by
      rw [notLongL hsz, Bool.and_false]
      exact Bool.false_ne_true
    refine call_meets PySem.F.slot_list_extend ⟨_, e, rfl⟩ PySem.F.entry_list_extend (PySem.F.args_list_extend_2 _ _)
      (list_extendWT l its.toArray n b its2.toArray n2 dd2 sl2 hlong (by rw [List.size_toArray]; omega) (by omega)) ⟨e, ho2, ?_⟩
    refine ⟨.non, _, I.lset (its' := its ++ its2) hH e (by simp) (r.append r2) ?_, rfl, q⟩
    rw [List.length_append]
    omega
/-- the first place of an equal one -/
def idxOf (d : D) : List D → Option Nat
  | [] => none
  | x :: xs => if PyData.eqv x d = true then some 0 else (idxOf d xs).map (· + 1)
theorem idxOf_spec {d : D} : ∀ {ds : List D} {j : Nat}, idxOf d ds = some j → ∃ x, ds[j]? = some x ∧ PyData.eqv x d = true ∧ ∀ (m : Nat) (y : D), m < j → ds[m]? = some y → PyData.eqv y d = false
  | [], j, h => by cases h
  | x :: xs, j, h => by
    unfold idxOf at h
    by_cases z : PyData.eqv x d = true
    · rw [if_pos z] at h
      cases h
      exact ⟨x, rfl, z, fun m y hm => absurd hm (Nat.not_lt_zero _)⟩
    · rw [if_neg z] at h
      cases q : idxOf d xs with
      | none => rw [q] at h; cases h
      | some k =>
        rw [q] at h
        cases h
        obtain ⟨y, h1, h2, h3⟩ := idxOf_spec q
        refine ⟨y, by simpa using h1, h2, fun m w hm hw => ?_⟩
        cases m with
        | zero => simp at hw; subst hw; simpa using z
        | succ m => exact h3 m w (Nat.lt_of_succ_lt_succ hm) (by simpa using hw)
theorem DpAll.er {K : PySem.W.Frag} {H : Hp} : ∀ {vs : List V} {ds : List D} (n : Nat), DpAll K H vs ds → DpAll K H (vs.eraseIdx n) (ds.eraseIdx n)
  | _, _, _, .nil => by simpa using DpAll.nil
  | _, _, 0, .cons h t => by simpa using t
  | _, _, n + 1, .cons h t => by simpa using DpAll.cons h (DpAll.er n t)
theorem eraseIdx_arr (its : List Value) (j : Nat) : its.toArray.eraseIdxIfInBounds j = (its.eraseIdx j).toArray := by rw [List.eraseIdxIfInBounds_toArray]
/-- xs.remove(y), y found -/
def rRemG (K : PySem.W.Frag) : V → List V → Hp → VK → Prop := fun x vs H Q => ∃ l xs y d ds j, x = .ref l ∧ vs = [y] ∧ H l = some (.lst xs) ∧ DpAll K H xs ds ∧ Dp K H y d ∧ SeqAt.shaped (.list ds) = true ∧ SeqAt.shaped d = true ∧ idxOf d ds = some j ∧ Q .non (upd H l (.lst (xs.eraseIdx j)))
theorem mt_remG {X : Cx} (hu : X.A.units + 65 < cLine) : MtM X "list.remove" (rRemG X.K) := by
  intro pins s σ H x vs v us Q I rx rv h
  obtain ⟨l, xs, y, d, ds, j, rfl, rfl, hH, hds, hd, sl, sd, hj, q⟩ := h
  cases rx
  obtain ⟨u, rfl, ru⟩ := rv.one
  obtain ⟨z, its, n, r, hl, e⟩ := I.lstM hH
  obtain ⟨bs, r1⟩ := Dp.reads I d y u hd ru
  obtain ⟨as, h4⟩ := Dp.readsAll I ds _ its hds r
  have hxs : PyData.canLayAll0 ds = true := SeqAt.canLay_of_shaped sl
  have hroom : X.A.units + 1 + min (PyData.depthAll ds) d.depth < cLine := room_in_shaped sd hu
  have hn : its.length = ds.length := SeqAt.ReadsAll.length ds its as h4
  have hmap : its.map (SeqAt.readOf s.heap) = ds := SeqAt.readsAll_map ds its as hxs h4
  obtain ⟨w, h1, h2, h3⟩ := idxOf_spec hj
  obtain ⟨hjd, _⟩ := List.getElem?_eq_some_iff.mp h1
  have hjl : j < its.length := by omega
  have hja : j < its.toArray.size := by simpa using hjl
  have at_ : ∀ (m : Nat) (hm : m < its.toArray.size) (z' : PyData), ds[m]? = some z' → SeqAt.readOf s.heap its.toArray[m] = z' := by
    intro m hm z' hz'
    have hml : m < its.length := by simpa using hm
    rw [← hmap, List.getElem?_map, List.getElem?_eq_getElem hml] at hz'
    have e1 : SeqAt.readOf s.heap its[m] = z' := Option.some.inj (show some (SeqAt.readOf s.heap its[m]) = some z' from hz')
    simpa using e1
  refine call_meets PySem.F.slot_list_remove ⟨_, e, rfl⟩ PySem.F.entry_list_remove (PySem.F.args_list_remove_2 _ _)
    (SeqAt.list_removeAt l its.toArray n none #[] u (fun u => PyData.eqv (SeqAt.readOf s.heap u) d) j hja ?_ ?_ (by rw [List.size_toArray]; omega)) ⟨e, SeqAt.items_eqAt (vs := its.toArray) (show ReadsAll s.heap its.toArray.toList ds as from h4) r1 hxs (SeqAt.canLay_of_shaped sd) hroom, ?_⟩
  · show PyData.eqv (SeqAt.readOf s.heap its.toArray[j]) d = true
    rw [at_ j hja w h1]; exact h2
  · intro m hm hmj
    have hmd : m < ds.length := by omega
    have hz' : ds[m]? = some ds[m] := List.getElem?_eq_getElem hmd
    show PyData.eqv (SeqAt.readOf s.heap its.toArray[m]) d = false
    rw [at_ m hm _ hz']
    exact h3 m _ hmj hz'
  · refine ⟨.non, _, I.lset (its' := its.eraseIdx j) hH e (eraseIdx_arr its j) (r.eraseIdx j) ?_, rfl, q⟩
    have := len_erase xs j
    omega
/-- an own list is rewritten -/
theorem EnvOk.upd {K : PySem.W.Frag} {G H : Hp} {σ : L2.St} {ρ : Rho} {i : Nat} {p : Addr} {ds es : List D} {vs : List V} (k : EnvOk K G H σ ρ) (h : ρ[i]? = some (some (.ow ds))) (hσ : σ[i]? = some (some (.ref p))) (gp : G p = none) (hd : DpAll K G vs es) : EnvOk K G (L2.upd H p (.lst vs)) σ (ρ.set i (some (.ow es))) := by
  have hi : i < ρ.length := (List.getElem?_eq_some_iff.mp h).1
  refine ⟨Ex.mut k.ext gp, by simp [k.len], fun j o hj => ?_, fun a b o u q hne ha hb oa ob ha2 hb2 => ?_⟩
  · by_cases z : i = j
    · subst z
      rw [List.getElem?_set_self hi] at hj
      cases hj
      exact ⟨_, hσ, p, vs, rfl, gp, upd_same, hd⟩
    · rw [List.getElem?_set_ne z] at hj
      obtain ⟨x, h1, h2⟩ := k.at_ j o hj
      refine ⟨x, h1, ?_⟩
      cases o with
      | none => trivial
      | some sv =>
        cases sv with
        | sh d => exact h2
        | gr d => exact h2
        | raw v => exact h2
        | xr a dd l => exact h2
        | ob P =>
          obtain ⟨q, h3, h4⟩ := h2
          obtain ⟨p2, vs2, z1, _, z3, _⟩ := k.ow h
          rw [hσ] at z1
          cases z1
          exact ⟨q, h3, h4.other (Or.inr ⟨vs2, z3⟩)⟩
        | rd P =>
          obtain ⟨q, h3, h4⟩ := h2
          obtain ⟨p2, vs2, z1, _, z3, _⟩ := k.ow h
          rw [hσ] at z1
          cases z1
          exact ⟨q, h3, h4.other (Or.inr ⟨vs2, z3⟩)⟩
        | ow ds' =>
          obtain ⟨q, ws, h3, h4, h5, h6⟩ := h2
          have ne : q ≠ p := fun z2 => by
            subst z2
            exact k.sep i j _ _ q z h hj rfl rfl hσ (by rw [h1, h3])
          exact ⟨q, ws, h3, h4, by rw [upd_ne ne]; exact h5, h6⟩
  · have iso : ∀ {m : Nat} {y : Option SV}, (ρ.set i (some (SV.ow es)))[m]? = some y → isOw y = true → ∃ y', ρ[m]? = some y' ∧ isOw y' = true := fun {m y} hm hy => by
      by_cases z : i = m
      · subst z; exact ⟨_, h, rfl⟩
      · rw [List.getElem?_set_ne z] at hm; exact ⟨y, hm, hy⟩
    obtain ⟨o', h1, h2⟩ := iso ha oa
    obtain ⟨u', h3, h4⟩ := iso hb ob
    exact k.sep a b o' u' q hne h1 h3 h2 h4 ha2 hb2
theorem OwnP.upd {P : Addr → Prop} {σ : L2.St} {ρ : Rho} {i : Nat} {ds es : List D} (h : OwnP P σ ρ) (hi : ρ[i]? = some (some (.ow ds))) : OwnP P σ (ρ.set i (some (.ow es))) := by
  intro j o p hj ho hp
  by_cases z : i = j
  · subst z; exact h i _ p hi rfl hp
  · rw [List.getElem?_set_ne z] at hj; exact h j o p hj ho hp
theorem StOk.upd {K : PySem.W.Frag} {G0 H0 G H : Hp} {σ : L2.St} {ρ : Rho} {i : Nat} {p : Addr} {ds es : List D} {vs : List V} (s : StOk K G0 H0 G H σ ρ) (h : ρ[i]? = some (some (.ow ds))) (hσ : σ[i]? = some (some (.ref p))) (gp : G p = none) (hd : DpAll K G vs es) : StOk K G0 H0 G (L2.upd H p (.lst vs)) σ (ρ.set i (some (.ow es))) :=
  ⟨s.env.upd h hσ gp hd, ⟨s.ext.g, Ex.mut s.ext.h (s.own i _ p h rfl hσ), Ex.mut s.env.ext gp, s.ext.new⟩, s.own.upd h⟩
/-- x.m(e), m changes the own list x -/
def mutF (i : Nat) (m : List D → D → Option (List D)) (f : Rho → R D) : Rho → Out := fun ρ => match ρ[i]? with
  | some (some (.ow ds)) => (f ρ).out fun d => (match m ds d with
    | some es => .nx (ρ.set i (some (.ow es)))
    | none => .bad)
  | _ => .bad
/-- a method that changes a list, over data -/
def RMut (K : PySem.W.Frag) (r : V → List V → Hp → VK → Prop) (m : List D → D → Option (List D)) : Prop := ∀ (G H : Hp) (p : Addr) (vs : List V) (y : V) (ds es : List D) (d : D) (Q : VK), Ex G H → G p = none → H p = some (.lst vs) → DpAll K G vs ds → DpB K G H y d → m ds d = some es →
  (∀ ws, DpAll K G ws es → Q .non (upd H p (.lst ws))) → r (.ref p) [y] H Q
section
variable {X : Cx} {ca : CA} {W : WX} {e o : Expr} {pos apos cpos : Pos} {f : Rho → R D} {i : Nat} {m : List D → D → Option (List D)} {name : Str} {id : String} {r : V → List V → Hp → VK → Prop}
theorem fs_mut (pa : PlainAttrs "list") (slot : Slot "list" name id) (hty : typeOf (.builtin id) = pure (.type "method_descriptor")) (hm : MtR X id r) (hr : RMut X.K r m) (ho : PE X o (tVar i)) (ha : FB X ca W f e)
    (hbase : attributeBase o name X.env (eval o X.env) = eval o X.env := by rfl)
    (hfew : ((backTo cpos (starEach [e] X.env)).all (fun x => !x.1) && (backToKw cpos (keywordEach [] X.env)).all (fun x => x.1.isSome) && decide ([e].length + ([] : List Keyword).length + (if ([] : List Keyword).isEmpty then 0 else 1) < 30)) = true := by rfl)
    (hline : (apos.endLine == cpos.line) = true := by rfl) (hs : starEach [e] X.env = (false, eval e X.env) :: starEach [] X.env := by rfl) (hplain : (backTo cpos (starEach [] X.env)).any (·.1) = false := by rfl)
    (hsw : swapsWith (.Call (.Attribute o name apos) [e] [] cpos) none pos.line X.env = pure false := by rfl) :
    FS X ca W (mutF i m f) (.Expr (.Call (.Attribute o name apos) [e] [] cpos) pos) := PSimp (ps_expr (pe_bm pa slot hty hm ho (pa_cons ha pa_nil hs) hbase hfew hline hs hplain) hsw) fun Dn σ H ⟨G0, H0, G, ρ, s, q⟩ => by
  unfold mutF at q
  split at q
  · rename_i ds hd
    obtain ⟨p, vs, h1, h2, h3, h4⟩ := s.env.ow hd
    refine ⟨.ref p, h1, Or.inl ⟨rfl, vs, Or.inl (Or.inl h3)⟩, G, ρ, s.env, (SRes.out s q).imp fun d q v G' H' e dv => ?_⟩
    cases hm2 : m ds d with
    | none => rw [hm2] at q; exact q.elim
    | some es =>
      rw [hm2] at q
      have gp : G' p = none := e.new p h2 (by rw [h3]; simp)
      exact hr G' H' p vs v ds es d _ e.gh gp (e.h p _ h3) (DpAll.ex e.g ds h4) dv hm2 fun ws hw => q σ G' _ ((s.mono e).upd hd h1 gp hw)
  · exact q.elim
def appM (ds : List D) (d : D) : Option (List D) := if ds.length < szMax then some (ds ++ [d]) else none
def extM (ds : List D) (d : D) : Option (List D) := match itemsOf d with
  | some es => if ds.length + es.length ≤ szMax then some (ds ++ es) else none
  | none => none
def remM (ds : List D) (d : D) : Option (List D) := if SeqAt.shaped (.list ds) = true ∧ SeqAt.shaped d = true then (idxOf d ds).map fun j => ds.eraseIdx j else none
end
theorem lasting_top {K : PySem.W.Frag} {G : Hp} {y : V} {d : D} (h : Dp K G y d) {p : Addr} {o : HO} {H : Hp} (gp : G p = none) : Dp K (upd G p o) y d := Dp.ex (Ex.new gp) d h
section
variable {K : PySem.W.Frag}
/-- what is appended lasts -/
theorem rmut_ext : RMut K (rExtG K) extM := by
  intro G H p vs y ds es d Q e gp hp hd dy hm k
  unfold extM at hm
  cases d <;> try (cases hm; done)
  case list xs =>
    obtain ⟨z, rfl⟩ := ite_some (show (if ds.length + xs.length ≤ szMax then some (ds ++ xs) else none) = some es from hm)
    obtain ⟨b, ws, rfl, h1, h2⟩ := Dp.lst_of dy
    exact ⟨p, b, vs, ws, rfl, rfl, hp, Or.inl h1, by rw [DpAll.len hd, DpAll.len h2]; exact szLe z, k _ (DpAll.app hd h2)⟩
  case tuple xs =>
    obtain ⟨z, rfl⟩ := ite_some (show (if ds.length + xs.length ≤ szMax then some (ds ++ xs) else none) = some es from hm)
    obtain ⟨b, ws, rfl, h1, h2, _⟩ := Dp.tup_of e dy
    exact ⟨p, b, vs, ws, rfl, rfl, hp, Or.inr h1, by rw [DpAll.len hd, DpAll.len h2]; exact szLe z, k _ (DpAll.app hd h2)⟩
theorem rmut_rem : RMut K (rRemG K) remM := by
  intro G H p vs y ds es d Q e gp hp hd dy hm k
  unfold remM at hm
  by_cases z : SeqAt.shaped (.list ds) = true ∧ SeqAt.shaped d = true
  · rw [if_pos z] at hm
    cases hj : idxOf d ds with
    | none => rw [hj] at hm; cases hm
    | some j =>
      rw [hj] at hm; cases hm
      exact ⟨p, vs, y, d, ds, j, rfl, rfl, hp, DpAll.ex e ds hd, dy.dp e, z.1, z.2, hj, k _ (DpAll.er j hd)⟩
  · rw [if_neg z] at hm; cases hm
end
section
variable {X : Cx} {ca : CA} {W : WX} {e o : Expr} {pos apos cpos : Pos} {f : Rho → R D} {i k : Nat}
/-- x.append(e): what is appended lasts (e is no own list) -/
theorem fs_app (ho : PE X o (tVar i)) (ha : FE X ca W f e) (hbase : attributeBase o "append" X.env (eval o X.env) = eval o X.env := by rfl)
    (hfew : ((backTo cpos (starEach [e] X.env)).all (fun x => !x.1) && (backToKw cpos (keywordEach [] X.env)).all (fun x => x.1.isSome) && decide ([e].length + ([] : List Keyword).length + (if ([] : List Keyword).isEmpty then 0 else 1) < 30)) = true := by rfl)
    (hline : (apos.endLine == cpos.line) = true := by rfl) (hs : starEach [e] X.env = (false, eval e X.env) :: starEach [] X.env := by rfl) (hplain : (backTo cpos (starEach [] X.env)).any (·.1) = false := by rfl)
    (hsw : swapsWith (.Call (.Attribute o "append" apos) [e] [] cpos) none pos.line X.env = pure false := by rfl) :
    FS X ca W (mutF i appM f) (.Expr (.Call (.Attribute o "append" apos) [e] [] cpos) pos) := PSimp (ps_expr (pe_bm PySem.F.plainAttrs_list PySem.F.slot_list_append PySem.F.type_list_append mt_append ho (pa_cons ha pa_nil hs) hbase hfew hline hs hplain) hsw) fun Dn σ H ⟨G0, H0, G, ρ, s, q⟩ => by
  unfold mutF at q
  split at q
  · rename_i ds hd
    obtain ⟨p, vs, h1, h2, h3, h4⟩ := s.env.ow hd
    refine ⟨.ref p, h1, Or.inl ⟨rfl, vs, Or.inl (Or.inl h3)⟩, G, ρ, s.env, (SRes.out s q).imp fun d q v G' H' e dv => ?_⟩
    cases hm2 : appM ds d with
    | none => rw [hm2] at q; exact q.elim
    | some es =>
      rw [hm2] at q
      have gp : G' p = none := e.new p h2 (by rw [h3]; simp)
      obtain ⟨z, rfl⟩ := ite_some (show (if ds.length < szMax then some (ds ++ [d]) else none) = some es from hm2)
      exact ⟨p, vs, v, rfl, rfl, e.h p _ h3, by rw [DpAll.len h4]; exact szLt (Nat.le_of_lt z), q σ G' _ ((s.mono e).upd hd h1 gp (DpAll.app (DpAll.ex e.g ds h4) (.cons dv .nil)))⟩
  · exact q.elim
theorem fs_ext (ho : PE X o (tVar i)) (ha : FB X ca W f e) (hbase : attributeBase o "extend" X.env (eval o X.env) = eval o X.env := by rfl)
    (hfew : ((backTo cpos (starEach [e] X.env)).all (fun x => !x.1) && (backToKw cpos (keywordEach [] X.env)).all (fun x => x.1.isSome) && decide ([e].length + ([] : List Keyword).length + (if ([] : List Keyword).isEmpty then 0 else 1) < 30)) = true := by rfl)
    (hline : (apos.endLine == cpos.line) = true := by rfl) (hs : starEach [e] X.env = (false, eval e X.env) :: starEach [] X.env := by rfl) (hplain : (backTo cpos (starEach [] X.env)).any (·.1) = false := by rfl)
    (hsw : swapsWith (.Call (.Attribute o "extend" apos) [e] [] cpos) none pos.line X.env = pure false := by rfl) :
    FS X ca W (mutF i extM f) (.Expr (.Call (.Attribute o "extend" apos) [e] [] cpos) pos) := fs_mut PySem.F.plainAttrs_list PySem.F.slot_list_extend PySem.F.type_list_extend mt_extG rmut_ext ho ha hbase hfew hline hs hplain hsw
theorem fs_rem (hr : Room k X.A) (ho : PE X o (tVar i)) (ha : FB X ca W f e) (hbase : attributeBase o "remove" X.env (eval o X.env) = eval o X.env := by rfl)
    (hfew : ((backTo cpos (starEach [e] X.env)).all (fun x => !x.1) && (backToKw cpos (keywordEach [] X.env)).all (fun x => x.1.isSome) && decide ([e].length + ([] : List Keyword).length + (if ([] : List Keyword).isEmpty then 0 else 1) < 30)) = true := by rfl)
    (hline : (apos.endLine == cpos.line) = true := by rfl) (hs : starEach [e] X.env = (false, eval e X.env) :: starEach [] X.env := by rfl) (hplain : (backTo cpos (starEach [] X.env)).any (·.1) = false := by rfl)
    (hsw : swapsWith (.Call (.Attribute o "remove" apos) [e] [] cpos) none pos.line X.env = pure false := by rfl) :
    FS X ca W (mutF i remM f) (.Expr (.Call (.Attribute o "remove" apos) [e] [] cpos) pos) := fs_mut PySem.F.plainAttrs_list PySem.F.slot_list_remove PySem.F.type_list_remove (mt_remG (hu65 hr)) rmut_rem ho ha hbase hfew hline hs hplain hsw
/-- list(x) -/
def listL (f : Rho → R D) : Rho → R (List D) := fun ρ => do let d ← f ρ; R.of (itemsOf d)
theorem boot_list : bootBuiltins "list" = some (.type "list") := by decide +kernel
theorem fl_list {p : Pos} (hg : Gl X "list") (hm : X.mg "list" = none) (ha : FB X ca W f e) (hs : starEach [e] X.env = (false, eval e X.env) :: starEach [] X.env := by rfl) : FL X ca W (listL f) (.Call (.Name "list" p) [e] [] pos) := by
  refine PEimp (pe_callTy call_list_of hg hm boot_list (pa_cons ha pa_nil hs) (he := hs)) fun σ H Q ⟨G, ρ, env, q⟩ => ?_
  refine ⟨G, ρ, env, q.bind.imp fun d q v G1 H1 e1 dv => ?_⟩
  cases d <;> try (exact q.elim)
  case list ds =>
    obtain ⟨p, vs, rfl, h1, h2⟩ := Dp.lst_of dv
    exact ⟨p, vs, rfl, Or.inl h1, fun l hl => q l vs G1 _ (e1.trans (Ext.own e1.gh hl)) (e1.h.back hl) (e1.gh.back hl) upd_same h2⟩
  case tuple ds =>
    obtain ⟨p, vs, rfl, h1, h2, h3⟩ := Dp.tup_of e1.gh dv
    exact ⟨p, vs, rfl, Or.inr h1, fun l hl => q l vs G1 _ (e1.trans (Ext.own e1.gh hl)) (e1.h.back hl) (e1.gh.back hl) upd_same h2⟩
end
end FE

namespace FE
open PySem L2 PyProof.Rows PySem.Spec
/-! ## what is walked -/
/-- J walks the data ds while Gb lasts and Hb stands -/
structure WalkD (K : PySem.W.Frag) (J : It) (Gb Hb : Hp) (ds : List D) : Prop where
  goes : ∀ i H, Ex Hb H → i < ds.length → J.go i H
  stops : ∀ H, Ex Hb H → J.stop ds.length H
  yields : ∀ i H x H' G d, Ex Hb H → Ex Gb G → Ex G H → ds[i]? = some d → J.yld i H x H' → ∃ G', Ext G H G' H' ∧ Dp K G' x d
theorem WalkD.mono {K : PySem.W.Frag} {J : It} {Gb Hb Hc : Hp} {ds : List D} (w : WalkD K J Gb Hb ds) (e : Ex Hb Hc) : WalkD K J Gb Hc ds :=
  ⟨fun i H h hi => w.goes i H (e.trans h) hi, fun H h => w.stops H (e.trans h), fun i H x H' G d h1 h2 h3 h4 h5 => w.yields i H x H' G d (e.trans h1) h2 h3 h4 h5⟩
theorem walkD_of {K : PySem.W.Frag} {J : It} {n : Nat} {Gp : Hp → Prop} {xs : List V} {Gb Hb : Hp} {ds : List D} (w : Walk J n Gp (YAt xs)) (hg : ∀ H, Ex Hb H → Gp H) (hn : n = xs.length) (h : DpAll K Gb xs ds) : WalkD K J Gb Hb ds := by
  have hl : n = ds.length := by rw [hn, DpAll.len h]
  subst hl
  refine ⟨fun i H e hi => w.goes i H hi (hg H e), fun H e => w.stops H (hg H e), fun i H x H' G d e1 e2 e3 hd y => ?_⟩
  have hi : i < ds.length := (List.getElem?_eq_some_iff.mp hd).1
  obtain ⟨rfl, hx⟩ := w.yields i H x H' hi (hg H e1) y
  obtain ⟨v, hv, dv⟩ := DpAll.get h hd
  rw [hx] at hv; cases hv
  exact ⟨G, Ext.refl e3, Dp.ex e2 d dv⟩
def tSemI (K : PySem.W.Frag) (ca : CA) (W : WX) (f : Rho → R (List D)) : TI := fun σ H Rr => ∃ G ρ, EnvOk K G H σ ρ ∧ ARes K ca W σ G H (fun ds => ∀ J G' H', Ext G H G' H' → WalkD K J G' G' ds → Rr J H') (f ρ)
def tSemIB (K : PySem.W.Frag) (ca : CA) (W : WX) (f : Rho → R (List D)) : TI := fun σ H Rr => ∃ G ρ, EnvOk K G H σ ρ ∧ ARes K ca W σ G H (fun ds => ∀ J G' H', Ext G H G' H' → WalkD K J G' H' ds → Rr J H') (f ρ)
/-- for a for | for a comprehension -/
abbrev FI (X : Cx) (ca : CA) (W : WX) (f : Rho → R (List D)) (tg it : Expr) : Prop := PI X tg it (tSemI X.K ca W f)
abbrev FIB (X : Cx) (ca : CA) (W : WX) (f : Rho → R (List D)) (tg it : Expr) : Prop := PI X tg it (tSemIB X.K ca W f)
section
variable {X : Cx} {ca : CA} {W : WX} {e a b tg : Expr} {pos p tpos : Pos} {f g : Rho → R D} {k : Nat}
theorem PIimp {t t' : TI} (h : PI X tg e t) (k : ∀ σ H Q, t' σ H Q → t σ H Q) : PI X tg e t' := ⟨fun pins s σ H Q I q => h.run pins s σ H Q I (k σ H Q q)⟩
theorem fib_of {f : Rho → R (List D)} (h : FI X ca W f tg e) : FIB X ca W f tg e := PIimp h fun σ H Rr ⟨G, ρ, env, q⟩ => ⟨G, ρ, env, q.imp fun ds q J G' H' e w => q J G' H' e (w.mono e.gh)⟩
/-- what stands at v is a list or a tuple -/
def iSeq (K : PySem.W.Frag) (tl : TE) : TI := fun σ H Rr => tl σ H fun x H1 => (∃ a xs, x = .ref a ∧ SqL K H1 a xs ∧ Rr (Itl K a) H1) ∨ (∃ a xs, x = .ref a ∧ SqT K H1 a xs ∧ Rr (Itt K a) H1)
theorem pi_seq {l : Expr} {tl : TE} (hl : PE X l tl) : PI X tg l (iSeq X.K tl) := by
  refine ⟨fun pins s σ H Rr I h => ?_⟩
  refine thn (hl.run pins s σ H _ I h) fun v s1 ⟨x, H1, I1, r1, q1⟩ => ?_
  rcases q1 with ⟨a, xs, e, hq, q⟩ | ⟨a, xs, e, hq, q⟩
  · subst e
    cases r1
    obtain ⟨its, rv, p, hz⟩ := I1.list hq
    refine wpAny_pyIter_list p.isList ?_
    refine ⟨s1.heap.objs.size, [s1.heap.objs.size], _, _, H1, rfl, I1.kept (t' := s1.toks) fun b o e => Heap.get?_push_of_some _ e, turn_list a _, ⟨_, Heap.get?_push_size _ rfl, rfl, rfl⟩, fun b hb => ?_, q⟩
    have e : b = s1.heap.objs.size := by simpa using hb
    subst e
    exact I1.fpOk (Nat.le_refl _) (I1.hok.fresh (Nat.le_refl _))
  · subst e
    cases r1
    obtain ⟨its, rv, p, hz⟩ := I1.tuple hq
    refine wpAny_pyIter_tuple (show s1.heap.IsTuple a its.toArray from p) ?_
    refine ⟨s1.heap.objs.size, [s1.heap.objs.size], _, _, H1, rfl, I1.kept (t' := s1.toks) fun b o e => Heap.get?_push_of_some _ e, turn_tuple a _, ⟨_, Heap.get?_push_size _ rfl, rfl, rfl⟩, fun b hb => ?_, q⟩
    have e : b = s1.heap.objs.size := by simpa using hb
    subst e
    exact I1.fpOk (Nat.le_refl _) (I1.hok.fresh (Nat.le_refl _))
def seqF (f : Rho → R D) : Rho → R (List D) := fun ρ => do let d ← f ρ; R.of (itemsOf d)
/-- over lasting data -/
theorem fi_seq (h : FE X ca W f e) : FI X ca W (seqF f) tg e := PIimp (pi_seq h) fun σ H Rr ⟨G, ρ, env, q⟩ => ⟨G, ρ, env, q.bind.imp fun d q v G' H' e dv => by
  cases d <;> try (exact q.elim)
  case list ds =>
    cases dv with
    | lst h1 h2 => exact Or.inl ⟨_, _, rfl, ex_l e.gh h1, q _ G' H' e (walkD_of walk_list (fun H he => ex_l he h1) rfl h2)⟩
  case tuple ds =>
    cases dv with
    | tup h1 h2 => exact Or.inr ⟨_, _, rfl, ex_t e.gh h1, q _ G' H' e (walkD_of walk_tup (fun H he => ex_t he h1) rfl h2)⟩⟩
/-- over a borrowed list -/
theorem fib_seq (h : FB X ca W f e) : FIB X ca W (seqF f) tg e := PIimp (pi_seq h) fun σ H Rr ⟨G, ρ, env, q⟩ => ⟨G, ρ, env, q.bind.imp fun d q v G' H' e dv => by
  cases d <;> try (exact q.elim)
  case list ds =>
    obtain ⟨p, vs, rfl, h1, h2⟩ := Dp.lst_of dv
    exact Or.inl ⟨_, _, rfl, h1, q _ G' H' e (walkD_of walk_list (fun H he => ex_l he h1) rfl h2)⟩
  case tuple ds =>
    obtain ⟨p, vs, rfl, h1, h2, h3⟩ := Dp.tup_of e.gh dv
    exact Or.inr ⟨_, _, rfl, h1, q _ G' H' e (walkD_of walk_tup (fun H he => ex_t he h1) rfl h2)⟩⟩
/-! ### range -/
def rangeD (lo : Int) (n : Nat) : List D := (List.range n).map fun i : Nat => .int (lo + (i : Int))
theorem rangeD_len (lo : Int) (n : Nat) : (rangeD lo n).length = n := by simp [rangeD]
theorem walkD_range {K : PySem.W.Frag} {lo : Int} {n : Nat} {Gb Hb : Hp} : WalkD K (Itr lo n) Gb Hb (rangeD lo n) := by
  refine ⟨fun i H e hi => by rw [rangeD_len] at hi; exact hi, fun H e => by rw [rangeD_len]; exact Nat.le_refl _, fun i H x H' G d e1 e2 e3 hd y => ?_⟩
  obtain ⟨rfl, rfl⟩ := y
  unfold rangeD at hd
  rw [List.getElem?_map] at hd
  have hi : i < n := by
    by_cases z : i < n
    · exact z
    · rw [List.getElem?_eq_none (by simpa using z)] at hd; cases hd
  rw [List.getElem?_range hi] at hd
  cases hd
  exact ⟨G, Ext.refl e3, .int _⟩
def rng1 (f : Rho → R D) : Rho → R (List D) := fun ρ => do let d ← f ρ; let j ← R.of (int? d); if -(2 ^ 62) ≤ j ∧ j < 2 ^ 62 then pure (rangeD 0 j.toNat) else .bad
def rng2 (f g : Rho → R D) : Rho → R (List D) := fun ρ => do
  let a ← f ρ; let b ← g ρ; let i ← R.of (int? a); let j ← R.of (int? b)
  if -(2 ^ 62) ≤ i ∧ i < 2 ^ 62 ∧ -(2 ^ 62) ≤ j ∧ j < 2 ^ 62 then pure (rangeD i (j - i).toNat) else .bad
theorem ARes.intq {K : PySem.W.Frag} {ca : CA} {W : WX} {σ : L2.St} {G H G' : Hp} {β : Type} {k : β → Prop} {d : D} {v : V} {f : Int → R β} (h : ARes K ca W σ G H k (do let b ← R.of (int? d); f b)) (dv : Dp K G' v d) :
    ∃ b, v = .int b ∧ ARes K ca W σ G H k (f b) := by
  cases dv with
  | int b => exact ⟨b, rfl, h⟩
  | _ => exact h.elim
theorem fi_range1 (hg : Gl X "range") (hm : X.mg "range" = none) (ha : FE X ca W f a) (hs : starEach [a] X.env = (false, eval a X.env) :: starEach [] X.env := by rfl) (hs' : starEach [a] X.env = [(false, eval a X.env)] := by rfl) : FI X ca W (rng1 f) tg (.Call (.Name "range" p) [a] [] pos) :=
  PIimp (pi_range1 hg hm (pa_cons ha pa_nil hs) hs') fun σ H Rr ⟨G, ρ, env, q⟩ => ⟨G, ρ, env, q.bind.imp fun d q v G' H' e dv => by
    obtain ⟨j, rfl, q⟩ := q.intq dv
    by_cases z : -(2 ^ 62) ≤ j ∧ j < 2 ^ 62
    · rw [if_pos z] at q
      exact ⟨j, rfl, z.1, z.2, q _ G' H' e walkD_range⟩
    · rw [if_neg z] at q; exact q.elim⟩
theorem fi_range2 (hg : Gl X "range") (hm : X.mg "range" = none) (ha : FE X ca W f a) (hb : FE X ca W g b) (hs : starEach [a, b] X.env = (false, eval a X.env) :: starEach [b] X.env := by rfl) (hs2 : starEach [b] X.env = (false, eval b X.env) :: starEach [] X.env := by rfl)
    (hs' : starEach [a, b] X.env = [(false, eval a X.env), (false, eval b X.env)] := by rfl) (hs2' : starEach [b] X.env = [(false, eval b X.env)] := by rfl) : FI X ca W (rng2 f g) tg (.Call (.Name "range" p) [a, b] [] pos) :=
  PIimp (pi_range2 hg hm (pa_cons ha (pa_cons hb pa_nil hs2) hs) hs' hs2') fun σ H Rr ⟨G, ρ, env, q⟩ => ⟨G, ρ, env, q.bind.imp fun d q v G1 H1 e1 dv => ⟨G1, ρ, env.mono e1, q.bind.mono e1 fun d2 q w G' H' e dw => by
    obtain ⟨i, rfl, q⟩ := q.intq dv
    obtain ⟨j, rfl, q⟩ := q.intq dw
    by_cases z : -(2 ^ 62) ≤ i ∧ i < 2 ^ 62 ∧ -(2 ^ 62) ≤ j ∧ j < 2 ^ 62
    · rw [if_pos z] at q
      exact ⟨i, j, rfl, z, q _ G' H' (e1.trans e) walkD_range⟩
    · rw [if_neg z] at q; exact q.elim⟩⟩
/-! ### zip of tuples -/
def zipD : List D → List D → List D
  | x :: xs, y :: ys => .tuple [x, y] :: zipD xs ys
  | _, _ => []
theorem zipD_get : ∀ {xs ys : List D} {i : Nat} {d : D}, (zipD xs ys)[i]? = some d → ∃ x y, xs[i]? = some x ∧ ys[i]? = some y ∧ d = .tuple [x, y]
  | [], _, _, _, h => by simp [zipD] at h
  | _ :: _, [], _, _, h => by simp [zipD] at h
  | x :: xs, y :: ys, 0, d, h => by simp [zipD] at h; exact ⟨x, y, rfl, rfl, h.symm⟩
  | x :: xs, y :: ys, i + 1, d, h => by
    obtain ⟨a, b, h1, h2, h3⟩ := zipD_get (xs := xs) (ys := ys) (i := i) (d := d) (by simpa [zipD] using h)
    exact ⟨a, b, by simpa using h1, by simpa using h2, h3⟩
theorem zipD_len : ∀ (xs ys : List D), (zipD xs ys).length = min xs.length ys.length
  | [], _ => by simp [zipD]
  | _ :: _, [] => by simp [zipD]
  | x :: xs, y :: ys => by simp [zipD, zipD_len xs ys]
theorem pair_new {K : PySem.W.Frag} {G H : Hp} {T : Addr} {x y : V} {a b : D} (e : Ex G H) (hT : H T = none) (hx : Dp K G x a) (hy : Dp K G y b) : ∃ G', Ext G H G' (upd H T (.tup [x, y])) ∧ Dp K G' (.ref T) (.tuple [a, b]) :=
  ⟨_, (Dp.newt e hT (.cons hx (.cons hy .nil))).1, (Dp.newt e hT (.cons hx (.cons hy .nil))).2⟩
theorem walkD_zipT {K : PySem.W.Frag} {a b : Addr} {xs ys : List V} {ds es : List D} {Gb Hb : Hp} (e0 : Ex Gb Hb) (h1 : SqT K Hb a xs) (h2 : SqT K Hb b ys) (d1 : DpAll K Gb xs ds) (d2 : DpAll K Gb ys es) : WalkD K (RZ.ItzT K a b) Gb Hb (zipD ds es) := by
  have l1 := DpAll.len d1
  have l2 := DpAll.len d2
  refine ⟨fun i H e hi => ?_, fun H e => ?_, fun i H v H' G d e1 e2 e3 hd y => ?_⟩
  · rw [zipD_len] at hi
    have i1 : i < xs.length := by omega
    have i2 : i < ys.length := by omega
    exact ⟨xs, ys, xs[i], ys[i], ex_t e h1, ex_t e h2, by simp [i1], by simp [i2]⟩
  · exact ⟨xs, ys, ex_t e h1, ex_t e h2, by rw [zipD_len]; omega⟩
  · obtain ⟨x, y', hx, hy, rfl⟩ := zipD_get hd
    obtain ⟨T, u, w, rfl, hT, rfl, h3, h4⟩ := y
    obtain ⟨u', hu, du⟩ := DpAll.get d1 hx
    obtain ⟨w', hw, dw⟩ := DpAll.get d2 hy
    have := h3 xs (ex_t e1 h1); rw [hu] at this; cases this
    have := h4 ys (ex_t e1 h2); rw [hw] at this; cases this
    exact pair_new e3 hT (Dp.ex e2 _ du) (Dp.ex e2 _ dw)
def zipF (f g : Rho → R D) : Rho → R (List D) := fun ρ => do
  let a ← f ρ; let b ← g ρ
  match a, b with
  | .tuple xs, .tuple ys => pure (zipD xs ys)
  | _, _ => .bad
theorem fi_zip {elts : List Expr} {kk : Nat} (hg : Gl X "zip") (hm : X.mg "zip" = none) (ha : FE X ca W f a) (hb : FE X ca W g b) (hs : starEach [a, b] X.env = (false, eval a X.env) :: starEach [b] X.env := by rfl) (hs2 : starEach [b] X.env = (false, eval b X.env) :: starEach [] X.env := by rfl)
    (hpl : (backTo pos (starEach [b] X.env)).any (·.1) = false := by rfl) : FI X ca W (zipF f g) (.Tuple elts kk tpos) (.Call (.Name "zip" p) [a, b] [] pos) :=
  PIimp (RZ.pi_zipA hg hm (pa_cons ha (pa_cons hb pa_nil hs2) hs) hs hpl) fun σ H Rr ⟨G, ρ, env, q⟩ => ⟨G, ρ, env, q.bind.imp fun d q v G1 H1 e1 dv => ⟨G1, ρ, env.mono e1, q.bind.mono e1 fun d2 q w G' H' e dw => by
    cases d <;> cases d2 <;> try (exact q.elim)
    case tuple.tuple xs ys =>
      cases dv with
      | tup h1 h2 =>
        cases dw with
        | tup h3 h4 =>
          have h1' := ex_t e.g h1
          exact ⟨_, _, _, _, rfl, Or.inr ⟨ex_t e.gh h1', ex_t e.gh h3, q _ G' H' (e1.trans e) (walkD_zipT (Ex.refl _) h1' h3 (DpAll.ex e.g _ h2) h4)⟩⟩⟩⟩
end
end FE

namespace FE
open PySem L2 PyProof.Rows PySem.Spec
/-! ## comprehensions -/
def wipeR (ρ : Rho) : List Nat → Rho
  | [] => ρ
  | v :: vs => (wipeR ρ vs).set v none
theorem EnvOk.wipe {K : PySem.W.Frag} {G H : Hp} {σ : L2.St} {ρ : Rho} (k : EnvOk K G H σ ρ) : ∀ vs, EnvOk K G H (L2.wipe σ vs) (wipeR ρ vs)
  | [] => k
  | v :: vs => by
    have ih := EnvOk.wipe k vs
    refine ⟨ih.ext, by simp [L2.wipe, wipeR, ih.len], fun j o hj => ?_, fun j l u w p hne hj hl ou ow hjp hlp => ?_⟩
    · by_cases z : v = j
      · subst z
        have hi : v < (wipeR ρ vs).length := by
          by_cases q : v < (wipeR ρ vs).length
          · exact q
          · rw [show wipeR ρ (v :: vs) = (wipeR ρ vs).set v none from rfl, List.getElem?_eq_none (by simpa using q)] at hj; cases hj
        rw [show wipeR ρ (v :: vs) = (wipeR ρ vs).set v none from rfl, List.getElem?_set_self hi] at hj
        cases hj
        exact ⟨none, by rw [show L2.wipe σ (v :: vs) = (L2.wipe σ vs).set v none from rfl, List.getElem?_set_self (by rw [ih.len]; exact hi)], trivial⟩
      · rw [show wipeR ρ (v :: vs) = (wipeR ρ vs).set v none from rfl, List.getElem?_set_ne z] at hj
        rw [show L2.wipe σ (v :: vs) = (L2.wipe σ vs).set v none from rfl, List.getElem?_set_ne z]
        exact ih.at_ j o hj
    · have no : ∀ {m : Nat} {y : Option SV}, (wipeR ρ (v :: vs))[m]? = some y → isOw y = true → v ≠ m ∧ (wipeR ρ vs)[m]? = some y := fun {m y} hm hy => by
        by_cases z : v = m
        · subst z
          by_cases q : v < (wipeR ρ vs).length
          · rw [show wipeR ρ (v :: vs) = (wipeR ρ vs).set v none from rfl, List.getElem?_set_self q] at hm; cases hm; cases hy
          · rw [show wipeR ρ (v :: vs) = (wipeR ρ vs).set v none from rfl, List.getElem?_eq_none (by simpa using q)] at hm; cases hm
        · rw [show wipeR ρ (v :: vs) = (wipeR ρ vs).set v none from rfl, List.getElem?_set_ne z] at hm; exact ⟨z, hm⟩
      obtain ⟨nj, hj'⟩ := no hj ou
      obtain ⟨nl, hl'⟩ := no hl ow
      rw [show L2.wipe σ (v :: vs) = (L2.wipe σ vs).set v none from rfl, List.getElem?_set_ne nj] at hjp
      rw [show L2.wipe σ (v :: vs) = (L2.wipe σ vs).set v none from rfl, List.getElem?_set_ne nl] at hlp
      exact ih.sep j l u w p hne hj' hl' ou ow hjp hlp
theorem OwnP.wipe {P : Addr → Prop} {σ : L2.St} {ρ : Rho} (h : OwnP P σ ρ) : ∀ vs, OwnP P (L2.wipe σ vs) (wipeR ρ vs)
  | [] => h
  | v :: vs => by
    intro j o p hj ho hp
    have ih := OwnP.wipe h vs
    by_cases z : v = j
    · subst z
      by_cases q : v < (wipeR ρ vs).length
      · rw [show wipeR ρ (v :: vs) = (wipeR ρ vs).set v none from rfl, List.getElem?_set_self q] at hj; cases hj; cases ho
      · rw [show wipeR ρ (v :: vs) = (wipeR ρ vs).set v none from rfl, List.getElem?_eq_none (by simpa using q)] at hj; cases hj
    · rw [show wipeR ρ (v :: vs) = (wipeR ρ vs).set v none from rfl, List.getElem?_set_ne z] at hj
      rw [show L2.wipe σ (v :: vs) = (L2.wipe σ vs).set v none from rfl, List.getElem?_set_ne z] at hp
      exact ih j o p hj ho hp
/-- a new list that no slot holds is written -/
theorem EnvOk.other {K : PySem.W.Frag} {G H : Hp} {σ : L2.St} {ρ : Rho} {p : Addr} {vs : List V} (k : EnvOk K G H σ ρ) (gp : G p = none) (h : OwnP (fun q => q ≠ p) σ ρ) (hp : H p = none ∨ ∃ ws, H p = some (.lst ws)) : EnvOk K G (L2.upd H p (.lst vs)) σ ρ := by
  refine ⟨Ex.mut k.ext gp, k.len, fun j o hj => ?_, k.sep⟩
  obtain ⟨x, h1, h2⟩ := k.at_ j o hj
  refine ⟨x, h1, ?_⟩
  cases o with
  | none => trivial
  | some sv =>
    cases sv with
    | sh d => exact h2
    | gr d => exact h2
    | raw v => exact h2
    | xr a dd l => exact h2
    | ob P =>
      obtain ⟨q, h3, h4⟩ := h2
      exact ⟨q, h3, h4.other hp⟩
    | rd P =>
      obtain ⟨q, h3, h4⟩ := h2
      exact ⟨q, h3, h4.other hp⟩
    | ow ds =>
      obtain ⟨q, ws, h3, h4, h5, h6⟩ := h2
      have ne : q ≠ p := h j _ q hj rfl (by rw [h1, h3])
      exact ⟨q, ws, h3, h4, by rw [upd_ne ne]; exact h5, h6⟩
/-- the turns of a comprehension: what they put down -/
def lcGo (u : D → Rho → Option Rho) (t : Rho → R Bool) (e : Rho → R D) (ρ : Rho) : List D → R (List D)
  | [] => .ok []
  | d :: ds => match u d ρ with
    | none => .bad
    | some ρ' => match t ρ' with
      | .ok true => (match e ρ' with
        | .ok x => (match lcGo u t e ρ ds with
          | .ok xs => .ok (x :: xs)
          | _ => .bad)
        | _ => .bad)
      | .ok false => (match lcGo u t e ρ ds with
        | .ok xs => .ok xs
        | _ => .bad)
      | _ => .bad
def lcF (fi : Rho → R (List D)) (u : D → Rho → Option Rho) (t : Rho → R Bool) (e : Rho → R D) (vs : List Nat) : Rho → R (List D) := fun ρ => do
  let ds ← fi ρ; chk ds.length; lcGo u t e (wipeR ρ vs) ds
theorem lcGo_len {u : D → Rho → Option Rho} {t : Rho → R Bool} {e : Rho → R D} {ρ : Rho} : ∀ {ds xs : List D}, lcGo u t e ρ ds = .ok xs → xs.length ≤ ds.length
  | [], xs, h => by cases h; exact Nat.le_refl _
  | d :: ds, xs, h => by
    unfold lcGo at h
    split at h
    · cases h
    · split at h
      · split at h
        · split at h
          · rename_i q; cases h; simpa using lcGo_len q
          · cases h
        · cases h
      · split at h
        · rename_i q; cases h; exact Nat.le_succ_of_le (lcGo_len q)
        · cases h
      · cases h
theorem lcGo_noexc {u : D → Rho → Option Rho} {t : Rho → R Bool} {e : Rho → R D} {ρ : Rho} : ∀ {ds : List D} {z : Exn}, lcGo u t e ρ ds ≠ .exc z
  | [], z, h => by cases h
  | d :: ds, z, h => by
    unfold lcGo at h
    split at h
    · cases h
    · split at h
      · split at h
        · split at h <;> cases h
        · cases h
      · split at h <;> cases h
      · cases h
/-- the state between two turns: the list at Dl holds what is made, the rest of the turns make the rest -/
structure LcAt (K : PySem.W.Frag) (u : D → Rho → Option Rho) (t : Rho → R Bool) (e : Rho → R D) (G H : Hp) (σ : L2.St) (ρ : Rho) (Dl : Addr) (ds out : List D) (i : Nat) (H' : Hp) : Prop where
  ex : ∃ (G' : Hp) (vs : List V) (done more : List D), Ext G H G' H' ∧ G' Dl = none ∧ H' Dl = some (.lst vs) ∧ DpAll K G' vs done ∧ lcGo u t e ρ (ds.drop i) = .ok more ∧ out = done ++ more ∧ EnvOk K G' H' σ ρ
/-- in the block of a comprehension nothing is let out -/
def W0 : WX := fun _ _ _ _ => False
theorem tLc_sem {X : Cx} {ca : CA} {W : WX} {fi : Rho → R (List D)} {u : D → Rho → Option Rho} {t : Rho → R Bool} {e : Rho → R D} {vs is : List Nat} {g : TG} {σ : L2.St} {H : Hp} {Q : VK} (hg : GOk X.K g u is) (his : ∀ j ∈ is, j ∈ vs)
    (q : tSemL X.K ca W (lcF fi u t e vs) σ H Q) : tLc (tSemIB X.K ca W fi) g (tSemT X.K ca W0 t) (tSem X.K ca W0 e) vs σ H Q := by
  obtain ⟨G, ρ, env, q⟩ := q
  refine ⟨G, ρ, env, q.bind.imp fun ds q J G1 H1 e1 w Dl hD => ?_⟩
  obtain ⟨hz, q⟩ := q.chk
  cases hout : lcGo u t e (wipeR ρ vs) ds with
  | bad => rw [hout] at q; exact q.elim
  | exc z => exact absurd hout lcGo_noexc
  | ok out =>
    rw [hout] at q
    have q : ∀ p vs G' H', Ext G H G' H' → H p = none → G' p = none → H' p = some (.lst vs) → DpAll X.K G' vs out → Q (.ref p) H' := q
    have env1 : EnvOk X.K G1 H1 (L2.wipe σ vs) (wipeR ρ vs) := (env.mono e1).wipe vs
    have gD : G1 Dl = none := e1.gh.back hD
    have own1 : OwnP (fun q => q ≠ Dl) (L2.wipe σ vs) (wipeR ρ vs) := by
      intro j o p hj ho hp z
      subst z
      obtain ⟨x, h1, h2⟩ := env1.at_ j o hj
      cases o with
      | none => cases ho
      | some sv =>
        cases sv with
        | sh d => cases ho
        | raw v => cases ho
        | xr a dd l => cases ho
        | gr d => cases ho
        | rd P => cases ho
        | ob P =>
          obtain ⟨p', h3, dx, vg, vm, vc, vk, _, _, _, h5, _⟩ := h2
          rw [h1, h3] at hp
          cases hp
          rw [hD] at h5; cases h5
        | ow es =>
          obtain ⟨p', ws, h3, h4, h5, h6⟩ := h2
          rw [h1, h3] at hp
          cases hp
          rw [hD] at h5; cases h5
    refine ⟨fun i m H' => m = ds.length - i ∧ i ≤ ds.length ∧ LcAt X.K u t e G1 H1 (L2.wipe σ vs) (wipeR ρ vs) Dl ds out i H', ⟨ds.length, by simp, Nat.zero_le _, ⟨G1, [], [], out, Ext.own e1.gh hD, gD, upd_same, .nil, by simpa using hout, rfl, env1.other gD own1 (Or.inl hD)⟩⟩, ?_⟩
    rintro i m H' ⟨rfl, hi, ⟨G2, vs2, done, more, e2, g2, h2, d2, hmore, ho, env2⟩⟩
    by_cases hlt : i < ds.length
    · refine Or.inr ⟨w.goes i H' e2.h hlt, fun H'' => LcAt X.K u t e G1 H1 (L2.wipe σ vs) (wipeR ρ vs) Dl ds out (i + 1) H'', fun H'' a => ⟨ds.length - (i + 1), by omega, rfl, hlt, a⟩, fun x H3 y => ?_⟩
      obtain ⟨G3, e3, dx⟩ := w.yields i H' x H3 G2 ds[i] e2.h e2.g e2.gh (List.getElem?_eq_getElem hlt) y
      have hd : ds.drop i = ds[i] :: ds.drop (i + 1) := List.drop_eq_getElem_cons hlt
      rw [hd] at hmore
      unfold lcGo at hmore
      split at hmore
      · cases hmore
      · rename_i ρ' hu
        have env3 := env2.mono e3
        refine hg.run G3 H3 _ _ ρ' x ds[i] _ env3 dx hu fun σ' env' ow hwp => ⟨by rw [hwp vs his, wipe_wipe], G3, ρ', env', ?_⟩
        have g3 : G3 Dl = none := e3.new Dl g2 (by rw [h2]; simp)
        have h3 : H3 Dl = some (.lst vs2) := e3.h Dl _ h2
        split at hmore
        · rename_i ht
          rw [ht]
          intro G4 H4 e4
          rw [if_pos rfl]
          refine ⟨G4, ρ', env'.mono e4, ?_⟩
          split at hmore
          · rename_i x' hx'
            rw [hx']
            intro v G5 H5 e5 dv
            have g5 : G5 Dl = none := e5.new Dl (e4.new Dl g3 (by rw [h3]; simp)) (by rw [e4.h Dl _ h3]; simp)
            have h5 : H5 Dl = some (.lst vs2) := e5.h Dl _ (e4.h Dl _ h3)
            split at hmore
            · rename_i xs hxs
              cases hmore
              have e35 : Ext G2 H' G5 H5 := (e3.trans e4).trans e5
              have e15 : Ext G1 H1 G5 H5 := e2.trans e35
              have hlen : (done ++ x' :: xs).length ≤ ds.length := by rw [← ho]; exact lcGo_len hout
              refine ⟨vs2, h5, ?_, ⟨G5, vs2 ++ [v], done ++ [x'], xs, ⟨e15.g, Ex.mut e15.h hD, Ex.mut e15.gh g5, e15.new⟩, g5, upd_same, DpAll.app (DpAll.ex e35.g _ d2) (.cons dv .nil), hxs, by rw [ho]; simp, (env2.mono e35).other g5 own1 (Or.inr ⟨_, h5⟩)⟩⟩
              rw [DpAll.len d2]
              rw [List.length_append] at hlen
              exact szLt (by omega)
            · cases hmore
          · cases hmore
        · rename_i ht
          rw [ht]
          intro G4 H4 e4
          rw [if_neg Bool.false_ne_true]
          have e24 : Ext G2 H' G4 H4 := e3.trans e4
          split at hmore
          · rename_i xs hxs
            cases hmore
            exact ⟨G4, vs2, done, more, e2.trans e24, e4.new Dl g3 (by rw [h3]; simp), e4.h Dl _ h3, DpAll.ex e24.g _ d2, hxs, ho, env2.mono e24⟩
          · cases hmore
        · cases hmore
    · have e : i = ds.length := by omega
      subst e
      rw [List.drop_length] at hmore
      cases hmore
      rw [List.append_nil] at ho
      subst ho
      exact Or.inl ⟨w.stops H' e2.h, q Dl vs2 G2 H' (e1.trans e2) (e1.h.back hD) g2 h2 d2⟩
section
variable {X : Cx} {ca : CA} {W : WX} {pos : Pos}
/-- [elt for target in iter if test]; g: the target's reading -/
theorem fl_lc {elt tg iter : Expr} {ifs : List Expr} {scope : Scope} {own : List (Str × Nat)} {fi : Rho → R (List D)} {u : D → Rho → Option Rho} {t : Rho → R Bool} {e : Rho → R D} {is : List Nat} {g : TG} (hc : X.calm = true) (hN : X.N.Nodup) (hi : FIB X ca W fi tg iter) (ok : BlkOk X.N X.env.scope scope own)
    (hg : ∀ (s : Shared) (H : Hp) (C : Addr) (cl : List (Str × Addr)) (fp : List Addr), PG (X.blk s H scope (compEnvC scope cl C X.env) fp) tg g) (hk : GOk X.K g u is)
    (ht : ∀ (s : Shared) (H : Hp) (C : Addr) (cl : List (Str × Addr)) (fp : List Addr), PTs (X.blk s H scope (compEnvC scope cl C X.env) fp) ifs (tSemT X.K ca W0 t))
    (he : ∀ (s : Shared) (H : Hp) (C : Addr) (cl : List (Str × Addr)) (fp : List Addr), FE (X.blk s H scope (compEnvC scope cl C X.env) fp) ca W0 e elt) (his : ∀ j ∈ is, j ∈ own.map (·.2))
    (hs : ∀ x, foldedSetIterable iter X.env x = pure x := by intro _; rfl) : FL X ca W (lcF fi u t e (own.map (·.2))) (.ListComp elt [⟨tg, iter, ifs, 0⟩] scope pos) :=
  PEimp (pe_lc hc hN hi ok hg ht he hs) fun σ H Q q => tLc_sem hk his q
end
end FE

namespace FE
open PySem L2 PyProof.Rows PySem.Spec
/-! ## for -/
theorem EnvOk.forgets {K : PySem.W.Frag} {G H : Hp} {σ : L2.St} {ρ : Rho} (k : EnvOk K G H σ ρ) : ∀ vs : List Nat, EnvOk K G H σ (wipeR ρ vs)
  | [] => k
  | v :: vs => (EnvOk.forgets k vs).forget
theorem OwnP.forget {P : Addr → Prop} {σ : L2.St} {ρ : Rho} {v : Nat} (h : OwnP P σ ρ) : OwnP P σ (ρ.set v none) := by
  intro j o p hj ho hp
  by_cases z : v = j
  · subst z
    by_cases q : v < ρ.length
    · rw [List.getElem?_set_self q] at hj; cases hj; cases ho
    · rw [List.getElem?_eq_none (by simpa using q)] at hj; cases hj
  · rw [List.getElem?_set_ne z] at hj; exact h j o p hj ho hp
theorem OwnP.forgets {P : Addr → Prop} {σ : L2.St} {ρ : Rho} (h : OwnP P σ ρ) : ∀ vs : List Nat, OwnP P σ (wipeR ρ vs)
  | [] => h
  | v :: vs => (OwnP.forgets h vs).forget
theorem StOk.forgets {K : PySem.W.Frag} {G0 H0 G H : Hp} {σ : L2.St} {ρ : Rho} (s : StOk K G0 H0 G H σ ρ) (vs : List Nat) : StOk K G0 H0 G H σ (wipeR ρ vs) := ⟨s.env.forgets vs, s.ext, s.own.forgets vs⟩
/-- the turns of a for; the slots vs are forgotten behind each -/
def forGo (u : D → Rho → Option Rho) (body : Rho → Out) (vs : List Nat) (ρ : Rho) : List D → Out
  | [] => .nx ρ
  | d :: ds => match u d ρ with
    | none => .bad
    | some ρ' => match body ρ' with
      | .nx ρ'' => forGo u body vs (wipeR ρ'' vs) ds
      | .ret d => .ret d
      | .exc e => .exc e
      | .bad => .bad
def forF (fi : Rho → R (List D)) (u : D → Rho → Option Rho) (body : Rho → Out) (vs : List Nat) : Rho → Out := fun ρ => (fi ρ).out fun ds => forGo u body vs (wipeR ρ vs) ds
/-- behind a statement some slots are forgotten -/
def forgetS (vs : List Nat) (g : Rho → Out) : Rho → Out := fun ρ => match g ρ with
  | .nx ρ' => .nx (wipeR ρ' vs)
  | o => o
/-- another ground, one that has come to last since -/
theorem Ext.down {G0 H0 G1 H1 G H : Hp} (a : Ext G0 H0 G1 H1) (b : Ext G1 H0 G H) : Ext G0 H0 G H := ⟨a.g.trans b.g, b.h, b.gh, fun x h1 h2 => b.new x (a.new x h1 h2) h2⟩
theorem Ext.up {G0 H0 G1 H1 G H : Hp} (a : Ext G0 H0 G1 H1) (b : Ext G0 H0 G H) (e : Ex G1 G) : Ext G1 H0 G H := ⟨e, b.h, b.gh, fun x h1 h2 => b.new x (a.g.back h1) h2⟩
section
variable {X : Cx} {ca : CA} {W : WX} {e : Expr} {st : Stmt} {pos : Pos}
theorem fs_forget {g : Rho → Out} (vs : List Nat) (h : FS X ca W g st) : FS X ca W (forgetS vs g) st := PSimp h fun Dn σ H ⟨G0, H0, G, ρ, s, q⟩ => by
  refine ⟨G0, H0, G, ρ, s, ?_⟩
  unfold forgetS at q
  cases hg : g ρ with
  | nx ρ' => rw [hg] at q; exact fun σ' G' H' s' => q σ' G' H' (s'.forgets vs)
  | ret d => rw [hg] at q; exact q
  | exc e => rw [hg] at q; exact q
  | bad => rw [hg] at q; exact q
theorem fs_for {tg iter : Expr} {body : List Stmt} {fi : Rho → R (List D)} {u : D → Rho → Option Rho} {g : Rho → Out} {is : List Nat} {t : TG} (vs : List Nat) (hp : PassesOwn (model X.prog X.w) X.A X.env X.xe) (hc : X.calm = true) (hi : FI X ca W fi tg iter) (hg : FG X u is tg t) (hb : FSs X ca W g body)
    (hs : ∀ x, foldedSetIterable iter X.env x = pure x := by intro _; rfl) : FS X ca W (forF fi u g vs) (.For tg iter body [] pos) := PSimp (ps_for hp hc hi hg.1 hb hs) fun Dn σ H ⟨G0, H0, G, ρ, s, q⟩ => by
  refine ⟨G, ρ, s.env, (SRes.out s q).imp fun ds q J G1 H1 e1 w => ?_⟩
  refine ⟨fun i m σ H => m = ds.length - i ∧ i ≤ ds.length ∧ ∃ G2 ρ2, StOk X.K G0 H0 G2 H σ ρ2 ∧ Ex G1 G2 ∧ SRes X.K ca W Dn G0 H0 (forGo u g vs ρ2 (ds.drop i)), ⟨ds.length, by simp, Nat.zero_le _, G1, _, (s.mono e1).forgets vs, Ex.refl _, by simpa using q⟩, ?_⟩
  rintro i m σ2 H2 ⟨rfl, hi, G2, ρ2, s2, e2, q2⟩
  have eh : Ex G1 H2 := e2.trans s2.env.ext
  by_cases hlt : i < ds.length
  · have hd : ds.drop i = ds[i] :: ds.drop (i + 1) := List.drop_eq_getElem_cons hlt
    rw [hd] at q2
    unfold forGo at q2
    refine Or.inr ⟨w.goes i H2 eh hlt, fun σ H => ∃ G2 ρ2, StOk X.K G0 H0 G2 H σ ρ2 ∧ Ex G1 G2 ∧ SRes X.K ca W Dn G0 H0 (forGo u g vs ρ2 (ds.drop (i + 1))), fun σ' H' a => ⟨ds.length - (i + 1), by omega, rfl, hlt, a⟩, fun x H3 y => ?_⟩
    obtain ⟨G3, e3, dx⟩ := w.yields i H2 x H3 G2 ds[i] eh e2 s2.env.ext (List.getElem?_eq_getElem hlt) y
    have s3 := s2.mono e3
    split at q2
    · exact q2.elim
    · rename_i ρ' hu
      refine hg.2.run G3 H3 σ2 ρ2 ρ' x ds[i] _ s3.env dx hu fun σ' env' ow _ => ?_
      have e01 : Ext G0 H0 G1 H1 := s.ext.trans e1
      refine ⟨G1, H0, G3, ρ', ⟨env', e01.up s3.ext (e2.trans e3.g), ow _ s3.own⟩, ?_⟩
      cases hb : g ρ' with
      | nx ρ'' =>
        rw [hb] at q2
        exact fun σ4 G4 H4 s4 => ⟨G4, _, (⟨s4.env, e01.down s4.ext, s4.own⟩ : StOk X.K G0 H0 G4 H4 σ4 ρ'').forgets vs, s4.ext.g, q2⟩
      | ret d => rw [hb] at q2; exact fun v G H ee dv => q2 v G H (e01.down ee) dv
      | exc z => rw [hb] at q2; exact fun c dd σ G H ee hx => q2 c dd σ G H (e01.down ee) hx
      | bad => rw [hb] at q2; exact q2
  · have e : i = ds.length := by omega
    subst e
    rw [List.drop_length] at q2
    exact Or.inl ⟨w.stops H2 eh, q2 σ2 G2 H2 s2⟩
/-- x = [elt for target in iter if test] -/
theorem fs_setLc {i : Nat} {y : Str} {py : Pos} {elt tg iter : Expr} {ifs : List Expr} {scope : Scope} {own : List (Str × Nat)} {spos : Pos} {fi : Rho → R (List D)} {u : D → Rho → Option Rho} {t : Rho → R Bool} {f : Rho → R D} {is : List Nat} {g : TG} (hc : X.calm = true) (hN : X.N.Nodup) (hy : X.N[i]? = some y) (hyl : X.env.scope.names.lookup y = some .local)
    (hsw : swapsWith (.ListComp elt [⟨tg, iter, ifs, 0⟩] scope pos) (some (.Name y py)) spos.line X.env = pure true) (hi : FIB X ca W fi tg iter) (ok : BlkOk X.N X.env.scope scope own)
    (hg : ∀ (s : Shared) (H : Hp) (C : Addr) (cl : List (Str × Addr)) (fp : List Addr), PG (X.blk s H scope (compEnvC scope cl C X.env) fp) tg g) (hk : GOk X.K g u is)
    (ht : ∀ (s : Shared) (H : Hp) (C : Addr) (cl : List (Str × Addr)) (fp : List Addr), PTs (X.blk s H scope (compEnvC scope cl C X.env) fp) ifs (tSemT X.K ca W0 t))
    (he : ∀ (s : Shared) (H : Hp) (C : Addr) (cl : List (Str × Addr)) (fp : List Addr), FE (X.blk s H scope (compEnvC scope cl C X.env) fp) ca W0 f elt) (his : ∀ j ∈ is, j ∈ own.map (·.2))
    (hs : ∀ x, foldedSetIterable iter X.env x = pure x := by intro _; rfl) :
    FS X ca W (setF i fun ρ => do let ds ← lcF fi u t f (own.map (·.2)) ρ; pure (.list ds)) (.Assign [.Name y py] (.ListComp elt [⟨tg, iter, ifs, 0⟩] scope pos) spos) :=
  PSimp (ps_setLc hc hN hy hyl hsw hi ok hg ht he hs) fun Dn σ H q => tAsg_sem (te := tLc (tSemIB X.K ca W fi) g (tSemT X.K ca W0 t) (tSem X.K ca W0 f) (own.map (·.2))) (fun Q q => tLc_sem hk his (by
    obtain ⟨G, ρ, env, q⟩ := q
    refine ⟨G, ρ, env, q.bind.imp fun ds k p vs G' H' e hp gp hl dv => ?_⟩
    refine k (.ref p) (upd G' p (.lst vs)) H' ⟨fun x o hx => ?_, e.h, fun x o hx => ?_, fun x h1 h2 => ?_⟩ (.lst (Or.inl (Or.inl upd_same)) (DpAll.ex (Ex.new gp) ds dv))
    · rw [upd_ne (ne_of_none (e.g x o hx) gp)]; exact e.g x o hx
    · by_cases z : x = p
      · subst z; rw [upd_same] at hx; rw [hl, hx]
      · rw [upd_ne z] at hx; exact e.gh x o hx
    · have z : x ≠ p := fun z => h2 (by rw [z]; exact hp)
      rw [upd_ne z]; exact e.new x h1 h2)) q
theorem fs_setLcL {i : Nat} {y : Str} {py : Pos} {elt tg iter : Expr} {ifs : List Expr} {scope : Scope} {own : List (Str × Nat)} {spos : Pos} {fi : Rho → R (List D)} {u : D → Rho → Option Rho} {t : Rho → R Bool} {f : Rho → R D} {is : List Nat} {g : TG} (hc : X.calm = true) (hN : X.N.Nodup) (hy : X.N[i]? = some y) (hyl : X.env.scope.names.lookup y = some .local)
    (hsw : swapsWith (.ListComp elt [⟨tg, iter, ifs, 0⟩] scope pos) (some (.Name y py)) spos.line X.env = pure true) (hi : FIB X ca W fi tg iter) (ok : BlkOk X.N X.env.scope scope own)
    (hg : ∀ (s : Shared) (H : Hp) (C : Addr) (cl : List (Str × Addr)) (fp : List Addr), PG (X.blk s H scope (compEnvC scope cl C X.env) fp) tg g) (hk : GOk X.K g u is)
    (ht : ∀ (s : Shared) (H : Hp) (C : Addr) (cl : List (Str × Addr)) (fp : List Addr), PTs (X.blk s H scope (compEnvC scope cl C X.env) fp) ifs (tSemT X.K ca W0 t))
    (he : ∀ (s : Shared) (H : Hp) (C : Addr) (cl : List (Str × Addr)) (fp : List Addr), FE (X.blk s H scope (compEnvC scope cl C X.env) fp) ca W0 f elt) (his : ∀ j ∈ is, j ∈ own.map (·.2))
    (hs : ∀ x, foldedSetIterable iter X.env x = pure x := by intro _; rfl) :
    FS X ca W (setL i (lcF fi u t f (own.map (·.2)))) (.Assign [.Name y py] (.ListComp elt [⟨tg, iter, ifs, 0⟩] scope pos) spos) :=
  PSimp (ps_setLc hc hN hy hyl hsw hi ok hg ht he hs) fun Dn σ H q => tAsg_semL (te := tLc (tSemIB X.K ca W fi) g (tSemT X.K ca W0 t) (tSem X.K ca W0 f) (own.map (·.2))) (fun Q q => tLc_sem hk his q) q
theorem pts_tt : PTs X [] (tSemT X.K ca W fun _ => .ok true) := ⟨fun pins s σ H Q I h => by
  obtain ⟨G, ρ, env, q⟩ := h
  exact pts_nil.run pins s σ H Q I (q G H (Ext.refl env.ext))⟩
theorem pts_1 {c : Expr} {t : Rho → R Bool} (h : FT X ca W t c) : PTs X [c] (tSemT X.K ca W t) := pts_one h
/-! ## a def -/
def start0 (n : Nat) (ds : List D) : Rho := ds.map (fun d => some (.sh d)) ++ List.replicate (n - ds.length) none
def bodySem (n : Nat) (g : Rho → Out) : List D → R D := fun ds => match g (start0 n ds) with
  | .nx _ => .ok .none
  | .ret d => .ok d
  | .exc e => .exc e
  | .bad => .bad
theorem start_env {K : PySem.W.Frag} {G H : Hp} {N : List Str} {vs : List V} {ds : List D} (e : Ex G H) (h : DpAll K G vs ds) : StOk K G H G H (start N vs) (start0 N.length ds) := by
  have hl := DpAll.len h
  have noow : ∀ (i : Nat) (o : Option SV), (start0 N.length ds)[i]? = some o → isOw o = false := fun i o hi => by
    unfold start0 at hi
    by_cases z : i < ds.length
    · rw [List.getElem?_append_left (by simpa using z), List.getElem?_map] at hi
      cases q : ds[i]? with
      | none => rw [q] at hi; cases hi
      | some d => rw [q] at hi; cases hi; rfl
    · rw [List.getElem?_append_right (by simpa using z), List.getElem?_replicate] at hi
      split at hi
      · cases hi; rfl
      · cases hi
  refine ⟨⟨e, by simp [L2.start, start0, hl], fun i o hi => ?_, fun i j o u p _ ho _ h1 => by rw [noow i o ho] at h1; cases h1⟩, Ext.refl e, fun i o p ho h1 => by rw [isOn_no (noow i o ho)] at h1; cases h1⟩
  unfold start0 at hi
  unfold L2.start
  by_cases z : i < ds.length
  · rw [List.getElem?_append_left (by simpa using z), List.getElem?_map] at hi
    rw [List.getElem?_append_left (by simpa [hl] using z), List.getElem?_map]
    cases q : ds[i]? with
    | none => rw [q] at hi; cases hi
    | some d =>
      rw [q] at hi; cases hi
      obtain ⟨v, hv, dv⟩ := DpAll.get h q
      rw [hv]
      exact ⟨some v, rfl, v, rfl, dv⟩
  · rw [List.getElem?_append_right (by simpa using z), List.getElem?_replicate] at hi
    rw [List.getElem?_append_right (by simpa [hl] using z), List.getElem?_replicate]
    simp only [List.length_map] at hi ⊢
    rw [hl]
    split at hi
    · rename_i q
      cases hi
      rw [if_pos q]
      exact ⟨none, rfl, trivial⟩
    · cases hi
theorem fn_ok {P : Program} {w : World} {K : PySem.W.Frag} {mg : Str → Option Value} {base : Heap} {ca : CA} {x qual : Str} {st : Stmt} {f : Addr} {fd : FuncData} {N ps : List Str} {k n : Nat} {g : Rho → Out} (F : Fun K x qual st f fd) (S : FnScope N ps (defScope st)) (hn : N.length = n)
    (hbody : ∀ (cdv : Value) (A : Around) (outer : List Env) (s : Shared) (H : Hp) (E : XK), Room k (A.deeper (envOfC qual (defScope st) s.heap.objs.size f cdv)) →
      FSs (cxOf (L2.CX P w) P w K mg base N qual (defScope st) f cdv A outer s H E) ca (fun c d _ H' => E c d H') g (defBody st)) : FnOk P w K mg base (L2.CX P w) (k + 1) f fd ps (spSem K ca ps.length (bodySem n g)) := by
  subst hn
  refine F.okX S spSem_len fun cdv A outer s H vs Q E hr h => ⟨_, hbody cdv A outer s H E hr, ?_⟩
  obtain ⟨G, ds, hG, hd, hl, q⟩ := h
  refine ⟨G, H, G, start0 N.length ds, start_env hG hd, ?_⟩
  unfold bodySem at q
  cases hg : g (start0 N.length ds) with
  | nx ρ => rw [hg] at q; exact fun σ' G' H' s' => q .non G' H' s'.ext .non
  | ret d => rw [hg] at q; exact fun v G' H' e dv => q v G' H' e dv
  | exc z => rw [hg] at q; exact fun c dd σ' G' H' e hx => q c dd G' H' e hx
  | bad => rw [hg] at q; exact q
/-- the semantics may be told in other words -/
theorem fn_eq {P : Program} {w : World} {K : PySem.W.Frag} {mg : Str → Option Value} {base : Heap} {ca : CA} {f : Addr} {fd : FuncData} {ps : List Str} {k : Nat} {s1 s2 : List D → R D} (F : FnOk P w K mg base (L2.CX P w) k f fd ps (spSem K ca ps.length s1))
    (h : ∀ ds, ds.length = ps.length → s2 ds = .bad ∨ s1 ds = s2 ds) : FnOk P w K mg base (L2.CX P w) k f fd ps (spSem K ca ps.length s2) := F.imp fun vs H Q E ⟨G, ds, h1, h2, h3, q⟩ => by
  refine ⟨G, ds, h1, h2, h3, ?_⟩
  rcases h ds h3 with z | z
  · rw [z] at q; exact q.elim
  · rw [z]; exact q
/-! ## raise X('..') -/
structure ExcTxt (K : PySem.W.Frag) (mg : Str → Option Value) (x : Str) (C : Addr) : Prop where
  gP : mg x = some (.ref C)
  xP : PySem.W.excIn K C [.type "ValueError", .type "Exception", .type "BaseException", .type "object"] "ValueError.__new__" = true
  kP : PySem.W.keepIn K (.ref C) = true
  bP : PySem.W.subIn K (.ref C) (.type "BaseException") = some true
  tP : PySem.W.typeIn K (.ref C) = some (.type "type")
theorem fs_raise {x m : Str} {j k : Nat} {p p2 pos2 : Pos} (hc : X.calm = true) (tk : Takes X W) (T : ExcTxt X.K X.mg x (ca k)) (hg : Gl X x) (hdb : (x == ("__debug__" : Str)) = false := by decide) :
    FS X ca W (fun _ => .exc ⟨k, none⟩) (.Raise (some (.Call (.Name x p) [.Constant (.str m) j p2] [] pos)) none pos2) := PSimp (ps_raise hc tk (pmk_own PySem.F.excBase_ValueError T.xP T.gP T.kP (raises_own T.bP T.tP) hg hdb)) fun Dn σ H ⟨G0, H0, G, ρ, s, q⟩ =>
  q (.ref (ca k)) none σ G H s.ext ⟨rfl, rfl⟩
end
end FE

namespace FE
open PySem L2 PyProof.Rows PySem.Spec
/-! ## the order of nested tuples of ints -/
mutual
def od : D → Bool
  | .int _ => true
  | .tuple xs => odL xs
  | _ => false
def odL : List D → Bool
  | [] => true
  | x :: xs => od x && odL xs
end
mutual
def ordO : D → D → Ordering
  | .int i, .int j => compare i j
  | .int _, .tuple _ => .lt
  | .tuple _, .int _ => .gt
  | .tuple xs, .tuple ys => ordL xs ys
  | _, _ => .eq
def ordL : List D → List D → Ordering
  | [], [] => .eq
  | [], _ :: _ => .lt
  | _ :: _, [] => .gt
  | x :: xs, y :: ys => (ordO x y).then (ordL xs ys)
end
mutual
def encD : D → List Int
  | .int i => [1, i]
  | .tuple xs => 2 :: encL xs
  | _ => [3]
def encL : List D → List Int
  | [] => [0]
  | x :: xs => encD x ++ encL xs
end
/-- three ways -/
def cmpL : List Int → List Int → Ordering
  | [], [] => .eq
  | [], _ :: _ => .lt
  | _ :: _, [] => .gt
  | x :: xs, y :: ys => (compare x y).then (cmpL xs ys)
theorem cmpL_same (x : Int) (xs ys : List Int) : cmpL (x :: xs) (x :: ys) = cmpL xs ys := by
  show (compare x x).then _ = _
  rw [show compare x x = Ordering.eq from by simp [compare, compareOfLessAndEq]]
  rfl
theorem cmpL_lt {x y : Int} (h : x < y) (xs ys : List Int) : cmpL (x :: xs) (y :: ys) = .lt := by
  show (compare x y).then _ = _
  rw [show compare x y = Ordering.lt from by simp [compare, compareOfLessAndEq, h]]
  rfl
theorem cmpL_gt {x y : Int} (h : y < x) (xs ys : List Int) : cmpL (x :: xs) (y :: ys) = .gt := by
  show (compare x y).then _ = _
  rw [show compare x y = Ordering.gt from by simp [compare, compareOfLessAndEq, show ¬ x < y by omega, show ¬ x = y by omega]]
  rfl
theorem then_assoc (a b c : Ordering) : (a.then b).then c = a.then (b.then c) := by cases a <;> rfl
mutual
theorem enc_cmp : ∀ (x y : D), od x = true → od y = true → ∀ r s : List Int, cmpL (encD x ++ r) (encD y ++ s) = (ordO x y).then (cmpL r s)
  | .int i, .int j, _, _, r, s => by
    show cmpL (1 :: i :: r) (1 :: j :: s) = (compare i j).then (cmpL r s)
    rw [cmpL_same]; rfl
  | .int i, .tuple ys, _, _, r, s => cmpL_lt (show (1 : Int) < 2 by decide) _ _
  | .tuple xs, .int j, _, _, r, s => cmpL_gt (show (1 : Int) < 2 by decide) _ _
  | .tuple xs, .tuple ys, hx, hy, r, s => by
    show cmpL (2 :: (encL xs ++ r)) (2 :: (encL ys ++ s)) = _
    rw [cmpL_same]
    exact encL_cmp xs ys hx hy r s
  | .none, _, h, _, _, _ => by cases h
  | .bool _, _, h, _, _, _ => by cases h
  | .str _, _, h, _, _, _ => by cases h
  | .list _, _, h, _, _, _ => by cases h
  | .dict _, _, h, _, _, _ => by cases h
  | .int _, .none, _, h, _, _ => by cases h
  | .int _, .bool _, _, h, _, _ => by cases h
  | .int _, .str _, _, h, _, _ => by cases h
  | .int _, .list _, _, h, _, _ => by cases h
  | .int _, .dict _, _, h, _, _ => by cases h
  | .tuple _, .none, _, h, _, _ => by cases h
  | .tuple _, .bool _, _, h, _, _ => by cases h
  | .tuple _, .str _, _, h, _, _ => by cases h
  | .tuple _, .list _, _, h, _, _ => by cases h
  | .tuple _, .dict _, _, h, _, _ => by cases h
theorem encL_cmp : ∀ (xs ys : List D), odL xs = true → odL ys = true → ∀ r s : List Int, cmpL (encL xs ++ r) (encL ys ++ s) = (ordL xs ys).then (cmpL r s)
  | [], [], _, _, r, s => by show cmpL (0 :: r) (0 :: s) = _; rw [cmpL_same]; rfl
  | [], y :: ys, _, hy, r, s => by
    have hy' : od y = true ∧ odL ys = true := by simpa [odL] using hy
    show cmpL (0 :: r) ((encD y ++ encL ys) ++ s) = .lt
    cases y <;> try (cases hy'.1; done)
    · exact cmpL_lt (show (0 : Int) < 1 by decide) _ _
    · exact cmpL_lt (show (0 : Int) < 2 by decide) _ _
  | x :: xs, [], hx, _, r, s => by
    have hx' : od x = true ∧ odL xs = true := by simpa [odL] using hx
    show cmpL ((encD x ++ encL xs) ++ r) (0 :: s) = .gt
    cases x <;> try (cases hx'.1; done)
    · exact cmpL_gt (show (0 : Int) < 1 by decide) _ _
    · exact cmpL_gt (show (0 : Int) < 2 by decide) _ _
  | x :: xs, y :: ys, hx, hy, r, s => by
    have hx' : od x = true ∧ odL xs = true := by simpa [odL] using hx
    have hy' : od y = true ∧ odL ys = true := by simpa [odL] using hy
    show cmpL ((encD x ++ encL xs) ++ r) ((encD y ++ encL ys) ++ s) = ((ordO x y).then (ordL xs ys)).then (cmpL r s)
    rw [List.append_assoc, List.append_assoc, enc_cmp x y hx'.1 hy'.1, encL_cmp xs ys hx'.2 hy'.2, then_assoc]
end
theorem then_eq (a : Ordering) : a.then .eq = a := by cases a <;> rfl
theorem ordO_cmp {x y : D} (hx : od x = true) (hy : od y = true) : ordO x y = cmpL (encD x) (encD y) := by
  have h := enc_cmp x y hx hy [] []
  rw [List.append_nil, List.append_nil] at h
  rw [h]
  exact (then_eq _).symm
theorem cmpL_swap : ∀ (a b : List Int), cmpL b a = (cmpL a b).swap
  | [], [] => rfl
  | [], _ :: _ => rfl
  | _ :: _, [] => rfl
  | x :: xs, y :: ys => by
    rcases Int.lt_trichotomy x y with h | h | h
    · rw [cmpL_lt h, cmpL_gt h]; rfl
    · subst h; rw [cmpL_same, cmpL_same]; exact cmpL_swap xs ys
    · rw [cmpL_gt h, cmpL_lt h]; rfl
theorem cmpL_tr : ∀ (a b c : List Int), cmpL a b ≠ .gt → cmpL b c ≠ .gt → cmpL a c ≠ .gt
  | [], [], _, _, h => h
  | [], _ :: _, [], _, h => by exact absurd rfl h
  | [], _ :: _, _ :: _, _, _ => by intro h; cases h
  | _ :: _, [], _, h, _ => absurd rfl h
  | _ :: _, _ :: _, [], _, h => absurd rfl h
  | x :: xs, y :: ys, z :: zs, h1, h2 => by
    rcases Int.lt_trichotomy x y with h | h | h
    · rcases Int.lt_trichotomy y z with k | k | k
      · rw [cmpL_lt (Int.lt_trans h k)]; decide
      · subst k; rw [cmpL_lt h]; decide
      · rw [cmpL_gt k] at h2; exact absurd rfl h2
    · subst h
      rcases Int.lt_trichotomy x z with k | k | k
      · rw [cmpL_lt k]; decide
      · subst k
        rw [cmpL_same] at h1 h2 ⊢
        exact cmpL_tr xs ys zs h1 h2
      · rw [cmpL_gt k] at h2; exact absurd rfl h2
    · rw [cmpL_gt h] at h1; exact absurd rfl h1
mutual
theorem ordO_eq : ∀ (x y : D), od x = true → od y = true → ordO x y = .eq → x = y
  | .int i, .int j, _, _, h => by
    rcases Int.lt_trichotomy i j with k | k | k
    · exact absurd h (by simp [ordO, compare, compareOfLessAndEq, k])
    · rw [k]
    · exact absurd h (by simp [ordO, compare, compareOfLessAndEq, show ¬ i < j by omega, show ¬ i = j by omega])
  | .int i, .tuple ys, _, _, h => by cases h
  | .tuple xs, .int j, _, _, h => by cases h
  | .tuple xs, .tuple ys, hx, hy, h => by rw [ordL_eq xs ys hx hy h]
  | .none, _, h, _, _ => by cases h
  | .bool _, _, h, _, _ => by cases h
  | .str _, _, h, _, _ => by cases h
  | .list _, _, h, _, _ => by cases h
  | .dict _, _, h, _, _ => by cases h
  | .int _, .none, _, h, _ => by cases h
  | .int _, .bool _, _, h, _ => by cases h
  | .int _, .str _, _, h, _ => by cases h
  | .int _, .list _, _, h, _ => by cases h
  | .int _, .dict _, _, h, _ => by cases h
  | .tuple _, .none, _, h, _ => by cases h
  | .tuple _, .bool _, _, h, _ => by cases h
  | .tuple _, .str _, _, h, _ => by cases h
  | .tuple _, .list _, _, h, _ => by cases h
  | .tuple _, .dict _, _, h, _ => by cases h
theorem ordL_eq : ∀ (xs ys : List D), odL xs = true → odL ys = true → ordL xs ys = .eq → xs = ys
  | [], [], _, _, _ => rfl
  | [], _ :: _, _, _, h => by cases h
  | _ :: _, [], _, _, h => by cases h
  | x :: xs, y :: ys, hx, hy, h => by
    have hx' : od x = true ∧ odL xs = true := by simpa [odL] using hx
    have hy' : od y = true ∧ odL ys = true := by simpa [odL] using hy
    have h' : (ordO x y).then (ordL xs ys) = .eq := h
    cases q : ordO x y with
    | eq => rw [q] at h'; rw [ordO_eq x y hx'.1 hy'.1 q, ordL_eq xs ys hx'.2 hy'.2 h']
    | lt => rw [q] at h'; cases h'
    | gt => rw [q] at h'; cases h'
end
mutual
theorem ordO_refl : ∀ (x : D), ordO x x = .eq
  | .int i => by simp [ordO, compare, compareOfLessAndEq]
  | .tuple xs => ordL_refl xs
  | .none => rfl
  | .bool _ => rfl
  | .str _ => rfl
  | .list _ => rfl
  | .dict _ => rfl
theorem ordL_refl : ∀ (xs : List D), ordL xs xs = .eq
  | [] => rfl
  | x :: xs => by show (ordO x x).then (ordL xs xs) = .eq; rw [ordO_refl x, ordL_refl xs]; rfl
end
mutual
theorem eqv_ord : ∀ (x y : D), od x = true → od y = true → PyData.eqv x y = (ordO x y == .eq)
  | .int i, .int j, _, _ => by
    rcases Int.lt_trichotomy i j with k | k | k
    · have z : (i == j) = false := by simp; omega
      simp [PyData.eqv, ordO, compare, compareOfLessAndEq, k, z]
    · subst k; simp [PyData.eqv, ordO, compare, compareOfLessAndEq]
    · have z : (i == j) = false := by simp; omega
      simp [PyData.eqv, ordO, compare, compareOfLessAndEq, show ¬ i < j by omega, show ¬ i = j by omega, z]
  | .int i, .tuple ys, _, _ => rfl
  | .tuple xs, .int j, _, _ => rfl
  | .tuple xs, .tuple ys, hx, hy => eqvAll_ord xs ys hx hy
  | .none, _, h, _ => by cases h
  | .bool _, _, h, _ => by cases h
  | .str _, _, h, _ => by cases h
  | .list _, _, h, _ => by cases h
  | .dict _, _, h, _ => by cases h
  | .int _, .none, _, h => by cases h
  | .int _, .bool _, _, h => by cases h
  | .int _, .str _, _, h => by cases h
  | .int _, .list _, _, h => by cases h
  | .int _, .dict _, _, h => by cases h
  | .tuple _, .none, _, h => by cases h
  | .tuple _, .bool _, _, h => by cases h
  | .tuple _, .str _, _, h => by cases h
  | .tuple _, .list _, _, h => by cases h
  | .tuple _, .dict _, _, h => by cases h
theorem eqvAll_ord : ∀ (xs ys : List D), odL xs = true → odL ys = true → PyData.eqvAll xs ys = (ordL xs ys == .eq)
  | [], [], _, _ => rfl
  | [], _ :: _, _, _ => rfl
  | _ :: _, [], _, _ => rfl
  | x :: xs, y :: ys, hx, hy => by
    have hx' : od x = true ∧ odL xs = true := by simpa [odL] using hx
    have hy' : od y = true ∧ odL ys = true := by simpa [odL] using hy
    show (PyData.eqv x y && PyData.eqvAll xs ys) = ((ordO x y).then (ordL xs ys) == .eq)
    rw [eqv_ord x y hx'.1 hy'.1, eqvAll_ord xs ys hx'.2 hy'.2]
    cases ordO x y <;> cases ordL xs ys <;> rfl
end
theorem od_lay : ∀ x : D, od x = true → x.canLay0 = true := by
  have h : (∀ x : D, od x = true → x.canLay0 = true) ∧ True := ⟨fun x => by
    exact PyData.rec (motive_1 := fun x => od x = true → x.canLay0 = true) (motive_2 := fun xs => odL xs = true → PyData.canLayAll0 xs = true) (motive_3 := fun _ => True) (motive_4 := fun _ => True)
      (fun h => by cases h) (fun _ h => by cases h) (fun _ _ => rfl) (fun _ h => by cases h) (fun _ _ h => by cases h) (fun xs ih h => ih h) (fun _ _ h => by cases h)
      (fun _ => rfl) (fun x xs h1 h2 h => by
        have h' : od x = true ∧ odL xs = true := by simpa [odL] using h
        simp [PyData.canLayAll0, h1 h'.1, h2 h'.2]) trivial (fun _ _ _ _ => trivial) (fun _ _ _ _ => trivial) x, trivial⟩
  exact h.1
theorem odL_lay {xs : List D} (h : odL xs = true) : PyData.canLayAll0 xs = true := by
  have := od_lay (.tuple xs) h
  simpa [PyData.canLay0] using this
theorem odL_mem : ∀ {xs : List D}, odL xs = true → ∀ x ∈ xs, od x = true
  | y :: ys, h, x, hx => by
    have h' : od y = true ∧ odL ys = true := by simpa [odL] using h
    rcases List.mem_cons.mp hx with rfl | hx
    · exact h'.1
    · exact odL_mem h'.2 x hx
theorem odL_of : ∀ {xs : List D}, (∀ x ∈ xs, od x = true) → odL xs = true
  | [], _ => rfl
  | y :: ys, h => by simp [odL, h y List.mem_cons_self, odL_of fun x hx => h x (List.mem_cons_of_mem _ hx)]
theorem depthAll_le : ∀ {xs : List D} {n : Nat}, PyData.depthAll xs ≤ n → ∀ x ∈ xs, x.depth ≤ n
  | y :: ys, n, h, x, hx => by
    have h' : max y.depth (PyData.depthAll ys) ≤ n := h
    rcases List.mem_cons.mp hx with rfl | hx
    · omega
    · exact depthAll_le (by omega) x hx
theorem readsAll_get {h : Heap} : ∀ {vs : List Value} {ds : List D} {as : List Addr}, ReadsAll h vs ds as → ∀ i (hi : i < vs.length), ∃ d bs, ds[i]? = some d ∧ Reads h vs[i] d bs
  | _, _, _, .cons r t, 0, _ => ⟨_, _, rfl, r⟩
  | _, _, _, .cons _ t, i + 1, hi => by
    obtain ⟨d, bs, h1, h2⟩ := readsAll_get t i (Nat.lt_of_succ_lt_succ hi)
    exact ⟨d, bs, by simpa using h1, by simpa using h2⟩
/-- the places walked as data -/
theorem lexAt_ord (f : Ordering → Bool) : ∀ (xs ys : List D) (i : Nat) (e r : Nat → Bool) (z : Bool), odL xs = true → odL ys = true →
    (∀ j x y, xs[j]? = some x → ys[j]? = some y → e (i + j) = PyData.eqv x y ∧ (e (i + j) = false → r (i + j) = f (ordO x y))) →
    (z = if xs.length < ys.length then f .lt else if ys.length < xs.length then f .gt else f .eq) → Ob.lexAt e r z i (min xs.length ys.length) = f (ordL xs ys)
  | [], [], i, e, r, z, _, _, _, hz => by rw [hz]; rfl
  | [], y :: ys, i, e, r, z, _, _, _, hz => by rw [hz]; simp [ordL, Ob.lexAt]
  | x :: xs, [], i, e, r, z, _, _, _, hz => by rw [hz]; simp [ordL, Ob.lexAt]
  | x :: xs, y :: ys, i, e, r, z, hx, hy, h, hz => by
    have hx' : od x = true ∧ odL xs = true := by simpa [odL] using hx
    have hy' : od y = true ∧ odL ys = true := by simpa [odL] using hy
    obtain ⟨h1, h2⟩ := h 0 x y rfl rfl
    rw [Nat.add_zero] at h1 h2
    have em : min (x :: xs).length (y :: ys).length = min xs.length ys.length + 1 := by simp only [List.length_cons]; omega
    rw [em, Ob.lexAt_succ]
    rw [eqv_ord x y hx'.1 hy'.1] at h1
    show _ = f ((ordO x y).then (ordL xs ys))
    cases q : ordO x y with
    | eq =>
      rw [q] at h1
      have h1 : e i = true := h1
      rw [if_pos h1]
      refine lexAt_ord f xs ys (i + 1) e r z hx'.2 hy'.2 (fun j a b ha hb => ?_) (by rw [hz]; simp)
      have := h (j + 1) a b (by simpa using ha) (by simpa using hb)
      rw [show i + (j + 1) = i + 1 + j by omega] at this
      exact this
    | lt =>
      rw [q] at h1 h2
      rw [if_neg (by rw [h1]; decide), h2 (by rw [h1]; decide)]; rfl
    | gt =>
      rw [q] at h1 h2
      rw [if_neg (by rw [h1]; decide), h2 (by rw [h1]; decide)]; rfl
def isLt (o : Ordering) : Bool := o == .lt
def isGt (o : Ordering) : Bool := o == .gt
theorem int_lt (i j : Int) : decide (i < j) = isLt (ordO (.int i) (.int j)) := by
  rcases Int.lt_trichotomy i j with k | k | k
  · simp [isLt, ordO, compare, compareOfLessAndEq, k]
  · subst k; simp [isLt, ordO, compare, compareOfLessAndEq]
  · simp [isLt, ordO, compare, compareOfLessAndEq, show ¬ i < j by omega, show ¬ i = j by omega]
theorem int_gt (i j : Int) : decide (j < i) = isGt (ordO (.int i) (.int j)) := by
  rcases Int.lt_trichotomy i j with k | k | k
  · simp [isGt, ordO, compare, compareOfLessAndEq, k, show ¬ j < i by omega]
  · subst k; simp [isGt, ordO, compare, compareOfLessAndEq]
  · simp [isGt, ordO, compare, compareOfLessAndEq, show ¬ i < j by omega, show ¬ i = j by omega, k]
mutual
/-- like data: ints with ints, tuples with tuples -/
def like : D → D → Bool
  | .int _, .int _ => true
  | .tuple xs, .tuple ys => likeL xs ys
  | _, _ => false
def likeL : List D → List D → Bool
  | x :: xs, y :: ys => like x y && likeL xs ys
  | _, _ => true
end
theorem likeL_at : ∀ {xs ys : List D} {j : Nat} {x y : D}, likeL xs ys = true → xs[j]? = some x → ys[j]? = some y → like x y = true
  | [], _, _, _, _, _, h, _ => by simp at h
  | _ :: _, [], _, _, _, _, _, h => by simp at h
  | a :: xs, b :: ys, 0, x, y, h, hx, hy => by
    simp at hx hy; subst hx hy
    exact (Bool.and_eq_true_iff.mp h).1
  | a :: xs, b :: ys, j + 1, x, y, h, hx, hy => likeL_at (Bool.and_eq_true_iff.mp h).2 (by simpa using hx) (by simpa using hy)
section
variable {s : Shared}
theorem mem_at {xs : List D} {j : Nat} {x : D} (h : xs[j]? = some x) : x ∈ xs := List.mem_of_getElem? h
/-- < and > of nested tuples -/
theorem rc_ord : ∀ (n : Nat) (x y : D) (A : Around) (u v : Value) (as bs : List Addr), Reads s.heap u x as → Reads s.heap v y bs → od x = true → od y = true → like x y = true → x.depth ≤ n → y.depth ≤ n → A.units + 2 * n + 2 < cLine →
    Ob.RcOp .Lt A s u v (isLt (ordO x y)) ∧ Ob.RcOp .Gt A s u v (isGt (ordO x y)) := by
  intro n
  induction n with
  | zero =>
    intro x y A u v as bs ru rv ox oy lk dx dy hu
    cases x <;> try (cases ox; done)
    case int i =>
      cases y <;> try (cases lk; done)
      case int j =>
        cases ru; cases rv
        rw [← int_lt, ← int_gt]
        exact ⟨Ob.RcOp.lt_int _ _ _ _, Ob.RcOp.gt_int _ _ _ _⟩
    case tuple xs => simp [PyData.depth] at dx
  | succ n ih =>
    intro x y A u v as bs ru rv ox oy lk dx dy hu
    cases x <;> try (cases ox; done)
    case int i =>
      cases y <;> try (cases lk; done)
      case int j =>
        cases ru; cases rv
        rw [← int_lt, ← int_gt]
        exact ⟨Ob.RcOp.lt_int _ _ _ _, Ob.RcOp.gt_int _ _ _ _⟩
    case tuple xs =>
      cases y <;> try (cases lk; done)
      case tuple ys =>
        have dx' : PyData.depthAll xs ≤ n := by simpa [PyData.depth] using dx
        have dy' : PyData.depthAll ys ≤ n := by simpa [PyData.depth] using dy
        cases ru with
        | @tuple a1 o1 vs1 n1 _ _ h1 h2 h3 h4 =>
          cases rv with
          | @tuple a2 o2 vs2 n2 _ _ k1 k2 k3 k4 =>
            have l1 : vs1.toList.length = xs.length := SeqAt.ReadsAll.length _ _ _ h4
            have l2 : vs2.toList.length = ys.length := SeqAt.ReadsAll.length _ _ _ k4
            have it : ∀ j (q1 : j < vs1.size) (q2 : j < vs2.size), ∃ x y cs ds, xs[j]? = some x ∧ ys[j]? = some y ∧ Reads s.heap vs1[j] x cs ∧ Reads s.heap vs2[j] y ds := fun j q1 q2 => by
              obtain ⟨x, cs, e1, r1⟩ := readsAll_get h4 j (by simpa using q1)
              obtain ⟨y, ds, e2, r2⟩ := readsAll_get k4 j (by simpa using q2)
              exact ⟨x, y, cs, ds, e1, e2, by simpa using r1, by simpa using r2⟩
            have t1 : s.heap.IsTuple a1 vs1 := ⟨o1, h1, h2, n1, h3⟩
            have t2 : s.heap.IsTuple a2 vs2 := ⟨o2, k1, k2, n2, k3⟩
            have lay1 := odL_lay (show odL xs = true from ox)
            have he : ∀ j (q1 : j < vs1.size) (q2 : j < vs2.size), SeqAt.EqAt A.in1 s vs1[j] vs2[j] (PyData.eqv (xs.getD j .none) (ys.getD j .none)) := fun j q1 q2 => by
              obtain ⟨x, y, cs, ds, e1, e2, r1, r2⟩ := it j q1 q2
              have g1 : xs.getD j .none = x := by simp [List.getD, e1]
              have g2 : ys.getD j .none = y := by simp [List.getD, e2]
              rw [g1, g2]
              have b1 := depthAll_le dx' x (mem_at e1)
              refine SeqAt.eqAt_reads x y A.in1 s _ _ _ _ r1 r2 (od_lay x (odL_mem ox x (mem_at e1))) (od_lay y (odL_mem oy y (mem_at e2))) ?_
              show A.units + 1 + min x.depth y.depth < cLine
              have : min x.depth y.depth ≤ x.depth := Nat.min_le_left _ _
              omega
            have hr : ∀ j (q1 : j < vs1.size) (q2 : j < vs2.size), Ob.RcOp .Lt A.in1 s vs1[j] vs2[j] (isLt (ordO (xs.getD j .none) (ys.getD j .none))) ∧ Ob.RcOp .Gt A.in1 s vs1[j] vs2[j] (isGt (ordO (xs.getD j .none) (ys.getD j .none))) := fun j q1 q2 => by
              obtain ⟨x, y, cs, ds, e1, e2, r1, r2⟩ := it j q1 q2
              have g1 : xs.getD j .none = x := by simp [List.getD, e1]
              have g2 : ys.getD j .none = y := by simp [List.getD, e2]
              rw [g1, g2]
              refine ih x y A.in1 _ _ cs ds r1 r2 (odL_mem ox x (mem_at e1)) (odL_mem oy y (mem_at e2)) (likeL_at lk e1 e2) (depthAll_le dx' x (mem_at e1)) (depthAll_le dy' y (mem_at e2)) ?_
              show A.units + 1 + 2 * n + 2 < cLine
              omega
            have L := Ob.RcOp.tuples_lt (e := fun j => PyData.eqv (xs.getD j .none) (ys.getD j .none)) (r := fun j => isLt (ordO (xs.getD j .none) (ys.getD j .none))) t1 t2 (by omega) he (fun j q1 q2 _ => (hr j q1 q2).1)
            have Gg := Ob.RcOp.tuples_gt (e := fun j => PyData.eqv (xs.getD j .none) (ys.getD j .none)) (r := fun j => isGt (ordO (xs.getD j .none) (ys.getD j .none))) t1 t2 (by omega) he (fun j q1 q2 _ => (hr j q1 q2).2)
            have s1 : vs1.size = xs.length := by rw [← l1]; simp
            have s2 : vs2.size = ys.length := by rw [← l2]; simp
            rw [s1, s2] at L Gg
            have w1 := lexAt_ord isLt xs ys 0 (fun j => PyData.eqv (xs.getD j .none) (ys.getD j .none)) (fun j => isLt (ordO (xs.getD j .none) (ys.getD j .none))) (decide (xs.length < ys.length)) ox oy (fun j x y e1 e2 => by
              have g1 : xs.getD j .none = x := by simp [List.getD, e1]
              have g2 : ys.getD j .none = y := by simp [List.getD, e2]
              rw [Nat.zero_add]
              exact ⟨by show PyData.eqv (xs.getD j .none) (ys.getD j .none) = _; rw [g1, g2], fun _ => by show isLt (ordO (xs.getD j .none) (ys.getD j .none)) = _; rw [g1, g2]⟩) (by
                by_cases z : xs.length < ys.length
                · rw [if_pos z, decide_eq_true z]; rfl
                · rw [if_neg z, decide_eq_false z]; split <;> rfl)
            have w2 := lexAt_ord isGt xs ys 0 (fun j => PyData.eqv (xs.getD j .none) (ys.getD j .none)) (fun j => isGt (ordO (xs.getD j .none) (ys.getD j .none))) (decide (xs.length > ys.length)) ox oy (fun j x y e1 e2 => by
              have g1 : xs.getD j .none = x := by simp [List.getD, e1]
              have g2 : ys.getD j .none = y := by simp [List.getD, e2]
              rw [Nat.zero_add]
              exact ⟨by show PyData.eqv (xs.getD j .none) (ys.getD j .none) = _; rw [g1, g2], fun _ => by show isGt (ordO (xs.getD j .none) (ys.getD j .none)) = _; rw [g1, g2]⟩) (by
                by_cases z : xs.length < ys.length
                · rw [if_pos z, decide_eq_false (by omega)]; rfl
                · rw [if_neg z]
                  by_cases z2 : ys.length < xs.length
                  · rw [if_pos z2, decide_eq_true z2]; rfl
                  · rw [if_neg z2, decide_eq_false (by omega)]; rfl)
            rw [w1] at L
            rw [w2] at Gg
            exact ⟨L, Gg⟩
end
def ordOk (x y : D) : Bool := od x && od y && like x y && decide (x.depth ≤ 60) && decide (y.depth ≤ 60)
/-- < and > of ints and of nested tuples -/
def ltA : D → D → Option D := fun x y => if ordOk x y = true then some (.bool (isLt (ordO x y))) else none
def gtA : D → D → Option D := fun x y => if ordOk x y = true then some (.bool (isGt (ordO x y))) else none
def rOrd (K : PySem.W.Frag) (f : Ordering → Bool) : R2 := fun x y H Q => ∃ d e, Dp K H x d ∧ Dp K H y e ∧ ordOk d e = true ∧ Q (.bl (f (ordO d e))) H
theorem ordOk_iff {x y : D} (h : ordOk x y = true) : od x = true ∧ od y = true ∧ like x y = true ∧ x.depth ≤ 60 ∧ y.depth ≤ 60 := by
  unfold ordOk at h
  simp only [Bool.and_eq_true, decide_eq_true_eq] at h
  exact ⟨h.1.1.1.1, h.1.1.1.2, h.1.1.2, h.1.2, h.2⟩
theorem hu122 {k : Nat} {A : Around} (hr : Room k A) : A.units + 2 * 60 + 2 < cLine := by have := hr.un; omega
theorem op_ltO {X : Cx} {k : Nat} (hr : Room k X.A) : OpR X (compareOp .Lt) (rOrd X.K isLt) := by
  intro pins s σ H x y v u Q I rx ry h
  obtain ⟨d, e, hd, he, ho, q⟩ := h
  obtain ⟨as, r1⟩ := Dp.reads I d x v hd rx
  obtain ⟨bs, r2⟩ := Dp.reads I e y u he ry
  obtain ⟨o1, o2, lk, d1, d2⟩ := ordOk_iff ho
  exact (rc_ord 60 d e X.A v u as bs r1 r2 o1 o2 lk d1 d2 (hu122 hr)).1 X.prog X.w X.xe _ ⟨.bl _, H, I, rfl, q⟩
theorem op_gtO {X : Cx} {k : Nat} (hr : Room k X.A) : OpR X (compareOp .Gt) (rOrd X.K isGt) := by
  intro pins s σ H x y v u Q I rx ry h
  obtain ⟨d, e, hd, he, ho, q⟩ := h
  obtain ⟨as, r1⟩ := Dp.reads I d x v hd rx
  obtain ⟨bs, r2⟩ := Dp.reads I e y u he ry
  obtain ⟨o1, o2, lk, d1, d2⟩ := ordOk_iff ho
  exact (rc_ord 60 d e X.A v u as bs r1 r2 o1 o2 lk d1 d2 (hu122 hr)).2 X.prog X.w X.xe _ ⟨.bl _, H, I, rfl, q⟩
theorem rop_ltA {K : PySem.W.Frag} : ROp K (rOrd K isLt) ltA := by
  intro G H x y a b d Q e dx dy hg k
  obtain ⟨z, rfl⟩ := ite_some hg
  exact ⟨a, b, dx.dp e, dy.dp e, z, k _ G H (Ext.refl e) (.bl _)⟩
theorem rop_gtA {K : PySem.W.Frag} : ROp K (rOrd K isGt) gtA := by
  intro G H x y a b d Q e dx dy hg k
  obtain ⟨z, rfl⟩ := ite_some hg
  exact ⟨a, b, dx.dp e, dy.dp e, z, k _ G H (Ext.refl e) (.bl _)⟩
section
variable {X : Cx} {ca : CA} {W : WX} {a b : Expr} {f g : Rho → R D} {pos : Pos} {k : Nat}
theorem fe_ltA (hr : Room k X.A) (ha : FB X ca W f a) (hb : FB X ca W g b) : FE X ca W (op2 ltA f g) (.Compare a [.Lt] [b] pos) := fe_cmp (op_ltO hr) rop_ltA ha hb (nomark _)
theorem fe_gtA (hr : Room k X.A) (ha : FB X ca W f a) (hb : FB X ca W g b) : FE X ca W (op2 gtA f g) (.Compare a [.Gt] [b] pos) := fe_cmp (op_gtO hr) rop_gtA ha hb (nomark _)
theorem ft_ltA (hr : Room k X.A) (ha : FB X ca W f a) (hb : FB X ca W g b) : FT X ca W (asB (op2 ltA f g)) (.Compare a [.Lt] [b] pos) := ft_cmp (op_ltO hr) rop_ltA ha hb (nomark _)
theorem ft_gtA (hr : Room k X.A) (ha : FB X ca W f a) (hb : FB X ca W g b) : FT X ca W (asB (op2 gtA f g)) (.Compare a [.Gt] [b] pos) := ft_cmp (op_gtO hr) rop_gtA ha hb (nomark _)
end
end FE

namespace FE
open PySem L2 PyProof.Rows PySem.Spec
/-! ## short names of semantics -/
def kI (i : Int) : Rho → R D := fun _ => .ok (.int i)
def kB (b : Bool) : Rho → R D := fun _ => .ok (.bool b)
def kS (x : Str) : Rho → R D := fun _ => .ok (.str x)
def kN : Rho → R D := fun _ => .ok .none
def lE (f : Rho → R (List D)) : Rho → R D := fun ρ => do let ds ← f ρ; pure (.list ds)
def aN : Rho → R (List D) := fun _ => .ok []
def aC (f : Rho → R D) (g : Rho → R (List D)) : Rho → R (List D) := fun ρ => do let d ← f ρ; let ds ← g ρ; pure (d :: ds)
def tupF (f : Rho → R (List D)) : Rho → R D := fun ρ => do let ds ← f ρ; chk ds.length; pure (.tuple ds)
def lstF (f : Rho → R (List D)) : Rho → R (List D) := fun ρ => do let ds ← f ρ; chk ds.length; pure ds
def nP : Rho → R (Option Int) := fun _ => .ok none
def tT : Rho → R Bool := fun _ => .ok true
def raiseF (k : Nat) : Rho → Out := fun _ => .exc ⟨k, none⟩
def negD : D → Option D
  | .int i => some (.int (-i))
  | _ => none
def un1 (g : D → Option D) (f : Rho → R D) : Rho → R D := fn1 g f
section
variable {X : Cx} {ca : CA} {W : WX} {e a b : Expr} {es : List Expr} {f g : Rho → R D} {pos p : Pos} {k : Nat}
theorem fe_neg (ha : FE X ca W f a) : FE X ca W (fn1 negD f) (.UnaryOp .USub a pos) := PEimp (pe_un un_neg ha) fun σ H Q ⟨G, ρ, env, q⟩ => ⟨G, ρ, env, q.bind.imp fun d q v G' H' e dv => by
  cases dv with
  | int i => exact ⟨i, rfl, q _ G' H' e (.int _)⟩
  | _ => exact q.elim⟩
end
/-! ## defs of the text -/
def DefE (K : PySem.W.Frag) (mg : Str → Option Value) (x : Str) (st : Stmt) (ps : List Str) : Prop := ∃ f fd, mg x = some (.ref f) ∧ Fun K x x st f fd ∧ Binds K fd ps []
def Ok (P : Program) (w : World) (K : PySem.W.Frag) (mg : Str → Option Value) (base : Heap) (ca : CA) (k : Nat) (x : Str) (ps : List Str) (sem : List D → R D) : Prop :=
  ∃ f fd, mg x = some (.ref f) ∧ PySem.W.keepIn K (.ref f) = true ∧ Binds K fd ps [] ∧ FnOk P w K mg base (L2.CX P w) k f fd ps (spSem K ca ps.length sem)
theorem Ok.mk {P : Program} {w : World} {K : PySem.W.Frag} {mg : Str → Option Value} {base : Heap} {ca : CA} {x : Str} {st : Stmt} {N ps : List Str} {k n : Nat} {g : Rho → Out} (d : DefE K mg x st ps) (S : FnScope N ps (defScope st)) (hn : N.length = n)
    (hbody : ∀ (cdv : Value) (A : Around) (outer : List Env) (s : Shared) (H : Hp) (E : XK) (f : Addr), Room k (A.deeper (envOfC x (defScope st) s.heap.objs.size f cdv)) →
      FSs (cxOf (L2.CX P w) P w K mg base N x (defScope st) f cdv A outer s H E) ca (fun c d _ H' => E c d H') g (defBody st)) : Ok P w K mg base ca (k + 1) x ps (bodySem n g) := by
  obtain ⟨f, fd, h1, F, h2⟩ := d
  exact ⟨f, fd, h1, F.kp, h2, fn_ok F S hn fun cdv A outer s H E hr => hbody cdv A outer s H E f hr⟩
theorem Ok.eq {P : Program} {w : World} {K : PySem.W.Frag} {mg : Str → Option Value} {base : Heap} {ca : CA} {x : Str} {ps : List Str} {k : Nat} {s1 s2 : List D → R D} (o : Ok P w K mg base ca k x ps s1) (h : ∀ ds, ds.length = ps.length → s2 ds = .bad ∨ s1 ds = s2 ds) : Ok P w K mg base ca k x ps s2 := by
  obtain ⟨f, fd, h1, h2, h3, h4⟩ := o
  exact ⟨f, fd, h1, h2, h3, fn_eq h4 h⟩
section
variable {X : Cx} {ca : CA} {W : WX} {e : Expr} {es : List Expr} {pos p : Pos} {k j : Nat} {x : Str} {ps : List Str} {sem : List D → R D} {fA : Rho → R (List D)} {n : Nat}
theorem fe_callO (tk : Takes X W) (o : Ok X.prog X.w X.K X.mg X.base ca k x ps sem) (hr : Room j X.A) (hkj : k ≤ j) (hg : Gl X x) (ha : FA X ca W fA (e :: es)) (hdb : (x == ("__debug__" : Str)) = false := by decide)
    (he : starEach (e :: es) X.env = (false, eval e X.env) :: starEach es X.env := by rfl) (hpl : (backTo pos (starEach es X.env)).any (·.1) = false := by rfl) (hn : ps.length = n := by rfl) : FE X ca W (callF n sem fA) (.Call (.Name x p) (e :: es) [] pos) := by
  subst hn
  obtain ⟨f, fd, h1, h2, h3, h4⟩ := o
  exact fe_call tk h4 hr hkj hg h1 h2 h3 ha hdb he hpl
end
end FE

/-! # str(x), x != y of an instance whose class has its own __str__, __eq__ -/
namespace FE
open PySem PySem.W PySem.Calls PyProof.Rows PySem.Builtin PySem.Builtin.Str
section
variable {prog : Program} {w : World} {A : Around} {E : Value → Shared → Prop} {s : Shared} {K : Frag} {x C L f : Addr} {h₀ : Heap} {m : Str → Option Value} {ox : Obj} {od : Option Obj} {b tb : Value}
theorem str_own {Q : Value → Shared → Prop} (hu : A.in1.in1.units < cLine) (X : K.In s.heap) (I : InstAt s.heap x ox C od) (hs : findIn K (.ref C) "__str__" = some (some (.ref f))) (hf : isFn K (.ref f) = true)
    (h : wpAny (model prog w) A.in1.in1 (call (.ref f) [.ref x]) (StrBack Q) E s) : wpAny (model prog w) A (call (.type "str") [.ref x]) Q E s := by
  refine callType_codes (T := "str") (Bi := Builtin.«object.__init__») (Q₁ := fun r s₁ => ∃ y u, r = .str y u ∧ Q r s₁) PySem.F.called_str (PySem.F.typeCall_str_1 _) PySem.F.entry_object_init ?_ ?_
  · refine codeAny_of_tree ?_
    show wpAny _ A.in1.in1 (do checkBuiltinCall "str.__new__" ⟨[.type "str", .ref x], []⟩; again (.builtin "str.__new__" ⟨[.type "str", .ref x], []⟩)) _ _ s
    refine wpAny_bind (wpAny_of_eq (PySem.F.newCall_str_1 _) (wpAny_pure ⟨plainId_quiet (by decide +kernel) _, codeAny_builtin PySem.F.entry_str_new ?_⟩))
    rw [Around.under_plainId (by decide +kernel) _]
    rw [str_new_tree]
    refine wpAny_bind (wpAny_pure ?_)
    refine wpAny_bind (wpAny_of_eq isSubtype_str_str ?_)
    have key : wpAny (model prog w) A.in1.in1 (PySem.Builtin.Str.strOf (.ref x)) (fun r s₁ => ∃ y u, r = .str y u ∧ Q r s₁) E s := by
      unfold PySem.Builtin.Str.strOf
      rw [show isExactStr (.ref x) = false from rfl]
      refine wpAny_bind (m := cRoomFor _ _) (wpAny_cRoomFor hu ?_)
      refine wpAny_bind (m := callSpecial? (.ref x) (Str.ofString "__str__")) (special_fn X I hs (beq_iff_eq.mp hf) (wpAny_mono h (fun r s' z => ?_) fun _ _ y => y))
      cases r <;> first | exact z.elim | exact wpAny_pure ⟨_, _, rfl, z⟩
    exact wpAny_bind (wpAny_mono key (fun r s₁ hr => wpAny_pure hr) fun _ _ y => y)
  · rintro obj s₁ ⟨y, u, rfl, hq⟩
    exact ⟨typeIs_str _ _ _, PySem.F.args_object_init_2 _ _, object_init_meets PySem.F.called_str.init.lookup PySem.F.called_str.made (by decide) prog w A.in1 _ s₁ ⟨typeIs_str _ _ _, rfl, hq⟩⟩
theorem ifBound_bi {M : Model} {name : Str} {id : String} {args : List Value} {Q : Option Value → Shared → Prop} (X : K.In s.heap) (I : InstAt s.heap x ox C od) (hs : findIn K (.ref C) name = some (some (.builtin id)))
    (hb : ∀ self, bindSpecial (.builtin id) self = pure (.builtin id, [self])) (h : wpAny M A (call (.builtin id) (.ref x :: args)) (fun v => Q (some v)) E s) : wpAny M A (callSpecialIfBound? (.ref x) name args) Q E s := by
  simp only [callSpecialIfBound?, bindSpecialIfBound?]
  refine wpAny_holding (wpAny_bind (wpAny_bind (wpAny_bind (I.type.here ((looks_findIn X hs).here ?_)))))
  refine wpAny_bind (wpAny_askSetting (wpAny_ite ?_))
  have fin : wpAny M A (call (.builtin id) ([.ref x] ++ args) >>= fun v => pure (some v)) Q E s := wpAny_bind (wpAny_mono h (fun v s' h' => wpAny_pure h') fun _ _ h' => h')
  split
  · exact wpAny_bind ((Looks.of_pure (hb _)).here (wpAny_pure (by exact fin)))
  · exact wpAny_tryCatch (wpAny_bind ((Looks.of_pure (hb _)).here (wpAny_pure (by exact fin))))
/-- x != b where the class has its own __eq__ and no own __ne__ -/
theorem ne_own {Q : Value → Shared → Prop} (hu : A.units + 1 < cLine) (F : Fr h₀ L s.heap m) (X₀ : K.In h₀) (I : InstAt s.heap x ox C od) (hb : Looks (model prog w) s.heap (typeOf b) tb) (hn : notFirst K C tb = true)
    (hne : findIn K (.ref C) "__ne__" = some (some (.builtin "object.__ne__"))) (hm : mroIn K C (.type "object") = some true) (hs : findIn K (.ref C) "__eq__" = some (some (.ref f))) (hf : isFn K (.ref f) = true)
    (h : wpAny (model prog w) A.in1 (call (.ref f) [.ref x, b]) (fun v s' => ∃ r, v = .bool r ∧ Q (.bool (!r)) s') E s) : wpAny (model prog w) A (richCompare .NotEq (.ref x) b) Q E s := by
  have X := X₀.keeps F.keep
  have body : ∀ {Q' : Fin → Shared → Prop} (B : Around), B.units < cLine → wpAny (model prog w) B (call (.ref f) [.ref x, b]) (fun v s' => ∃ r, v = .bool r ∧ Q' (.done (.ret (.bool (!r)))) s') E s →
      wpAny (model prog w) B (Builtin.«object.__ne__» ⟨[.ref x, b], []⟩) Q' E s := by
    intro Q' B hB h
    unfold Builtin.«object.__ne__»
    repeat (first
      | with_reducible refine wpAny_cRoomFor hB ?_
      | (refine wpAny_bind (m := callSpecialIfBound? (.ref x) (Str.ofString "__eq__") [b])
          (ifBound_K X I hs hf (wpAny_mono h (fun r s' hr => by
            obtain ⟨b, rfl, hq⟩ := hr
            repeat (first | exact hq | exact wpAny_pure hq | exact wpAny_truthy_bool hq | (refine wpAny_bind (m := truthy (.bool _)) (wpAny_truthy_bool ?_)) | wp_step)) fun _ _ e => e)))
      | wp_step)
  have one : wpAny (model prog w) A (tryCompare (.ref x) "__ne__" b) (fun r s' => ∃ v, r = some v ∧ Q v s') E s := by
    unfold tryCompare
    refine wpAny_bind (ifBound_bi X I hne PySem.F.slot_object_ne.bind ?_)
    refine wpAny_call (codeAny_call_builtin PySem.F.slot_object_ne.plain PySem.F.entry_object_ne (check_slot (i := "object.__ne__") (owner := "object") (n := "__ne__") (by decide +kernel) (by decide +kernel) (I.type.andThen (looks_mroIn X hm)) (PySem.F.args_object_ne_2 _ _) ?_))
    refine body A.in1 hu (wpAny_mono h (fun v s' hv => ?_) fun _ _ e => e)
    obtain ⟨r, rfl, hq⟩ := hv
    exact ⟨r, rfl, wpAny_pure ⟨_, rfl, hq⟩⟩
  unfold richCompare
  simp only [oneThing_ref]
  refine wpAny_holding (wpAny_bind (wpAny_cRoomFor (Nat.lt_of_succ_lt hu) ?_))
  refine wpAny_bind (I.type.here (wpAny_bind (hb.here ?_)))
  split
  · rename_i q
    have e : subIn K tb (.ref C) = some false := by
      rcases Bool.or_eq_true_iff.mp hn with e | e
      · rw [beq_iff_eq.mp e] at q; simp at q
      · exact beq_iff_eq.mp e
    refine wpAny_bind ((looks_subIn X e).here ?_)
    simp only [Bool.false_eq_true, if_false]
    refine wpAny_bind (wpAny_mono one (fun r s' z => ?_) fun _ _ e => e)
    obtain ⟨v, rfl, hq⟩ := z
    exact wpAny_pure hq
  · refine wpAny_bind (wpAny_pure ?_)
    simp only [Bool.false_eq_true, if_false]
    refine wpAny_bind (wpAny_mono one (fun r s' z => ?_) fun _ _ e => e)
    obtain ⟨v, rfl, hq⟩ := z
    exact wpAny_pure hq
end
end FE

namespace FE
open PySem L2 PyProof.Rows PySem.Spec
/-! ## sorted -/
def insD (x : D) : List D → List D
  | [] => [x]
  | y :: ys => if isLt (ordO y x) = true then y :: insD x ys else x :: y :: ys
def isort : List D → List D
  | [] => []
  | x :: xs => insD x (isort xs)
theorem insD_perm (x : D) : ∀ l, (insD x l).Perm (x :: l)
  | [] => List.Perm.refl _
  | y :: ys => by
    unfold insD
    split
    · exact ((insD_perm x ys).cons y).trans (List.Perm.swap x y ys)
    · exact List.Perm.refl _
theorem isort_perm : ∀ l, (isort l).Perm l
  | [] => List.Perm.refl _
  | x :: xs => (insD_perm x _).trans ((isort_perm xs).cons x)
/-- y is not ahead of x -/
def leD' (x y : D) : Prop := isLt (ordO y x) = false
theorem not_lt_of {a b : List Int} (h : cmpL b a ≠ .lt) : cmpL a b ≠ .gt := by
  intro z; rw [cmpL_swap] at h; rw [z] at h; exact h rfl
theorem leD_cmp {x y : D} (hx : od x = true) (hy : od y = true) : leD' x y ↔ cmpL (encD x) (encD y) ≠ .gt := by
  unfold leD' isLt
  rw [ordO_cmp hy hx, cmpL_swap]
  cases cmpL (encD x) (encD y) <;> simp [Ordering.swap]
theorem leD_trans {x y z : D} (hx : od x = true) (hy : od y = true) (hz : od z = true) (h1 : leD' x y) (h2 : leD' y z) : leD' x z :=
  (leD_cmp hx hz).mpr (cmpL_tr _ _ _ ((leD_cmp hx hy).mp h1) ((leD_cmp hy hz).mp h2))
theorem leD_anti {x y : D} (hx : od x = true) (hy : od y = true) (h1 : leD' x y) (h2 : leD' y x) : x = y := by
  refine ordO_eq x y hx hy ?_
  have a := (leD_cmp hx hy).mp h1
  have b := (leD_cmp hy hx).mp h2
  rw [cmpL_swap] at b
  rw [ordO_cmp hx hy]
  cases q : cmpL (encD x) (encD y) with
  | eq => rfl
  | lt => rw [q] at b; exact absurd rfl b
  | gt => exact absurd q a
theorem leD_total {x y : D} (hx : od x = true) (hy : od y = true) : leD' x y ∨ leD' y x := by
  rw [leD_cmp hx hy, leD_cmp hy hx, cmpL_swap (encD x) (encD y)]
  cases cmpL (encD x) (encD y) <;> simp [Ordering.swap]
theorem insD_sorted {x : D} (hx : od x = true) : ∀ {l : List D}, (∀ y ∈ l, od y = true) → l.Pairwise leD' → (insD x l).Pairwise leD'
  | [], _, _ => List.pairwise_singleton _ _
  | y :: ys, ho, h => by
    have hy := ho y List.mem_cons_self
    have hys : ∀ z ∈ ys, od z = true := fun z hz => ho z (List.mem_cons_of_mem _ hz)
    obtain ⟨h1, h2⟩ := List.pairwise_cons.mp h
    unfold insD
    split
    · rename_i q
      refine List.pairwise_cons.mpr ⟨fun z hz => ?_, insD_sorted hx hys h2⟩
      rcases List.mem_cons.mp ((insD_perm x ys).mem_iff.mp hz) with e | hz
      · subst e
        rcases leD_total hy hx with k | k
        · exact k
        · unfold leD' at k; rw [q] at k; cases k
      · exact h1 z hz
    · rename_i q
      have xy : leD' x y := by unfold leD'; simpa using q
      refine List.pairwise_cons.mpr ⟨fun z hz => ?_, h⟩
      rcases List.mem_cons.mp hz with e | hz
      · subst e; exact xy
      · exact leD_trans hx hy (hys z hz) xy (h1 z hz)
theorem isort_sorted : ∀ {l : List D}, (∀ y ∈ l, od y = true) → (isort l).Pairwise leD'
  | [], _ => List.Pairwise.nil
  | x :: xs, h => insD_sorted (h x List.mem_cons_self) (fun y hy => h y (List.mem_cons_of_mem _ ((isort_perm xs).mem_iff.mp hy))) (isort_sorted fun y hy => h y (List.mem_cons_of_mem _ hy))
theorem sorted_unique : ∀ {l m : List D}, (∀ y ∈ l, od y = true) → l.Perm m → l.Pairwise leD' → m.Pairwise leD' → l = m
  | [], m, _, p, _, _ => by rw [List.nil_perm.mp p]
  | x :: xs, [], _, p, _, _ => by exact absurd p.length_eq (by simp)
  | x :: xs, y :: ys, ho, p, h1, h2 => by
    obtain ⟨a1, a2⟩ := List.pairwise_cons.mp h1
    obtain ⟨b1, b2⟩ := List.pairwise_cons.mp h2
    have ox := ho x List.mem_cons_self
    have oy : od y = true := ho y (p.mem_iff.mpr List.mem_cons_self)
    have e : x = y := by
      rcases List.mem_cons.mp (p.mem_iff.mp List.mem_cons_self) with e | hx
      · exact e
      · rcases List.mem_cons.mp (p.mem_iff.mpr List.mem_cons_self) with e | hy
        · exact e.symm
        · exact leD_anti ox oy (a1 y hy) (b1 x hx)
    subst e
    rw [sorted_unique (fun z hz => ho z (List.mem_cons_of_mem _ hz)) ((List.perm_cons x).mp p) a2 b2]
theorem isort_unique {l m : List D} (ho : ∀ y ∈ l, od y = true) (p : m.Perm l) (h : m.Pairwise leD') : m = isort l :=
  sorted_unique (fun y hy => ho y (p.mem_iff.mp hy)) (p.trans (isort_perm l).symm) h (isort_sorted ho)
/-- a rearrangement of images comes from one of what they are images of -/
theorem perm_map_inv {α β : Type} {f : α → β} {out : List β} : ∀ {l m : List β}, l.Perm m → ∀ {L : List α}, L.map f = m → ∃ L' : List α, L'.Perm L ∧ L'.map f = l := by
  intro l m p
  induction p with
  | nil => intro L e; exact ⟨L, List.Perm.refl _, e⟩
  | cons x p ih =>
    intro L e
    cases L with
    | nil => cases e
    | cons a L =>
      cases e
      obtain ⟨L', h1, h2⟩ := ih rfl
      exact ⟨a :: L', h1.cons a, by rw [List.map_cons, h2]⟩
  | swap x y l =>
    intro L e
    cases L with
    | nil => cases e
    | cons a L =>
      cases L with
      | nil => cases e
      | cons b L =>
        cases e
        exact ⟨b :: a :: L, List.Perm.swap a b L, rfl⟩
  | trans p q ih1 ih2 =>
    intro L e
    obtain ⟨L1, h1, h2⟩ := ih2 e
    obtain ⟨L2, h3, h4⟩ := ih1 h2
    exact ⟨L2, h3.trans h1, h4⟩
/-! ### the sort's comparisons -/
mutual
theorem reads_keep {h h' : Heap} (k : ∀ b o, h.get? b = some o → o.cls = .type "tuple" → h'.get? b = some o) : ∀ (d : D) (v : Value) (as : List Addr), od d = true → Reads h v d as → Reads h' v d as
  | .int i, _, _, _, r => by cases r; exact .int _ _
  | .tuple ds, _, _, o, r => by
    cases r with
    | tuple h1 h2 h3 h4 => exact .tuple (k _ _ h1 h2) h2 h3 (readsAll_keep k ds _ _ o h4)
  | .none, _, _, o, _ => by cases o
  | .bool _, _, _, o, _ => by cases o
  | .str _, _, _, o, _ => by cases o
  | .list _, _, _, o, _ => by cases o
  | .dict _, _, _, o, _ => by cases o
theorem readsAll_keep {h h' : Heap} (k : ∀ b o, h.get? b = some o → o.cls = .type "tuple" → h'.get? b = some o) : ∀ (ds : List D) (vs : List Value) (as : List Addr), odL ds = true → ReadsAll h vs ds as → ReadsAll h' vs ds as
  | [], _, _, _, r => by cases r; exact .nil
  | d :: ds, _, _, o, r => by
    have o' : od d = true ∧ odL ds = true := by simpa [odL] using o
    cases r with
    | cons r1 r2 => exact .cons (reads_keep k d _ _ o'.1 r1) (readsAll_keep k ds _ _ o'.2 r2)
end
/-- all ints, or all tuples that begin alike: with an int, with a tuple -/
def isI : D → Bool
  | .int _ => true
  | _ => false
def hdI : D → Bool
  | .tuple (.int _ :: _) => true
  | _ => false
def hdT : D → Bool
  | .tuple (.tuple _ :: _) => true
  | _ => false
def sortOk (ds : List D) : Bool := (ds.all isI) || ((ds.all hdI || ds.all hdT) && ds.all fun x => ds.all fun y => ordOk x y)
section
variable {prog : Program} {w : World} {A : Around} {s : Shared}
theorem kat_ord {b fin : Bool} {Q : Bool → Shared → Prop} (hu : A.units + 2 * 60 + 2 < cLine) : ∀ (xs ys : List D) (us vs : List Value) (as bs : List Addr) (i : Nat), ReadsAll s.heap us xs as → ReadsAll s.heap vs ys bs → odL xs = true → odL ys = true → likeL xs ys = true →
    PyData.depthAll xs ≤ 59 → PyData.depthAll ys ≤ 59 → (b = true → i = 0 → ∀ x y, xs[0]? = some x → ys[0]? = some y → isI x = true ∧ isI y = true) → fin = decide (xs.length < ys.length) → Q (isLt (ordL xs ys)) s → PySem.W.KatLex prog w A b fin Q (us.zip vs) i s
  | [], ys, us, vs, as, bs, i, r1, r2, _, _, _, _, _, _, hf, q => by
    cases r1
    cases ys with
    | nil => exact PySem.W.kat_nil (by rw [hf]; exact q)
    | cons y ys => exact PySem.W.kat_nil (by rw [hf]; exact q)
  | x :: xs, [], us, vs, as, bs, i, r1, r2, _, _, _, _, _, _, hf, q => by
    cases r2
    rw [List.zip_nil_right]
    exact PySem.W.kat_nil (by rw [hf]; exact q)
  | x :: xs, y :: ys, us, vs, as, bs, i, r1, r2, ox, oy, lk, dx, dy, hb, hf, q => by
    have ox' : od x = true ∧ odL xs = true := by simpa [odL] using ox
    have oy' : od y = true ∧ odL ys = true := by simpa [odL] using oy
    obtain ⟨lk1, lk2⟩ := Bool.and_eq_true_iff.mp lk
    have dx1 : x.depth ≤ 59 := depthAll_le dx x List.mem_cons_self
    have dy1 : y.depth ≤ 59 := depthAll_le dy y List.mem_cons_self
    have dx2 : PyData.depthAll xs ≤ 59 := Nat.le_trans (Nat.le_max_right _ _) dx
    have dy2 : PyData.depthAll ys ≤ 59 := Nat.le_trans (Nat.le_max_right _ _) dy
    cases r1 with
    | cons r1 r1s =>
      cases r2 with
      | cons r2 r2s =>
        rename_i u us as1 as2 v vs bs1 bs2
        refine PySem.W.kat_cons (SeqAt.eqAt_reads x y A s u v _ _ r1 r2 (od_lay x ox'.1) (od_lay y oy'.1) (by have : min x.depth y.depth ≤ x.depth := Nat.min_le_left _ _; omega) prog w _ _ ?_)
        rw [eqv_ord x y ox'.1 oy'.1]
        have q : Q (isLt ((ordO x y).then (ordL xs ys))) s := q
        cases ho : ordO x y with
        | eq =>
          rw [ho] at q
          exact PySem.W.kat_yes (kat_ord hu xs ys us vs as2 bs2 (i + 1) r1s r2s ox'.2 oy'.2 lk2 dx2 dy2 (fun _ z => absurd z (Nat.succ_ne_zero _)) (by rw [hf]; simp) q)
        | lt =>
          rw [ho] at q
          have q2 : Q true s := q
          refine PySem.W.kat_no ?_
          cases hbi : (b && i == 0) with
          | false => exact PySem.W.kat_one _ _ ((rc_ord 60 x y A u v _ _ r1 r2 ox'.1 oy'.1 lk1 (by omega) (by omega) hu).1 prog w _ _ (by rw [ho]; exact q))
          | true =>
            obtain ⟨e1, e2⟩ := Bool.and_eq_true_iff.mp hbi
            obtain ⟨ix, iy⟩ := hb e1 (by simpa using e2) x y rfl rfl
            cases x <;> try (cases ix; done)
            cases y <;> try (cases iy; done)
            cases r1; cases r2
            rename_i a t b' t'
            refine oneLt_int ?_
            rw [int_lt, ho]; exact q2
        | gt =>
          rw [ho] at q
          have q2 : Q false s := q
          refine PySem.W.kat_no ?_
          cases hbi : (b && i == 0) with
          | false => exact PySem.W.kat_one _ _ ((rc_ord 60 x y A u v _ _ r1 r2 ox'.1 oy'.1 lk1 (by omega) (by omega) hu).1 prog w _ _ (by rw [ho]; exact q))
          | true =>
            obtain ⟨e1, e2⟩ := Bool.and_eq_true_iff.mp hbi
            obtain ⟨ix, iy⟩ := hb e1 (by simpa using e2) x y rfl rfl
            cases x <;> try (cases ix; done)
            cases y <;> try (cases iy; done)
            cases r1; cases r2
            rename_i a t b' t'
            refine oneLt_int ?_
            rw [int_lt, ho]; exact q2
/-- sorted of such data -/
noncomputable def kOf (h : Heap) (v : Value) : List Int := encD (SeqAt.readOf h v)
noncomputable def ltOf (h : Heap) (v u : Value) : Bool := isLt (cmpL (kOf h v) (kOf h u))
theorem swo_of (h : Heap) : SrtO.Swo (ltOf h) := by
  refine ⟨fun x y q => ?_, fun x y z q1 q2 => ?_⟩
  · unfold ltOf isLt at q ⊢
    rw [cmpL_swap]
    cases c : cmpL (kOf h x) (kOf h y) with
    | lt => rfl
    | eq => rw [c] at q; cases q
    | gt => rw [c] at q; cases q
  · have a : cmpL (kOf h x) (kOf h y) ≠ .gt := fun g => by
      unfold ltOf isLt at q1; rw [cmpL_swap, g] at q1; cases q1
    have b : cmpL (kOf h y) (kOf h z) ≠ .gt := fun g => by
      unfold ltOf isLt at q2; rw [cmpL_swap, g] at q2; cases q2
    have c := cmpL_tr _ _ _ a b
    unfold ltOf isLt
    rw [cmpL_swap]
    cases q : cmpL (kOf h x) (kOf h z) with
    | gt => exact absurd q c
    | eq => rfl
    | lt => rfl
theorem readsAll_val {h : Heap} : ∀ {vs : List Value} {ds : List D} {as : List Addr}, ReadsAll h vs ds as → ∀ v ∈ vs, ∃ d bs, d ∈ ds ∧ Reads h v d bs
  | _, _, _, .cons r t, v, hv => by
    rcases List.mem_cons.mp hv with e | hv
    · subst e; exact ⟨_, _, List.mem_cons_self, r⟩
    · obtain ⟨d, bs, h1, h2⟩ := readsAll_val t v hv
      exact ⟨d, bs, List.mem_cons_of_mem _ h1, h2⟩
theorem firsts_ok {h : Heap} : ∀ {vs : List Value} {ds : List D} {as : List Addr}, ReadsAll h vs ds as → (∀ d ∈ ds, hdI d = true ∨ hdT d = true) → ∃ fs, PySem.W.KatTups h vs fs ∧ fs.length = vs.length ∧ ((∀ d ∈ ds, hdI d = true) → ∀ f ∈ fs, ∃ i t, f = .int i t) ∧ ((∀ d ∈ ds, hdT d = true) → ∀ f ∈ fs, ∃ a o, f = .ref a ∧ h.get? a = some o ∧ o.cls = .type "tuple")
  | _, _, _, .nil, _ => ⟨[], PySem.W.KatTups.nil, rfl, fun _ f hf => absurd hf (by simp), fun _ f hf => absurd hf (by simp)⟩
  | _, _, _, .cons (d := d) (ds := ds) r t, hd => by
    obtain ⟨fs, h1, h2, h3, h4⟩ := firsts_ok t fun d hd' => hd d (List.mem_cons_of_mem _ hd')
    have hd0 := hd d List.mem_cons_self
    cases d <;> try (simp [hdI, hdT] at hd0; done)
    case tuple xs =>
      cases xs with
      | nil => simp [hdI, hdT] at hd0
      | cons x xs =>
        cases r with
        | @tuple a o its n _ _ e1 e2 e3 e4 =>
          obtain ⟨l⟩ := its
          cases e4 with
          | cons r1 r2 =>
            rename_i f ws c1 c2
            refine ⟨f :: fs, PySem.W.KatTups.cons e1 e2 e3 (by simp) h1, by simp [h2], fun hI g hg => ?_, fun hT g hg => ?_⟩
            · rcases List.mem_cons.mp hg with e | hg
              · subst e
                have := hI _ List.mem_cons_self
                cases x <;> try (simp [hdI] at this; done)
                cases r1
                exact ⟨_, _, rfl⟩
              · exact h3 (fun d hd' => hI d (List.mem_cons_of_mem _ hd')) g hg
            · rcases List.mem_cons.mp hg with e | hg
              · subst e
                have := hT _ List.mem_cons_self
                cases x <;> try (simp [hdT] at this; done)
                cases r1 with
                | tuple k1 k2 _ _ => exact ⟨_, _, rfl, k1, k2⟩
              · exact h4 (fun d hd' => hT d (List.mem_cons_of_mem _ hd')) g hg
theorem tups_sortable {vs : List Value} {ds : List D} {as : List Addr} {a : Addr} (hu : A.units + 2 * 60 + 2 < cLine) (h2 : 2 ≤ vs.length) {h₁ : Heap} (ha : ∀ o, h₁.get? a = some o → o.cls = .type "list") (kk : ∀ b o, s.heap.get? b = some o → h₁.get? b = some o)
    (r : ReadsAll s.heap vs ds as) (hhd : (∀ d ∈ ds, hdI d = true) ∨ (∀ d ∈ ds, hdT d = true)) (ho : ∀ x ∈ ds, ∀ y ∈ ds, ordOk x y = true) : SrtO.SortableO prog w A { s with heap := h₁ } a vs (ltOf s.heap) := by
  intro h' keep
  have od_ : ∀ d ∈ ds, od d = true := fun d hd => (ordOk_iff (ho d hd d hd)).1
  have kp : ∀ b o, s.heap.get? b = some o → o.cls = .type "tuple" → h'.get? b = some o := fun b o e c => keep b o (fun z => by subst z; rw [ha o (kk _ o e)] at c; exact absurd (Value.type.inj c) (by decide)) (kk b o e)
  have r' : ReadsAll h' vs ds as := readsAll_keep kp ds vs as (odL_of od_) r
  obtain ⟨fs, f1, f2, f3, f4⟩ := firsts_ok r' (fun d hd => hhd.elim (fun z => Or.inl (z d hd)) fun z => Or.inr (z d hd))
  have cmp : ∀ b : Bool, (b = true → ∀ d ∈ ds, hdI d = true) → SrtO.Cmp prog w A { s with heap := h' } (tuples' b) (fun p => p.1 ∈ vs) (SrtO.lt2 (ltOf s.heap)) := fun b hb p q hp hq => by
    obtain ⟨x, bs, hx, rx⟩ := readsAll_val r p.1 hp
    obtain ⟨y, cs, hy, ry⟩ := readsAll_val r q.1 hq
    obtain ⟨ox, oy, lk, dx, dy⟩ := ordOk_iff (ho x hx y hy)
    show wpAny (model prog w) A (keyLt' (tuples' b) p.1 q.1) (fun r s' => s' = { s with heap := h' } ∧ r = ltOf s.heap p.1 q.1) (fun _ _ => False) { s with heap := h' }
    have e : ltOf s.heap p.1 q.1 = isLt (ordO x y) := by
      unfold ltOf kOf
      rw [SeqAt.readOf_eq (od_lay x ox) rx, SeqAt.readOf_eq (od_lay y oy) ry, ordO_cmp ox oy]
    rw [e]
    have rx' := reads_keep kp x p.1 bs ox rx
    have ry' := reads_keep kp y q.1 cs oy ry
    have hdx : hdI x = true ∨ hdT x = true := hhd.elim (fun z => Or.inl (z x hx)) fun z => Or.inr (z x hx)
    have hdy : hdI y = true ∨ hdT y = true := hhd.elim (fun z => Or.inl (z y hy)) fun z => Or.inr (z y hy)
    cases x <;> try (simp [hdI, hdT] at hdx; done)
    cases y <;> try (simp [hdI, hdT] at hdy; done)
    rename_i xs ys
    generalize p.1 = u at rx'
    generalize q.1 = v at ry'
    cases rx' with
    | @tuple a1 o1 i1 n1 _ _ e1 e2 e3 e4 =>
      cases ry' with
      | @tuple a2 o2 i2 n2 _ _ k1 k2 k3 k4 =>
        refine PySem.W.kat_lt e1 e3 k1 k3 (kat_ord (s := { s with heap := h' }) hu xs ys i1.toList i2.toList _ _ 0 e4 k4 ox oy lk (by simpa [PyData.depth] using dx) (by simpa [PyData.depth] using dy) (fun hbt _ x0 y0 hx0 hy0 => ?_) ?_ ⟨rfl, rfl⟩)
        · have a := hb hbt _ hx
          have b := hb hbt _ hy
          cases xs with
          | nil => cases hx0
          | cons x1 xs =>
            cases ys with
            | nil => cases hy0
            | cons y1 ys =>
              simp at hx0 hy0
              subst hx0 hy0
              refine ⟨?_, ?_⟩
              · cases x1 <;> first | rfl | (simp [hdI] at a; done)
              · cases y1 <;> first | rfl | (simp [hdI] at b; done)
        · have l1 := SeqAt.ReadsAll.length _ _ _ e4
          have l2 := SeqAt.ReadsAll.length _ _ _ k4
          rw [← l1, ← l2]; simp
  have hfs : 0 < fs.length := by omega
  rcases hhd with hI | hT
  · refine ⟨tuples' true, fun Q E hq => ?_, cmp true fun _ => hI⟩
    refine PySem.W.kat_kind (T := .type "int") f1 hfs (fun f hm => ?_) (by rfl) ?_
    · obtain ⟨x, t, rfl⟩ := f3 hI f hm
      exact PySem.W.Looks.now
    · have e : (Value.type "int" != Value.type "tuple") = true := by first | decide +kernel | rfl | decide
      rw [e]
      exact hq
  · refine ⟨tuples' false, fun Q E hq => ?_, cmp false fun z => by cases z⟩
    refine PySem.W.kat_kind (T := .type "tuple") f1 hfs (fun f hm => ?_) (by rfl) ?_
    · obtain ⟨x, o, rfl, h1, h2⟩ := f4 hT f hm
      have := (show PySem.W.Looks (model prog w) h' (typeOf (.ref x)) o.cls from (PySem.W.Looks.ld h1).andThen .now)
      rw [← h2]
      exact this
    · have e : (Value.type "tuple" != Value.type "tuple") = false := by first | decide +kernel | rfl | decide
      rw [e]
      exact hq
end
end FE

namespace FE
open PySem L2 PyProof.Rows PySem.Spec
/-! ## sorted(x), x a list or a tuple -/
section
variable {prog : Program} {w : World} {A : Around} {E : Value → Shared → Prop} {s : Shared}
theorem collect_tuple {l : Addr} {vs : List Value} {Q : List Value → Shared → Prop} (hl : s.heap.IsTuple l vs.toArray)
    (h : Q vs { s with heap := (s.heap.push (seqObj "list" #[] 0)).update s.heap.objs.size (Obj.mapSeq (· ++ vs.toArray)) }) (hsz : vs.length ≤ sizeLine) :
    wpAny (model prog w) A (collect (.ref l)) Q E s := by
  obtain ⟨o, ho, hc, n, hd⟩ := id hl
  unfold collect
  refine wpAny_bind (wpAny_runValue (codeAny_builtin entry_proto_collect' ?_))
  show wpAny _ _ (do again (.builtin "list.__iadd__" ⟨[← newList [], .ref l], []⟩)) _ _ s
  refine wpAny_bind (wpAny_newList (wpAny_pure ⟨Code.quiet_builtin _ (by decide +kernel), codeAny_builtin entry_list_iadd' ?_⟩))
  show wpAny _ _ (Builtin.List.listExtendWith (.ref s.heap.objs.size) (.ref l) (.ref s.heap.objs.size)) _ _ { s with heap := s.heap.push (seqObj "list" #[] 0) }
  unfold Builtin.List.listExtendWith
  have ho' : (s.heap.push (seqObj "list" #[] 0)).get? l = some o := Heap.get?_push_of_some _ ho
  refine wpAny_bind (wpAny_typeOf (T := "tuple") ⟨o, ho', hc⟩ ?_)
  have ht : (Value.type "tuple" == Value.type "tuple") = true := by rfl
  rw [if_pos (by rw [ht]; simp)]
  refine wpAny_bind (listItems_at ho' hd ?_)
  refine wpAny_bind (listItems_at (xs := #[]) (n := 0) (Heap.get?_push_size _ rfl) rfl ?_)
  rw [if_neg (by simp)]
  refine wpAny_bind (listUpdate_at (xs := #[]) (n := 0) (Heap.get?_push_size _ rfl) rfl ?_ (Nat.zero_le _) (by show (#[] ++ vs.toArray).size ≤ sizeLine + 1; simp only [Array.size_append, List.size_toArray, List.length_nil]; omega))
  refine wpAny_pure ?_
  show wpAny (model prog w) A (do
      let o ← load s.heap.objs.size
      match o.data with
      | .seq xs _ => pure xs.toList
      | _ => unsupported "internal:collect") Q E { s with heap := (s.heap.push (seqObj "list" #[] 0)).update s.heap.objs.size (Obj.mapSeq (· ++ vs.toArray)) }
  refine wpAny_bind (wpAny_load (get?_update_seq (Heap.get?_push_size _ rfl) _) ?_)
  show wpAny _ _ (pure ((#[] : Array Value) ++ vs.toArray).toList) Q E _
  rw [show ((#[] : Array Value) ++ vs.toArray).toList = vs by simp]
  exact wpAny_pure h
theorem sorted_ordA {l : Addr} {vs : List Value} {ltv : Value → Value → Bool} {Q : Value → Shared → Prop} (O : SrtO.Swo ltv) (hl : s.heap.IsList l vs.toArray ∨ s.heap.IsTuple l vs.toArray) (hz : vs.length ≤ sizeLine)
    (hS : 2 ≤ vs.length → ∀ (h₁ : Heap) (a : Addr), h₁.get? a = some (seqObj "list" vs.toArray 0) → (∀ b o, s.heap.get? b = some o → b ≠ a ∧ h₁.get? b = some o) → SrtO.SortableO prog w A.in1.in1 { s with heap := h₁ } a vs ltv)
    (h : ∀ out : List Value, SrtO.Srtd ltv out → SrtO.Stb ltv out vs → Q (.ref (s.heap.objs.size + 1)) { s with heap := sortedAll s.heap vs out.toArray }) :
    wpAny (model prog w) A (call (.builtin "sorted") [.ref l]) Q E s := by
  rcases hl with hl | hl
  · exact SrtO.sorted_ord O hl hz hS h
  refine Calls.call_function_entry kind_sorted plain_sorted entry_sorted (args_sorted1 _) ?_
  unfold Builtin.«sorted»
  refine wpAny_bind (m := checkCount "sorted" 1 1 _) (wpAny_pure ?_)
  refine wpAny_bind (collect_tuple hl ?_ hz)
  refine wpAny_bind (wpAny_newList ?_ hz)
  have hsz : ((s.heap.push (seqObj "list" #[] 0)).update s.heap.objs.size (Obj.mapSeq (· ++ vs.toArray))).objs.size = s.heap.objs.size + 1 := by
    rw [Heap.size_update, size_push']
  have hoL : (((s.heap.push (seqObj "list" #[] 0)).update s.heap.objs.size (Obj.mapSeq (· ++ vs.toArray))).push (seqObj "list" vs.toArray 0)).get? (s.heap.objs.size + 1) = some (seqObj "list" vs.toArray 0) := by
    rw [← hsz]; exact Heap.get?_push_size _ rfl
  have keep : ∀ b o, s.heap.get? b = some o → b ≠ s.heap.objs.size + 1 ∧ (((s.heap.push (seqObj "list" #[] 0)).update s.heap.objs.size (Obj.mapSeq (· ++ vs.toArray))).push (seqObj "list" vs.toArray 0)).get? b = some o := fun b o q => by
    have hlt : b < s.heap.objs.size := Heap.lt_size q
    refine ⟨Nat.ne_of_lt (Nat.lt_succ_of_lt hlt), Heap.get?_push_of_some _ ?_⟩
    rw [Heap.get?_update_ne _ _ _ _ (Nat.ne_of_lt hlt)]
    exact Heap.get?_push_of_some _ q
  show wpAny _ _ _ _ _ { s with heap := ((s.heap.push (seqObj "list" #[] 0)).update s.heap.objs.size (Obj.mapSeq (· ++ vs.toArray))).push (seqObj "list" vs.toArray 0) }
  rw [hsz]
  refine wpAny_bind (wpAny_holding (wpAny_call_entry slot_list_sort ⟨_, hoL, rfl⟩ entry_list_sort (SrtO.list_sort_ord O hoL hz (fun h2 => hS h2 _ _ hoL keep) fun out hs hb => ⟨_, rfl, ?_⟩) (args_list_sort _)))
  exact wpAny_pure ⟨_, rfl, h out hs hb⟩
end
/-- the items of a sequence, and how the values are to be had -/
def SqA (K : PySem.W.Frag) (H : Hp) (a : Addr) (xs : List V) : Prop := SqL K H a xs ∨ SqT K H a xs
theorem Inv.seq {X : Cx} {pins : List (Addr × Obj)} {σ : L2.St} {H : Hp} {s : Shared} {a : Addr} {xs : List V} (I : Inv X pins σ H s) (h : SqA X.K H a xs) : ∃ its : List Value, Vals xs its ∧ (s.heap.IsList a its.toArray ∨ s.heap.IsTuple a its.toArray) ∧ xs.length ≤ sizeLine := by
  rcases h with h | h
  · obtain ⟨its, r, pl, hz⟩ := I.list h
    exact ⟨its, r, Or.inl pl.isList, hz⟩
  · obtain ⟨its, r, pl, hz⟩ := I.tuple h
    exact ⟨its, r, Or.inr pl, hz⟩
def asInt : D → Int
  | .int i => i
  | _ => 0
theorem ints_of_all : ∀ {ds : List D}, ds.all isI = true → ds = (ds.map asInt).map .int
  | [], _ => rfl
  | d :: ds, h => by
    rw [List.all_cons] at h
    obtain ⟨h1, h2⟩ := Bool.and_eq_true_iff.mp h
    cases d <;> try (cases h1; done)
    rename_i i
    exact congrArg (PyData.int i :: ·) (ints_of_all h2)
theorem dpAll_ints {K : PySem.W.Frag} {G : Hp} : ∀ {vs : List V} {ns : List Int}, DpAll K G vs (ns.map .int) → vs = ns.map V.int
  | _, [], .nil => rfl
  | _, n :: ns, .cons h t => by cases h; rw [dpAll_ints t]; rfl
theorem ints_dpAll {K : PySem.W.Frag} {G : Hp} : ∀ (ns : List Int), DpAll K G (ns.map V.int) (ns.map .int)
  | [] => .nil
  | n :: ns => .cons (.int n) (ints_dpAll ns)
theorem insD_ints (x : Int) : ∀ ns : List Int, ∃ ms : List Int, insD (.int x) (ns.map .int) = ms.map .int
  | [] => ⟨[x], rfl⟩
  | n :: ns => by
    rw [List.map_cons]
    unfold insD
    split
    · obtain ⟨ms, e⟩ := insD_ints x ns
      exact ⟨n :: ms, by rw [e]; rfl⟩
    · exact ⟨x :: n :: ns, rfl⟩
theorem od_int_map (ns : List Int) : ∀ y ∈ ns.map PyData.int, od y = true := fun y hy => by
  obtain ⟨n, _, rfl⟩ := List.mem_map.mp hy
  rfl
theorem le_leD {a b : Int} : leD' (.int a) (.int b) ↔ a ≤ b := by
  unfold leD'
  rw [← int_lt]
  simp
/-- the ints in order -/
theorem isort_ints {ns ms : List Int} (p : ms.Perm ns) (h : ms.Pairwise (· ≤ ·)) : ms.map PyData.int = isort (ns.map PyData.int) :=
  isort_unique (od_int_map ns) (p.map _) (List.pairwise_map.mpr (h.imp fun q => le_leD.mpr q))
def rSortA (K : PySem.W.Frag) : List V → Hp → VK → Prop := fun vs H Q => ∃ (a : Addr) (G : Hp) (xs : List V) (ds : List D), vs = [V.ref a] ∧ Ex G H ∧ SqA K H a xs ∧ DpAll K G xs ds ∧ sortOk ds = true ∧
  ∀ (ys : List V) (p : Addr), DpAll K G ys (isort ds) → H p = none → Q (.ref p) (upd H p (.lst ys))
theorem bk_dp {K : PySem.W.Frag} {H : Hp} : ∀ {xs : List V} {ds : List D}, DpAll K H xs ds → (∀ d ∈ ds, ∃ es, d = .tuple es) → ∀ x ∈ xs, ∃ a, x = V.ref a
  | _, _, .nil, _, x, hx => by cases hx
  | _, _, .cons h t, hd, x, hx => by
    rcases List.mem_cons.mp hx with e | hx
    · subst e
      obtain ⟨es, e⟩ := hd _ List.mem_cons_self
      subst e
      cases h with
      | tup h1 h2 => exact ⟨_, rfl⟩
    · exact bk_dp t (fun d hd' => hd d (List.mem_cons_of_mem _ hd')) x hx
theorem hd_tup {d : D} (h : hdI d = true ∨ hdT d = true) : ∃ es, d = .tuple es := by
  cases d <;> try (simp [hdI, hdT] at h; done)
  exact ⟨_, rfl⟩
/-- values paired with their data -/
theorem zip_of {K : PySem.W.Frag} {G : Hp} {h : Heap} : ∀ {us : List Value} {ds : List D} {as : List Addr}, ReadsAll h us ds as → (∀ u ∈ us, ∃ a, u = Value.ref a) → DpAll K G (us.map bkV) ds → ∃ L : List (Value × D), L.map (·.1) = us ∧ L.map (·.2) = ds ∧ ∀ q ∈ L, (∃ bs, Reads h q.1 q.2 bs) ∧ Dp K G (bkV q.1) q.2
  | _, _, _, .nil, _, _ => ⟨[], rfl, rfl, fun q hq => by cases hq⟩
  | _, _, _, .cons r t, hu, .cons d1 d2 => by
    obtain ⟨L, h1, h2, h3⟩ := zip_of t (fun u hu' => hu u (List.mem_cons_of_mem _ hu')) d2
    refine ⟨(_, _) :: L, by rw [List.map_cons, h1], by rw [List.map_cons, h2], fun q hq => ?_⟩
    rcases List.mem_cons.mp hq with e | hq
    · subst e; exact ⟨⟨_, r⟩, d1⟩
    · exact h3 q hq
theorem dp_of_zip {K : PySem.W.Frag} {G : Hp} : ∀ {L : List (Value × D)}, (∀ q ∈ L, Dp K G (bkV q.1) q.2) → DpAll K G ((L.map (·.1)).map bkV) (L.map (·.2))
  | [], _ => .nil
  | q :: L, h => .cons (h q List.mem_cons_self) (dp_of_zip fun r hr => h r (List.mem_cons_of_mem _ hr))
theorem cr_sortA {X : Cx} (hu : X.A.units + 2 * 60 + 2 + 2 < cLine) : CallR X (.builtin "sorted") (rSortA X.K) := by
  intro pins s σ H vs us Q I r h
  obtain ⟨a, G, xs, ds, rfl, e, hs, hd, hok, q⟩ := h
  obtain ⟨its, rv, hl, hz⟩ := Inv.seq I hs
  rw [Vals.ref1 r]
  have hlz : its.length ≤ sizeLine := by rw [← rv.length]; exact hz
  rcases Bool.or_eq_true_iff.mp hok with hI | hT
  · have e1 := ints_of_all hI
    rw [e1] at hd
    have e2 := dpAll_ints hd
    subst e2
    have hi := rv.ints
    refine sorted_ordA SrtO.swo_int hl hlz (fun h2 h₁ a' _ _ => SrtO.ints_sortable hi h2) fun out h1 h2 => ?_
    obtain ⟨k1, k2, k3⟩ := SrtO.ints_out hi h1 h2
    obtain ⟨ep, he'⟩ := PyProof.Rows.sortedAll_at s.heap its out.toArray
    have hlen : ((out.map SrtO.iv).map V.int).length ≤ sizeLine := by
      rw [List.length_map, k2.length_eq]
      rw [List.length_map] at hz
      exact hz
    refine ⟨.ref _, upd H (s.heap.objs.size + 1) (.lst ((out.map SrtO.iv).map V.int)), I.laid (t' := s.toks) (fun _ _ => PyProof.Rows.sortedAll_old) (Nat.le_succ _) ⟨hlen, out, ep, vals_of_ints k1, he'⟩, rfl, q _ _ ?_ (I.hok.fresh (Nat.le_succ _))⟩
    have e3 := isort_ints k2 k3
    rw [← e1] at e3
    rw [← e3]
    exact ints_dpAll _
  · obtain ⟨hh, hall⟩ := Bool.and_eq_true_iff.mp hT
    have hhd : (∀ d ∈ ds, hdI d = true) ∨ (∀ d ∈ ds, hdT d = true) := (Bool.or_eq_true_iff.mp hh).imp (fun z => List.all_eq_true.mp z) fun z => List.all_eq_true.mp z
    have hoo : ∀ x ∈ ds, ∀ y ∈ ds, ordOk x y = true := fun x hx y hy => List.all_eq_true.mp (List.all_eq_true.mp hall x hx) y hy
    have hod : ∀ d ∈ ds, od d = true := fun d hd' => (ordOk_iff (hoo d hd' d hd')).1
    have htup : ∀ d ∈ ds, ∃ es, d = .tuple es := fun d hd' => hd_tup (hhd.elim (fun z => Or.inl (z d hd')) fun z => Or.inr (z d hd'))
    obtain ⟨b1, b2⟩ := bkV_refs rv (bk_dp hd htup)
    obtain ⟨as, rds⟩ := Dp.readsAll I ds xs its (DpAll.ex e ds hd) rv
    rw [b1] at hd
    obtain ⟨L, L1, L2, L3⟩ := zip_of rds b2 hd
    refine sorted_ordA (swo_of s.heap) hl hlz (fun h2 h₁ a' ha hk => ?_) fun out h1 h2 => ?_
    · exact tups_sortable (A := X.A.in1.in1) (by show X.A.units + 1 + 1 + 2 * 60 + 2 < cLine; omega) h2 (fun o ho => by rw [ha] at ho; rw [← Option.some.inj ho]) (fun b o hb => (hk b o hb).2) rds hhd hoo
    · obtain ⟨L', p1, p2⟩ := perm_map_inv (out := []) h2.perm L1
      have hx : ∀ q ∈ L', q ∈ L := fun q hq => p1.mem_iff.mp hq
      have hds : (L'.map (·.2)).Perm ds := by rw [← L2]; exact p1.map _
      have hsrt : L'.map (·.2) = isort ds := by
        refine isort_unique hod hds (List.pairwise_map.mpr ?_)
        have h1' : (L'.map (·.1)).Pairwise fun x y => ltOf s.heap y x = false := by rw [p2]; exact h1
        refine List.Pairwise.imp_of_mem (fun {x y} hx' hy' hxy => ?_) (List.pairwise_map.mp h1')
        obtain ⟨⟨bs, r1⟩, _⟩ := L3 x (hx x hx')
        obtain ⟨⟨cs, r2⟩, _⟩ := L3 y (hx y hy')
        have ox : od x.2 = true := hod _ (hds.mem_iff.mp (List.mem_map.mpr ⟨x, hx', rfl⟩))
        have oy : od y.2 = true := hod _ (hds.mem_iff.mp (List.mem_map.mpr ⟨y, hy', rfl⟩))
        unfold ltOf kOf at hxy
        rw [SeqAt.readOf_eq (od_lay _ ox) r1, SeqAt.readOf_eq (od_lay _ oy) r2, ← ordO_cmp oy ox] at hxy
        exact hxy
      obtain ⟨ep, he'⟩ := PyProof.Rows.sortedAll_at s.heap its out.toArray
      have h3 : ∀ u ∈ out, ∃ a, u = Value.ref a := fun u hu => b2 u (h2.perm.mem_iff.mp hu)
      have hlen : (out.map bkV).length ≤ sizeLine := by rw [List.length_map, h2.len]; exact hlz
      refine ⟨.ref _, upd H (s.heap.objs.size + 1) (.lst (out.map bkV)), I.laid (t' := s.toks) (fun _ _ => PyProof.Rows.sortedAll_old) (Nat.le_succ _) ⟨hlen, out, ep, bkV_vals h3, he'⟩, rfl, q _ _ ?_ (I.hok.fresh (Nat.le_succ _))⟩
      rw [← hsrt, ← p2]
      exact dp_of_zip fun q hq => (L3 q (hx q hq)).2
def sortD : D → Option D
  | .list ds => if sortOk ds = true then some (.list (isort ds)) else none
  | .tuple ds => if sortOk ds = true then some (.list (isort ds)) else none
  | _ => none
theorem rfn_sort {K : PySem.W.Frag} : RFn1 K (rSortA K) sortD := by
  intro G H x a d Q e dx hg k
  cases a <;> try (cases hg; done)
  case list ds =>
    obtain ⟨z, rfl⟩ := ite_some hg
    obtain ⟨p, vs, rfl, h1, h2⟩ := Dp.lst_of dx
    exact ⟨p, G, vs, ds, rfl, e, Or.inl h1, h2, z, fun ys r hy hr => k _ _ _ (Dp.newl e hr hy).1 (Dp.newl e hr hy).2⟩
  case tuple ds =>
    obtain ⟨z, rfl⟩ := ite_some hg
    obtain ⟨p, vs, rfl, h1, h2, _⟩ := Dp.tup_of e dx
    exact ⟨p, G, vs, ds, rfl, e, Or.inr h1, h2, z, fun ys r hy hr => k _ _ _ (Dp.newl e hr hy).1 (Dp.newl e hr hy).2⟩
section
variable {X : Cx} {ca : CA} {W : WX} {e a b : Expr} {f g h : Rho → R D} {pos p p2 : Pos} {k : Nat}
theorem boot_sorted : bootBuiltins "sorted" = some (.builtin "sorted") := by decide +kernel
theorem hu124 {A : Around} (hr : Room k A) : A.units + 2 * 60 + 2 + 2 < cLine := by have := hr.un; omega
theorem fe_sorted (hr : Room k X.A) (hg : Gl X "sorted") (hm : X.mg "sorted" = none) (ha : FB X ca W f e) (hs : starEach [e] X.env = (false, eval e X.env) :: starEach [] X.env := by rfl) : FE X ca W (fn1 sortD f) (.Call (.Name "sorted" p) [e] [] pos) := fe_b1 (cr_sortA (hu124 hr)) rfn_sort hg hm boot_sorted ha (hs := hs)
end
/-! ## min of a list -/
theorem like_alike : ∀ x y : D, like x y = true → PySem.W.alike x y = true := by
  have h : (∀ x : D, ∀ y, like x y = true → PySem.W.alike x y = true) ∧ True := ⟨fun x => by
    exact PyData.rec (motive_1 := fun x => ∀ y, like x y = true → PySem.W.alike x y = true) (motive_2 := fun xs => ∀ ys, likeL xs ys = true → PySem.W.alikeAll xs ys = true) (motive_3 := fun _ => True) (motive_4 := fun _ => True)
      (fun y h => by cases y <;> cases h) (fun _ y h => by cases y <;> cases h) (fun _ y h => by cases y <;> first | rfl | cases h) (fun _ y h => by cases y <;> cases h) (fun _ _ y h => by cases y <;> cases h)
      (fun xs ih y h => by
        cases y <;> try (cases h; done)
        exact ih _ h) (fun _ _ y h => by cases y <;> cases h)
      (fun ys _ => by cases ys <;> rfl) (fun x xs h1 h2 ys h => by
        cases ys with
        | nil => rfl
        | cons y ys =>
          obtain ⟨a, b⟩ := Bool.and_eq_true_iff.mp (show (like x y && likeL xs ys) = true from h)
          show (PySem.W.alike x y && PySem.W.alikeAll xs ys) = true
          rw [h1 y a, h2 ys b]; rfl) trivial (fun _ _ _ _ => trivial) (fun _ _ _ _ => trivial) x, trivial⟩
  exact h.1
mutual
theorem dataLt_ord : ∀ x y : D, od x = true → od y = true → like x y = true → PySem.W.dataLt x y = isLt (ordO x y)
  | .int i, .int j, _, _, _ => by rw [PySem.W.dataLt_int, int_lt]
  | .tuple xs, .tuple ys, ox, oy, l => by rw [PySem.W.dataLt_tuple]; exact rowLt_ord xs ys ox oy l
  | .int _, .tuple _, _, _, h => by cases h
  | .tuple _, .int _, _, _, h => by cases h
  | .none, _, h, _, _ => by cases h
  | .bool _, _, h, _, _ => by cases h
  | .str _, _, h, _, _ => by cases h
  | .list _, _, h, _, _ => by cases h
  | .dict _, _, h, _, _ => by cases h
  | .int _, .none, _, h, _ => by cases h
  | .int _, .bool _, _, h, _ => by cases h
  | .int _, .str _, _, h, _ => by cases h
  | .int _, .list _, _, h, _ => by cases h
  | .int _, .dict _, _, h, _ => by cases h
  | .tuple _, .none, _, h, _ => by cases h
  | .tuple _, .bool _, _, h, _ => by cases h
  | .tuple _, .str _, _, h, _ => by cases h
  | .tuple _, .list _, _, h, _ => by cases h
  | .tuple _, .dict _, _, h, _ => by cases h
theorem rowLt_ord : ∀ xs ys : List D, odL xs = true → odL ys = true → likeL xs ys = true → PySem.W.rowLt xs ys = isLt (ordL xs ys)
  | [], [], _, _, _ => by unfold PySem.W.rowLt; exact PyProof.Rows.lex_irrefl _
  | [], y :: ys, _, _, _ => by first | rfl | simp [PySem.W.rowLt, PySem.W.keyToksAll, PyProof.Rows.lexLt, ordL, isLt]
  | x :: xs, [], _, _, _ => by first | rfl | simp [PySem.W.rowLt, PySem.W.keyToksAll, PyProof.Rows.lexLt, ordL, isLt]
  | x :: xs, y :: ys, ox, oy, l => by
    have ox' : od x = true ∧ odL xs = true := by simpa [odL] using ox
    have oy' : od y = true ∧ odL ys = true := by simpa [odL] using oy
    obtain ⟨l1, l2⟩ := Bool.and_eq_true_iff.mp (show (like x y && likeL xs ys) = true from l)
    unfold PySem.W.rowLt
    rw [PySem.W.dataLt_cons (like_alike x y l1), eqv_ord x y ox'.1 oy'.1, dataLt_ord x y ox'.1 oy'.1 l1]
    have ih := rowLt_ord xs ys ox'.2 oy'.2 l2
    unfold PySem.W.rowLt at ih
    rw [ih]
    show _ = isLt ((ordO x y).then (ordL xs ys))
    cases ordO x y <;> rfl
end
def leastO (x : D) (xs : List D) : D := xs.foldl (fun a y => if isLt (ordO y a) = true then y else a) x
theorem minD_ord (x : D) : ∀ xs : List D, (∀ a ∈ x :: xs, ∀ b ∈ x :: xs, ordOk a b = true) → PySem.W.minD x xs = leastO x xs := by
  intro xs
  unfold PySem.W.minD leastO
  induction xs generalizing x with
  | nil => intro _; rfl
  | cons y ys ih =>
    intro h
    rw [List.foldl_cons, List.foldl_cons]
    obtain ⟨o1, o2, o3, _⟩ := ordOk_iff (h y (by simp) x (by simp))
    rw [dataLt_ord y x o1 o2 o3]
    by_cases z : isLt (ordO y x) = true
    · rw [if_pos z]
      exact ih y fun a ha b hb => h a (List.mem_cons_of_mem _ ha) b (List.mem_cons_of_mem _ hb)
    · rw [if_neg z]
      refine ih x fun a ha b hb => h a ?_ b ?_
      · rcases List.mem_cons.mp ha with e | ha
        · rw [e]; simp
        · simp [ha]
      · rcases List.mem_cons.mp hb with e | hb
        · rw [e]; simp
        · simp [hb]
def minAD : D → Option D
  | .list (x :: xs) => if ((x :: xs).all fun a => (x :: xs).all fun b => ordOk a b) = true then some (leastO x xs) else none
  | _ => none
/-- what stands at a place of a tuple-or-int list is had again -/
def rMinA (K : PySem.W.Frag) : List V → Hp → VK → Prop := fun vs H Q => ∃ (a : Addr) (G : Hp) (xs : List V) (d : D) (ds : List D), vs = [V.ref a] ∧ Ex G H ∧ SqL K H a xs ∧ DpAll K G xs (d :: ds) ∧ (∀ a ∈ d :: ds, ∀ b ∈ d :: ds, ordOk a b = true) ∧ ∀ v, Dp K G v (leastO d ds) → Q v H
theorem vals_at : ∀ {xs : List V} {us : List Value} {i : Nat} {u : Value}, Vals xs us → us[i]? = some u → ∃ x, xs[i]? = some x ∧ RelV x u
  | _, _, _, _, .nil, h => by simp at h
  | _, _, 0, _, .cons r t, h => by simp at h; subst h; exact ⟨_, rfl, r⟩
  | _, _, i + 1, u, .cons r t, h => by
    obtain ⟨x, h1, h2⟩ := vals_at (i := i) (u := u) t (by simpa using h)
    exact ⟨x, by simpa using h1, h2⟩
theorem readsAll_gd {h : Heap} : ∀ {vs : List Value} {ds : List D} {as : List Addr} {i : Nat} {v : Value}, ReadsAll h vs ds as → vs[i]? = some v → ∃ d bs, ds[i]? = some d ∧ Reads h v d bs
  | _, _, _, _, _, .nil, h => by simp at h
  | _, _, _, 0, _, .cons r t, h => by simp at h; subst h; exact ⟨_, _, rfl, r⟩
  | _, _, _, i + 1, v, .cons r t, h => by
    obtain ⟨d, bs, h1, h2⟩ := readsAll_gd (i := i) (v := v) t (by simpa using h)
    exact ⟨d, bs, by simpa using h1, h2⟩
theorem leastO_mem (x : D) : ∀ xs : List D, leastO x xs ∈ x :: xs := by
  intro xs
  unfold leastO
  induction xs generalizing x with
  | nil => simp
  | cons y ys ih =>
    rw [List.foldl_cons]
    have := ih (if isLt (ordO y x) = true then y else x)
    split at this <;> split <;> simp_all <;> grind
theorem depthAll_of : ∀ {xs : List D} {n : Nat}, (∀ x ∈ xs, x.depth ≤ n) → PyData.depthAll xs ≤ n
  | [], n, _ => Nat.zero_le _
  | x :: xs, n, h => Nat.max_le.mpr ⟨h x List.mem_cons_self, depthAll_of fun y hy => h y (List.mem_cons_of_mem _ hy)⟩
theorem cr_minA {X : Cx} (hc : X.calm = true) (hu : X.A.units + 1 + 60 < cLine) : CallR X (.builtin "min") (rMinA X.K) := by
  intro pins s σ H vs us Q I r h
  obtain ⟨a, G, xs, d, ds, rfl, e, hs, hd, hok, q⟩ := h
  obtain ⟨its, rv, hl, hz⟩ := I.list hs
  rw [Vals.ref1 r]
  obtain ⟨as, rds⟩ := Dp.readsAll I (d :: ds) xs its (DpAll.ex e _ hd) rv
  have hdep : PyData.depthAll (d :: ds) ≤ 60 := depthAll_of fun x hx => (ordOk_iff (hok x hx x hx)).2.2.2.1
  refine PySem.W.min_list_data (I.ok.hd hc) hl.isList (by simpa using rds) ⟨fun x hx y hy => like_alike x y (ordOk_iff (hok x hx y hy)).2.2.1, fun x hx => ?_⟩ (by omega) fun i v h' tk bs hv hr hk => ?_
  · have := (ordOk_iff (hok x hx x hx)).1
    intro z; rw [z] at this; cases this
  · rw [minD_ord d ds hok] at hr
    have hv' : its[i]? = some v := by simpa using hv
    obtain ⟨x, h1, h2⟩ := vals_at rv hv'
    obtain ⟨d1, bs1, h3, h4⟩ := readsAll_gd rds hv'
    obtain ⟨d2, h5, h6⟩ := DpAll.getV hd h1
    rw [h3] at h5
    cases h5
    have o1 : od d1 = true := (ordOk_iff (hok d1 (List.mem_of_getElem? h3) d1 (List.mem_of_getElem? h3))).1
    have o2 : od (leastO d ds) = true := (ordOk_iff (hok _ (leastO_mem d ds) _ (leastO_mem d ds))).1
    have h4' : Reads h' v d1 bs1 := reads_keep (fun b o e _ => hk b o e) d1 v bs1 o1 h4
    have eq : d1 = leastO d ds := (SeqAt.readOf_eq (od_lay _ o1) h4').symm.trans (SeqAt.readOf_eq (od_lay _ o2) hr)
    exact ⟨x, H, I.kept (t' := tk) hk, h2, q x (by rw [← eq]; exact h6)⟩
theorem rfn_minA {K : PySem.W.Frag} : RFn1 K (rMinA K) minAD := by
  intro G H x a d Q e dx hg k
  cases a <;> try (cases hg; done)
  case list ds =>
    cases ds with
    | nil => cases hg
    | cons y ys =>
      obtain ⟨z, rfl⟩ := ite_some hg
      obtain ⟨p, vs, rfl, h1, h2⟩ := Dp.lst_of dx
      exact ⟨p, G, vs, y, ys, rfl, e, h1, h2, fun a ha b hb => List.all_eq_true.mp (List.all_eq_true.mp z a ha) b hb, fun v hv => k v G H (Ext.refl e) hv⟩
section
variable {X : Cx} {ca : CA} {W : WX} {e a b : Expr} {f g h : Rho → R D} {pos p p2 : Pos} {k : Nat}
theorem fe_minA (hc : X.calm = true) (hr : Room k X.A) (hg : Gl X "min") (hm : X.mg "min" = none) (ha : FB X ca W f e) (hs : starEach [e] X.env = (false, eval e X.env) :: starEach [] X.env := by rfl) : FE X ca W (fn1 minAD f) (.Call (.Name "min" p) [e] [] pos) := fe_b1 (cr_minA hc (by have := hr.un; omega)) rfn_minA hg hm boot_min ha (hs := hs)
end
/-! ## sum -/
def rSumA (K : PySem.W.Frag) : List V → Hp → VK → Prop := fun vs H Q => ∃ (a : Addr) (ns : List Int), vs = [V.ref a] ∧ SqA K H a (ns.map V.int) ∧ Q (.int ns.sum) H
theorem cr_sumA {X : Cx} (hc : X.calm = true) : CallR X (.builtin "sum") (rSumA X.K) := by
  intro pins s σ H vs us Q I r h
  obtain ⟨a, ns, rfl, hs, q⟩ := h
  rcases hs with hs | hs
  · exact cr_sum hc pins s σ H _ us Q I r ⟨a, ns, rfl, hs, q⟩
  · obtain ⟨its, rv, hl, _⟩ := I.tuple hs
    rw [Vals.ref1 r]
    have hi := rv.ints
    obtain ⟨xs, hx⟩ := hi.allInts.items
    have hx' : its.toArray = intItems xs := hx
    have hl' : s.heap.IsTuple a (intItems xs) := by rw [← hx']; exact hl
    refine PySem.W.ktm_sumG (I.ok.hd hc) hl' fun h' tk t' hk => ⟨.int _, H, I.kept hk, ⟨t', ?_⟩, q⟩
    have e1 : numsOf its = ns := hi.numsOf
    have e2 := congrArg (fun z : Array Value => numsOf z.toList) hx'
    simp only at e2
    rw [show numsOf its = ns from e1, nums_intItems] at e2
    rw [preSum_eq, List.take_of_length_le (by simp), ← e2]
def sumAD : D → Option D
  | .list ds => (ints? ds).map fun ns => .int ns.sum
  | .tuple ds => (ints? ds).map fun ns => .int ns.sum
  | _ => none
theorem rfn_sumA {K : PySem.W.Frag} : RFn1 K (rSumA K) sumAD := by
  intro G H x a d Q e dx hg k
  cases a <;> try (cases hg; done)
  case list ds =>
    have hg' : (ints? ds).map (fun ns => PyData.int ns.sum) = some d := hg
    cases q : ints? ds with
    | none => rw [q] at hg'; cases hg'
    | some ns =>
      rw [q] at hg'; cases hg'
      obtain ⟨p, vs, rfl, h1, h2⟩ := Dp.lst_of dx
      rw [ints_dp h2 q] at h1
      exact ⟨p, ns, rfl, Or.inl h1, k _ G H (Ext.refl e) (.int _)⟩
  case tuple ds =>
    have hg' : (ints? ds).map (fun ns => PyData.int ns.sum) = some d := hg
    cases q : ints? ds with
    | none => rw [q] at hg'; cases hg'
    | some ns =>
      rw [q] at hg'; cases hg'
      obtain ⟨p, vs, rfl, h1, h2, _⟩ := Dp.tup_of e dx
      rw [ints_dp h2 q] at h1
      exact ⟨p, ns, rfl, Or.inr h1, k _ G H (Ext.refl e) (.int _)⟩
section
variable {X : Cx} {ca : CA} {W : WX} {e a b : Expr} {f g h : Rho → R D} {pos p p2 : Pos} {k : Nat}
theorem fe_sumA (hc : X.calm = true) (hg : Gl X "sum") (hm : X.mg "sum" = none) (ha : FB X ca W f e) (hs : starEach [e] X.env = (false, eval e X.env) :: starEach [] X.env := by rfl) : FE X ca W (fn1 sumAD f) (.Call (.Name "sum" p) [e] [] pos) := fe_b1 (cr_sumA hc) rfn_sumA hg hm boot_sum ha (hs := hs)
end
end FE

namespace FE
open PySem L2 PyProof.Rows PySem.Spec
/-! ## set(x), x a list or a tuple of ints -/
section
variable {P : Program} {w : World} {A : Around} {E : Value → Shared → Prop} {s : Shared}
/-- what is in the set when the first i ints were met -/
def Met (val : Nat → Int) (i : Nat) (T : Int → Bool) (m : Nat) : Prop := (∀ x, T x = true ↔ ∃ j, j < i ∧ val j = x) ∧ m ≤ i
theorem Met.zero (val : Nat → Int) : Met val 0 (fun _ => false) 0 := ⟨fun x => ⟨fun h => absurd h Bool.false_ne_true, fun ⟨j, h, _⟩ => absurd h (Nat.not_lt_zero _)⟩, Nat.le_refl _⟩
theorem Met.more {val : Nat → Int} {i m : Nat} {T : Int → Bool} (h : Met val i T m) : Met val (i + 1) (fun j => T j || decide (j = val i)) (if T (val i) = true then m else m + 1) := by
  refine ⟨fun x => ?_, by have := h.2; split <;> omega⟩
  rw [Bool.or_eq_true, decide_eq_true_eq, h.1 x]
  constructor
  · rintro (⟨j, h1, h2⟩ | e)
    · exact ⟨j, by omega, h2⟩
    · exact ⟨i, by omega, e.symm⟩
  · rintro ⟨j, h1, h2⟩
    by_cases z : j = i
    · subst z; exact Or.inr h2.symm
    · exact Or.inl ⟨j, by omega, h2⟩
theorem set_loopI {I : Addr} {fp wr : List Addr} {G : Array GenState → Array GenState → Prop} {n : Nat} {Pv : Nat → Value → Prop} {St : Nat → Shared → Prop} {R : Result → Shared → Prop}
    (W : WalksS P w A.in1 I fp wr G n Pv St) (S : Addr) (hSf : S ∉ fp) (val : Nat → Int) (hval : ∀ i v, Pv i v → ∃ t, v = .int (val i) t) (hb : n + 1 < scanBound) :
    ∀ (k i : Nat) (s : Shared), n - i = k → i ≤ n → St i s → (∃ T m, SetR w s.heap S T m ∧ Met val i T m) →
      (∀ s' T m, Moved (S :: wr) G s s' → SetR w s'.heap S T m → Met val n T m → R (.ok (.ret .none)) s') → codeAny (model P w) A (.builtin "set.update.loop" ⟨[.ref S, .ref I], []⟩) R s := by
  have hSw : S ∉ wr := fun h => hSf (W.sub _ h)
  have hsub : ∀ b ∈ wr, b ∈ S :: wr := fun b hb => List.mem_cons_of_mem _ hb
  intro k
  induction k with
  | zero =>
    intro i s hk hi hst ⟨T, m, hS, hM⟩ hR
    have hin : i = n := by omega
    subst hin
    refine codeAny_builtin F.entry_set_update_loop ?_
    rw [Around.under_plainId F.plain_set_update_loop _]
    show wpAny _ A.in1 (pyNext (.ref I) >>= _) _ _ s
    refine wpAny_bind (W.done s _ _ hst fun s' hm => ?_)
    show wpAny _ A.in1 (ret Value.none) _ _ s'
    exact wpAny_pure (hR s' T m (hm.mono hsub) (hS.at fun o e => hm.heap S o hSw e) hM)
  | succ k ih =>
    intro i s hk hi hst ⟨T, m, hS, hM⟩ hR
    have hlt : i < n := by omega
    refine codeAny_builtin F.entry_set_update_loop ?_
    rw [Around.under_plainId F.plain_set_update_loop _]
    show wpAny _ A.in1 (pyNext (.ref I) >>= _) _ _ s
    refine wpAny_bind (W.item i s _ _ hlt hst fun v s' hP hst' hm => ?_)
    obtain ⟨t, rfl⟩ := hval i v hP
    have hS' : SetR w s'.heap S T m := hS.at fun o e => hm.heap S o hSw e
    show wpAny _ A.in1 (holding [Value.int (val i) t] (setAdd S (.int (val i) t)) >>= _) _ _ s'
    refine wpAny_bind (wpAny_holding ?_)
    unfold setAdd
    refine wpAny_holding ?_
    refine wpAny_bind ((intKind P w).pyHash (k := val i) (intKind_is _ _ _ _) ?_)
    refine setR_add_hashed (s := { s' with toks := s'.toks + 1 }) hS' (by have := hM.2; omega) fun h' hsb hS2 => ?_
    refine wpAny_pure ⟨plainId_quiet F.plain_set_update_loop _, ih (i + 1) _ (by omega) hlt (W.frame _ s' _ _ hst' (Nat.le_succ _) fun b hb o e => ?_) ⟨_, _, hS2, hM.more⟩ fun s'' T2 m2 hm'' hS'' hM'' => ?_⟩
    · rw [hsb.2 b (fun h : b = S => hSf (by rw [← h]; exact hb))]; exact e
    · refine hR s'' T2 m2 (Moved.trans W.gtrans ((hm.mono hsub).then_heap (Nat.le_succ _) fun b o hb e => ?_) hm'') hS'' hM''
      rw [hsb.2 b (fun h : b = S => hb (by rw [h]; exact List.mem_cons_self))]; exact e
set_option maxHeartbeats 3200000 in
theorem call_set_ints {l : Addr} {its : List Value} {ns : List Int} {Q : Value → Shared → Prop} (hh : A.handled = none) (hl : s.heap.IsList l its.toArray ∨ s.heap.IsTuple l its.toArray) (hi : IntsAre its ns) (hb : ns.length + 1 < scanBound)
    (h : ∀ (h' : Heap) (tk : Nat) T m, SetR w h' s.heap.objs.size T m → (∀ x, T x = true ↔ x ∈ ns) → m ≤ ns.length → (∀ b o, s.heap.get? b = some o → h'.get? b = some o) → Q (.ref s.heap.objs.size) { s with heap := h', toks := tk }) :
    wpAny (model P w) A (call (.type "set") [.ref l]) Q E s := by
  have hlen : its.toArray.size = ns.length := by rw [List.size_toArray, ← hi.length]
  obtain ⟨c, tl, hmro⟩ := F.called_set.mro
  have hmade := F.called_set.made
  have hsub := F.called_set.sub
  refine wpAny_call (codeAny_of_tree ?_)
  show wpAny _ _ (callAny (.type "set") _) _ _ _
  refine wpAny_pure ⟨Code.quiet_builtin _ (by decide +kernel), codeAny_builtin F.entry_type_call ?_⟩
  rw [Around.under_plain (weight_type_call_type "set" [.ref l] []) rfl]
  have h1 := F.called_set.notType
  have h2 := F.called_set.canCreate
  have hct := F.typeCall_set_1 (.ref l)
  repeat (any_goals (first | assumption | wp_step))
  refine codeAny_mono (code_set_led1 (.ref l) (E := E) (Q₁ := fun obj s₁ => obj = .ref s.heap.objs.size ∧ s₁ = { s with heap := s.heap.push { cls := .type "set", dict := none, data := .set #[] 0 (.fresh 0 0 (!w.params.followText "set-order")) } }) ⟨rfl, rfl⟩) fun r s₁ hr => ?_
  cases r with
  | error e => exact hr
  | ok fl =>
    cases fl with
    | ret obj =>
      obtain ⟨rfl, rfl⟩ := hr
      have hT : Shared.TypeIs { s with heap := s.heap.push { cls := .type "set", dict := none, data := .set #[] 0 (.fresh 0 0 (!w.params.followText "set-order")) } } (.ref s.heap.objs.size) "set" := ⟨_, Heap.get?_push_size _ rfl, rfl⟩
      have hli := F.called_set.init.lookup
      have hbi := F.called_set.init.bind (.ref s.heap.objs.size)
      repeat (any_goals (first | assumption | wp_step))
      refine codeAny_mono (codeAny_call_builtin (R := wants (fun r s₂ => r = .none ∧ ∃ h' tk T m, s₂ = { s with heap := h', toks := tk } ∧ SetR w h' s.heap.objs.size T m ∧ (∀ x, T x = true ↔ x ∈ ns) ∧ m ≤ ns.length ∧
          (∀ b o, s.heap.get? b = some o → h'.get? b = some o)) E) F.called_set.init.plain F.entry_set_init (check_set_init_1 hT ?_)) fun r₂ s₂ hr₂ => ?_
      · have hval : ∀ (i : Nat) (v : Value), its.toArray[i]? = some v → ∃ t, v = .int ((fun i => ns.getD i 0) i) t := fun i v hv => IntsAre.int_at hi i v (by simpa using hv)
        have hh3 : A.in1.in1.in1.handled = none := by simp [hh]
        have fresh : SetR w (s.heap.push { cls := .type "set", dict := none, data := .set #[] 0 (.fresh 0 0 (!w.params.followText "set-order")) }) s.heap.objs.size (fun _ => false) 0 := setR_fresh w
        have met : ∀ {T : Int → Bool} {m : Nat}, Met (fun i => ns.getD i 0) its.toArray.size T m → (∀ x, T x = true ↔ x ∈ ns) ∧ m ≤ ns.length := fun {T m} hM => ⟨fun x => (hM.1 x).trans ⟨fun ⟨j, hj, e⟩ => by
            have hj' : j < ns.length := by omega
            have e' : ns.getD j 0 = x := e
            rw [List.getD_eq_getElem?_getD, List.getElem?_eq_getElem hj'] at e'
            rw [← e']; exact List.getElem_mem hj', fun hx => by
            obtain ⟨j, hj, e⟩ := List.getElem_of_mem hx
            exact ⟨j, by omega, by show ns.getD j 0 = x; rw [List.getD_eq_getElem?_getD, List.getElem?_eq_getElem hj, ← e] <;> rfl⟩⟩, by have := hM.2; omega⟩
        have fin : ∀ (s' : Shared) (T : Int → Bool) (m : Nat) (J : Obj), Moved (s.heap.objs.size :: [(s.heap.push { cls := .type "set", dict := none, data := .set #[] 0 (.fresh 0 0 (!w.params.followText "set-order")) }).objs.size]) (fun a b => b = a)
            { s with heap := (s.heap.push { cls := .type "set", dict := none, data := .set #[] 0 (.fresh 0 0 (!w.params.followText "set-order")) }).push J } s' → SetR w s'.heap s.heap.objs.size T m → Met (fun i => ns.getD i 0) its.toArray.size T m →
            ∃ h' tk T m, s' = { s with heap := h', toks := tk } ∧ SetR w h' s.heap.objs.size T m ∧ (∀ x, T x = true ↔ x ∈ ns) ∧ m ≤ ns.length ∧ (∀ b o, s.heap.get? b = some o → h'.get? b = some o) := fun s' T m J hm hS hM => by
          obtain ⟨h', g2, d', tk', os'⟩ := s'
          have eg : g2 = s.gens := hm.gens
          have ed : d' = s.drawn := hm.drawn
          have eo : os' = s.os := hm.os
          subst eg; subst ed; subst eo
          refine ⟨h', tk', T, m, rfl, hS, (met hM).1, (met hM).2, fun b o e => ?_⟩
          have hbs := Heap.lt_size e
          exact hm.heap b o (by
            intro hbm
            rcases List.mem_cons.mp hbm with z | hbm
            · rw [z] at hbs; exact Nat.lt_irrefl _ hbs
            · rw [List.mem_singleton.mp hbm, Heap.size_push] at hbs; exact absurd (Nat.lt_of_succ_lt hbs) (Nat.lt_irrefl _)) (Heap.get?_push_of_some _ (Heap.get?_push_of_some _ e))
        rcases hl with hl | hl
        · obtain ⟨ol, hol, hcl, nl, hdl⟩ := hl
          obtain ⟨ocls, odict, odata, oslots⟩ := ol
          simp only at hcl hdl
          subst hcl; subst hdl
          have hol' : (s.heap.push { cls := .type "set", dict := none, data := .set #[] 0 (.fresh 0 0 (!w.params.followText "set-order")) }).get? l = some { cls := .type "list", dict := odict, data := .seq its.toArray nl, slots := oslots } := Heap.get?_push_of_some _ hol
          have hsls := F.sub_list_set
          have hslf := F.sub_list_frozenset
          have hne : (Value.type "list" == Value.type "dict") = false := by decide
          have hl1 : (s.heap.push { cls := .type "set", dict := none, data := .set #[] 0 (.fresh 0 0 (!w.params.followText "set-order")) }).IsList l its.toArray := ⟨_, hol', rfl, nl, rfl⟩
          unfold Builtin.«set.__init__» noKeywords Builtin.Frozenset.updateFrom
          generalize hPI : pyIter = PI
          wp_walk
          subst hPI
          refine wpAny_pyIter_list hl1 ?_
          refine wpAny_bind (wpAny_runValue ?_)
          have hlS : l < s.heap.objs.size := Heap.lt_size hol
          have hneI : l ≠ (s.heap.push { cls := .type "set", dict := none, data := .set #[] 0 (.fresh 0 0 (!w.params.followText "set-order")) }).objs.size := by
            rw [Heap.size_push]; exact Nat.ne_of_lt (Nat.lt_succ_of_lt hlS)
          have hSf : s.heap.objs.size ∉ [(s.heap.push { cls := .type "set", dict := none, data := .set #[] 0 (.fresh 0 0 (!w.params.followText "set-order")) }).objs.size, l] := by
            rw [Heap.size_push]; simp only [List.mem_cons, List.not_mem_nil, or_false, not_or]
            exact ⟨Nat.ne_of_lt (Nat.lt_succ_self _), Nat.ne_of_gt hlS⟩
          refine set_loopI ((Walks.list hh3 _ l hneI its.toArray).toS) s.heap.objs.size hSf (fun i => ns.getD i 0) hval (by rw [hlen]; exact hb) (its.toArray.size - 0) 0 _ (by omega) (Nat.zero_le _)
            ⟨⟨_, Heap.get?_push_size _ rfl, rfl, rfl⟩, (hl1.push _)⟩ ⟨_, 0, fresh.at fun o e => Heap.get?_push_of_some _ e, Met.zero _⟩ fun s' T m hm hS hM => ?_
          obtain ⟨h', tk', T', m', e, r⟩ := fin s' T m _ hm hS hM
          subst e
          show wpAny _ _ _ _ _ _
          refine wpAny_pure ?_
          show wpAny _ _ (ret Value.none) _ _ _
          exact wpAny_pure ⟨rfl, h', tk', T', m', rfl, r⟩
        · obtain ⟨ol, hol, hcl, nl, hdl⟩ := hl
          obtain ⟨ocls, odict, odata, oslots⟩ := ol
          simp only at hcl hdl
          subst hcl; subst hdl
          have hol' : (s.heap.push { cls := .type "set", dict := none, data := .set #[] 0 (.fresh 0 0 (!w.params.followText "set-order")) }).get? l = some { cls := .type "tuple", dict := odict, data := .seq its.toArray nl, slots := oslots } := Heap.get?_push_of_some _ hol
          have hsls := F.sub_tuple_set
          have hslf := F.sub_tuple_frozenset
          have hne : (Value.type "tuple" == Value.type "dict") = false := by decide
          have hl1 : (s.heap.push { cls := .type "set", dict := none, data := .set #[] 0 (.fresh 0 0 (!w.params.followText "set-order")) }).IsTuple l its.toArray := ⟨_, hol', rfl, nl, rfl⟩
          unfold Builtin.«set.__init__» noKeywords Builtin.Frozenset.updateFrom
          generalize hPI : pyIter = PI
          wp_walk
          subst hPI
          refine wpAny_pyIter_tuple hl1 ?_
          refine wpAny_bind (wpAny_runValue ?_)
          have hlS : l < s.heap.objs.size := Heap.lt_size hol
          have hneI : l ≠ (s.heap.push { cls := .type "set", dict := none, data := .set #[] 0 (.fresh 0 0 (!w.params.followText "set-order")) }).objs.size := by
            rw [Heap.size_push]; exact Nat.ne_of_lt (Nat.lt_succ_of_lt hlS)
          have hSf : s.heap.objs.size ∉ [(s.heap.push { cls := .type "set", dict := none, data := .set #[] 0 (.fresh 0 0 (!w.params.followText "set-order")) }).objs.size, l] := by
            rw [Heap.size_push]; simp only [List.mem_cons, List.not_mem_nil, or_false, not_or]
            exact ⟨Nat.ne_of_lt (Nat.lt_succ_self _), Nat.ne_of_gt hlS⟩
          refine set_loopI ((Walks.tuple hh3 _ l hneI its.toArray).toS) s.heap.objs.size hSf (fun i => ns.getD i 0) hval (by rw [hlen]; exact hb) (its.toArray.size - 0) 0 _ (by omega) (Nat.zero_le _)
            ⟨⟨_, Heap.get?_push_size _ rfl, rfl, rfl⟩, (hl1.push _)⟩ ⟨_, 0, fresh.at fun o e => Heap.get?_push_of_some _ e, Met.zero _⟩ fun s' T m hm hS hM => ?_
          obtain ⟨h', tk', T', m', e, r⟩ := fin s' T m _ hm hS hM
          subst e
          show wpAny _ _ _ _ _ _
          refine wpAny_pure ?_
          show wpAny _ _ (ret Value.none) _ _ _
          exact wpAny_pure ⟨rfl, h', tk', T', m', rfl, r⟩
      · cases r₂ with
        | error e => exact hr₂
        | ok fl₂ =>
          cases fl₂ with
          | ret r =>
            obtain ⟨rfl, h', tk, T, m, rfl, hS', hm', hz', hk'⟩ := hr₂
            repeat (any_goals (first | assumption | wp_step))
            exact h _ _ _ _ hS' hm' hz' hk'
          | _ => exact hr₂.elim
    | _ => exact hr.elim
end
end FE

namespace FE
open PySem L2 PyProof.Rows PySem.Spec
/-! ## the rules for sets of ints -/
/-- each once -/
def dd : List Int → List Int
  | [] => []
  | x :: xs => if x ∈ xs then dd xs else x :: dd xs
theorem mem_dd {y : Int} : ∀ {xs : List Int}, y ∈ dd xs ↔ y ∈ xs
  | [] => Iff.rfl
  | x :: xs => by
    unfold dd
    split
    · rename_i h
      rw [mem_dd, List.mem_cons]
      exact ⟨Or.inr, fun z => z.elim (fun e => by rw [e]; exact h) id⟩
    · rw [List.mem_cons, List.mem_cons, mem_dd]
theorem dd_nodup : ∀ (xs : List Int), (dd xs).Nodup
  | [] => List.nodup_nil
  | x :: xs => by
    unfold dd
    split
    · exact dd_nodup xs
    · rename_i h
      exact List.nodup_cons.mpr ⟨fun z => h (mem_dd.mp z), dd_nodup xs⟩
def IsSetOf (T : Int → Bool) (m : Nat) (ns : List Int) : Prop := (∀ x, T x = true ↔ x ∈ ns) ∧ (dd ns).length = m
theorem setR_count {w : World} {h : Heap} {a : Addr} {T : Int → Bool} {m : Nat} {ns : List Int} (R : SetR w h a T m) (hm : ∀ x, T x = true ↔ x ∈ ns) : (dd ns).length = m := by
  obtain ⟨o, es, ep, t, ho, hex, hd, g, nd, hk, hb, hf, hn, _⟩ := R
  have p : (dd ns).Perm (es.toList.map keyOf) := (List.perm_ext_iff_of_nodup (dd_nodup ns) nd).mpr fun x => by rw [mem_dd, ← hm x, hk x]
  rw [p.length_eq, List.length_map, Array.length_toList, hn]
def rSetA (K : PySem.W.Frag) (w : World) : List V → Hp → VK → Prop := fun vs H Q => ∃ (a : Addr) (ns : List Int), vs = [V.ref a] ∧ SqA K H a (ns.map V.int) ∧ ns.length ≤ 4000 ∧ ∀ p T m, H p = none → IsSetOf T m ns → Q (.ref p) (upd H p (SetO w p T m))
theorem cr_setA {X : Cx} (hc : X.calm = true) : CallR X (.type "set") (rSetA X.K X.w) := by
  intro pins s σ H vs us Q I r h
  obtain ⟨a, ns, rfl, hs, hz, q⟩ := h
  obtain ⟨its, rv, hl, _⟩ := Inv.seq I hs
  rw [Vals.ref1 r]
  refine call_set_ints (I.ok.hd hc) hl rv.ints (by unfold scanBound; omega) fun h' tk T m R hm hle hk => ?_
  exact ⟨.ref _, upd H s.heap.objs.size (SetO X.w s.heap.objs.size T m), I.laid (t' := tk) hk (Nat.le_refl _) (setO_new R), rfl, q _ T m (I.hok.fresh (Nat.le_refl _)) ⟨hm, setR_count R hm⟩⟩
def rLenSet (w : World) : List V → Hp → VK → Prop := fun vs H Q => ∃ (a : Addr) (T : Int → Bool) (m : Nat), vs = [V.ref a] ∧ H a = some (SetO w a T m) ∧ Q (.int m) H
theorem cr_lenSet {X : Cx} : CallR X (.builtin "len") (rLenSet X.w) := by
  intro pins s σ H vs us Q I r h
  obtain ⟨a, T, m, rfl, ha, q⟩ := h
  rw [Vals.ref1 r]
  obtain ⟨o, es, ep, t, ho, hex, hd, _, _, _, hb, hf, hn, _⟩ := setO_get I ha
  refine call_len_set ho hex hd hf (by unfold scanBound at hb; omega) ⟨.int m, H, I.tok _, ⟨_, by rw [hn]⟩, q⟩
def seqInts : D → Option (List Int)
  | .list ds => ints? ds
  | .tuple ds => ints? ds
  | _ => none
theorem seqInts_dp {K : PySem.W.Frag} {G H : Hp} {x : V} {d : D} {ns : List Int} (e : Ex G H) (h : DpB K G H x d) (hn : seqInts d = some ns) : ∃ p, x = .ref p ∧ SqA K H p (ns.map V.int) := by
  cases d <;> try (cases hn; done)
  case list ds =>
    obtain ⟨p, vs, rfl, h1, h2⟩ := Dp.lst_of h
    rw [ints_dp h2 hn] at h1
    exact ⟨p, rfl, Or.inl h1⟩
  case tuple ds =>
    obtain ⟨p, vs, rfl, h1, h2, _⟩ := Dp.tup_of e h
    rw [ints_dp h2 hn] at h1
    exact ⟨p, rfl, Or.inr h1⟩
def lensetD : D → Option D := fun d => match seqInts d with
  | some ns => if ns.length ≤ 4000 then some (.int (dd ns).length) else none
  | none => none
def sortsetD : D → Option D := fun d => match seqInts d with
  | some ns => if ns.length ≤ 60 then some (.list (isort ((dd ns).map .int))) else none
  | none => none
theorem dd_len : ∀ (ns : List Int), (dd ns).length ≤ ns.length
  | [] => Nat.le_refl _
  | x :: xs => by
    unfold dd
    split
    · exact Nat.le_succ_of_le (dd_len xs)
    · exact Nat.succ_le_succ (dd_len xs)
section
variable {X : Cx} {ca : CA} {W : WX} {e a b : Expr} {f g h : Rho → R D} {pos p p2 q2 : Pos} {k : Nat}
theorem boot_set : bootBuiltins "set" = some (.type "set") := PyProof.Rows.boot_set
theorem tSet_sem {r2 : List V → Hp → VK → Prop} {g1 : D → Option D} (hr : ∀ (G H : Hp) (x : V) (d d' : D) (Q : VK), Ex G H → DpB X.K G H x d → g1 d = some d' → (∀ v G' H', Ext G H G' H' → Dp X.K G' v d' → Q v H') → rSetA X.K X.w [x] H fun y H1 => r2 [y] H1 Q) {σ : L2.St} {H : Hp} {Q : VK} (q : tSem X.K ca W (fn1 g1 f) σ H Q) :
    tCB r2 (tCons (tCB (rSetA X.K X.w) (tCons (tSemB X.K ca W f) tNil)) tNil) σ H Q := by
  obtain ⟨G, ρ, env, q⟩ := q
  refine ⟨G, ρ, env, q.bind.imp fun d q v G1 H1 e1 dv => ?_⟩
  cases hg : g1 d with
  | none => rw [hg] at q; exact q.elim
  | some c => rw [hg] at q; exact hr G1 H1 v d c Q e1.gh dv hg fun v G' H' e dv => q v G' H' (e1.trans e) dv
theorem fe_lenset (hc : X.calm = true) (hg : Gl X "len") (hm : X.mg "len" = none) (hg2 : Gl X "set") (hm2 : X.mg "set" = none) (ha : FB X ca W f a) (hs : starEach [a] X.env = (false, eval a X.env) :: starEach [] X.env := by rfl)
    (hs2 : starEach [.Call (.Name "set" p2) [a] [] q2] X.env = (false, eval (.Call (.Name "set" p2) [a] [] q2) X.env) :: starEach [] X.env := by rfl) : FE X ca W (fn1 lensetD f) (.Call (.Name "len" p) [.Call (.Name "set" p2) [a] [] q2] [] pos) :=
  PEimp (pe_callB cr_lenSet hg hm PySem.boot_len (pa_cons (pe_callTy (cr_setA hc) hg2 hm2 boot_set (pa_cons (te := tSemB X.K ca W f) ha pa_nil hs) (he := hs)) pa_nil hs2) (he := hs2)) fun σ H Q q => tSet_sem (fun G H x d d' Q e dx hg k => by
    unfold lensetD at hg
    cases hn : seqInts d with
    | none => rw [hn] at hg; cases hg
    | some ns =>
      rw [hn] at hg
      obtain ⟨z, rfl⟩ := ite_some hg
      obtain ⟨p, rfl, h1⟩ := seqInts_dp e dx hn
      refine ⟨p, ns, rfl, h1, z, fun r T m hr hS => ⟨r, T, m, rfl, upd_same, ?_⟩⟩
      rw [← hS.2]
      exact k _ G _ (Ext.own e hr) (.int _)) q
theorem fe_sortset (hc : X.calm = true) (hg : Gl X "sorted") (hm : X.mg "sorted" = none) (hg2 : Gl X "set") (hm2 : X.mg "set" = none) (ha : FB X ca W f a) (hs : starEach [a] X.env = (false, eval a X.env) :: starEach [] X.env := by rfl)
    (hs2 : starEach [.Call (.Name "set" p2) [a] [] q2] X.env = (false, eval (.Call (.Name "set" p2) [a] [] q2) X.env) :: starEach [] X.env := by rfl) : FE X ca W (fn1 sortsetD f) (.Call (.Name "sorted" p) [.Call (.Name "set" p2) [a] [] q2] [] pos) :=
  PEimp (pe_callB (cr_sortedSet hc) hg hm boot_sorted (pa_cons (pe_callTy (cr_setA hc) hg2 hm2 boot_set (pa_cons (te := tSemB X.K ca W f) ha pa_nil hs) (he := hs)) pa_nil hs2) (he := hs2)) fun σ H Q q => tSet_sem (fun G H x d d' Q e dx hg k => by
    unfold sortsetD at hg
    cases hn : seqInts d with
    | none => rw [hn] at hg; cases hg
    | some ns =>
      rw [hn] at hg
      obtain ⟨z, rfl⟩ := ite_some hg
      obtain ⟨p, rfl, h1⟩ := seqInts_dp e dx hn
      refine ⟨p, ns, rfl, h1, by omega, fun r T m hr hS => ⟨r, T, m, rfl, upd_same, by have := dd_len ns; have := hS.2; omega, fun ms p2 hlt hmem hlen hp2 => ?_⟩⟩
      have hperm : ms.Perm (dd ns) := (List.perm_ext_iff_of_nodup (hlt.imp fun z => Int.ne_of_lt z) (dd_nodup ns)).mpr fun x => by rw [mem_dd, ← hS.1 x, hmem x]
      have e3 := isort_ints hperm (hlt.imp fun z => Int.le_of_lt z)
      have e1 : Ext G H G (upd H r (SetO X.w r T m)) := Ext.own e hr
      have := Dp.newl e1.gh hp2 (ints_dpAll (K := X.K) (G := G) ms)
      rw [e3] at this
      exact k _ _ _ (e1.trans this.1) this.2) q
end
/-! ## try: .. except C as e: .. -/
/-- class number c holds an exception of number k -/
def mOf (c k : Nat) : Bool := c == 8 || c == k
structure ClsTxt (K : PySem.W.Frag) (mg : Str → Option Value) (ca : CA) (x : Str) (c : Nat) : Prop where
  gP : mg x = some (.ref (ca c))
  mP : ∀ k, k < 9 → PySem.W.exmOne K (.ref (ca k)) (.ref (ca c)) = some (mOf c k)
  iP : ∀ k, k < 9 → PySem.W.kitOne K (.ref (ca k)) (.ref (ca c)) = some (mOf c k)
def mk (n i : Nat) (a : Addr) : Rho := (List.replicate n none).set i (some (.raw (.ref a)))
/-- h says what the clause does with an exception of number k that stands at a -/
def tryF (n i c : Nat) (g : Rho → Out) (h : Nat → Addr → Rho → Out) : Rho → Out := fun ρ => match g ρ with
  | .nx ρ' => .nx ρ'
  | .ret d => .ret d
  | .exc ⟨k, none⟩ => if k < 9 then (if mOf c k = true then (match h k 0 (mk n i 0) with
      | .ret d => .ret d
      | _ => .bad) else .exc ⟨k, none⟩) else .bad
  | .exc ⟨k, some x⟩ => .bad
  | .bad => .bad
section
variable {X : Cx} {ca : CA} {W : WX} {e a b : Expr} {f : Rho → R D} {pos pos' p p1 p2 np : Pos}
theorem mk_env {G H : Hp} {σ0 : L2.St} {n i : Nat} {a : Addr} {K : PySem.W.Frag} (e : Ex G H) (hl : (σ0.set i (some (.ref a))).length = n) (hi : i < n) : EnvOk K G H (σ0.set i (some (.ref a))) (mk n i a) := by
  have hl' : σ0.length = n := by simpa using hl
  refine ⟨e, by rw [hl]; simp [mk], fun j o hj => ?_, fun j l u w q _ hj _ hu _ _ => ?_⟩
  · unfold mk at hj
    by_cases z : i = j
    · subst z
      rw [List.getElem?_set_self (by simpa using hi)] at hj
      cases hj
      exact ⟨some (.ref a), List.getElem?_set_self (by omega), rfl⟩
    · rw [List.getElem?_set_ne z, List.getElem?_replicate] at hj
      split at hj
      · rename_i hjn
        cases hj
        have hjs : j < (σ0.set i (some (.ref a))).length := by rw [hl]; exact hjn
        exact ⟨_, List.getElem?_eq_getElem hjs, trivial⟩
      · cases hj
  · exfalso
    unfold mk at hj
    by_cases z : i = j
    · subst z
      rw [List.getElem?_set_self (by simpa using hi)] at hj
      cases hj; cases hu
    · rw [List.getElem?_set_ne z, List.getElem?_replicate] at hj
      split at hj
      · cases hj; cases hu
      · cases hj
def tClause (K : PySem.W.Frag) (ca : CA) (n i c : Nat) (h : Nat → Addr → Rho → Out) (a : Addr) (cls : Value) (d : Option Addr) : TS := fun Dn σ H =>
  ∃ (k : Nat) (G0 H0 G : Hp) (σ0 : L2.St), cls = .ref (ca k) ∧ d = none ∧ k < 9 ∧ mOf c k = true ∧ σ = σ0.set i (some (.ref a)) ∧ Ext G0 H0 G H ∧ SRes K ca W0 Dn G0 H0 (h k a (mk n i a))
theorem fs_try {n i c : Nat} {x nm : Str} {g : Rho → Out} {h : Nat → Addr → Rho → Out} {body suite : List Stmt} {b₀ : Stmt} (hs : X.stack = X.env :: X.outer) (hf : X.env.frame = some X.env.locals) (hN : X.N.Nodup) (hlen : X.N.length = n) (hi : X.N[i]? = some nm) (hln : X.env.kindOf nm = some .local)
    (T : ClsTxt X.K X.mg ca x c) (hg : Gl X x) (tk : Takes X W) (hb : ∀ (W' : WX) (pn : List (Addr × Obj)) (xe : Value → Shared → Prop), Takes (X.tr pn xe) W' → FSs (X.tr pn xe) ca W' g body)
    (hsu : ∀ (k : Nat) (a : Addr) (oe : Obj) (pn : List (Addr × Obj)), k < 9 → Zc (.ref (ca k)) none oe → (∃ vs, oe.data = .fields vs) → FSs (X.suite a ((a, oe) :: pn)) ca W0 (h k a) (b₀ :: suite))
    (hc : ∀ k a, h k a (mk n i a) = h k 0 (mk n i 0)) (hdb : (x == ("__debug__" : Str)) = false := by decide) :
    FS X ca W (tryF n i c g h) (.Try body [.ExceptHandler (some (.Name x np)) (some nm) (b₀ :: suite) pos'] [] [] pos) := by
  have hin : i < n := by rw [← hlen]; exact (List.getElem?_eq_some_iff.mp hi).1
  refine PSimp (ps_try_as (tb := fun W' => tSt X.K ca W' g) (ts := tClause X.K ca n i c h) (Wout := W) hs hf hN hi hln ⟨hg, hdb, Or.inl T.gP⟩ tk (fun W' pn xe t _ => hb W' pn xe t) fun a oe cls d pn hz hv => ⟨fun pins s σ H Dn I q => ?_⟩) fun Dn σ H ⟨G0, H0, G, ρ, s, q⟩ => ⟨G0, H0, G, ρ, s, ?_⟩
  · obtain ⟨k, G0, H0, G, σ0, e1, e2, hk, hm, e3, e4, q⟩ := q
    subst e1 e2 e3
    refine (hsu k a oe pn hk hz hv).run pins s _ H Dn I ⟨G0, H0, G, mk n i a, ⟨mk_env e4.gh (by rw [← hlen]; exact I.len) hin, e4, fun j o r hj ho _ => ?_⟩, q⟩
    exfalso
    unfold mk at hj
    by_cases z : i = j
    · subst z
      rw [List.getElem?_set_self (by simpa using hin)] at hj
      cases hj; cases ho
    · rw [List.getElem?_set_ne z, List.getElem?_replicate] at hj
      split at hj
      · cases hj; cases ho
      · cases hj
  · unfold tryF at q
    cases hg2 : g ρ with
    | nx ρ' => rw [hg2] at q; exact q
    | ret d => rw [hg2] at q; exact q
    | bad => rw [hg2] at q; exact q
    | exc e =>
      obtain ⟨k, l⟩ := e
      cases l with
      | some y => rw [hg2] at q; exact q.elim
      | none =>
        rw [hg2] at q
        simp only at q
        by_cases hk : k < 9
        · rw [if_pos hk] at q
          intro cc dd' σ' G' H' e1 hx
          obtain ⟨hx1, hx2⟩ := hx
          have hx2' : dd' = none := hx2
          subst hx1 hx2'
          refine ⟨mOf c k, T.mP k hk, fun hm a ha => ?_, fun hm => ?_⟩
          · rw [if_pos hm] at q
            refine ⟨k, G0, H0, G', σ', rfl, rfl, hk, hm, rfl, e1, ?_⟩
            rw [hc]
            cases ho : h k 0 (mk n i 0) with
            | ret d => rw [ho] at q; exact q
            | nx ρ' => rw [ho] at q; exact q.elim
            | exc e => rw [ho] at q; exact q.elim
            | bad => rw [ho] at q; exact q.elim
          · rw [if_neg (by rw [hm]; decide)] at q
            exact q _ _ σ' G' H' e1 ⟨rfl, rfl⟩
        · rw [if_neg hk] at q; exact q.elim
/-- isinstance(e, C) in a clause -/
def isEF (i : Nat) (a : Addr) (b : Bool) : Rho → R D := fun ρ => match ρ[i]? with
  | some (some (.raw (.ref a'))) => if a' = a then .ok (.bool b) else .bad
  | _ => .bad
theorem fe_isE {i k c : Nat} {a : Addr} {oe : Obj} {pn : List (Addr × Obj)} {nm x : Str} (C : ExcC X.K (ca k)) (T : ClsTxt X.K X.mg ca x c) (hk : k < 9) (hz : Zc (.ref (ca k)) none oe) (hf : ∃ vs, oe.data = .fields vs) (hg : Gl X "isinstance") (hm : X.mg "isinstance" = none) (hg2 : Gl X x) (hv : PE (X.suite a ((a, oe) :: pn)) (.Name nm p1) (tVar i))
    (hdb : (x == ("__debug__" : Str)) = false := by decide)
    (hs : starEach [.Name nm p1, .Name x p2] X.env = (false, eval (.Name nm p1) X.env) :: starEach [.Name x p2] X.env := by rfl) (hpl : (backTo pos (starEach [.Name x p2] X.env)).any (·.1) = false := by rfl) :
    FE (X.suite a ((a, oe) :: pn)) ca W (isEF i a (mOf c k)) (.Call (.Name "isinstance" p) [.Name nm p1, .Name x p2] [] pos) := by
  refine PEimp (pe_callB (X := X.suite a ((a, oe) :: pn)) (call_isE C hz hf) hg hm boot_isi (pa_cons (X := X.suite a ((a, oe) :: pn)) hv (pa_cons (X := X.suite a ((a, oe) :: pn)) (pe_glob (v := .ref (ca c)) hg2 T.gP rfl hdb) pa_nil) hs) (he := hs) (hpl := hpl)) fun σ H Q ⟨G, ρ, env, q⟩ => ?_
  unfold isEF at q
  split at q
  · rename_i a' hr
    split at q
    · rename_i ea
      subst ea
      refine ⟨.ref a', env.raw hr, .ref (ca c), .ref (ca c), mOf c k, rfl, fun u hu => hu, T.iP k hk, ?_⟩
      exact q (.bl (mOf c k)) G H (Ext.refl env.ext) (.bl _)
    · exact q.elim
  · exact q.elim
end
theorem isEF_mk {n i : Nat} {a : Addr} {b : Bool} (h : i < n) : isEF i a b (mk n i a) = .ok (.bool b) := by
  unfold isEF mk
  rw [List.getElem?_set_self (by simpa using h)]
  show (if a = a then R.ok (PyData.bool b) else .bad) = _
  rw [if_pos rfl]
theorem kit_ref {K : PySem.W.Frag} {J C : Addr} {b : Bool} (hd : PySem.W.hasDictIn K C = true) (ht : PySem.W.typeIn K (.ref C) = some (.type "type")) (h4 : PySem.W.subIn K (.ref J) (.ref C) = some b) (hs : PySem.W.subIn K (.ref C) (.ref C) = some true) : PySem.W.kitOne K (.ref J) (.ref C) = some b := by
  obtain ⟨cd, hc, _⟩ := PySem.W.any_some hd
  have e2 : ((PySem.W.clsIn K C).isSome && PySem.W.typeIn K (.ref C) == some (.type "type")) = true := by rw [hc, ht] <;> rfl
  unfold PySem.W.kitOne
  by_cases z : (Value.ref J == Value.ref C) = true
  · rw [if_pos z]
    have z' : J = C := Value.ref.inj (beq_iff_eq.mp z)
    subst z'
    rw [h4] at hs
    exact hs.symm
  · rw [if_neg z]
    show (if ((PySem.W.clsIn K C).isSome && PySem.W.typeIn K (.ref C) == some (.type "type")) = true then PySem.W.subIn K (.ref J) (.ref C) else none) = some b
    rw [if_pos e2]
    exact h4
end FE

namespace FE
open PySem L2 PyProof.Rows PySem.Spec
/-! ## x is None -/
def isNo : D → Bool
  | .none => true
  | _ => false
def isD : D → D → Option D
  | d, .none => some (.bool (isNo d))
  | _, _ => none
theorem rop_isN {K : PySem.W.Frag} : ROp K (fun x y H Q => y = .non ∧ Q (.bl (decide (x = .non))) H) isD := by
  intro G H x y a b d Q e dx dy hg k
  cases b <;> try (cases a <;> cases hg; done)
  have hy : y = .non := by cases dy; rfl
  have hx : decide (x = .non) = isNo a := by
    cases a with
    | none => cases dx; rfl
    | bool b => cases dx; rfl
    | int b => cases dx; rfl
    | str b => cases dx; rfl
    | list ds => obtain ⟨p, vs, rfl, _⟩ := Dp.lst_of dx; rfl
    | tuple ds => obtain ⟨p, vs, rfl, _⟩ := Dp.tup_of e dx; rfl
    | dict b => cases dx
  have hd : d = .bool (isNo a) := by cases a <;> (cases hg; rfl)
  subst hd
  refine ⟨hy, ?_⟩
  rw [hx]
  exact k _ G H (Ext.refl e) (.bl _)
section
variable {X : Cx} {ca : CA} {W : WX} {e a b : Expr} {f g h : Rho → R D} {pos p p2 : Pos} {j : Nat}
theorem fe_isN (ha : FB X ca W f a) : FE X ca W (op2 isD f kN) (.Compare a [.Is] [.Constant .none j p] pos) := fe_cmp op_isN rop_isN ha (fb_fe fe_non) (nomark _)
theorem ft_isN (ha : FB X ca W f a) : FT X ca W (asB (op2 isD f kN)) (.Compare a [.Is] [.Constant .none j p] pos) := ft_cmp op_isN rop_isN ha (fb_fe fe_non) (nomark _)
end
end FE

namespace FE
open PySem L2 PyProof.Rows PySem.Spec
/-! ## enumerate over a tuple -/
section
variable {prog : Program} {w : World} {A : Around} {E : Value → Shared → Prop} {s : Shared}
theorem enumerate_newT (l : Addr) (items : Array Value) (n : Nat) (dct : Option Addr) (sl : Array (Option Value)) :
    Meets (Builtin.«enumerate.__new__» ⟨[.type "enumerate", .ref l], []⟩) (fun _ R s => s.heap.get? l = some { cls := .type "tuple", dict := dct, data := .seq items n, slots := sl } ∧
      R (.ok (.ret (.ref (s.heap.push { cls := .type "tuple_iterator", data := .fields #[.ref l, .int 0 0] }).objs.size)))
        { s with heap := (s.heap.push { cls := .type "tuple_iterator", data := .fields #[.ref l, .int 0 0] }).push { cls := .type "enumerate", data := .fields #[.none, .bool false, .ref s.heap.objs.size, rawInt 0, .none, .none] } }) :=
  .of_wp fun prog w A R s h => by
    obtain ⟨hp, g, d, tk, os⟩ := s; obtain ⟨hl, h⟩ := h
    have hsub := sub_enumerate
    have hL : Heap.IsTuple (Shared.heap ⟨hp, g, d, tk, os⟩) l items := ⟨_, hl, rfl, n, rfl⟩
    wp_walk using AutoSeq1.wpAny_loadPart' hl
    refine wpAny_stack_any fun st => wpAny_pure ?_
    split
    · rename_i c _ _ _ _ _
      cases (c == Value.type "enumerate")
      · wp_walk using AutoSeq1.wpAny_loadPart' hl, wpAny_pyIter_tuple hL
        exact ⟨_, rfl, h⟩
      · wp_walk using AutoSeq1.wpAny_loadPart' hl, wpAny_pyIter_tuple hL
        exact ⟨_, rfl, h⟩
    · wp_walk using AutoSeq1.wpAny_loadPart' hl, wpAny_pyIter_tuple hL
      exact ⟨_, rfl, h⟩
theorem call_enumerate_tup {l : Addr} {items : Array Value} {Q : Value → Shared → Prop} (hL : s.heap.IsTuple l items)
    (h : ∀ h', IsEnum h' (s.heap.objs.size + 1) s.heap.objs.size 0 .none → h'.IsTupleIter s.heap.objs.size l 0 → (∀ b o, s.heap.get? b = some o → h'.get? b = some o) → Q (.ref (s.heap.objs.size + 1)) { s with heap := h' }) :
    wpAny (model prog w) A (call (.type "enumerate") [.ref l]) Q E s := by
  obtain ⟨⟨c, dct, dt, sl⟩, hl, hc, n, hd⟩ := hL
  replace hc : c = .type "tuple" := hc
  replace hd : dt = .seq items n := hd
  subst hc hd
  refine callType_new F.called_enumerate (by decide) (F.typeCall_enumerate_1 _) (F.newCall_enumerate_1 _) (fun obj => F.args_object_init_2 obj _) F.entry_enumerate_new
    (enumerate_newT l items n dct sl) ⟨hl, ?_⟩
  have hz : (s.heap.push { cls := .type "tuple_iterator", data := .fields #[.ref l, .int 0 0] }).objs.size = s.heap.objs.size + 1 := Heap.size_push ..
  show _ ∧ _
  rw [hz]
  have he : IsEnum ((s.heap.push { cls := .type "tuple_iterator", data := .fields #[.ref l, .int 0 0] }).push { cls := .type "enumerate", data := .fields #[.none, .bool false, .ref s.heap.objs.size, rawInt 0, .none, .none] }) (s.heap.objs.size + 1) s.heap.objs.size 0 .none := by
    have := Heap.get?_push_size (s.heap.push { cls := .type "tuple_iterator", data := .fields #[.ref l, .int 0 0] }) (o := { cls := .type "enumerate", data := .fields #[.none, .bool false, .ref s.heap.objs.size, rawInt 0, .none, .none] }) rfl
    rw [hz] at this; exact this
  exact ⟨⟨_, he, rfl⟩, h _ he ⟨_, Heap.get?_push_of_some _ (Heap.get?_push_size _ rfl), rfl, rfl⟩ fun b o x => Heap.get?_push_of_some _ (Heap.get?_push_of_some _ x)⟩
end
def IteT (K : PySem.W.Frag) (a : Addr) : It :=
  ⟨fun i H => ∃ (xs : List V) (x : V), SqT K H a xs ∧ xs[i]? = some x, fun i H v H' => ∃ T x, v = .ref T ∧ H T = none ∧ H' = upd H T (.tup [.int (i : Nat), x]) ∧ ∀ xs, SqT K H a xs → xs[i]? = some x, fun i H => ∃ xs : List V, SqT K H a xs ∧ xs.length ≤ i⟩
theorem turn_enumT {P : Program} {w : World} {K : PySem.W.Frag} {elts : List Expr} {kk : Nat} {tpos : Pos} (a e it : Addr) :
    Turn P w K (.Tuple elts kk tpos) (IteT K a) [e, it] e (fun i h => (∃ old, IsEnum h e it ((i : Nat) : Int) old) ∧ h.IsTupleIter it a i ∧ e ≠ it ∧ a ≠ it ∧ a ≠ e) where
  mem := by simp
  obj := fun i h st b hb => by
    obtain ⟨⟨old, he⟩, ⟨o, ho, hc, hd⟩, _⟩ := st
    have e' : b = e ∨ b = it := by simpa using hb
    rcases e' with z | z
    · rw [z]; exact ⟨_, he, fun v q => nomatch q⟩
    · rw [z]; exact ⟨o, ho, fun v q => by rw [hd] at q; cases q⟩
  keep := fun i h h' st k => let ⟨⟨old, he⟩, hi, hne⟩ := st; ⟨⟨old, k e (by simp) _ he⟩, hi.at fun o q => k it (by simp) o q, hne⟩
  item := by
    intro X hP hw hK hc i pins s σ H E I hf st hg
    subst hP hw hK
    obtain ⟨⟨old, he⟩, hit, hne, ha1, ha2⟩ := st
    obtain ⟨xs, x, hq, hx⟩ := hg
    obtain ⟨its, rv, p, hz⟩ := I.tuple hq
    obtain ⟨u, hu, ru⟩ := rv.get hx
    have hel : e < s.heap.objs.size := Heap.lt_size he
    have hil : it < s.heap.objs.size := by obtain ⟨_, q, _⟩ := hit; exact Heap.lt_size q
    have hin : i < its.toArray.size := by
      have := (List.getElem?_eq_some_iff.mp hu).1
      simpa using this
    have Dr := Draws.tuple (prog := X.prog) (w := X.w) (A := X.A.in1) (I.ok.hd hc) it a ha1 its.toArray
    refine wpAny_pyNext_enum_itemD Dr he ⟨hit, p⟩ hin hne (by simp [hne, Ne.symm ha2]) fun x' h' tk hP ho hst' hT hsz hk => ?_
    have hxu : x' = u := by
      have : its.toArray[i]? = some x' := hP
      rw [List.getElem?_toArray, hu] at this
      exact (Option.some.inj this).symm
    subst hxu
    refine ⟨_, rfl, wpAny_letOwnedTupleGo_enum (s := { s with heap := h', toks := tk + 1 }) ho fun h'' he' sb => ?_⟩
    have hT2 : h''.get? s.heap.objs.size = some { cls := .type "tuple", data := .seq #[.int i tk, x'] } := (sb.2 _ (Nat.ne_of_gt hel)).trans hT
    have new : ObjOk X.prog X.w (upd H s.heap.objs.size (.tup [.int (i : Nat), x])) h'' s.heap.objs.size (.tup [.int (i : Nat), x]) :=
      ⟨by show 2 ≤ sizeLine; decide, [.int i tk, x'], .cons ⟨_, rfl⟩ (.cons ru .nil), ⟨_, hT2, rfl, _, rfl⟩⟩
    have I1 : Inv X pins σ (upd H s.heap.objs.size (.tup [.int (i : Nat), x])) { s with heap := h'', toks := tk + 1 } :=
      I.turnedNew (ch := [e, it]) (fun b ob hb q => (sb.2 b (fun z => hb (by simp [z]))).trans (hk b ob (fun z => hb (by simp [z])) (fun z => hb (by simp [z])) q)) hf (Nat.le_refl _) new
    refine ⟨.ref s.heap.objs.size, _, I1, rfl, ⟨_, x, rfl, I.hok.fresh (Nat.le_refl _), rfl, fun ys hy => by rw [I.tuple_inj hy hq]; exact hx⟩, ⟨⟨x', ?_⟩, hst'.1.at fun o q => (sb.2 it (Ne.symm hne)).trans q, hne, ha1, ha2⟩, fun b hb => ?_⟩
    · have e1 : ((i + 1 : Nat) : Int) = (i : Int) + 1 := by omega
      rw [e1]; exact he'
    · have hb' : b < s.heap.objs.size := by
        have e' : b = e ∨ b = it := by simpa using hb
        rcases e' with z | z
        · rw [z]; exact hel
        · rw [z]; exact hil
      rw [upd_ne (Nat.ne_of_lt hb')]
      exact (hf b hb).1
  done := by
    intro X hP hw hK hc i pins s σ H E I hf st hg
    subst hP hw hK
    obtain ⟨⟨old, he⟩, hit, hne, ha1, ha2⟩ := st
    obtain ⟨xs, hq, hx⟩ := hg
    obtain ⟨its, rv, p, hz⟩ := I.tuple hq
    obtain ⟨f0, f1, f2, f3, f4, f5⟩ := hf it (by simp)
    have hl := rv.length
    have hi : its.toArray[i]? = none := by simp; omega
    have Dr := Draws.tuple (prog := X.prog) (w := X.w) (A := X.A.in1) (I.ok.hd hc) it a ha1 its.toArray
    unfold pyNext
    refine wpAny_bind (wpAny_attempt (wpAny_callSpecial?_slot (name := Str.ofString "__next__") ⟨_, he, rfl⟩ F.slot_enumerate_next (wpAny_call_entry F.slot_enumerate_next ⟨_, he, rfl⟩ F.entry_enumerate_next ?_ (F.args_enumerate_next_1 _))))
    show wpAny _ _ (field (.ref e) 2 >>= _) _ _ _
    refine wpAny_bind (wpAny_field he rfl (x := .ref it) rfl ?_)
    refine wpAny_bind (wpAny_nextOf_tuple_end (A := X.A.in1) (I.ok.hd hc) hit p hi fun h' x he' hx' => ?_)
    obtain ⟨o, ho, hc'⟩ := hx'
    refine wpAny_bind (wpAny_isInstance (T := "StopIteration") (b := true) ⟨o, ho, hc'⟩ isSubtype_stop ?_)
    exact wpAny_pure ⟨rfl, I.turned (t' := s.toks) (fun b o hb q => he' b o hb q) f0 f1 f3 f4 f5⟩
  self := fun A i s Q E st h => let ⟨⟨_, he⟩, _⟩ := st; wpAny_pyIter_enum he h
def iEnumA (K : PySem.W.Frag) (ta : TA) : TI := fun σ H R => ta σ H fun vs H1 => ∃ a xs, vs = [.ref a] ∧ ((SqL K H1 a xs ∧ R (Ite K a) H1) ∨ (SqT K H1 a xs ∧ R (IteT K a) H1))
theorem pi_enumA {X : Cx} {e : Expr} {ta : TA} {p pos tpos : Pos} {elts : List Expr} {kk : Nat} (hg : Gl X "enumerate") (hm : X.mg "enumerate" = none) (ha : PA X [e] ta) (hs : starEach [e] X.env = [(false, eval e X.env)] := by rfl) :
    PI X (.Tuple elts kk tpos) (.Call (.Name "enumerate" p) [e] [] pos) (iEnumA X.K ta) := by
  refine ⟨fun pins s σ H R I h => ?_⟩
  refine Call_ (ld_blt I hg hm boot_enumerate (PyProof.Rows.callWith_type1 (thn (ha.run pos pins s σ H _ I h) fun us s1 ⟨vs, H1, I1, r1, q1⟩ => ?_) hs rfl))
  obtain ⟨a, xs, ex, hq⟩ := q1
  subst ex
  cases r1 with
  | cons r rr =>
    cases rr
    cases r
    have fp : ∀ (I2 : Inv X pins σ H1 s1) (b : Addr), b ∈ [s1.heap.objs.size + 1, s1.heap.objs.size] → FpOk X pins H1 b := fun I2 b hb => by
      have hle : s1.heap.objs.size ≤ b := by
        have e' : b = s1.heap.objs.size + 1 ∨ b = s1.heap.objs.size := by simpa using hb
        rcases e' with z | z
        · rw [z]; exact Nat.le_add_right _ _
        · rw [z]; exact Nat.le_refl _
      exact I2.fpOk hle (I2.hok.fresh hle)
    rcases hq with ⟨hq, q⟩ | ⟨hq, q⟩
    · obtain ⟨its, rv, p', hz⟩ := I1.list hq
      refine call_enumerate_list p'.isList fun h' he hit hsz hk => wpAny_pyIter_enum he ?_
      exact ⟨s1.heap.objs.size + 1, [s1.heap.objs.size + 1, s1.heap.objs.size], _, _, H1, rfl, I1.kept (t' := s1.toks) hk, turn_enum a (s1.heap.objs.size + 1) s1.heap.objs.size, ⟨⟨.none, he⟩, hit, Nat.succ_ne_self _⟩, fp I1, q⟩
    · obtain ⟨its, rv, p', hz⟩ := I1.tuple hq
      have hlt : a < s1.heap.objs.size := by obtain ⟨_, e, _⟩ := id p'; exact Heap.lt_size e
      refine call_enumerate_tup p' fun h' he hit hk => wpAny_pyIter_enum he ?_
      exact ⟨s1.heap.objs.size + 1, [s1.heap.objs.size + 1, s1.heap.objs.size], _, _, H1, rfl, I1.kept (t' := s1.toks) hk, turn_enumT a (s1.heap.objs.size + 1) s1.heap.objs.size, ⟨⟨.none, he⟩, hit, Nat.succ_ne_self _, Nat.ne_of_lt hlt, Nat.ne_of_lt (Nat.lt_succ_of_lt hlt)⟩, fp I1, q⟩
def enumD (k : Nat) : List D → List D
  | [] => []
  | d :: ds => .tuple [.int (k : Int), d] :: enumD (k + 1) ds
theorem enumD_len : ∀ (k : Nat) (ds : List D), (enumD k ds).length = ds.length
  | _, [] => rfl
  | k, d :: ds => by
    show (enumD (k + 1) ds).length + 1 = ds.length + 1
    rw [enumD_len (k + 1) ds]
theorem enumD_get : ∀ (k : Nat) {ds : List D} {i : Nat} {d : D}, (enumD k ds)[i]? = some d → ∃ x, ds[i]? = some x ∧ d = .tuple [.int ((k + i : Nat) : Int), x]
  | _, [], _, _, h => by simp [enumD] at h
  | k, y :: ds, 0, d, h => by
    have h' : some (PyData.tuple [.int (k : Int), y]) = some d := h
    exact ⟨y, rfl, (Option.some.inj h').symm⟩
  | k, y :: ds, i + 1, d, h => by
    obtain ⟨x, h1, h2⟩ := enumD_get (k + 1) (ds := ds) (i := i) (d := d) (by simpa [enumD] using h)
    exact ⟨x, by simpa using h1, by rw [h2, show k + 1 + i = k + (i + 1) by omega]⟩
theorem walkD_enumL {K : PySem.W.Frag} {a : Addr} {xs : List V} {ds : List D} {Gb Hb : Hp} (h1 : SqL K Hb a xs) (d1 : DpAll K Gb xs ds) : WalkD K (Ite K a) Gb Hb (enumD 0 ds) := by
  have l1 := DpAll.len d1
  refine ⟨fun i H e hi => ?_, fun H e => ?_, fun i H v H' G d e1 e2 e3 hd y => ?_⟩
  · rw [enumD_len] at hi
    have i1 : i < xs.length := by omega
    exact ⟨xs, xs[i], ex_l e h1, by simp [i1]⟩
  · exact ⟨xs, ex_l e h1, by rw [enumD_len]; omega⟩
  · obtain ⟨x, hx, rfl⟩ := enumD_get 0 hd
    obtain ⟨T, u, rfl, hT, rfl, h3⟩ := y
    obtain ⟨u', hu, du⟩ := DpAll.get d1 hx
    have := h3 xs (ex_l e1 h1); rw [hu] at this; cases this
    rw [Nat.zero_add]
    exact pair_new e3 hT (.int _) (Dp.ex e2 _ du)
theorem walkD_enumT {K : PySem.W.Frag} {a : Addr} {xs : List V} {ds : List D} {Gb Hb : Hp} (h1 : SqT K Hb a xs) (d1 : DpAll K Gb xs ds) : WalkD K (IteT K a) Gb Hb (enumD 0 ds) := by
  have l1 := DpAll.len d1
  refine ⟨fun i H e hi => ?_, fun H e => ?_, fun i H v H' G d e1 e2 e3 hd y => ?_⟩
  · rw [enumD_len] at hi
    have i1 : i < xs.length := by omega
    exact ⟨xs, xs[i], ex_t e h1, by simp [i1]⟩
  · exact ⟨xs, ex_t e h1, by rw [enumD_len]; omega⟩
  · obtain ⟨x, hx, rfl⟩ := enumD_get 0 hd
    obtain ⟨T, u, rfl, hT, rfl, h3⟩ := y
    obtain ⟨u', hu, du⟩ := DpAll.get d1 hx
    have := h3 xs (ex_t e1 h1); rw [hu] at this; cases this
    rw [Nat.zero_add]
    exact pair_new e3 hT (.int _) (Dp.ex e2 _ du)
def enumF (f : Rho → R D) : Rho → R (List D) := fun ρ => do let d ← f ρ; let ds ← R.of (itemsOf d); pure (enumD 0 ds)
section
variable {X : Cx} {ca : CA} {W : WX} {a : Expr} {pos p tpos : Pos} {f : Rho → R D}
theorem fi_enum {elts : List Expr} {kk : Nat} (hg : Gl X "enumerate") (hm : X.mg "enumerate" = none) (ha : FE X ca W f a) (hs : starEach [a] X.env = (false, eval a X.env) :: starEach [] X.env := by rfl) : FI X ca W (enumF f) (.Tuple elts kk tpos) (.Call (.Name "enumerate" p) [a] [] pos) :=
  PIimp (pi_enumA hg hm (pa_cons ha pa_nil hs) hs) fun σ H Rr ⟨G, ρ, env, q⟩ => ⟨G, ρ, env, (ARes.bind q).imp fun d q v G1 H1 e1 dv => by
    cases d <;> try (exact q.elim)
    case list ds =>
      cases dv with
      | lst h1 h2 => exact ⟨_, _, rfl, Or.inl ⟨ex_l e1.gh h1, q _ G1 H1 e1 (walkD_enumL h1 h2)⟩⟩
    case tuple ds =>
      cases dv with
      | tup h1 h2 => exact ⟨_, _, rfl, Or.inr ⟨ex_t e1.gh h1, q _ G1 H1 e1 (walkD_enumT h1 h2)⟩⟩⟩
end
end FE

namespace FE
open PySem L2 PyProof.Rows PySem.Spec
/-! ## a def that changes a list of one item which it was given -/
def del (H : Hp) (p : Addr) : Hp := fun a => if a = p then none else H a
theorem del_ne {H : Hp} {p a : Addr} (h : a ≠ p) : del H p a = H a := if_neg h
theorem del_same {H : Hp} {p : Addr} : del H p p = none := if_pos rfl
theorem ex_del {H : Hp} {p : Addr} : Ex (del H p) H := fun a o h => by
  by_cases z : a = p
  · subst z; rw [del_same] at h; cases h
  · rw [del_ne z] at h; exact h
/-- the state: p holds c; slot ib says p, and no semantics looks at it -/
structure StB (K : PySem.W.Frag) (p : Addr) (ib : Nat) (G0 H0 G H : Hp) (σ : L2.St) (ρ : Rho) (c : D) : Prop where
  st : StOk K G0 H0 G H σ ρ
  np : H0 p = none
  gp : G p = none
  cell : ∃ v, H p = some (.lst [v]) ∧ Dp K G v c
  noow : ∀ (i : Nat) (o : Option SV), ρ[i]? = some o → isOw o = false
  sl : σ[ib]? = some (some (.ref p))
inductive OutB where
  | nx (ρ : Rho) (c : D)
  | ret (c : D)
  | bad
def BRes (K : PySem.W.Frag) (p : Addr) (ib : Nat) (Dn : Ends) (G0 H0 : Hp) : OutB → Prop
  | .nx ρ c => ∀ σ G H, StB K p ib G0 H0 G H σ ρ c → Dn.nx σ H
  | .ret c => ∀ σ ρ G H, StB K p ib G0 H0 G H σ ρ c → Dn.rt .non H
  | .bad => False
def tB (K : PySem.W.Frag) (p : Addr) (ib : Nat) (g : Rho → D → OutB) : TS := fun Dn σ H => ∃ G0 H0 G ρ c, StB K p ib G0 H0 G H σ ρ c ∧ BRes K p ib Dn G0 H0 (g ρ c)
abbrev BS (X : Cx) (p : Addr) (ib : Nat) (g : Rho → D → OutB) (st : Stmt) : Prop := PS X st (tB X.K p ib g)
abbrev BSs (X : Cx) (p : Addr) (ib : Nat) (g : Rho → D → OutB) (st : List Stmt) : Prop := PSs X st (tB X.K p ib g)
section
variable {K : PySem.W.Frag} {p : Addr} {ib : Nat} {G0 H0 G H G' H' : Hp} {σ : L2.St} {ρ : Rho} {c : D}
/-- the heap grows, the cell stands -/
theorem StB.mono (s : StB K p ib G0 H0 G H σ ρ c) (e : Ext G H G' H') : StB K p ib G0 H0 G' H' σ ρ c := by
  obtain ⟨v, h1, h2⟩ := s.cell
  exact ⟨s.st.mono e, s.np, e.new p s.gp (by rw [h1]; simp), ⟨v, e.h p _ h1, Dp.ex e.g c h2⟩, s.noow, s.sl⟩
/-- another heap that knows all but the cell -/
theorem EnvOk.noow_mono (s : EnvOk K G H σ ρ) (n : ∀ (i : Nat) (o : Option SV), ρ[i]? = some o → isOw o = false) (eg : Ex G G') (gh : Ex G' H') : EnvOk K G' H' σ ρ := by
  refine ⟨gh, s.len, fun i o h => ?_, fun i j o u q _ h1 _ h2 _ => ?_⟩
  · obtain ⟨x, h1, h2⟩ := s.at_ i o h
    refine ⟨x, h1, ?_⟩
    cases o with
    | none => trivial
    | some sv =>
      cases sv with
      | sh d => obtain ⟨v, h3, h4⟩ := h2; exact ⟨v, h3, Dp.ex eg d h4⟩
      | gr d => obtain ⟨v, h3, h4, h5⟩ := h2; exact ⟨v, h3, Dp.ex eg d h4, h5.ex eg⟩
      | ow ds => exact absurd (n i _ h) (by simp [isOw])
      | ob P => exact absurd (n i _ h) (by simp [isOw])
      | rd P => exact absurd (n i _ h) (by simp [isOw])
      | raw v => exact h2
      | xr a dd l => obtain ⟨h3, v, h4, h5⟩ := h2; exact ⟨h3, v, eg dd _ h4, Dp.ex eg l h5⟩
  · rw [n i o h1] at h2; cases h2
theorem ownP_noow {P : Addr → Prop} (n : ∀ (i : Nat) (o : Option SV), ρ[i]? = some o → isOw o = false) : OwnP P σ ρ := fun i o q h1 h2 _ => by rw [isOn_no (n i o h1)] at h2; cases h2
/-- behind a change of the cell -/
theorem StB.change (s : StB K p ib G0 H0 G H σ ρ c) (e : Ext G (del H p) G' H') {v : V} {c' : D} (gp : G' p = none) (hv : H' p = some (.lst [v])) (dv : Dp K G' v c') : StB K p ib G0 H0 G' H' σ ρ c' := by
  refine ⟨⟨s.st.env.noow_mono s.noow e.g e.gh, ⟨s.st.ext.g.trans e.g, fun a o h => ?_, e.gh, fun a h1 h2 => ?_⟩, ownP_noow s.noow⟩, s.np, gp, ⟨v, hv, dv⟩, s.noow, s.sl⟩
  · have z : a ≠ p := fun z => by rw [z, s.np] at h; cases h
    exact e.h a o (by rw [del_ne z]; exact s.st.ext.h a o h)
  · have z : a ≠ p := fun z => by rw [z] at h2; exact h2 s.np
    refine e.new a (s.st.ext.new a h1 h2) (by
      rw [del_ne z]
      cases q : H0 a with
      | none => exact absurd q h2
      | some o => rw [s.st.ext.h a o q]; simp)
end
section
variable {X : Cx} {ca : CA} {p : Addr} {ib : Nat} {st : Stmt} {rest : List Stmt} {pos : Pos}
def seqB (g h : Rho → D → OutB) : Rho → D → OutB := fun ρ c => match g ρ c with
  | .nx ρ' c' => h ρ' c'
  | .ret c' => .ret c'
  | .bad => .bad
theorem bss_cons {g h : Rho → D → OutB} (h1 : BS X p ib g st) (h2 : BSs X p ib h rest) : BSs X p ib (seqB g h) (st :: rest) := PSsimp (pss_cons h1 h2) fun Dn σ H ⟨G0, H0, G, ρ, c, s, q⟩ => by
  refine ⟨G0, H0, G, ρ, c, s, ?_⟩
  unfold seqB at q
  cases hg : g ρ c with
  | nx ρ' c' => rw [hg] at q; exact fun σ' G' H' s' => ⟨G0, H0, G', ρ', c', s', q⟩
  | ret d => rw [hg] at q; exact q
  | bad => rw [hg] at q; exact q
theorem bss_one {g : Rho → D → OutB} (h1 : BS X p ib g st) : BSs X p ib g [st] := pss_one h1
theorem bss_nil : BSs X p ib OutB.nx [] := PSsimp pss_nil fun Dn σ H ⟨G0, H0, G, ρ, c, s, q⟩ => q σ G H s
/-- a test that may look into the cell -/
def ifB (ib : Nat) (f : Rho → R Bool) (g h : Rho → D → OutB) : Rho → D → OutB := fun ρ c => match f (ρ.set ib (some (.sh (.list [c])))) with
  | .ok b => if b = true then g ρ c else h ρ c
  | _ => .bad
theorem StB.look {K : PySem.W.Frag} {G0 H0 G H : Hp} {σ : L2.St} {ρ : Rho} {c : D} (s : StB K p ib G0 H0 G H σ ρ c) : ∃ G2, Ex G G2 ∧ EnvOk K G2 H σ (ρ.set ib (some (.sh (.list [c])))) := by
  obtain ⟨v, h1, h2⟩ := s.cell
  refine ⟨upd G p (.lst [v]), Ex.new s.gp, ?_⟩
  have gh : Ex (upd G p (.lst [v])) H := fun a o h => by
    by_cases z : a = p
    · subst z; rw [upd_same] at h; cases h; exact h1
    · rw [upd_ne z] at h; exact s.st.env.ext a o h
  have env := s.st.env.noow_mono s.noow (Ex.new s.gp) gh
  refine ⟨gh, by simpa using env.len, fun i o h => ?_, fun i j o u q _ hi _ ho _ => ?_⟩
  · by_cases z : ib = i
    · subst z
      have hl : ib < ρ.length := by rw [← s.st.env.len]; exact (List.getElem?_eq_some_iff.mp s.sl).1
      rw [List.getElem?_set_self hl] at h
      cases h
      exact ⟨_, s.sl, .ref p, rfl, .lst (Or.inl (Or.inl upd_same)) (.cons (Dp.ex (Ex.new s.gp) c h2) .nil)⟩
    · rw [List.getElem?_set_ne z] at h
      exact env.at_ i o h
  · exfalso
    by_cases z : ib = i
    · subst z
      have hl : ib < ρ.length := by rw [← s.st.env.len]; exact (List.getElem?_eq_some_iff.mp s.sl).1
      rw [List.getElem?_set_self hl] at hi
      cases hi; cases ho
    · rw [List.getElem?_set_ne z] at hi
      rw [s.noow i o hi] at ho; cases ho
theorem bs_if {e : Expr} {x y : List Stmt} {f : Rho → R Bool} {g h : Rho → D → OutB} (hc : FT X ca W0 f e) (hx : BSs X p ib g x) (hy : BSs X p ib h y) : BS X p ib (ifB ib f g h) (.If e x y pos) := PSimp (ps_if hc hx hy) fun Dn σ H ⟨G0, H0, G, ρ, c, s, q⟩ => by
  obtain ⟨G2, g2, env⟩ := s.look
  refine ⟨G2, _, env, ?_⟩
  unfold ifB at q
  cases hf : f (ρ.set ib (some (.sh (.list [c])))) with
  | exc z => rw [hf] at q; exact q.elim
  | bad => rw [hf] at q; exact q.elim
  | ok b =>
    rw [hf] at q
    intro G' H' e
    have s' : StB X.K p ib G0 H0 G H' σ ρ c := s.mono ⟨Ex.refl G, e.h, s.st.env.ext.trans e.h, fun _ z _ => z⟩
    cases b with
    | true => rw [if_pos rfl]; exact ⟨G0, H0, G, ρ, c, s', q⟩
    | false => rw [if_neg Bool.false_ne_true]; exact ⟨G0, H0, G, ρ, c, s', q⟩
/-- best[0] = e -/
def cellB (f : Rho → R D) : Rho → D → OutB := fun ρ _ => match f ρ with
  | .ok d => .nx ρ d
  | _ => .bad
theorem bs_cell {o e : Expr} {f : Rho → R D} {j : Nat} {p1 p2 : Pos} (he : FE X ca W0 f e) (ho : PE X o (tVar ib)) (ha : ∀ v, assign (.Subscript o (.Constant (.int 0) j p1) p2) X.env v = (do
      let ov ← holding [v] (eval o X.env)
      let iv ← holding [v, ov] (eval (.Constant (.int 0) j p1) X.env)
      standAt p2
      holding [v, ov, iv] (setItem ov iv v)
      release [v, ov, iv] []) := by intro _; rfl) (hs : swapsWithSole [.Subscript o (.Constant (.int 0) j p1) p2] e pos.line X.env = pure false := by rfl) (hw : swappedStores [.Subscript o (.Constant (.int 0) j p1) p2] e X.env = pure none := by rfl)
    (h1 : (assignEach [.Subscript o (.Constant (.int 0) j p1) p2] X.env).map (·.2) = [assign (.Subscript o (.Constant (.int 0) j p1) p2) X.env] := by rfl) : BS X p ib (cellB f) (.Assign [.Subscript o (.Constant (.int 0) j p1) p2] e pos) :=
  PSimp (ps_asg he (pg_sub ho (pe_int (i := 0)) set_list ha) hs hw h1) fun Dn σ H ⟨G0, H0, G, ρ, c, s, q⟩ => by
    refine ⟨G, ρ, s.st.env, ?_⟩
    unfold cellB at q
    cases hf : f ρ with
    | exc z => rw [hf] at q; exact q.elim
    | bad => rw [hf] at q; exact q.elim
    | ok d =>
      rw [hf] at q
      intro v G' H' e dv
      have s' := s.mono e
      obtain ⟨w, h1, h2⟩ := s'.cell
      refine ⟨.ref p, s'.sl, p, [w], 0, 0, rfl, rfl, h1, rfl, ?_⟩
      refine q σ G' _ (s'.change (v := v) (c' := d) ⟨Ex.refl _, fun a o h => ?_, fun a o h => ?_, fun _ z _ => z⟩ s'.gp upd_same dv)
      · have z : a ≠ p := fun z => by rw [z, del_same] at h; cases h
        rw [del_ne z] at h
        rw [upd_ne z]; exact h
      · have z : a ≠ p := fun z => by rw [z, s'.gp] at h; cases h
        rw [upd_ne z]; exact s'.st.env.ext a o h
/-- a, b = e -/
def unpB (u : D → Rho → Option Rho) (f : Rho → R D) : Rho → D → OutB := fun ρ c => match f ρ with
  | .ok d => (match u d ρ with
    | some ρ' => .nx ρ' c
    | none => .bad)
  | _ => .bad
/-- a target that stores lasting data, in other slots than ib -/
def Kind (u : D → Rho → Option Rho) : Prop := ∀ d ρ ρ', u d ρ = some ρ' → (∀ (i : Nat) (o : Option SV), ρ[i]? = some o → isOw o = false) → ∀ (i : Nat) (o : Option SV), ρ'[i]? = some o → isOw o = false
theorem noow_set {ρ : Rho} {i : Nat} {d : D} (n : ∀ (i : Nat) (o : Option SV), ρ[i]? = some o → isOw o = false) : ∀ (k : Nat) (o : Option SV), (ρ.set i (some (.sh d)))[k]? = some o → isOw o = false := fun k o h => by
  by_cases z : i = k
  · subst z
    by_cases hi : i < ρ.length
    · rw [List.getElem?_set_self hi] at h; cases h; rfl
    · rw [List.getElem?_eq_none (by simpa using hi)] at h; cases h
  · rw [List.getElem?_set_ne z] at h; exact n k o h
theorem kind1 {i : Nat} : Kind (tg1 i) := fun d ρ ρ' h n => by cases h; exact noow_set n
theorem kind2 {i j : Nat} : Kind (tg2 i j) := fun d ρ ρ' h n => by
  unfold tg2 at h
  split at h
  · cases h; exact noow_set (noow_set n)
  · cases h
theorem sl_of {σ σ' : L2.St} {is : List Nat} {x : Option V} (h : L2.wipe σ' is = L2.wipe σ is) (n : ib ∉ is) (s : σ[ib]? = some x) : σ'[ib]? = some x := by
  have h1 := wipe_get is σ' ib
  have h2 := wipe_get is σ ib
  rw [if_neg n] at h1 h2
  rw [← h1, h, h2, s]
theorem StB.store {K : PySem.W.Frag} {G0 H0 G H : Hp} {σ σ' : L2.St} {ρ ρ' : Rho} {c : D} (s : StB K p ib G0 H0 G H σ ρ c) (env : EnvOk K G H σ' ρ') (n : ∀ (i : Nat) (o : Option SV), ρ'[i]? = some o → isOw o = false) (sl : σ'[ib]? = some (some (.ref p))) : StB K p ib G0 H0 G H σ' ρ' c :=
  ⟨⟨env, s.st.ext, ownP_noow n⟩, s.np, s.gp, s.cell, n, sl⟩
theorem bs_unp {tg e : Expr} {t : TG} {u : D → Rho → Option Rho} {f : Rho → R D} {is : List Nat} (he : FE X ca W0 f e) (hg : FG X u is tg t) (ku : Kind u) (ni : ib ∉ is) (hs : swapsWithSole [tg] e pos.line X.env = pure false := by rfl) (hw : swappedStores [tg] e X.env = pure none := by rfl)
    (h1 : (assignEach [tg] X.env).map (·.2) = [assign tg X.env] := by rfl) : BS X p ib (unpB u f) (.Assign [tg] e pos) := PSimp (ps_asg he hg.1 hs hw h1) fun Dn σ H ⟨G0, H0, G, ρ, c, s, q⟩ => by
  refine ⟨G, ρ, s.st.env, ?_⟩
  unfold unpB at q
  cases hf : f ρ with
  | exc z => rw [hf] at q; exact q.elim
  | bad => rw [hf] at q; exact q.elim
  | ok d =>
    rw [hf] at q
    intro v G' H' e dv
    cases hu : u d ρ with
    | none => simp only [hu] at q; exact q.elim
    | some ρ' =>
      simp only [hu] at q
      have s' := s.mono e
      exact hg.2.run G' H' σ ρ ρ' v d _ s'.st.env dv hu fun σ' env' _ wp => q σ' G' H' (s'.store env' (ku d ρ ρ' hu s.noow) (sl_of (wp is fun _ h => h) ni s'.sl))
/-- return -/
theorem bs_ret : BS X p ib (fun _ c => .ret c) (.Return none pos) := PSimp ps_retN fun Dn σ H ⟨G0, H0, G, ρ, c, s, q⟩ => q σ ρ G H s
/-- for -/
def goB (u : D → Rho → Option Rho) (body : Rho → D → OutB) (vs : List Nat) (ρ : Rho) (c : D) : List D → OutB
  | [] => .nx ρ c
  | d :: ds => match u d ρ with
    | none => .bad
    | some ρ' => match body ρ' c with
      | .nx ρ'' c'' => goB u body vs (wipeR ρ'' vs) c'' ds
      | .ret c' => .ret c'
      | .bad => .bad
def forB (fi : Rho → R (List D)) (u : D → Rho → Option Rho) (body : Rho → D → OutB) (vs : List Nat) : Rho → D → OutB := fun ρ c => match fi ρ with
  | .ok ds => goB u body vs (wipeR ρ vs) c ds
  | _ => .bad
theorem noow_wipe {ρ : Rho} (n : ∀ (i : Nat) (o : Option SV), ρ[i]? = some o → isOw o = false) : ∀ (vs : List Nat) (k : Nat) (o : Option SV), (wipeR ρ vs)[k]? = some o → isOw o = false
  | [], k, o, h => n k o h
  | v :: vs, k, o, h => by
    by_cases z : v = k
    · subst z
      by_cases hi : v < (wipeR ρ vs).length
      · rw [show wipeR ρ (v :: vs) = (wipeR ρ vs).set v none from rfl, List.getElem?_set_self hi] at h; cases h; rfl
      · rw [show wipeR ρ (v :: vs) = (wipeR ρ vs).set v none from rfl, List.getElem?_eq_none (by simpa using hi)] at h; cases h
    · rw [show wipeR ρ (v :: vs) = (wipeR ρ vs).set v none from rfl, List.getElem?_set_ne z] at h
      exact noow_wipe n vs k o h
theorem StB.forgets {K : PySem.W.Frag} {G0 H0 G H : Hp} {σ : L2.St} {ρ : Rho} {c : D} (s : StB K p ib G0 H0 G H σ ρ c) (vs : List Nat) : StB K p ib G0 H0 G H σ (wipeR ρ vs) c := ⟨s.st.forgets vs, s.np, s.gp, s.cell, noow_wipe s.noow vs, s.sl⟩
theorem bs_for {tg iter : Expr} {body : List Stmt} {fi : Rho → R (List D)} {u : D → Rho → Option Rho} {g : Rho → D → OutB} {is : List Nat} {t : TG} (vs : List Nat) (hp : PassesOwn (model X.prog X.w) X.A X.env X.xe) (hc : X.calm = true) (hi : FI X ca W0 fi tg iter) (hg : FG X u is tg t) (ku : Kind u) (ni : ib ∉ is) (hb : BSs X p ib g body)
    (hs : ∀ x, foldedSetIterable iter X.env x = pure x := by intro _; rfl) : BS X p ib (forB fi u g vs) (.For tg iter body [] pos) := PSimp (ps_for hp hc hi hg.1 hb hs) fun Dn σ H ⟨G0, H0, G, ρ, c, s, q⟩ => by
  refine ⟨G, ρ, s.st.env, ?_⟩
  unfold forB at q
  cases hf : fi ρ with
  | exc z => rw [hf] at q; exact q.elim
  | bad => rw [hf] at q; exact q.elim
  | ok ds =>
  rw [hf] at q
  intro J G1 H1 e1 w
  refine ⟨fun i m σ H => m = ds.length - i ∧ i ≤ ds.length ∧ ∃ G2 ρ2 c2, StB X.K p ib G0 H0 G2 H σ ρ2 c2 ∧ Ex G1 G2 ∧ BRes X.K p ib Dn G0 H0 (goB u g vs ρ2 c2 (ds.drop i)), ⟨ds.length, by simp, Nat.zero_le _, G1, _, c, (s.mono e1).forgets vs, Ex.refl _, by simpa using q⟩, ?_⟩
  rintro i m σ2 H2 ⟨rfl, hi, G2, ρ2, c2, s2, e2, q2⟩
  have eh : Ex G1 H2 := e2.trans s2.st.env.ext
  by_cases hlt : i < ds.length
  · have hd : ds.drop i = ds[i] :: ds.drop (i + 1) := List.drop_eq_getElem_cons hlt
    rw [hd] at q2
    unfold goB at q2
    refine Or.inr ⟨w.goes i H2 eh hlt, fun σ H => ∃ G2 ρ2 c2, StB X.K p ib G0 H0 G2 H σ ρ2 c2 ∧ Ex G1 G2 ∧ BRes X.K p ib Dn G0 H0 (goB u g vs ρ2 c2 (ds.drop (i + 1))), fun σ' H' a => ⟨ds.length - (i + 1), by omega, rfl, hlt, a⟩, fun x H3 y => ?_⟩
    obtain ⟨G3, e3, dx⟩ := w.yields i H2 x H3 G2 ds[i] eh e2 s2.st.env.ext (List.getElem?_eq_getElem hlt) y
    have s3 := s2.mono e3
    split at q2
    · exact q2.elim
    · rename_i ρ' hu
      refine hg.2.run G3 H3 σ2 ρ2 ρ' x ds[i] _ s3.st.env dx hu fun σ' env' _ wp => ?_
      have s4 : StB X.K p ib G0 H0 G3 H3 σ' ρ' c2 := s3.store env' (ku _ ρ2 ρ' hu s2.noow) (sl_of (wp is fun _ h => h) ni s3.sl)
      refine ⟨G1, H0, G3, ρ', c2, ⟨⟨s4.st.env, (s.st.ext.trans e1).up s4.st.ext (e2.trans e3.g), s4.st.own⟩, s4.np, s4.gp, s4.cell, s4.noow, s4.sl⟩, ?_⟩
      have back : ∀ {σ4 G4 H4 ρ4 c4}, StB X.K p ib G1 H0 G4 H4 σ4 ρ4 c4 → StB X.K p ib G0 H0 G4 H4 σ4 ρ4 c4 := fun {σ4 G4 H4 ρ4 c4} s => ⟨⟨s.st.env, (Ext.trans (‹StB X.K p ib G0 H0 G H σ ρ c›).st.ext e1).down s.st.ext, s.st.own⟩, s.np, s.gp, s.cell, s.noow, s.sl⟩
      cases hb : g ρ' c2 with
      | nx ρ'' c'' =>
        rw [hb] at q2
        exact fun σ4 G4 H4 s4 => ⟨G4, _, c'', (back s4).forgets vs, s4.st.ext.g, q2⟩
      | ret d => rw [hb] at q2; exact fun σ4 ρ4 G4 H4 s4 => q2 σ4 ρ4 G4 H4 (back s4)
      | bad => rw [hb] at q2; exact q2
  · have e : i = ds.length := by omega
    subst e
    rw [List.drop_length] at q2
    exact Or.inl ⟨w.stops H2 eh, q2 σ2 G2 H2 s2⟩
end
/-! ### the call, the def -/
/-- what such a def promises: the cell's data c becomes sem ds c -/
def spB (K : PySem.W.Frag) (n : Nat) (sem : List D → D → Option D) : Sp := fun vs H Q _ => ∃ (G : Hp) (p : Addr) (v : V) (c : D) (vs0 : List V) (ds : List D) (c' : D), vs = vs0 ++ [.ref p] ∧ Ex G H ∧ G p = none ∧ H p = some (.lst [v]) ∧ Dp K G v c ∧ DpAll K G vs0 ds ∧ ds.length = n ∧ sem ds c = some c' ∧
  ∀ (G' H' : Hp) (v' : V), Ext G (del H p) G' H' → G' p = none → H' p = some (.lst [v']) → Dp K G' v' c' → Q .non H'
def bodyB (n : Nat) (g : Rho → D → OutB) : List D → D → Option D := fun ds c => match g (ds.map (fun d => some (.sh d)) ++ List.replicate (n - ds.length) none) c with
  | .nx _ c' => some c'
  | .ret c' => some c'
  | .bad => none
def OkB (P : Program) (w : World) (K : PySem.W.Frag) (mg : Str → Option Value) (base : Heap) (k : Nat) (x : Str) (ps : List Str) (n : Nat) (sem : List D → D → Option D) : Prop :=
  ∃ f fd, mg x = some (.ref f) ∧ PySem.W.keepIn K (.ref f) = true ∧ Binds K fd ps [] ∧ FnOk P w K mg base (L2.CX P w) k f fd ps (spB K n sem)
theorem startB {K : PySem.W.Frag} {G H : Hp} {p : Addr} {v : V} {c : D} {N : List Str} {vs0 : List V} {ds : List D} {n : Nat} (hn : ds.length = n) (hN : n < N.length) (e : Ex G H) (gp : G p = none) (hp : H p = some (.lst [v])) (dc : Dp K G v c) (dd : DpAll K G vs0 ds) :
    StB K p n G (del H p) G H (start N (vs0 ++ [.ref p])) (ds.map (fun d => some (.sh d)) ++ List.replicate (N.length - ds.length) none) c := by
  have hl := DpAll.len dd
  have noow : ∀ (i : Nat) (o : Option SV), (ds.map (fun d => some (.sh d)) ++ List.replicate (N.length - ds.length) none)[i]? = some o → isOw o = false := fun i o hi => by
    by_cases z : i < ds.length
    · rw [List.getElem?_append_left (by simpa using z), List.getElem?_map] at hi
      cases q : ds[i]? with
      | none => rw [q] at hi; cases hi
      | some d => rw [q] at hi; cases hi; rfl
    · rw [List.getElem?_append_right (by simpa using z), List.getElem?_replicate] at hi
      split at hi
      · cases hi; rfl
      · cases hi
  have hlen : (start N (vs0 ++ [.ref p])).length = N.length := by
    simp only [L2.start, List.length_append, List.length_map, List.length_replicate, List.length_cons, List.length_nil, hl]
    omega
  refine ⟨⟨⟨e, by rw [hlen]; simp; omega, fun i o hi => ?_, fun i j o u q _ h1 _ h2 _ => by rw [noow i o h1] at h2; cases h2⟩, ⟨Ex.refl G, ex_del, e, fun _ z _ => z⟩, ownP_noow noow⟩, del_same, gp, ⟨v, hp, dc⟩, noow, ?_⟩
  · by_cases z : i < ds.length
    · rw [List.getElem?_append_left (by simpa using z), List.getElem?_map] at hi
      unfold L2.start
      rw [List.map_append, List.append_assoc, List.getElem?_append_left (by simpa [hl] using z), List.getElem?_map]
      cases q : ds[i]? with
      | none => rw [q] at hi; cases hi
      | some d =>
        rw [q] at hi; cases hi
        obtain ⟨u, hu, du⟩ := DpAll.get dd q
        rw [hu]
        exact ⟨some u, rfl, u, rfl, du⟩
    · have hi2 := hi
      rw [List.getElem?_append_right (by simpa using z), List.getElem?_replicate] at hi
      split at hi
      · rename_i q
        cases hi
        have : i < (start N (vs0 ++ [.ref p])).length := by
          rw [hlen]; simp at q; omega
        exact ⟨_, List.getElem?_eq_getElem this, trivial⟩
      · cases hi
  · unfold L2.start
    rw [List.map_append, List.append_assoc, List.getElem?_append_right (by simp [hl, hn])]
    simp [hl, hn]
theorem fn_okB {P : Program} {w : World} {K : PySem.W.Frag} {mg : Str → Option Value} {base : Heap} {x qual : Str} {st : Stmt} {f : Addr} {fd : FuncData} {N ps : List Str} {k n : Nat} {g : Rho → D → OutB} (F : Fun K x qual st f fd) (S : FnScope N ps (defScope st)) (hps : ps.length = n + 1) (hN : n < N.length)
    (hbody : ∀ (p : Addr) (cdv : Value) (A : Around) (outer : List Env) (s : Shared) (H : Hp) (E : XK), Room k (A.deeper (envOfC qual (defScope st) s.heap.objs.size f cdv)) →
      BSs (cxOf (L2.CX P w) P w K mg base N qual (defScope st) f cdv A outer s H E) p n g (defBody st)) : FnOk P w K mg base (L2.CX P w) (k + 1) f fd ps (spB K n (bodyB N.length g)) := by
  refine F.okX S (fun vs H Q E ⟨G, p, v, c, vs0, ds, c', e, _, _, _, _, h6, h7, _⟩ => by rw [e, List.length_append, DpAll.len h6, h7, hps]; rfl) fun cdv A outer s H vs Q E hr h => ?_
  obtain ⟨G, p, v, c, vs0, ds, c', rfl, h2, h3, h4, h5, h6, h7, h8, q⟩ := h
  refine ⟨_, hbody p cdv A outer s H E hr, G, del H p, G, _, c, startB h7 hN h2 h3 h4 h5 h6, ?_⟩
  have fin : ∀ {σ ρ G' H'}, StB K p n G (del H p) G' H' σ ρ c' → Q .non H' := fun {σ ρ G' H'} s' => by
    obtain ⟨v', k1, k2⟩ := s'.cell
    exact q G' H' v' s'.st.ext s'.gp k1 k2
  unfold bodyB at h8
  cases hg : g (ds.map (fun d => some (.sh d)) ++ List.replicate (N.length - ds.length) none) c with
  | nx ρ c2 => rw [hg] at h8; cases h8; exact fun σ' G' H' s' => fin s'
  | ret c2 => rw [hg] at h8; cases h8; exact fun σ' ρ' G' H' s' => fin s'
  | bad => rw [hg] at h8; cases h8
section
variable {X : Cx} {ca : CA} {p : Addr} {ib : Nat} {e eb : Expr} {es : List Expr} {pos pos2 pn : Pos} {k j n : Nat} {x : Str} {ps : List Str} {sem : List D → D → Option D}
def tSemAB (K : PySem.W.Frag) (ca : CA) (p : Addr) (ib : Nat) (f : Rho → R (List D)) : TA := fun σ H Q => σ[ib]? = some (some (.ref p)) ∧ ∃ G ρ, EnvOk K G H σ ρ ∧
  ARes K ca W0 σ G H (fun ds => ∀ vs G' H', Ext G H G' H' → DpAll K G' vs ds → Q (vs ++ [.ref p]) H') (f ρ)
theorem fab_nil (ho : PE X eb (tVar ib)) (hs : starEach [eb] X.env = (false, eval eb X.env) :: starEach [] X.env := by rfl) : PA X [eb] (tSemAB X.K ca p ib aN) := PAimp (pa_cons ho pa_nil hs) fun σ H Q ⟨sl, G, ρ, env, q⟩ => ⟨.ref p, sl, q [] G H (Ext.refl env.ext) .nil⟩
theorem fab_cons {f : Rho → R D} {g : Rho → R (List D)} (ha : FE X ca W0 f e) (hr : PA X es (tSemAB X.K ca p ib g)) (hs : starEach (e :: es) X.env = (false, eval e X.env) :: starEach es X.env := by rfl) : PA X (e :: es) (tSemAB X.K ca p ib (aC f g)) := PAimp (pa_cons ha hr hs) fun σ H Q ⟨sl, G, ρ, env, q⟩ => by
  refine ⟨G, ρ, env, ARes.imp (ARes.bind q) fun d q v G1 H1 e1 dv => ⟨sl, G1, ρ, env.mono e1, ?_⟩⟩
  exact (ARes.bind q).mono e1 fun ds k vs G2 H2 e2 dvs => k (v :: vs) G2 H2 (e1.trans e2) (.cons (Dp.ex e2.g d dv) dvs)
/-- f(.., best) within such a def -/
def callB (n : Nat) (sem : List D → D → Option D) (fA : Rho → R (List D)) : Rho → D → OutB := fun ρ c => match fA ρ with
  | .ok ds => if ds.length = n then (match sem ds c with
    | some c' => .nx ρ c'
    | none => .bad) else .bad
  | _ => .bad
theorem bs_call {fA : Rho → R (List D)} (o : OkB X.prog X.w X.K X.mg X.base k x ps n sem) (hr : Room j X.A) (hkj : k ≤ j) (hg : Gl X x) (ha : PA X (e :: es) (tSemAB X.K ca p ib fA)) (hdb : (x == ("__debug__" : Str)) = false := by decide)
    (he : starEach (e :: es) X.env = (false, eval e X.env) :: starEach es X.env := by rfl) (hpl : (backTo pos (starEach es X.env)).any (·.1) = false := by rfl) (hs : swapsWith (.Call (.Name x pn) (e :: es) [] pos) none pos2.line X.env = pure false := by rfl) :
    BS X p ib (callB n sem fA) (.Expr (.Call (.Name x pn) (e :: es) [] pos) pos2) := by
  obtain ⟨f, fd, h1, h2, h3, h4⟩ := o
  refine PSimp (ps_expr (pe_callS h4 (hr.mono hkj) hg h1 h2 h3 (fun σ => passAt takes_none5 σ) ha hdb he hpl) hs) fun Dn σ H ⟨G0, H0, G, ρ, c, s, q⟩ => ⟨s.sl, G, ρ, s.st.env, ?_⟩
  unfold callB at q
  cases hf : fA ρ with
  | exc z => rw [hf] at q; exact q.elim
  | bad => rw [hf] at q; exact q.elim
  | ok ds =>
    rw [hf] at q
    simp only at q
    intro vs G1 H1 e1 dvs
    by_cases hl : ds.length = n
    · rw [if_pos hl] at q
      cases hsem : sem ds c with
      | none => rw [hsem] at q; exact q.elim
      | some c' =>
        rw [hsem] at q
        have s1 := s.mono e1
        obtain ⟨v, k1, k2⟩ := s1.cell
        exact ⟨G1, p, v, c, vs, ds, c', rfl, s1.st.env.ext, s1.gp, k1, k2, dvs, hl, hsem, fun G' H' v' ee gp hv dv => q σ G' H' (s1.change ee gp hv dv)⟩
    · rw [if_neg hl] at q; exact q.elim
end
/-! ### .. called with an own list of one item -/
theorem EnvOk.change {K : PySem.W.Frag} {G H G' H' : Hp} {σ : L2.St} {ρ : Rho} {i : Nat} {p : Addr} {ds es : List D} {ws : List V} (k : EnvOk K G H σ ρ) (h : ρ[i]? = some (some (.ow ds))) (hσ : σ[i]? = some (some (.ref p))) (e : Ext G (del H p) G' H') (gp : G' p = none) (hp : H' p = some (.lst ws)) (hd : DpAll K G' ws es) : EnvOk K G' H' σ (ρ.set i (some (.ow es))) := by
  have hi : i < ρ.length := (List.getElem?_eq_some_iff.mp h).1
  refine ⟨e.gh, by simp [k.len], fun j o hj => ?_, fun a b o u q hne ha hb oa ob ha2 hb2 => ?_⟩
  · by_cases z : i = j
    · subst z
      rw [List.getElem?_set_self hi] at hj
      cases hj
      exact ⟨_, hσ, p, ws, rfl, gp, hp, hd⟩
    · rw [List.getElem?_set_ne z] at hj
      obtain ⟨x, h1, h2⟩ := k.at_ j o hj
      refine ⟨x, h1, ?_⟩
      cases o with
      | none => trivial
      | some sv =>
        cases sv with
        | sh d => obtain ⟨v, h3, h4⟩ := h2; exact ⟨v, h3, Dp.ex e.g d h4⟩
        | gr d => obtain ⟨v, h3, h4, h5⟩ := h2; exact ⟨v, h3, Dp.ex e.g d h4, h5.ex e.g⟩
        | raw v => exact h2
        | xr a dd l => obtain ⟨h3, v, h4, h5⟩ := h2; exact ⟨h3, v, e.g dd _ h4, Dp.ex e.g l h5⟩
        | ob P =>
          obtain ⟨q, h3, dx, vg, vm, vc, vk, C, hc, g1, g2, g3, g4, g5, g6, g7, g8⟩ := h2
          obtain ⟨p2, vs2, z1, _, z3, _⟩ := k.ow h
          rw [hσ] at z1
          cases z1
          have n1 : q ≠ p := fun w => by subst w; rw [g2] at z3; cases z3
          have n2 : dx ≠ p := fun w => by subst w; rw [g3] at z3; cases z3
          exact ⟨q, h3, dx, vg, vm, vc, vk, C, hc, e.new q g1 (by rw [del_ne n1, g2]; simp), e.h q _ (by rw [del_ne n1]; exact g2), e.h dx _ (by rw [del_ne n2]; exact g3), Dp.ex e.g _ g4, fun w => (g5 w).ex e.g, Dp.ex e.g _ g6, Dp.ex e.g _ g7, Dp.ex e.g _ g8⟩
        | rd P =>
          obtain ⟨q, h3, dx, vg, vm, vc, vk, C, hc, g1, g2, g3, g4, g5, g6, g7, g8⟩ := h2
          obtain ⟨p2, vs2, z1, _, z3, _⟩ := k.ow h
          rw [hσ] at z1
          cases z1
          have n1 : q ≠ p := fun w => by subst w; rw [g2] at z3; cases z3
          have n2 : dx ≠ p := fun w => by subst w; rw [g3] at z3; cases z3
          exact ⟨q, h3, dx, vg, vm, vc, vk, C, hc, e.new q g1 (by rw [del_ne n1, g2]; simp), e.h q _ (by rw [del_ne n1]; exact g2), e.h dx _ (by rw [del_ne n2]; exact g3), Dp.ex e.g _ g4, fun w => (g5 w).ex e.g, Dp.ex e.g _ g6, Dp.ex e.g _ g7, Dp.ex e.g _ g8⟩
        | ow ds' =>
          obtain ⟨q, vs, h3, h4, h5, h6⟩ := h2
          have ne : q ≠ p := fun z2 => by
            subst z2
            exact k.sep i j _ _ q z h hj rfl rfl hσ (by rw [h1, h3])
          have hq : del H p q = some (.lst vs) := by rw [del_ne ne]; exact h5
          exact ⟨q, vs, h3, e.new q h4 (by rw [hq]; simp), e.h q _ hq, DpAll.ex e.g ds' h6⟩
  · have iso : ∀ {m : Nat} {y : Option SV}, (ρ.set i (some (SV.ow es)))[m]? = some y → isOw y = true → ∃ y', ρ[m]? = some y' ∧ isOw y' = true := fun {m y} hm hy => by
      by_cases z : i = m
      · subst z; exact ⟨_, h, rfl⟩
      · rw [List.getElem?_set_ne z] at hm; exact ⟨y, hm, hy⟩
    obtain ⟨o', h1, h2⟩ := iso ha oa
    obtain ⟨u', h3, h4⟩ := iso hb ob
    exact k.sep a b o' u' q hne h1 h3 h2 h4 ha2 hb2
def ownCallF (ib n : Nat) (sem : List D → D → Option D) (fA : Rho → R (List D)) : Rho → Out := fun ρ => match ρ[ib]? with
  | some (some (.ow [c])) => (match fA ρ with
    | .ok ds => if ds.length = n then (match sem ds c with
      | some c' => .nx (ρ.set ib (some (.ow [c'])))
      | none => .bad) else .bad
    | _ => .bad)
  | _ => .bad
section
variable {X : Cx} {ca : CA} {W : WX} {ib : Nat} {e : Expr} {es : List Expr} {pos pos2 pn : Pos} {k j n : Nat} {x : Str} {ps : List Str} {sem : List D → D → Option D}
def tSemAO (K : PySem.W.Frag) (ca : CA) (ib : Nat) (f : Rho → R (List D)) : TA := fun σ H Q => ∃ p, tSemAB K ca p ib f σ H Q
theorem fao_of {f : Rho → R (List D)} (h : ∀ p, PA X es (tSemAB X.K ca p ib f)) : PA X es (tSemAO X.K ca ib f) := ⟨fun pos pins s σ H Q I ⟨p, q⟩ => (h p).run pos pins s σ H Q I q⟩
theorem fs_ownCall {fA : Rho → R (List D)} (o : OkB X.prog X.w X.K X.mg X.base k x ps n sem) (hr : Room j X.A) (hkj : k ≤ j) (hg : Gl X x) (ha : ∀ p, PA X (e :: es) (tSemAB X.K ca p ib fA)) (hdb : (x == ("__debug__" : Str)) = false := by decide)
    (he : starEach (e :: es) X.env = (false, eval e X.env) :: starEach es X.env := by rfl) (hpl : (backTo pos (starEach es X.env)).any (·.1) = false := by rfl) (hs : swapsWith (.Call (.Name x pn) (e :: es) [] pos) none pos2.line X.env = pure false := by rfl) :
    FS X ca W (ownCallF ib n sem fA) (.Expr (.Call (.Name x pn) (e :: es) [] pos) pos2) := by
  obtain ⟨f, fd, h1, h2, h3, h4⟩ := o
  refine PSimp (ps_expr (pe_callS h4 (hr.mono hkj) hg h1 h2 h3 (fun σ => passAt takes_none5 σ) (fao_of ha) hdb he hpl) hs) fun Dn σ H ⟨G0, H0, G, ρ, s, q⟩ => ?_
  unfold ownCallF at q
  split at q
  · rename_i c hc
    obtain ⟨p, vs, k1, k2, k3, k4⟩ := s.env.ow hc
    obtain ⟨v, dv, rfl⟩ : ∃ v, Dp X.K G v c ∧ vs = [v] := by
      cases k4 with
      | cons a b => cases b; exact ⟨_, a, rfl⟩
    refine ⟨p, k1, G, ρ, s.env, ?_⟩
    cases hf : fA ρ with
    | exc z => rw [hf] at q; exact q.elim
    | bad => rw [hf] at q; exact q.elim
    | ok ds =>
      rw [hf] at q
      simp only at q
      intro ws G1 H1 e1 dws
      by_cases hl : ds.length = n
      · rw [if_pos hl] at q
        cases hsem : sem ds c with
        | none => rw [hsem] at q; exact q.elim
        | some c' =>
          rw [hsem] at q
          have s1 := s.mono e1
          have gp1 : G1 p = none := e1.new p k2 (by rw [k3]; simp)
          have hp0 : H0 p = none := s.own ib _ p hc rfl k1
          refine ⟨G1, p, v, c, ws, ds, c', rfl, s1.env.ext, gp1, e1.h p _ k3, Dp.ex e1.g c dv, dws, hl, hsem, fun G' H' v' ee gp hv dv' => q σ G' H' ⟨s1.env.change hc k1 ee gp hv (.cons dv' .nil), ⟨s1.ext.g.trans ee.g, fun a o h => ?_, ee.gh, fun a z1 z2 => ?_⟩, fun i o r hi ho hr2 => ?_⟩⟩
          · have z : a ≠ p := fun z => by rw [z, hp0] at h; cases h
            exact ee.h a o (by rw [del_ne z]; exact s1.ext.h a o h)
          · have z : a ≠ p := fun z => by rw [z] at z2; exact z2 hp0
            refine ee.new a (s1.ext.new a z1 z2) (by
              rw [del_ne z]
              cases q : H0 a with
              | none => exact absurd q z2
              | some o => rw [s1.ext.h a o q]; simp)
          · by_cases z : ib = i
            · subst z
              rw [k1] at hr2; cases hr2; exact hp0
            · rw [List.getElem?_set_ne z] at hi
              exact s.own i o r hi ho hr2
      · rw [if_neg hl] at q; exact q.elim
  · exact q.elim
end
theorem fss_bad {X : Cx} {ca : CA} {W : WX} {sts : List Stmt} : FSs X ca W (fun _ => .bad) sts := ⟨fun pins s σ H Dn I ⟨_, _, _, _, _, q⟩ => False.elim q⟩
theorem bss_bad {X : Cx} {p : Addr} {ib : Nat} {sts : List Stmt} : BSs X p ib (fun _ _ => .bad) sts := ⟨fun pins s σ H Dn I ⟨_, _, _, _, _, _, q⟩ => False.elim q⟩
theorem OkB.mk {P : Program} {w : World} {K : PySem.W.Frag} {mg : Str → Option Value} {base : Heap} {x : Str} {st : Stmt} {N ps : List Str} {k n m : Nat} {g : Rho → D → OutB} (d : DefE K mg x st ps) (S : FnScope N ps (defScope st)) (hm : N.length = m) (hps : ps.length = n + 1) (hN : n < N.length)
    (hbody : ∀ (p : Addr) (cdv : Value) (A : Around) (outer : List Env) (s : Shared) (H : Hp) (E : XK) (f : Addr), Room k (A.deeper (envOfC x (defScope st) s.heap.objs.size f cdv)) →
      BSs (cxOf (L2.CX P w) P w K mg base N x (defScope st) f cdv A outer s H E) p n g (defBody st)) : OkB P w K mg base (k + 1) x ps n (bodyB m g) := by
  subst hm
  obtain ⟨f, fd, h1, F, h2⟩ := d
  exact ⟨f, fd, h1, F.kp, h2, fn_okB F S hps hN fun p cdv A outer s H E hr => hbody p cdv A outer s H E f hr⟩
end FE

namespace FE
open PySem L2 PyProof.Rows PySem.Spec
/-! ## t[::-1] -/
theorem adj_back (n : Nat) : Builtin.Slice.sliceAdjust none none (-1) (n : Int) = ((n : Int) - 1, -1) := by
  unfold Builtin.Slice.sliceAdjust
  simp
theorem places_back (n : Nat) : Builtin.Slice.slicePlaces ((n : Int) - 1) (-1) (-1) = n := by
  unfold Builtin.Slice.slicePlaces
  rw [if_neg (by decide)]
  by_cases h : (n : Int) - 1 > -1
  · rw [if_pos h, show (-(-1) : Int) = 1 by decide, Int.ediv_one]; omega
  · rw [if_neg h]; omega
theorem fm_congr {α β : Type} {f g : α → Option β} : ∀ {l : List α}, (∀ x ∈ l, f x = g x) → l.filterMap f = l.filterMap g
  | [], _ => rfl
  | x :: l, h => by
    rw [List.filterMap_cons, List.filterMap_cons, h x List.mem_cons_self, fm_congr fun y hy => h y (List.mem_cons_of_mem _ hy)]
theorem pick_back (xs : Array Value) : (((List.range xs.size).filterMap fun (k : Nat) => xs[(((xs.size : Int) - 1) + (k : Int) * (-1)).toNat]?).toArray) = xs.toList.reverse.toArray := by
  congr 1
  have h : ∀ ys : List Value, ((List.range ys.length).filterMap fun (k : Nat) => ys[(((ys.length : Int) - 1) + (k : Int) * (-1)).toNat]?) = ys.reverse := fun ys => by
    have e : ∀ k ∈ List.range ys.length, ys[(((ys.length : Int) - 1) + (k : Int) * (-1)).toNat]? = (fun k => ys.reverse[k]?) k := fun k hk => by
      have hk := List.mem_range.mp hk
      show _ = ys.reverse[k]?
      rw [List.getElem?_reverse hk]
      congr 1
      omega
    have e2 : ((List.range ys.length).filterMap fun (k : Nat) => ys[(((ys.length : Int) - 1) + (k : Int) * (-1)).toNat]?) = (List.range ys.length).filterMap (fun k => ys.reverse[k]?) := fm_congr e
    rw [e2]
    have key : ∀ zs : List Value, (List.range zs.length).filterMap (fun k => zs[k]?) = zs := fun zs => by
      induction zs with
      | nil => rfl
      | cons z zs ih =>
        rw [List.length_cons, List.range_succ_eq_map, List.filterMap_cons, List.filterMap_map]
        show z :: (List.range zs.length).filterMap (fun k => zs[k]?) = _
        rw [ih]
    have := key ys.reverse
    rwa [List.length_reverse] at this
  have := h xs.toList
  rw [← this, Array.length_toList]
  exact fm_congr fun k _ => by rw [Array.getElem?_toList]
section
variable {prog : Program} {w : World} {A : Around} {E : Value → Shared → Prop} {s : Shared}
theorem sliced_back {sl : Addr} {t : Tok} {n : Nat} {Q : Int × Int × Nat → Shared → Prop} (hs : s.heap.IsSliceOf sl .none .none (.int (-1) t)) (h : Q ((n : Int) - 1, -1, n) s) : wpAny (model prog w) A (Builtin.Slice.sliceApplied (.ref sl) (pure (n : Int))) Q E s := by
  obtain ⟨os, hos, hcs, hds⟩ := id hs
  unfold Builtin.Slice.sliceApplied Builtin.Slice.sliceFields
  refine wpAny_bind (wpAny_bind (wpAny_field hos hds (x := .none) rfl (wpAny_bind (wpAny_field hos hds (x := .none) rfl (wpAny_bind (wpAny_field hos hds (x := .int (-1) t) rfl (wpAny_pure ?_)))))))
  refine wpAny_bind (slicePart_int ?_)
  show wpAny _ _ (if ((-1 : Int) == 0) = true then _ else _) _ _ s
  rw [if_neg (by decide)]
  refine wpAny_bind (slicePart_none (wpAny_bind (slicePart_none (wpAny_bind (wpAny_pure ?_)))))
  show wpAny _ _ (match Builtin.Slice.sliceAdjust none none (-1) (n : Int) with | (lo, hi) => pure (lo, (-1 : Int), Builtin.Slice.slicePlaces lo hi (-1))) _ _ s
  rw [adj_back n]
  show wpAny _ _ (pure ((n : Int) - 1, (-1 : Int), Builtin.Slice.slicePlaces ((n : Int) - 1) (-1) (-1))) _ _ s
  rw [places_back]
  exact wpAny_pure h
theorem item_back {a sl : Addr} {t : Tok} {items : Array Value} {Q : Value → Shared → Prop} (ht : IsTup s.heap a items) (hs : s.heap.IsSliceOf sl .none .none (.int (-1) t))
    (h : Q (.ref s.heap.objs.size) { s with heap := s.heap.push { cls := .type "tuple", data := .seq items.toList.reverse.toArray } }) (hz : items.size ≤ sizeLine) : wpAny (model prog w) A (getItem (.ref a) (.ref sl)) Q E s := by
  obtain ⟨os, hos, hcs, hds⟩ := id hs
  have hTs : s.TypeIs (.ref sl) "slice" := ⟨os, hos, hcs⟩
  have hok : sizeOk (.seq items.toList.reverse.toArray) := by
    show items.toList.reverse.toArray.size ≤ sizeLine
    simpa using hz
  unfold getItem
  try with_reducible refine wpAny_holding ?_
  first | refine wpAny_bind (wpAny_pure ?_) | skip
  refine wpAny_bind (wpAny_sequenceKey ht.typeIs (by decide) ?_)
  refine wpAny_bind (wpAny_callSpecial?_slot (name := Str.ofString "__getitem__") ht.typeIs PyProof.Rows.slot_tuple_getitem (wpAny_call_entry PyProof.Rows.slot_tuple_getitem ht.typeIs entry_tuple_getitem ?_ (args_tuple_getitem _ _)))
  show wpAny _ _ (Builtin.Tuple.tupleItemsOf (.ref a) >>= _) _ _ s
  refine wpAny_bind (tupleItemsOf_ ht ?_)
  refine wpAny_bind (wpAny_typeOf hTs ?_)
  rw [if_pos (by decide)]
  refine wpAny_bind (sliced_back hs ?_)
  have hno : ¬ ((((items.size : Int) - 1) == 0 && (-1 : Int) == 1 && items.size == items.size) = true) := by
    intro q
    rw [Bool.and_eq_true, Bool.and_eq_true] at q
    exact absurd q.1.2 (by decide)
  show wpAny _ _ (if (((items.size : Int) - 1) == 0 && (-1 : Int) == 1 && items.size == items.size) = true then _ else _) _ _ s
  rw [if_neg hno, pick_back]
  first
    | exact wpAny_bind (m := Builtin.Tuple.tupleExact _) (wpAny_newObj_type (wpAny_pure ⟨_, rfl, wpAny_pure h⟩) hok)
    | exact wpAny_bind (m := Builtin.Tuple.tupleExact _) (wpAny_newObj_type (wpAny_bind (wpAny_pure (wpAny_pure ⟨_, rfl, wpAny_pure h⟩))) hok)
    | exact wpAny_bind (wpAny_bind (m := Builtin.Tuple.tupleExact _) (wpAny_newObj_type (wpAny_pure (wpAny_pure ⟨_, rfl, wpAny_pure h⟩)) hok))
    | exact wpAny_bind (wpAny_bind (m := Builtin.Tuple.tupleExact _) (wpAny_newObj_type (wpAny_pure ⟨_, rfl, wpAny_pure h⟩) hok))
end
theorem vals_rev : ∀ {xs : List V} {us : List Value}, Vals xs us → Vals xs.reverse us.reverse
  | _, _, .nil => .nil
  | _, _, .cons r t => by
    rw [List.reverse_cons, List.reverse_cons]
    exact (vals_rev t).append (.cons r .nil)
def tBack (K : PySem.W.Frag) (te : TE) : TE := fun σ H Q => te σ H fun x H1 => ∃ a xs, x = .ref a ∧ SqT K H1 a xs ∧ ∀ p, H1 p = none → Q (.ref p) (upd H1 p (.tup xs.reverse))
section
variable {X : Cx} {ca : CA} {W : WX} {e a b : Expr} {f g h : Rho → R D} {pos p p2 p3 p4 : Pos} {k j : Nat} {te : TE}
theorem pe_back (he : PE X e te) : PE X (.Subscript e (.Slice none none (some (.UnaryOp .USub (.Constant (.int 1) j p3) p4)) p2) pos) (tBack X.K te) := by
  refine ⟨fun pins s σ H Q I h => ?_⟩
  refine Subscript_ (thn (he.run pins s σ H _ I h) fun v s1 ⟨x, H1, I1, r1, q1⟩ => ?_)
  obtain ⟨a, xs, rfl, hx, q⟩ := q1
  cases r1
  have hneg : PE X (.UnaryOp .USub (.Constant (.int 1) j p3) p4) _ := pe_un un_neg (pe_int (i := 1))
  refine wpAny_Slice (wpAny_pure (wpAny_pure ?_))
  rw [evalPart_some]
  refine thn (hneg.run pins s1 σ H1 (fun x H' => x = .int (-1) ∧ H' = H1) I1 ⟨1, rfl, rfl, rfl⟩) fun vk s2 ⟨y, H2, I2, ry, ey, eh⟩ => ?_
  subst ey eh
  obtain ⟨t, rfl⟩ := ry
  have I3 : Inv X pins σ H2 { s2 with heap := s2.heap.push { cls := .type "slice", data := .fields #[.none, .none, .int (-1) t] } } := I2.kept (t' := s2.toks) fun b ob q => Heap.get?_push_of_some _ q
  obtain ⟨its, r, ht, hz⟩ := I3.tuple hx
  show wpAny (model X.prog X.w) X.A (subscriptTail e (.Slice none none (some (.UnaryOp .USub (.Constant (.int 1) j p3) p4)) p2) (.ref a) (.ref s2.heap.objs.size)) (EP X pins σ Q) X.xe { s2 with heap := s2.heap.push { cls := .type "slice", data := .fields #[.none, .none, .int (-1) t] } }
  refine tail_any (ops := [.ref a, .ref s2.heap.objs.size]) ht.typeIs PyProof.Rows.slot_tuple_getitem.lookup (item_back ht (Heap.IsSliceOf.new ..) ?_ (by rw [List.size_toArray, ← r.length]; exact hz)) (by with_unfolding_all rfl)
  refine ⟨.ref _, _, I3.laid (t' := s2.toks) (o := .tup xs.reverse) (fun b ob q => Heap.get?_push_of_some _ q) (Nat.le_refl _) ?_, rfl, q _ (I3.hok.fresh (Nat.le_refl _))⟩
  exact ⟨by rw [List.length_reverse]; exact hz, _, vals_rev r, IsTup.new _ _⟩
def revD : D → Option D
  | .tuple ds => some (.tuple ds.reverse)
  | _ => none
theorem fe_rev (ha : FB X ca W f e) : FE X ca W (fn1 revD f) (.Subscript e (.Slice none none (some (.UnaryOp .USub (.Constant (.int 1) j p3) p4)) p2) pos) := PEimp (pe_back ha) fun σ H Q ⟨G, ρ, env, q⟩ => ⟨G, ρ, env, q.bind.imp fun d q v G1 H1 e1 dv => by
  cases d <;> try (exact q.elim)
  case tuple ds =>
    obtain ⟨p, vs, rfl, h1, h2, h3⟩ := Dp.tup_of e1.gh dv
    exact ⟨p, vs, rfl, h1, fun r hr => q _ _ _ (e1.trans (Dp.newt e1.gh hr (DpAll.rev h2)).1) (Dp.newt e1.gh hr (DpAll.rev h2)).2⟩⟩
end
/-! ## xs.count(y) -/
def cntD (d : D) (ds : List D) : Nat := ds.countP fun z => PyData.eqv z d
def rCntG (K : PySem.W.Frag) : V → List V → Hp → VK → Prop := fun x xs H Q => ∃ (a : Addr) (y : V) (d : D) (vs : List V) (ds : List D), x = .ref a ∧ xs = [y] ∧ SqL K H a vs ∧ DpAll K H vs ds ∧ Dp K H y d ∧ SeqAt.shaped (.list ds) = true ∧ SeqAt.shaped d = true ∧ Q (.int (cntD d ds : Nat)) H
theorem mt_cntG {X : Cx} (hu : X.A.units + 65 < cLine) : MtR X "list.count" (rCntG X.K) := by
  intro pins s σ H x xs v us Q I rx rv h
  obtain ⟨a, y, d, vs, ds, rfl, rfl, hs, ha, hy, sl, sd, q⟩ := h
  cases rx
  obtain ⟨u, rfl, ru⟩ := rv.one
  obtain ⟨bs, r1⟩ := Dp.reads I d y u hy ru
  have hxs : PyData.canLayAll0 ds = true := SeqAt.canLay_of_shaped sl
  have hroom : X.A.units + 1 + min (PyData.depthAll ds) d.depth < cLine := room_in_shaped sd hu
  obtain ⟨its, rr, ⟨⟨cls, dd, data, sls⟩, n, ho, hc, hdn, hdt⟩, hlen⟩ := I.list hs
  simp only at hc hdt
  subst hc hdt
  obtain ⟨as, h4⟩ := Dp.readsAll I ds _ its ha rr
  have hmap : its.map (SeqAt.readOf s.heap) = ds := SeqAt.readsAll_map ds its as hxs h4
  refine call_meets PySem.F.slot_list_count ⟨_, ho, rfl⟩ PySem.F.entry_list_count (PySem.F.args_list_count_2 _ _) (SeqAt.list_countAt a its.toArray n dd sls u fun u => PyData.eqv (SeqAt.readOf s.heap u) d)
    ⟨ho, SeqAt.items_eqAt (vs := its.toArray) (show ReadsAll s.heap its.toArray.toList ds as from h4) r1 hxs (SeqAt.canLay_of_shaped sd) hroom, ?_⟩
  have e : (its.toArray.toList.countP fun u => PyData.eqv (SeqAt.readOf s.heap u) d) = cntD d ds := by
    unfold cntD
    rw [← hmap, List.countP_map]; rfl
  exact ⟨.int (cntD d ds : Nat), H, I.tok _, ⟨s.toks, congrArg (fun n : Nat => Value.int (n : Int) s.toks) e⟩, q⟩
def list? : D → Option (List D)
  | .list ds => some ds
  | _ => none
def countM (ds : List D) (d : D) : Option D := if SeqAt.shaped (.list ds) = true ∧ SeqAt.shaped d = true then some (.int (cntD d ds : Nat)) else none
def countLF (f g : Rho → R D) : Rho → R D := fun ρ => do let x ← f ρ; let ds ← R.of (list? x); let y ← g ρ; R.of (countM ds y)
section
variable {X : Cx} {ca : CA} {W : WX} {o e a b : Expr} {f g h : Rho → R D} {pos p p2 p3 p4 apos cpos : Pos} {k j : Nat}
theorem fe_countL (hr : Room k X.A) (ho : FB X ca W f o) (ha : FE X ca W g e) (hbase : attributeBase o "count" X.env (eval o X.env) = eval o X.env := by rfl)
    (hfew : ((backTo cpos (starEach [e] X.env)).all (fun x => !x.1) && (backToKw cpos (keywordEach [] X.env)).all (fun x => x.1.isSome) && decide ([e].length + ([] : List Keyword).length + (if ([] : List Keyword).isEmpty then 0 else 1) < 30)) = true := by rfl)
    (hline : (apos.endLine == cpos.line) = true := by rfl) (hs : starEach [e] X.env = (false, eval e X.env) :: starEach [] X.env := by rfl) (hplain : (backTo cpos (starEach [] X.env)).any (·.1) = false := by rfl) :
    FE X ca W (countLF f g) (.Call (.Attribute o "count" apos) [e] [] cpos) :=
  PEimp (pe_bm PySem.F.plainAttrs_list PySem.F.slot_list_count PySem.F.type_list_count (mt_cntG (hu65 hr)) ho (pa_cons ha pa_nil hs) hbase hfew hline hs hplain) fun σ H Q ⟨G, ρ, env, q⟩ => ⟨G, ρ, env, q.bind.imp fun x q v G1 H1 e1 dx => by
    cases x <;> try (exact q.elim)
    case list ds =>
      have q1 : ARes X.K ca W σ G H _ (do let y ← g ρ; R.of (countM ds y)) := q
      obtain ⟨p, vs, rfl, h1, h2⟩ := Dp.lst_of dx
      refine ⟨Or.inl ⟨rfl, vs, h1⟩, G1, ρ, env.mono e1, q1.bind.mono e1 fun y q w G2 H2 e2 dy => ?_⟩
      unfold countM at q
      by_cases z : SeqAt.shaped (.list ds) = true ∧ SeqAt.shaped y = true
      · rw [if_pos z] at q
        exact ⟨p, w, y, vs, ds, rfl, rfl, ex_l e2.h h1, DpAll.ex (e2.g.trans e2.gh) ds h2, Dp.ex e2.gh y dy, z.1, z.2, q _ G2 H2 (e1.trans e2) (.int _)⟩
      · rw [if_neg z] at q; exact q.elim⟩
end
/-! ## xs * n, t * n -/
def repD : D → D → Option D
  | .list ds, .int n => if 0 ≤ n ∧ n ≤ 1000 ∧ ds.length ≤ 1000 then some (.list (List.replicate n.toNat ds).flatten) else none
  | .tuple ds, .int n => if 2 ≤ n ∧ n ≤ 1000 ∧ ds.length ≤ 1000 ∧ ds ≠ [] then some (.tuple (List.replicate n.toNat ds).flatten) else none
  | _, _ => none
theorem DpAll.rep {K : PySem.W.Frag} {H : Hp} {vs : List V} {ds : List D} (h : DpAll K H vs ds) : ∀ n : Nat, DpAll K H (List.replicate n vs).flatten (List.replicate n ds).flatten
  | 0 => .nil
  | n + 1 => by
    rw [List.replicate_succ, List.replicate_succ, List.flatten_cons, List.flatten_cons]
    exact DpAll.app h (DpAll.rep h n)
section
variable {X : Cx} {ca : CA} {W : WX} {o e a b : Expr} {f g h : Rho → R D} {fl : Rho → R (List D)} {pos p p2 p3 p4 apos cpos : Pos} {k j : Nat}
theorem fe_rep (ha : FL X ca W fl a) (hb : FE X ca W g b) : FE X ca W (op2 repD (lE fl) g) (.BinOp a .Mult b pos) := PEimp (pe_op op_rep ha hb) fun σ H Q ⟨G, ρ, env, q⟩ => by
  refine ⟨G, ρ, env, ?_⟩
  have q1 : ARes X.K ca W σ G H (fun d => ∀ (v : V) (G' H' : Hp), Ext G H G' H' → Dp X.K G' v d → Q v H') (do let ds ← fl ρ; let y ← g ρ; R.of (repD (.list ds) y)) := by
    cases hf : fl ρ with
    | ok ds => unfold op2 lE at q; rw [hf] at q; exact q
    | exc z => unfold op2 lE at q; rw [hf] at q; exact q
    | bad => unfold op2 lE at q; rw [hf] at q; exact q
  refine q1.bind.imp fun ds q p vs G1 H1 e1 hp gp hl dv => ⟨G1, ρ, env.mono e1, q.bind.mono e1 fun y q w G2 H2 e2 dy => ?_⟩
  cases y <;> try (exact q.elim)
  case int n =>
    have q2 : ARes X.K ca W σ G H _ (R.of (if 0 ≤ n ∧ n ≤ 1000 ∧ ds.length ≤ 1000 then some (PyData.list (List.replicate n.toNat ds).flatten) else none)) := q
    by_cases z : 0 ≤ n ∧ n ≤ 1000 ∧ ds.length ≤ 1000
    · rw [if_pos z] at q2
      have hw : w = .int n := by cases dy; rfl
      have hlen : vs.length * n.toNat ≤ 1000000 := by
        rw [DpAll.len dv]
        exact Nat.le_trans (Nat.mul_le_mul z.2.2 (show n.toNat ≤ 1000 by omega)) (by decide)
      refine ⟨p, n, vs, rfl, hw, e2.h p _ hl, by omega, by omega, Nat.le_trans hlen (by decide), fun r hr => ?_⟩
      have N := Dp.newl e2.gh hr (DpAll.rep (DpAll.ex e2.g ds dv) n.toNat)
      exact q2 _ _ _ ((e1.trans e2).trans N.1) N.2
    · rw [if_neg z] at q2; exact q2.elim
theorem rop_repT {K : PySem.W.Frag} : ROp K (rRepT K) fun a b => match a with
  | .tuple _ => repD a b
  | _ => none := by
  intro G H x y a b d Q e dx dy hg k
  cases a <;> try (cases hg; done)
  case tuple ds =>
    cases b <;> try (cases hg; done)
    case int n =>
      have hg' : (if 2 ≤ n ∧ n ≤ 1000 ∧ ds.length ≤ 1000 ∧ ds ≠ [] then some (PyData.tuple (List.replicate n.toNat ds).flatten) else none) = some d := hg
      obtain ⟨z, rfl⟩ := ite_some hg'
      obtain ⟨p, vs, rfl, h1, h2, _⟩ := Dp.tup_of e dx
      refine ⟨p, n, vs, rfl, Dp.int_of dy, h1, fun hn => z.2.2.2 (nil_of (by rw [← hn]; exact h2)), z.1, z.2.1, by rw [DpAll.len h2]; exact z.2.2.1, fun r hr => ?_⟩
      have N := Dp.newt e hr (DpAll.rep h2 n.toNat)
      exact k _ _ _ N.1 N.2
def repTD : D → D → Option D := fun a b => match a with
  | .tuple _ => repD a b
  | _ => none
theorem fe_repT (ha : FE X ca W f a) (hb : FE X ca W g b) : FE X ca W (op2 repTD f g) (.BinOp a .Mult b pos) := fe_op op_repT rop_repT (fb_fe ha) (fb_fe hb)
/-! ## tuple(range(n)), list(range(n)) -/
def tupRg (f : Rho → R D) : Rho → R D := fun ρ => do let d ← f ρ; let n ← R.of (int? d); if 0 ≤ n ∧ n ≤ 1000000 then pure (.tuple (rangeD 0 n.toNat)) else .bad
def listRg (f : Rho → R D) : Rho → R (List D) := fun ρ => do let d ← f ρ; let n ← R.of (int? d); if 0 ≤ n ∧ n ≤ 1000000 then pure (rangeD 0 n.toNat) else .bad
theorem rg_dp {K : PySem.W.Frag} {G : Hp} (n : Int) : DpAll K G (rgV 0 n) (rangeD 0 n.toNat) := by
  unfold rgV rangeD
  rw [Int.sub_zero]
  have : ∀ l : List Nat, DpAll K G (l.map fun i => V.int ((0 : Int) + (i : Nat))) (l.map fun i : Nat => PyData.int ((0 : Int) + (i : Int))) := fun l => by
    induction l with
    | nil => exact .nil
    | cons i l ih => exact .cons (.int _) ih
  exact this _
theorem fe_tupRg (hc : X.calm = true) (hg : Gl X "tuple") (hm : X.mg "tuple" = none) (hg2 : Gl X "range") (hm2 : X.mg "range" = none) (ha : FE X ca W f a) (na : starEach [a] X.env = (false, eval a X.env) :: starEach [] X.env := by rfl)
    (na2 : starEach [.Call (.Name "range" p2) [a] [] p3] X.env = (false, eval (.Call (.Name "range" p2) [a] [] p3) X.env) :: starEach [] X.env := by rfl) : FE X ca W (tupRg f) (.Call (.Name "tuple" p) [.Call (.Name "range" p2) [a] [] p3] [] pos) :=
  PEimp (pe_tupRg hc hg hm (prg_1 hg2 hm2 ha na) na2) fun σ H Q ⟨G, ρ, env, q⟩ => ⟨G, ρ, env, q.bind.imp fun d q v G1 H1 e1 dv => by
    obtain ⟨n, rfl, q⟩ := q.intq dv
    by_cases z : 0 ≤ n ∧ n ≤ 1000000
    · rw [if_pos z] at q
      refine ⟨n, rfl, RgOk.of_le (by decide) (by omega) (by decide) z.1, fun r hr => ?_⟩
      have N := Dp.newt e1.gh hr (rg_dp (K := X.K) (G := G1) n)
      exact q _ _ _ (e1.trans N.1) N.2
    · rw [if_neg z] at q; exact q.elim⟩
theorem fl_listRg (hc : X.calm = true) (hg : Gl X "list") (hm : X.mg "list" = none) (hg2 : Gl X "range") (hm2 : X.mg "range" = none) (ha : FE X ca W f a) (na : starEach [a] X.env = (false, eval a X.env) :: starEach [] X.env := by rfl)
    (na2 : starEach [.Call (.Name "range" p2) [a] [] p3] X.env = (false, eval (.Call (.Name "range" p2) [a] [] p3) X.env) :: starEach [] X.env := by rfl) : FL X ca W (listRg f) (.Call (.Name "list" p) [.Call (.Name "range" p2) [a] [] p3] [] pos) :=
  PEimp (pe_listRg hc hg hm (prg_1 hg2 hm2 ha na) na2) fun σ H Q ⟨G, ρ, env, q⟩ => ⟨G, ρ, env, q.bind.imp fun d q v G1 H1 e1 dv => by
    obtain ⟨n, rfl, q⟩ := q.intq dv
    by_cases z : 0 ≤ n ∧ n ≤ 1000000
    · rw [if_pos z] at q
      refine ⟨n, rfl, RgOk.of_le (by decide) (by omega) (by decide) z.1, fun r hr => ?_⟩
      exact q r _ G1 _ (e1.trans (Ext.own e1.gh hr)) (e1.h.back hr) (e1.gh.back hr) upd_same (rg_dp n)
    · rw [if_neg z] at q; exact q.elim⟩
end
/-! ## xs.append(ys.pop(e)) -/
def appPopF (i j : Nat) (f : Rho → R D) : Rho → Out := fun ρ => match ρ[i]?, ρ[j]? with
  | some (some (.ow ds)), some (some (.ow es)) => (f ρ).out fun d => match d with
    | .int k => (match es[k.toNat]? with
      | some x => if 0 ≤ k ∧ k ≤ 1000000 ∧ ds.length < szMax ∧ i ≠ j then .nx ((ρ.set j (some (.ow (es.eraseIdx k.toNat)))).set i (some (.ow (ds ++ [x])))) else .bad
      | none => .bad)
    | _ => .bad
  | _, _ => .bad
theorem seqIx {k : Int} {n : Nat} (h0 : 0 ≤ k) (h1 : k.toNat < n) : seqIndex? k n = some k.toNat := by
  unfold seqIndex?
  simp
  omega
section
variable {X : Cx} {ca : CA} {W : WX} {o o2 e : Expr} {f : Rho → R D} {pos apos cpos apos2 cpos2 : Pos} {i j : Nat}
theorem fs_appPop (ho : PE X o (tVar i)) (ho2 : PE X o2 (tVar j)) (ha : FE X ca W f e) (hbase : attributeBase o "append" X.env (eval o X.env) = eval o X.env := by rfl)
    (hfew : ((backTo cpos (starEach [.Call (.Attribute o2 "pop" apos2) [e] [] cpos2] X.env)).all (fun x => !x.1) && (backToKw cpos (keywordEach [] X.env)).all (fun x => x.1.isSome) && decide ([Expr.Call (.Attribute o2 "pop" apos2) [e] [] cpos2].length + ([] : List Keyword).length + (if ([] : List Keyword).isEmpty then 0 else 1) < 30)) = true := by rfl)
    (hline : (apos.endLine == cpos.line) = true := by rfl) (hs : starEach [.Call (.Attribute o2 "pop" apos2) [e] [] cpos2] X.env = (false, eval (.Call (.Attribute o2 "pop" apos2) [e] [] cpos2) X.env) :: starEach [] X.env := by rfl) (hplain : (backTo cpos (starEach [] X.env)).any (·.1) = false := by rfl)
    (hbase2 : attributeBase o2 "pop" X.env (eval o2 X.env) = eval o2 X.env := by rfl)
    (hfew2 : ((backTo cpos2 (starEach [e] X.env)).all (fun x => !x.1) && (backToKw cpos2 (keywordEach [] X.env)).all (fun x => x.1.isSome) && decide ([e].length + ([] : List Keyword).length + (if ([] : List Keyword).isEmpty then 0 else 1) < 30)) = true := by rfl)
    (hline2 : (apos2.endLine == cpos2.line) = true := by rfl) (hs2 : starEach [e] X.env = (false, eval e X.env) :: starEach [] X.env := by rfl) (hplain2 : (backTo cpos2 (starEach [] X.env)).any (·.1) = false := by rfl)
    (hsw : swapsWith (.Call (.Attribute o "append" apos) [.Call (.Attribute o2 "pop" apos2) [e] [] cpos2] [] cpos) none pos.line X.env = pure false := by rfl) :
    FS X ca W (appPopF i j f) (.Expr (.Call (.Attribute o "append" apos) [.Call (.Attribute o2 "pop" apos2) [e] [] cpos2] [] cpos) pos) :=
  PSimp (ps_expr (pe_bm PySem.F.plainAttrs_list PySem.F.slot_list_append PySem.F.type_list_append mt_append ho
    (pa_cons (pe_bm PySem.F.plainAttrs_list PySem.F.slot_list_pop PySem.F.type_list_pop mt_popAt ho2 (pa_cons ha pa_nil hs2) hbase2 hfew2 hline2 hs2 hplain2) pa_nil hs) hbase hfew hline hs hplain) hsw) fun Dn σ H ⟨G0, H0, G, ρ, s, q⟩ => by
    unfold appPopF at q
    split at q
    · rename_i ds es hd he
      obtain ⟨p, vs, h1, h2, h3, h4⟩ := s.env.ow hd
      obtain ⟨r, ws, k1, k2, k3, k4⟩ := s.env.ow he
      refine ⟨.ref p, h1, Or.inl ⟨rfl, vs, Or.inl (Or.inl h3)⟩, .ref r, k1, Or.inl ⟨rfl, ws, Or.inl (Or.inl k3)⟩, G, ρ, s.env, (SRes.out s q).imp fun d q v G' H' e dv => ?_⟩
      cases d <;> try (exact q.elim)
      case int k =>
        have hv : v = .int k := by cases dv; rfl
        cases hx : es[k.toNat]? with
        | none => simp only [hx] at q; exact q.elim
        | some x =>
          simp only [hx] at q
          by_cases z : 0 ≤ k ∧ k ≤ 1000000 ∧ ds.length < szMax ∧ i ≠ j
          · rw [if_pos z] at q
            obtain ⟨y, hy, dy⟩ := DpAll.get k4 hx
            have hlt : k.toNat < ws.length := (List.getElem?_eq_some_iff.mp hy).1
            have s1 := s.mono e
            have gr : G' r = none := e.new r k2 (by rw [k3]; simp)
            have gp : G' p = none := e.new p h2 (by rw [h3]; simp)
            have ne : p ≠ r := fun w => by
              subst w
              exact s.env.sep i j _ _ p z.2.2.2 hd he rfl rfl h1 k1
            refine ⟨r, ws, k, k.toNat, y, rfl, by rw [hv], e.h r _ k3, by omega, by omega, seqIx z.1 hlt, hy, ?_⟩
            refine ⟨p, vs, y, rfl, rfl, by rw [upd_ne ne]; exact e.h p _ h3, by rw [DpAll.len h4]; exact szLt (Nat.le_of_lt z.2.2.1), ?_⟩
            have s2 := s1.upd he k1 gr (DpAll.er k.toNat (DpAll.ex e.g es k4))
            have hd2 : (ρ.set j (some (SV.ow (es.eraseIdx k.toNat))))[i]? = some (some (.ow ds)) := by rw [List.getElem?_set_ne (fun w => z.2.2.2 w.symm)]; exact hd
            exact q σ G' _ (s2.upd hd2 h1 gp (DpAll.app (DpAll.ex e.g ds h4) (.cons (Dp.ex e.g x dy) .nil)))
          · rw [if_neg z] at q; exact q.elim
    · exact q.elim
end
end FE

namespace FE
open PySem L2 PyProof.Rows PySem.Spec
/-! ## graphs whose tuple of edges is a known object: its methods may be called -/
section
variable {X : Cx} {ca : CA} {W : WX} {e a b : Expr} {f g : Rho → R D} {pos p p2 p3 : Pos} {k : Nat} {ta : TE}
/-- tuple(x) of a list: a new known tuple -/
def kTupN (K : PySem.W.Frag) (x : V) (H : Hp) (Q : VK) : Prop := ∃ p xs, x = .ref p ∧ SqL K H p xs ∧ ∀ q ob, ob.cls = .type "tuple" → ob.dict = none → H q = none → Q (.ref q) (upd H q (.frz ob (.tup xs)))
theorem rl_tupN (pins : List (Addr × Obj)) (s : Shared) (σ : L2.St) (H : Hp) (x : V) (v : Value) (Q : VK) (I : Inv X pins σ H s) (r : RelV x v) (h : kTupN X.K x H Q) : wpAny (model X.prog X.w) X.A (call (.type "tuple") [v]) (EP X pins σ Q) X.xe s := by
  obtain ⟨p, xs, rfl, hs, q⟩ := h
  obtain rfl : v = .ref p := r
  obtain ⟨its, rv, pl, hz⟩ := I.list hs
  refine call_tuple_list pl.isList (fun h' hk => ?_) (by rw [List.size_toArray, ← rv.length]; exact hz)
  have I1 : Inv X pins σ H { s with heap := h' } := I.kept (t' := s.toks) hk
  have hget : (h'.push { cls := .type "tuple", data := .seq its.toArray }).get? h'.objs.size = some { cls := .type "tuple", data := .seq its.toArray } := Heap.get?_push_size _ rfl
  have I2 : Inv X pins σ (upd H h'.objs.size (.frz { cls := .type "tuple", data := .seq its.toArray } (.tup xs))) { s with heap := h'.push { cls := .type "tuple", data := .seq its.toArray } } :=
    I1.laid (t' := s.toks) (fun b o e => Heap.get?_push_of_some _ e) (Nat.le_refl _) (show ObjOk X.prog X.w _ _ _ (.frz _ (.tup xs)) from ⟨hget, hz, its, rv, IsTup.new _ _⟩)
  exact ⟨.ref h'.objs.size, _, I2, rfl, q _ _ rfl rfl (I1.hok.fresh (Nat.le_refl _))⟩
theorem pe_tupleN (hg : Gl X "tuple") (hm : X.mg "tuple" = none) (ha : PE X a ta) (na : starEach [a] X.env = (false, eval a X.env) :: starEach [] X.env := by rfl) : PE X (.Call (.Name "tuple" p) [a] [] pos) (tThen ta (kTupN X.K)) := by
  refine ⟨fun pins s σ H Q I h => ?_⟩
  exact Call_ (ld_blt I hg hm boot_tuple (PyProof.Rows.callWith_type1 (one_arg ha I h (fun v s2 x H2 I2 r q => rl_tupN pins s2 σ H2 x v Q I2 r q) na) na))
/-- data whose value is such a graph -/
def tSemG (K : PySem.W.Frag) (ca : CA) (W : WX) (f : Rho → R D) : TE := fun σ H Q => ∃ G ρ, EnvOk K G H σ ρ ∧
  ARes K ca W σ G H (fun d => ∀ v G' H', Ext G H G' H' → Dp K G' v d → GrV K G' v d → Q v H') (f ρ)
abbrev FEG (X : Cx) (ca : CA) (W : WX) (f : Rho → R D) (e : Expr) : Prop := PE X e (tSemG X.K ca W f)
theorem fe_feg (h : FEG X ca W f e) : FE X ca W f e := PEimp h fun σ H Q ⟨G, ρ, env, q⟩ => ⟨G, ρ, env, q.imp fun d q v G' H' e dv _ => q v G' H' e dv⟩
/-- it is a list, whenever it is anything -/
def IsL (g : Rho → R D) : Prop := ∀ ρ d, g ρ = .ok d → ∃ ds, d = .list ds
theorem isL_sort : IsL (fn1 sortD g) := fun ρ d h => by
  unfold fn1 at h
  cases hg : g ρ with
  | ok x =>
    rw [hg] at h
    have h2 : R.of (sortD x) = .ok d := h
    cases hs : sortD x with
    | none => rw [hs] at h2; cases h2
    | some y =>
      rw [hs] at h2; cases h2
      unfold sortD at hs
      split at hs
      · obtain ⟨_, e⟩ := ite_some hs; exact ⟨_, e.symm⟩
      · obtain ⟨_, e⟩ := ite_some hs; exact ⟨_, e.symm⟩
      · cases hs
  | exc z => rw [hg] at h; cases h
  | bad => rw [hg] at h; cases h
theorem tupG_eq {ρ : Rho} : tupF (aC f (aC (fn1 tupleD g) aN)) ρ = (do let x ← f ρ; let y ← (do let d ← g ρ; R.of (tupleD d)); pure (.tuple [x, y])) := by
  unfold tupF aC fn1
  cases f ρ with
  | ok x =>
    cases g ρ with
    | ok y =>
      show (do let ds ← (do let d ← (R.ok x); let ds ← (do let d ← R.of (tupleD y); let ds ← aN ρ; pure (d :: ds)); pure (d :: ds)); chk ds.length; pure (PyData.tuple ds)) = (do let z ← R.of (tupleD y); pure (PyData.tuple [x, z]))
      cases tupleD y <;> rfl
    | exc z => rfl
    | bad => rfl
  | exc z => rfl
  | bad => rfl
/-- (a, tuple(b)), b a list -/
theorem fe_tupG {x1} (hg : Gl X "tuple") (hm : X.mg "tuple" = none) (ha : FE X ca W f a) (hb : FB X ca W g b) (hl : IsL g) (hs : starEach [b] X.env = (false, eval b X.env) :: starEach [] X.env := by rfl)
    (h1 : starEach [a, .Call (.Name "tuple" p) [b] [] p2] X.env = (false, eval a X.env) :: starEach [.Call (.Name "tuple" p) [b] [] p2] X.env := by rfl) (h2 : starEach [.Call (.Name "tuple" p) [b] [] p2] X.env = (false, eval (.Call (.Name "tuple" p) [b] [] p2) X.env) :: starEach [] X.env := by rfl) :
    FEG X ca W (tupF (aC f (aC (fn1 tupleD g) aN))) (.Tuple [a, .Call (.Name "tuple" p) [b] [] p2] x1 pos) :=
  PEimp (pe_tup (pa_cons ha (pa_cons (pe_tupleN hg hm hb hs) pa_nil h2) h1)) fun σ H Q ⟨G, ρ, env, q⟩ => by
    have q1 : ARes X.K ca W σ G H (fun d => ∀ v G' H', Ext G H G' H' → Dp X.K G' v d → GrV X.K G' v d → Q v H') (do let x ← f ρ; let y ← (do let d ← g ρ; R.of (tupleD d)); pure (.tuple [x, y])) := by
      rw [← tupG_eq]; exact q
    refine ⟨G, ρ, env, q1.bind.imp fun x q u G1 H1 e1 dx => ⟨G1, ρ, env.mono e1, ?_⟩⟩
    have hL := hl ρ
    have q2 : ARes X.K ca W σ G H (fun d => ∀ v G' H', Ext G H G' H' → Dp X.K G' v d → GrV X.K G' v d → Q v H') (do let d ← g ρ; let y ← R.of (tupleD d); pure (.tuple [x, y])) := by
      cases hy : g ρ with
      | ok y => rw [hy] at q; exact q
      | exc z => rw [hy] at q; exact q
      | bad => rw [hy] at q; exact q
    cases hy : g ρ with
    | exc z => rw [hy] at q2; exact fun c dd G' H' e2 hx => q2 c dd G' H' (e1.trans e2) hx
    | bad => rw [hy] at q2; exact q2
    | ok y =>
      rw [hy] at q2
      obtain ⟨ds, rfl⟩ := hL y hy
      intro w G2 H2 e2 dy
      obtain ⟨r, ws, rfl, k1, k2⟩ := Dp.lst_of dy
      refine ⟨r, ws, rfl, k1, fun t ob hc hd ht => ⟨(by show (2 : Nat) ≤ sizeLine; decide), fun t2 ht2 => ?_⟩⟩
      have e3 : Ext G2 H2 (upd G2 t (.frz ob (.tup ws))) (upd H2 t (.frz ob (.tup ws))) := Ext.lay e2.gh ht
      have dt : Dp X.K (upd G2 t (.frz ob (.tup ws))) (.ref t) (.tuple ds) := .tup (Or.inl (Or.inr ⟨ob, upd_same⟩)) (DpAll.ex e3.g ds k2)
      have dxx : Dp X.K (upd G2 t (.frz ob (.tup ws))) u x := Dp.ex e3.g x (Dp.ex e2.g x dx)
      have N := Dp.newt (K := X.K) (vs := [u, .ref t]) (ds := [x, .tuple ds]) e3.gh ht2 (.cons dxx (.cons dt .nil))
      have q3 : ∀ v G' H', Ext G H G' H' → Dp X.K G' v (.tuple [x, .tuple ds]) → GrV X.K G' v (.tuple [x, .tuple ds]) → Q v H' := q2
      refine q3 (.ref t2) _ _ (((e1.trans e2).trans e3).trans N.1) N.2 ⟨t2, u, t, ob, ws, x, ds, rfl, rfl, Or.inl (Or.inl upd_same), ?_, hc, hd, DpAll.ex N.1.g ds (DpAll.ex e3.g ds k2)⟩
      have ne : t ≠ t2 := ne_of_none (upd_same (H := H2) (a := t)) ht2
      rw [upd_ne ne]; exact upd_same
end
/-! ### statements -/
def setG (i : Nat) (f : Rho → R D) : Rho → Out := fun ρ => (f ρ).out fun d => .nx (ρ.set i (some (.gr d)))
theorem StOk.set_gr {K : PySem.W.Frag} {G0 H0 G H : Hp} {σ : L2.St} {ρ : Rho} {i : Nat} {v : V} {d : D} (s : StOk K G0 H0 G H σ ρ) (h : Dp K G v d) (hg : GrV K G v d) : StOk K G0 H0 G H (σ.set i (some v)) (ρ.set i (some (.gr d))) :=
  ⟨s.env.set (o := some (.gr d)) (x := some v) ⟨v, rfl, h, hg⟩ fun z => Bool.noConfusion z, s.ext, s.own.set_sh rfl⟩
section
variable {X : Cx} {ca : CA} {W : WX} {e a b : Expr} {st : Stmt} {rest : List Stmt} {f : Rho → R D} {pos p p2 p3 : Pos} {k : Nat}
theorem fs_setG {i : Nat} {x : Str} {pos' : Pos} (hN : X.N.Nodup) (hi : X.N[i]? = some x) (hx : Loc X.env.scope x) (he : FEG X ca W f e) (hs : swapsWith e (some (.Name x pos')) pos.line X.env = pure false := by rfl) (hf : X.fn x = true ∨ X.env.scope.names.lookup x = some .local := by first | exact .inl rfl | exact .inr rfl | assumption) :
    FS X ca W (setG i f) (.Assign [.Name x pos'] e pos) := PSimp (ps_set hN hi hx he hs hf) fun Dn σ H ⟨G0, H0, G, ρ, s, q⟩ =>
  ⟨G, ρ, s.env, (SRes.out s q).imp fun d q v G' H' e dv gv => q _ G' H' ((s.mono e).set_gr dv gv)⟩
/-- a def that returns such a graph -/
def SResG (K : PySem.W.Frag) (ca : CA) (W : WX) (Dn : Ends) (G0 H0 : Hp) : Out → Prop
  | .nx ρ => ∀ σ G H, StOk K G0 H0 G H σ ρ → Dn.nx σ H
  | .ret d => ∀ v G H, Ext G0 H0 G H → Dp K G v d → GrV K G v d → Dn.rt v H
  | .exc e => ∀ c dd σ G H, Ext G0 H0 G H → ExcAt K ca G H e c dd → W c dd σ H
  | .bad => False
def tStG (K : PySem.W.Frag) (ca : CA) (W : WX) (g : Rho → Out) : TS := fun Dn σ H => ∃ G0 H0 G ρ, StOk K G0 H0 G H σ ρ ∧ SResG K ca W Dn G0 H0 (g ρ)
def NoRet (g : Rho → Out) : Prop := ∀ ρ d, g ρ ≠ .ret d
theorem fsg_cons {g h : Rho → Out} (hn : NoRet g) (h1 : FS X ca W g st) (h2 : PSs X rest (tStG X.K ca W h)) : PSs X (st :: rest) (tStG X.K ca W (seqS g h)) := PSsimp (pss_cons h1 h2) fun Dn σ H ⟨G0, H0, G, ρ, s, q⟩ => by
  refine ⟨G0, H0, G, ρ, s, ?_⟩
  unfold seqS at q
  cases hg : g ρ with
  | nx ρ' => rw [hg] at q; exact fun σ' G' H' s' => ⟨G0, H0, G', ρ', s', q⟩
  | ret d => exact absurd hg (hn ρ d)
  | exc e => rw [hg] at q; exact q
  | bad => rw [hg] at q; exact q
theorem fsg_ret (he : FEG X ca W f e) : PSs X [.Return (some e) pos] (tStG X.K ca W (retF f)) := PSsimp (pss_one (ps_ret he)) fun Dn σ H ⟨G0, H0, G, ρ, s, q⟩ => by
  refine ⟨G, ρ, s.env, ?_⟩
  unfold retF at q
  cases hf : f ρ with
  | ok d => rw [hf] at q; exact fun v G' H' e dv gv => q v G' H' (s.ext.trans e) dv gv
  | exc z => rw [hf] at q; exact fun c dd G' H' e hx => q c dd σ G' H' (s.ext.trans e) hx
  | bad => rw [hf] at q; exact q
end
theorem R.out_noret {α : Type} {x : R α} {k : α → Out} (h : ∀ a d, k a ≠ .ret d) : ∀ d, x.out k ≠ .ret d := fun d => by
  cases x with
  | ok a => exact h a d
  | exc e => exact fun z => by cases z
  | bad => exact fun z => by cases z
theorem nr_set {i : Nat} {f : Rho → R D} : NoRet (setF i f) := fun ρ => R.out_noret fun a d z => by cases z
theorem nr_setL {i : Nat} {f : Rho → R (List D)} : NoRet (setL i f) := fun ρ => R.out_noret fun a d z => by cases z
theorem nr_nx : NoRet Out.nx := fun ρ d z => by cases z
theorem nr_if {c : Rho → R Bool} {g h : Rho → Out} (a : NoRet g) (b : NoRet h) : NoRet (ifS c g h) := fun ρ => R.out_noret fun q d => by
  cases q with
  | true => rw [if_pos rfl]; exact a ρ d
  | false => rw [if_neg Bool.false_ne_true]; exact b ρ d
theorem nr_seq {g h : Rho → Out} (a : NoRet g) (b : NoRet h) : NoRet (seqS g h) := fun ρ d z => by
  unfold seqS at z
  cases hg : g ρ with
  | nx ρ' => rw [hg] at z; exact b ρ' d z
  | ret d' => exact a ρ d' hg
  | exc e => rw [hg] at z; cases z
  | bad => rw [hg] at z; cases z
theorem nr_mut {i : Nat} {m : List D → D → Option (List D)} {f : Rho → R D} : NoRet (mutF i m f) := fun ρ d z => by
  unfold mutF at z
  split at z
  · exact R.out_noret (fun a d' w => by
      split at w
      · cases w
      · cases w) d z
  · cases z
theorem nr_forGo {u : D → Rho → Option Rho} {body : Rho → Out} {vs : List Nat} (h : NoRet body) : ∀ (ds : List D) (ρ : Rho) (d : D), forGo u body vs ρ ds ≠ .ret d
  | [], ρ, d, z => by cases z
  | x :: ds, ρ, d, z => by
    unfold forGo at z
    split at z
    · cases z
    · rename_i ρ' _
      cases hb : body ρ' with
      | nx ρ'' => rw [hb] at z; exact nr_forGo h ds _ d z
      | ret d' => exact h ρ' d' hb
      | exc e => rw [hb] at z; cases z
      | bad => rw [hb] at z; cases z
theorem nr_for {fi : Rho → R (List D)} {u : D → Rho → Option Rho} {body : Rho → Out} {vs : List Nat} (h : NoRet body) : NoRet (forF fi u body vs) := fun ρ => R.out_noret fun ds d => nr_forGo h ds _ d
/-! ### the def, its calls -/
def spSemG (K : PySem.W.Frag) (ca : CA) (n : Nat) (sem : List D → R D) : Sp := fun vs H Q E => ∃ G ds, Ex G H ∧ DpAll K G vs ds ∧ ds.length = n ∧ match sem ds with
  | .ok d => ∀ v G' H', Ext G H G' H' → Dp K G' v d → GrV K G' v d → Q v H'
  | .exc z => ∀ c dd G' H', Ext G H G' H' → ExcAt K ca G' H' z c dd → E c dd H'
  | .bad => False
theorem spSemG_len {K : PySem.W.Frag} {ca : CA} {ps : List Str} {sem : List D → R D} : ∀ vs H Q E, spSemG K ca ps.length sem vs H Q E → vs.length = ps.length := fun vs H Q E ⟨G, ds, h1, h2, h3, _⟩ => by rw [DpAll.len h2, h3]
def OkG (P : Program) (w : World) (K : PySem.W.Frag) (mg : Str → Option Value) (base : Heap) (ca : CA) (k : Nat) (x : Str) (ps : List Str) (sem : List D → R D) : Prop :=
  ∃ f fd, mg x = some (.ref f) ∧ PySem.W.keepIn K (.ref f) = true ∧ Binds K fd ps [] ∧ FnOk P w K mg base (L2.CX P w) k f fd ps (spSemG K ca ps.length sem)
theorem OkG.mk {P : Program} {w : World} {K : PySem.W.Frag} {mg : Str → Option Value} {base : Heap} {ca : CA} {x : Str} {st : Stmt} {N ps : List Str} {k n : Nat} {g : Rho → Out} (d : DefE K mg x st ps) (S : FnScope N ps (defScope st)) (hn : N.length = n) (nx : ∀ ds ρ, g (start0 n ds) ≠ .nx ρ)
    (hbody : ∀ (cdv : Value) (A : Around) (outer : List Env) (s : Shared) (H : Hp) (E : XK) (f : Addr), Room k (A.deeper (envOfC x (defScope st) s.heap.objs.size f cdv)) →
      PSs (cxOf (L2.CX P w) P w K mg base N x (defScope st) f cdv A outer s H E) (defBody st) (tStG K ca (fun c d _ H' => E c d H') g)) : OkG P w K mg base ca (k + 1) x ps (bodySem n g) := by
  subst hn
  obtain ⟨f, fd, h1, F, h2⟩ := d
  refine ⟨f, fd, h1, F.kp, h2, F.okX S spSemG_len fun cdv A outer s H vs Q E hr h => ⟨_, hbody cdv A outer s H E f hr, ?_⟩⟩
  obtain ⟨G, ds, hG, hd, hl, q⟩ := h
  refine ⟨G, H, G, start0 N.length ds, start_env hG hd, ?_⟩
  unfold bodySem at q
  cases hg : g (start0 N.length ds) with
  | nx ρ => exact absurd hg (nx ds ρ)
  | ret d => rw [hg] at q; exact fun v G' H' e dv gv => q v G' H' e dv gv
  | exc z => rw [hg] at q; exact fun c dd σ' G' H' e hx => q c dd G' H' e hx
  | bad => rw [hg] at q; exact q
/-- a return at the end -/
def NoNx (g : Rho → Out) : Prop := ∀ ρ ρ', g ρ ≠ .nx ρ'
theorem nn_ret {f : Rho → R D} : NoNx (retF f) := fun ρ ρ' z => by
  unfold retF at z
  cases hf : f ρ <;> (rw [hf] at z; cases z)
theorem nn_seq {g h : Rho → Out} (b : NoNx h) : NoNx (seqS g h) := fun ρ ρ' z => by
  unfold seqS at z
  cases hg : g ρ with
  | nx r => rw [hg] at z; exact b r ρ' z
  | ret d' => rw [hg] at z; cases z
  | exc e => rw [hg] at z; cases z
  | bad => rw [hg] at z; cases z
section
variable {X : Cx} {ca : CA} {W : WX} {e : Expr} {es : List Expr} {pos p : Pos} {k j : Nat} {x : Str} {ps : List Str} {sem : List D → R D} {fA : Rho → R (List D)} {n : Nat}
theorem fe_callG (tk : Takes X W) (o : OkG X.prog X.w X.K X.mg X.base ca k x ps sem) (hr : Room j X.A) (hkj : k ≤ j) (hg : Gl X x) (ha : FA X ca W fA (e :: es)) (hdb : (x == ("__debug__" : Str)) = false := by decide)
    (he : starEach (e :: es) X.env = (false, eval e X.env) :: starEach es X.env := by rfl) (hpl : (backTo pos (starEach es X.env)).any (·.1) = false := by rfl) (hn : ps.length = n := by rfl) : FEG X ca W (callF n sem fA) (.Call (.Name x p) (e :: es) [] pos) := by
  subst hn
  obtain ⟨f, fd, h1, h2, h3, h4⟩ := o
  refine PEimp (pe_callS h4 (hr.mono hkj) hg h1 h2 h3 (fun σ => passAt tk σ) ha hdb he hpl) fun σ H Q ⟨G, ρ, env, q⟩ => ?_
  refine ⟨G, ρ, env, q.bind.imp fun ds q vs G1 H1 e1 dvs => ?_⟩
  by_cases hl : ds.length = ps.length
  · rw [if_pos hl] at q
    refine ⟨G1, ds, e1.gh, dvs, hl, ?_⟩
    cases hsem : sem ds with
    | ok d => rw [hsem] at q; exact fun v G' H' e2 dv gv => q v G' H' (e1.trans e2) dv gv
    | exc z => rw [hsem] at q; exact fun c dd G' H' e2 hx => q c dd G' H' (e1.trans e2) hx
    | bad => rw [hsem] at q; exact q
  · rw [if_neg hl] at q; exact q.elim
end
/-! ### a def that is given such a graph as its first argument -/
def startP (n : Nat) : List D → Rho
  | [] => start0 n []
  | d :: ds => (start0 n (d :: ds)).set 0 (some (.gr d))
def bodySemP (n : Nat) (g : Rho → Out) : List D → R D := fun ds => match g (startP n ds) with
  | .nx _ => .ok .none
  | .ret d => .ok d
  | .exc e => .exc e
  | .bad => .bad
def spSemP (K : PySem.W.Frag) (ca : CA) (n : Nat) (sem : List D → R D) : Sp := fun vs H Q E => ∃ G d0 v0 ds vs', Ex G H ∧ vs = v0 :: vs' ∧ GrV K G v0 d0 ∧ DpAll K G vs (d0 :: ds) ∧ (d0 :: ds).length = n ∧ match sem (d0 :: ds) with
  | .ok d => ∀ v G' H', Ext G H G' H' → Dp K G' v d → Q v H'
  | .exc z => ∀ c dd G' H', Ext G H G' H' → ExcAt K ca G' H' z c dd → E c dd H'
  | .bad => False
theorem spSemP_len {K : PySem.W.Frag} {ca : CA} {ps : List Str} {sem : List D → R D} : ∀ vs H Q E, spSemP K ca ps.length sem vs H Q E → vs.length = ps.length := fun vs H Q E ⟨G, d0, v0, ds, vs', _, _, _, h2, h3, _⟩ => by rw [DpAll.len h2, h3]
def OkP (P : Program) (w : World) (K : PySem.W.Frag) (mg : Str → Option Value) (base : Heap) (ca : CA) (k : Nat) (x : Str) (ps : List Str) (sem : List D → R D) : Prop :=
  ∃ f fd, mg x = some (.ref f) ∧ PySem.W.keepIn K (.ref f) = true ∧ Binds K fd ps [] ∧ FnOk P w K mg base (L2.CX P w) k f fd ps (spSemP K ca ps.length sem)
theorem startP_env {K : PySem.W.Frag} {G H : Hp} {N : List Str} {v0 : V} {vs : List V} {d0 : D} {ds : List D} (e : Ex G H) (hv : GrV K G v0 d0) (h : DpAll K G (v0 :: vs) (d0 :: ds)) : StOk K G H G H (start N (v0 :: vs)) (startP N.length (d0 :: ds)) := by
  have s := start_env (N := N) e h
  have hd : Dp K G v0 d0 := by cases h; assumption
  have := s.set_gr (i := 0) hd hv
  have e1 : (start N (v0 :: vs)).set 0 (some v0) = start N (v0 :: vs) := by
    unfold L2.start
    rfl
  rw [e1] at this
  exact this
theorem OkP.mk {P : Program} {w : World} {K : PySem.W.Frag} {mg : Str → Option Value} {base : Heap} {ca : CA} {x : Str} {st : Stmt} {N ps : List Str} {k n : Nat} {g : Rho → Out} (d : DefE K mg x st ps) (S : FnScope N ps (defScope st)) (hn : N.length = n)
    (hbody : ∀ (cdv : Value) (A : Around) (outer : List Env) (s : Shared) (H : Hp) (E : XK) (f : Addr), Room k (A.deeper (envOfC x (defScope st) s.heap.objs.size f cdv)) →
      FSs (cxOf (L2.CX P w) P w K mg base N x (defScope st) f cdv A outer s H E) ca (fun c d _ H' => E c d H') g (defBody st)) : OkP P w K mg base ca (k + 1) x ps (bodySemP n g) := by
  subst hn
  obtain ⟨f, fd, h1, F, h2⟩ := d
  refine ⟨f, fd, h1, F.kp, h2, F.okX S spSemP_len fun cdv A outer s H vs Q E hr h => ⟨_, hbody cdv A outer s H E f hr, ?_⟩⟩
  obtain ⟨G, d0, v0, ds, vs', hG, rfl, hv, hd, hl, q⟩ := h
  refine ⟨G, H, G, startP N.length (d0 :: ds), startP_env hG hv hd, ?_⟩
  unfold bodySemP at q
  cases hg : g (startP N.length (d0 :: ds)) with
  | nx ρ => rw [hg] at q; exact fun σ' G' H' s' => q .non G' H' s'.ext .non
  | ret d => rw [hg] at q; exact fun v G' H' e dv => q v G' H' e dv
  | exc z => rw [hg] at q; exact fun c dd σ' G' H' e hx => q c dd G' H' e hx
  | bad => rw [hg] at q; exact q
section
variable {X : Cx} {ca : CA} {W : WX} {e : Expr} {es : List Expr} {pos p p0 : Pos} {k j i : Nat} {x y : Str} {ps : List Str} {sem : List D → R D} {fA : Rho → R (List D)} {n : Nat}
/-- f(g, ..), g a variable that holds such a graph -/
def callPF (i n : Nat) (sem : List D → R D) (fA : Rho → R (List D)) : Rho → R D := fun ρ => match ρ[i]? with
  | some (some (.gr d)) => (do let ds ← fA ρ; if (d :: ds).length = n then sem (d :: ds) else .bad)
  | _ => .bad
theorem fe_callP (tk : Takes X W) (o : OkP X.prog X.w X.K X.mg X.base ca k x ps sem) (hr : Room j X.A) (hkj : k ≤ j) (hg : Gl X x) (hv : PE X e (tVar i)) (ha : FA X ca W fA es) (hdb : (x == ("__debug__" : Str)) = false := by decide)
    (he : starEach (e :: es) X.env = (false, eval e X.env) :: starEach es X.env := by rfl) (hpl : (backTo pos (starEach es X.env)).any (·.1) = false := by rfl) (hn : ps.length = n := by rfl) : FE X ca W (callPF i n sem fA) (.Call (.Name x p) (e :: es) [] pos) := by
  subst hn
  obtain ⟨f, fd, h1, h2, h3, h4⟩ := o
  refine PEimp (pe_callS h4 (hr.mono hkj) hg h1 h2 h3 (fun σ => passAt tk σ) (pa_cons hv ha he) hdb he hpl) fun σ H Q ⟨G, ρ, env, q⟩ => ?_
  unfold callPF at q
  split at q
  · rename_i d hd
    obtain ⟨v, k1, k2, k3⟩ := env.gr hd
    have q1 : ARes X.K ca W σ G H (fun d => ∀ v G' H', Ext G H G' H' → Dp X.K G' v d → Q v H') (do let ds ← fA ρ; if (d :: ds).length = ps.length then sem (d :: ds) else .bad) := q
    refine ⟨v, k1, G, ρ, env, q1.bind.imp fun ds q vs G1 H1 e1 dvs => ?_⟩
    by_cases hl : (d :: ds).length = ps.length
    · rw [if_pos hl] at q
      refine ⟨G1, d, v, ds, vs, e1.gh, rfl, k3.ex e1.g, .cons (Dp.ex e1.g d k2) dvs, hl, ?_⟩
      cases hsem : sem (d :: ds) with
      | ok d => rw [hsem] at q; exact fun v G' H' e2 dv => q v G' H' (e1.trans e2) dv
      | exc z => rw [hsem] at q; exact fun c dd G' H' e2 hx => q c dd G' H' (e1.trans e2) hx
      | bad => rw [hsem] at q; exact q
    · rw [if_neg hl] at q; exact q.elim
  · exact q.elim
end
end FE

namespace FE
open PySem L2 PyProof.Rows PySem.Spec
/-! ## g[1].count(y), g[1].index(y), g a graph with a known tuple of edges -/
def tBMT (K : PySem.W.Frag) (r : V → List V → Hp → VK → Prop) (to : TE) (t : TA) : TE := fun σ H Q => to σ H fun x H1 => (∃ (q : Addr) (o : Obj) (vs : List V), x = .ref q ∧ H1 q = some (.frz o (.tup vs)) ∧ o.cls = .type "tuple" ∧ o.dict = none) ∧ t σ H1 fun xs H2 => r x xs H2 Q
section
variable {X : Cx} {o e : Expr} {es : List Expr} {to : TE} {t : TA} {name : Str} {apos cpos : Pos} {id : String} {r : V → List V → Hp → VK → Prop}
theorem pe_bmT (slot : Slot "tuple" name id) (hty : typeOf (.builtin id) = pure (.type "method_descriptor")) (hm : MtR X id r) (ho : PE X o to) (ha : PA X [e] t)
    (hbase : attributeBase o name X.env (eval o X.env) = eval o X.env := by rfl)
    (hfew : ((backTo cpos (starEach [e] X.env)).all (fun x => !x.1) && (backToKw cpos (keywordEach [] X.env)).all (fun x => x.1.isSome) && decide ([e].length + ([] : List Keyword).length + (if ([] : List Keyword).isEmpty then 0 else 1) < 30)) = true := by rfl)
    (hline : (apos.endLine == cpos.line) = true := by rfl) (hs : starEach [e] X.env = (false, eval e X.env) :: starEach [] X.env := by rfl) (hplain : (backTo cpos (starEach [] X.env)).any (·.1) = false := by rfl) :
    PE X (.Call (.Attribute o name apos) [e] [] cpos) (tBMT X.K r to t) := by
  refine ⟨fun pins s σ H Q I h => ?_⟩
  refine wpAny_Call_method_late hbase hfew hline rfl (thn (ho.run pins s σ H _ I h) fun v s1 ⟨x, H1, I1, r1, ⟨q, ob, vs, e1, e2, e3, e4⟩, q1⟩ => ?_)
  subst e1
  cases r1
  have hg : s1.heap.get? q = some ob := (show ObjOk X.prog X.w H1 s1.heap q (.frz ob (.tup vs)) from I1.hok q _ e2).1
  refine ⟨"tuple", id, PySem.F.plainAttrs_tuple, slot, hty, ⟨ob, hg, e3⟩, fun a ea => by cases ea; exact ⟨ob, hg, e4⟩, ?_⟩
  have hA := ha.run cpos pins s1 σ H1 _ I1 q1
  rw [hs] at hA ⊢
  refine Calls.callWith_builtin (by show (false || (backTo cpos (starEach [] X.env)).any (·.1)) = false; rw [hplain] <;> rfl) (Calls.evalArgs_plain ?_)
  exact thn hA fun us s2 ⟨ws, H2, I2, r2, q2⟩ => hm pins s2 σ H2 (.ref q) ws (.ref q) us Q I2 rfl r2 q2
end
/-- what such a method is asked: the items' data, the argument's -/
def rTupG (K : PySem.W.Frag) (m : List D → D → Option Int) : V → List V → Hp → VK → Prop := fun x xs H Q => ∃ (a : Addr) (y : V) (d : D) (vs : List V) (ds : List D) (n : Int), x = .ref a ∧ xs = [y] ∧ SqT K H a vs ∧ DpAll K H vs ds ∧ Dp K H y d ∧ SeqAt.shaped (.tuple ds) = true ∧ SeqAt.shaped d = true ∧ m ds d = some n ∧ Q (.int n) H
def cntM (ds : List D) (d : D) : Option Int := some (cntD d ds : Nat)
def idxM (ds : List D) (d : D) : Option Int := (idxOf d ds).map fun j : Nat => (j : Int)
theorem mt_cntT {X : Cx} (hu : X.A.units + 65 < cLine) : MtR X "tuple.count" (rTupG X.K cntM) := by
  intro pins s σ H x xs v us Q I rx rv h
  obtain ⟨a, y, d, vs, ds, n, rfl, rfl, hs, ha, hy, sl, sd, hn, q⟩ := h
  cases hn
  cases rx
  obtain ⟨u, rfl, ru⟩ := rv.one
  obtain ⟨bs, r1⟩ := Dp.reads I d y u hy ru
  have hxs : PyData.canLayAll0 ds = true := SeqAt.canLay_of_shaped sl
  have hroom : X.A.units + 1 + min (PyData.depthAll ds) d.depth < cLine := room_in_shaped sd hu
  obtain ⟨its, rr, ⟨⟨cls, dd, data, sls⟩, ho, hc, n, hdt⟩, hlen⟩ := I.tuple hs
  simp only at hc hdt
  subst hc hdt
  obtain ⟨as, h4⟩ := Dp.readsAll I ds _ its ha rr
  have hmap : its.map (SeqAt.readOf s.heap) = ds := SeqAt.readsAll_map ds its as hxs h4
  refine call_meets PySem.F.slot_tuple_count ⟨_, ho, rfl⟩ PySem.F.entry_tuple_count (PySem.F.args_tuple_count_2 _ _) (SeqAt.tuple_countAt a its.toArray n dd sls u fun u => PyData.eqv (SeqAt.readOf s.heap u) d)
    ⟨ho, SeqAt.items_eqAt (vs := its.toArray) (show ReadsAll s.heap its.toArray.toList ds as from h4) r1 hxs (SeqAt.canLay_of_shaped sd) hroom, ?_⟩
  have e : (its.toArray.toList.countP fun u => PyData.eqv (SeqAt.readOf s.heap u) d) = cntD d ds := by
    unfold cntD
    rw [← hmap, List.countP_map]; rfl
  exact ⟨.int (cntD d ds : Nat), H, I.tok _, ⟨s.toks, congrArg (fun n : Nat => Value.int (n : Int) s.toks) e⟩, q⟩
theorem mt_idxT {X : Cx} (hu : X.A.units + 65 < cLine) : MtR X "tuple.index" (rTupG X.K idxM) := by
  intro pins s σ H x xs v us Q I rx rv h
  obtain ⟨a, y, d, vs, ds, n, rfl, rfl, hs, ha, hy, sl, sd, hn, q⟩ := h
  unfold idxM at hn
  cases hj : idxOf d ds with
  | none => rw [hj] at hn; cases hn
  | some j =>
    rw [hj] at hn
    cases hn
    cases rx
    obtain ⟨u, rfl, ru⟩ := rv.one
    obtain ⟨bs, r1⟩ := Dp.reads I d y u hy ru
    have hxs : PyData.canLayAll0 ds = true := SeqAt.canLay_of_shaped sl
    have hroom : X.A.units + 1 + min (PyData.depthAll ds) d.depth < cLine := room_in_shaped sd hu
    obtain ⟨its, rr, ⟨⟨cls, dd, data, sls⟩, ho, hc, n, hdt⟩, hlen⟩ := I.tuple hs
    simp only at hc hdt
    subst hc hdt
    obtain ⟨as, h4⟩ := Dp.readsAll I ds _ its ha rr
    have hn : its.length = ds.length := SeqAt.ReadsAll.length ds its as h4
    have hmap : its.map (SeqAt.readOf s.heap) = ds := SeqAt.readsAll_map ds its as hxs h4
    obtain ⟨w, h1, h2, h3⟩ := idxOf_spec hj
    obtain ⟨hjd, _⟩ := List.getElem?_eq_some_iff.mp h1
    have hja : j < its.toArray.size := by rw [List.size_toArray]; omega
    have at_ : ∀ (m : Nat) (hm : m < its.toArray.size) (z' : PyData), ds[m]? = some z' → SeqAt.readOf s.heap its.toArray[m] = z' := by
      intro m hm z' hz'
      have hml : m < its.length := by simpa using hm
      rw [← hmap, List.getElem?_map, List.getElem?_eq_getElem hml] at hz'
      have e1 : SeqAt.readOf s.heap its[m] = z' := Option.some.inj (show some (SeqAt.readOf s.heap its[m]) = some z' from hz')
      simpa using e1
    refine call_meets PySem.F.slot_tuple_index ⟨_, ho, rfl⟩ PySem.F.entry_tuple_index (PySem.F.args_tuple_index_2 _ _)
      (TI.tuple_indexAt a its.toArray n dd sls u (fun u => PyData.eqv (SeqAt.readOf s.heap u) d) j hja ?_ ?_) ⟨ho, SeqAt.items_eqAt (vs := its.toArray) (show ReadsAll s.heap its.toArray.toList ds as from h4) r1 hxs (SeqAt.canLay_of_shaped sd) hroom, ?_⟩
    · show PyData.eqv (SeqAt.readOf s.heap its.toArray[j]) d = true
      rw [at_ j hja w h1]; exact h2
    · intro m hm hmj
      have hmd : m < ds.length := by omega
      have hz' : ds[m]? = some ds[m] := List.getElem?_eq_getElem hmd
      show PyData.eqv (SeqAt.readOf s.heap its.toArray[m]) d = false
      rw [at_ m hm _ hz']
      exact h3 m _ hmj hz'
    · exact ⟨.int (j : Nat), H, I.tok _, ⟨_, rfl⟩, q⟩
def tupGF (m : List D → D → Option Int) (i : Nat) (g : Rho → R D) : Rho → R D := fun ρ => match ρ[i]? with
  | some (some (.gr (.tuple [_, .tuple es]))) => (do let y ← g ρ; if SeqAt.shaped (.tuple es) = true ∧ SeqAt.shaped y = true then R.of ((m es y).map .int) else .bad)
  | _ => .bad
section
variable {X : Cx} {ca : CA} {W : WX} {o e : Expr} {g : Rho → R D} {pos p p2 apos cpos : Pos} {i j k : Nat} {m : List D → D → Option Int} {name : Str} {id : String}
theorem fe_tupM (slot : Slot "tuple" name id) (hty : typeOf (.builtin id) = pure (.type "method_descriptor")) (hm : MtR X id (rTupG X.K m)) (hv : PE X o (tVar i)) (ha : FE X ca W g e)
    (hbase : attributeBase (.Subscript o (.Constant (.int 1) j p) p2) name X.env (eval (.Subscript o (.Constant (.int 1) j p) p2) X.env) = eval (.Subscript o (.Constant (.int 1) j p) p2) X.env)
    (hfew : ((backTo cpos (starEach [e] X.env)).all (fun x => !x.1) && (backToKw cpos (keywordEach [] X.env)).all (fun x => x.1.isSome) && decide ([e].length + ([] : List Keyword).length + (if ([] : List Keyword).isEmpty then 0 else 1) < 30)) = true)
    (hline : (apos.endLine == cpos.line) = true) (hs : starEach [e] X.env = (false, eval e X.env) :: starEach [] X.env) (hplain : (backTo cpos (starEach [] X.env)).any (·.1) = false) :
    FE X ca W (tupGF m i g) (.Call (.Attribute (.Subscript o (.Constant (.int 1) j p) p2) name apos) [e] [] cpos) :=
  PEimp (pe_bmT slot hty hm (pe_ix ix_tup hv (pe_int (i := 1)) (fun _ _ => rfl)) (pa_cons ha pa_nil hs) hbase hfew hline hs hplain) fun σ H Q ⟨G, ρ, env, q⟩ => by
    unfold tupGF at q
    split at q
    · rename_i z es hz
      obtain ⟨v, h1, h2, a, x, t, ob, vs, n, es', rfl, h3, h4, h5, h6, h7, h8⟩ := env.gr hz
      cases h3
      refine ⟨.ref a, h1, a, [x, .ref t], 1, .ref t, rfl, rfl, ex_t env.ext h4, rfl, ⟨t, ob, vs, rfl, env.ext t _ h5, h6, h7⟩, G, ρ, env, ?_⟩
      have q1 : ARes X.K ca W σ G H (fun d => ∀ v G' H', Ext G H G' H' → Dp X.K G' v d → Q v H') (do let y ← g ρ; if SeqAt.shaped (.tuple es) = true ∧ SeqAt.shaped y = true then R.of ((m es y).map .int) else .bad) := q
      refine q1.bind.imp fun y q w G1 H1 e1 dy => ?_
      by_cases zz : SeqAt.shaped (.tuple es) = true ∧ SeqAt.shaped y = true
      · rw [if_pos zz] at q
        cases hn : m es y with
        | none => rw [hn] at q; exact q.elim
        | some c =>
          rw [hn] at q
          exact ⟨t, w, y, vs, es, c, rfl, rfl, ex_t e1.gh (Or.inl (Or.inr ⟨ob, e1.g t _ h5⟩)), DpAll.ex (e1.g.trans e1.gh) _ h8, Dp.ex e1.gh y dy, zz.1, zz.2, hn, q _ G1 H1 e1 (.int _)⟩
      · rw [if_neg zz] at q; exact q.elim
    · exact q.elim
theorem fe_countT (hr : Room k X.A) (hv : PE X o (tVar i)) (ha : FE X ca W g e)
    (hbase : attributeBase (.Subscript o (.Constant (.int 1) j p) p2) "count" X.env (eval (.Subscript o (.Constant (.int 1) j p) p2) X.env) = eval (.Subscript o (.Constant (.int 1) j p) p2) X.env := by rfl)
    (hfew : ((backTo cpos (starEach [e] X.env)).all (fun x => !x.1) && (backToKw cpos (keywordEach [] X.env)).all (fun x => x.1.isSome) && decide ([e].length + ([] : List Keyword).length + (if ([] : List Keyword).isEmpty then 0 else 1) < 30)) = true := by rfl)
    (hline : (apos.endLine == cpos.line) = true := by rfl) (hs : starEach [e] X.env = (false, eval e X.env) :: starEach [] X.env := by rfl) (hplain : (backTo cpos (starEach [] X.env)).any (·.1) = false := by rfl) :
    FE X ca W (tupGF cntM i g) (.Call (.Attribute (.Subscript o (.Constant (.int 1) j p) p2) "count" apos) [e] [] cpos) := fe_tupM PySem.F.slot_tuple_count PySem.F.type_tuple_count (mt_cntT (hu65 hr)) hv ha hbase hfew hline hs hplain
theorem fe_indexT (hr : Room k X.A) (hv : PE X o (tVar i)) (ha : FE X ca W g e)
    (hbase : attributeBase (.Subscript o (.Constant (.int 1) j p) p2) "index" X.env (eval (.Subscript o (.Constant (.int 1) j p) p2) X.env) = eval (.Subscript o (.Constant (.int 1) j p) p2) X.env := by rfl)
    (hfew : ((backTo cpos (starEach [e] X.env)).all (fun x => !x.1) && (backToKw cpos (keywordEach [] X.env)).all (fun x => x.1.isSome) && decide ([e].length + ([] : List Keyword).length + (if ([] : List Keyword).isEmpty then 0 else 1) < 30)) = true := by rfl)
    (hline : (apos.endLine == cpos.line) = true := by rfl) (hs : starEach [e] X.env = (false, eval e X.env) :: starEach [] X.env := by rfl) (hplain : (backTo cpos (starEach [] X.env)).any (·.1) = false := by rfl) :
    FE X ca W (tupGF idxM i g) (.Call (.Attribute (.Subscript o (.Constant (.int 1) j p) p2) "index" apos) [e] [] cpos) := fe_tupM PySem.F.slot_tuple_index PySem.F.type_tuple_index (mt_idxT (hu65 hr)) hv ha hbase hfew hline hs hplain
end
theorem fe_bad {X : Cx} {ca : CA} {W : WX} {e : Expr} : FE X ca W (fun _ => .bad) e := ⟨fun pins s σ H Q I ⟨_, _, _, q⟩ => False.elim q⟩
end FE

namespace FE
open PySem L2 PyProof.Rows PySem.Spec
/-! ## a, b = x, y: both new lists that the def will change -/
def unpLL (i j : Nat) (f g : Rho → R (List D)) : Rho → Out := fun ρ => (f ρ).out fun a => (g ρ).out fun b => .nx ((ρ.set i (some (.ow a))).set j (some (.ow b)))
section
variable {X : Cx} {ca : CA} {W : WX} {a b tg : Expr} {f g : Rho → R (List D)} {pos p : Pos} {i j : Nat}
theorem fs_unpLL {x1} (hij : i ≠ j) (ha : FL X ca W f a) (hb : FL X ca W g b) (hg : PG X tg (gTup X.K 2 (gCons (gName i) (gCons (gName j) gNil))))
    (h1 : starEach [a, b] X.env = (false, eval a X.env) :: starEach [b] X.env := by rfl) (h2 : starEach [b] X.env = (false, eval b X.env) :: starEach [] X.env := by rfl)
    (hs : swapsWithSole [tg] (.Tuple [a, b] x1 p) pos.line X.env = pure false := by rfl) (hw : swappedStores [tg] (.Tuple [a, b] x1 p) X.env = pure none := by rfl)
    (h3 : (assignEach [tg] X.env).map (·.2) = [assign tg X.env] := by rfl) : FS X ca W (unpLL i j f g) (.Assign [tg] (.Tuple [a, b] x1 p) pos) :=
  PSimp (ps_asg (pe_tup (pa_cons ha (pa_cons hb pa_nil h2) h1)) hg hs hw h3) fun Dn σ H ⟨G0, H0, G, ρ, s, q⟩ => by
    have q1 : ARes X.K ca W σ G H (fun x => SRes X.K ca W Dn G0 H0 ((g ρ).out fun b => .nx ((ρ.set i (some (.ow x))).set j (some (.ow b))))) (f ρ) := SRes.out s q
    refine ⟨G, ρ, s.env, q1.imp fun x q u vs G1 H1 e1 hp gp hl dv => ⟨G1, ρ, s.env.mono e1, ?_⟩⟩
    refine (SRes.out s q).mono e1 fun y q u2 vs2 G2 H2 e2 hp2 gp2 hl2 dv2 => ⟨(by show (2 : Nat) ≤ sizeLine; decide), fun t ht => ?_⟩
    -- the tuple stands in the heap alone
    have e3 : Ext G2 H2 G2 (upd H2 t (.tup [.ref u, .ref u2])) := ⟨Ex.refl _, Ex.new ht, Ex.mut e2.gh (e2.gh.back ht), fun _ z _ => z⟩
    refine ⟨t, [.ref u, .ref u2], rfl, Or.inl (Or.inl upd_same), rfl, ?_⟩
    have s1 := s.set_ow (i := i) e1 hp gp hl dv
    have s2 := s1.set_ow (i := j) e2 hp2 gp2 hl2 dv2
    exact ⟨.ref u, [.ref u2], rfl, .ref u2, [], rfl, rfl, q _ G2 _ (s2.mono e3)⟩
end
end FE

namespace FE
open PySem L2 PyProof.Rows PySem.Spec
/-! ## sorted(set(xs)), xs a list of pairs of small ints -/
abbrev Pr := Int × Int
def prE (e : Pr) : D := .tuple [.int e.1, .int e.2]
def pair? : D → Option Pr
  | .tuple [.int a, .int b] => if 0 ≤ a ∧ a < 64 ∧ 0 ≤ b ∧ b < 64 then some (a, b) else none
  | _ => none
def pairs? : List D → Option (List Pr)
  | [] => some []
  | d :: ds => match pair? d, pairs? ds with
    | some e, some es => some (e :: es)
    | _, _ => none
def ddP : List Pr → List Pr
  | [] => []
  | x :: xs => if x ∈ xs then ddP xs else x :: ddP xs
theorem mem_ddP {y : Pr} : ∀ {xs : List Pr}, y ∈ ddP xs ↔ y ∈ xs
  | [] => Iff.rfl
  | x :: xs => by
    unfold ddP
    split
    · rename_i h
      rw [mem_ddP, List.mem_cons]
      exact ⟨Or.inr, fun z => z.elim (fun e => by rw [e]; exact h) id⟩
    · rw [List.mem_cons, List.mem_cons, mem_ddP]
theorem ddP_nodup : ∀ (xs : List Pr), (ddP xs).Nodup
  | [] => List.nodup_nil
  | x :: xs => by
    unfold ddP
    split
    · exact ddP_nodup xs
    · rename_i h
      exact List.nodup_cons.mpr ⟨fun z => h (mem_ddP.mp z), ddP_nodup xs⟩
def sortsetPD : D → Option D
  | .list ds => match pairs? ds with
    | some es => if es.length < 64 then some (.list (isort ((ddP es).map prE))) else none
    | none => none
  | _ => none
theorem pair_dp {K : PySem.W.Frag} {G : Hp} {v : V} {d : D} {e : Pr} (h : Dp K G v d) (he : pair? d = some e) : d = prE e ∧ (0 ≤ e.1 ∧ e.1 < 64 ∧ 0 ≤ e.2 ∧ e.2 < 64) ∧ ∃ a, v = .ref a ∧ SqT K G a ([e.1, e.2].map V.int) := by
  unfold pair? at he
  split at he
  · rename_i a b
    obtain ⟨z, rfl⟩ := ite_some he
    cases h with
    | tup h1 h2 =>
      cases h2 with
      | cons k1 k2 =>
        cases k2 with
        | cons k3 k4 =>
          cases k4
          cases k1
          cases k3
          exact ⟨rfl, z, _, rfl, h1⟩
  · cases he
theorem pairs_dp {K : PySem.W.Frag} {G : Hp} : ∀ {vs : List V} {ds : List D} {es : List Pr}, DpAll K G vs ds → pairs? ds = some es → ∃ ks : List (Addr × Pr), vs = ks.map (fun p => V.ref p.1) ∧ ks.map (·.2) = es ∧ ∀ p ∈ ks, SqT K G p.1 ([p.2.1, p.2.2].map V.int) ∧ (0 ≤ p.2.1 ∧ p.2.1 < 64 ∧ 0 ≤ p.2.2 ∧ p.2.2 < 64)
  | _, _, es, .nil, h => by
    cases h
    exact ⟨[], rfl, rfl, fun p hp => by cases hp⟩
  | _, _, es, .cons (d := d) (ds := ds) h t, he => by
    unfold pairs? at he
    split at he
    · rename_i e es' h1 h2
      cases he
      obtain ⟨k1, k2, a, k3, k4⟩ := pair_dp h h1
      obtain ⟨ks, j1, j2, j3⟩ := pairs_dp t h2
      refine ⟨(a, e) :: ks, by rw [j1, k3]; rfl, by rw [← j2]; rfl, fun p hp => ?_⟩
      rcases List.mem_cons.mp hp with z | hp
      · rw [z]; exact ⟨k4, k2⟩
      · exact j3 p hp
    · cases he
theorem le_prE {a b : Pr} : leD' (prE a) (prE b) ↔ a.1 < b.1 ∨ (a.1 = b.1 ∧ a.2 ≤ b.2) := by
  unfold leD' isLt prE
  simp only [ordO, ordL]
  rw [show compare b.1 a.1 = if b.1 < a.1 then Ordering.lt else if b.1 = a.1 then .eq else .gt by simp only [compare, compareOfLessAndEq], show compare b.2 a.2 = if b.2 < a.2 then Ordering.lt else if b.2 = a.2 then .eq else .gt by simp only [compare, compareOfLessAndEq]]
  by_cases c1 : b.1 < a.1
  · rw [if_pos c1]; simp; omega
  · rw [if_neg c1]
    by_cases c2 : b.1 = a.1
    · rw [if_pos c2]
      by_cases c3 : b.2 < a.2
      · rw [if_pos c3]; simp; omega
      · rw [if_neg c3]
        by_cases c4 : b.2 = a.2
        · rw [if_pos c4]; simp; omega
        · rw [if_neg c4]; simp; omega
    · rw [if_neg c2]; simp; omega
section
variable {X : Cx} {ca : CA} {W : WX} {e a b : Expr} {f g h : Rho → R D} {pos p p2 q2 : Pos} {k : Nat}
theorem tSetP_sem {r2 : List V → Hp → VK → Prop} {g1 : D → Option D} (hr : ∀ (G H : Hp) (x : V) (d d' : D) (Q : VK), Ex G H → DpB X.K G H x d → g1 d = some d' → (∀ v G' H', Ext G H G' H' → Dp X.K G' v d' → Q v H') → rSetOfT X.K X.prog X.w [x] H fun y H1 => r2 [y] H1 Q) {σ : L2.St} {H : Hp} {Q : VK} (q : tSem X.K ca W (fn1 g1 f) σ H Q) :
    tCB r2 (tCons (tCB (rSetOfT X.K X.prog X.w) (tCons (tSemB X.K ca W f) tNil)) tNil) σ H Q := by
  obtain ⟨G, ρ, env, q⟩ := q
  refine ⟨G, ρ, env, q.bind.imp fun d q v G1 H1 e1 dv => ?_⟩
  cases hg : g1 d with
  | none => rw [hg] at q; exact q.elim
  | some c => rw [hg] at q; exact hr G1 H1 v d c Q e1.gh dv hg fun v G' H' e dv => q v G' H' (e1.trans e) dv
theorem fe_sortsetP (hr : Room k X.A) (hc : X.calm = true) (hg : Gl X "sorted") (hm : X.mg "sorted" = none) (hg2 : Gl X "set") (hm2 : X.mg "set" = none) (ha : FB X ca W f a) (hs : starEach [a] X.env = (false, eval a X.env) :: starEach [] X.env := by rfl)
    (hs2 : starEach [.Call (.Name "set" p2) [a] [] q2] X.env = (false, eval (.Call (.Name "set" p2) [a] [] q2) X.env) :: starEach [] X.env := by rfl) : FE X ca W (fn1 sortsetPD f) (.Call (.Name "sorted" p) [.Call (.Name "set" p2) [a] [] q2] [] pos) :=
  PEimp (pe_callB (cr_sortedT hc) hg hm boot_sorted (pa_cons (pe_callTy (cr_setOfT hc (hu64 hr)) hg2 hm2 boot_set (pa_cons (te := tSemB X.K ca W f) ha pa_nil hs) (he := hs)) pa_nil hs2) (he := hs2)) fun σ H Q q => tSetP_sem (fun G H x d d' Q e dx hg k => by
    unfold sortsetPD at hg
    split at hg
    · rename_i ds
      split at hg
      · rename_i es hes
        obtain ⟨z, rfl⟩ := ite_some hg
        obtain ⟨l, vs, rfl, h1, h2⟩ := Dp.lst_of dx
        obtain ⟨ks, k1, k2, k3⟩ := pairs_dp h2 hes
        have e1 : vs = (ks.map fun p => ((p.1, [p.2.1, p.2.2]) : Addr × List Int)).map fun p => V.ref p.1 := by rw [k1, List.map_map]; rfl
        have hin : ∀ p ∈ (ks.map fun p => ((p.1, [p.2.1, p.2.2]) : Addr × List Int)), ∃ e : Pr, e ∈ es ∧ p.2 = [e.1, e.2] ∧ SqT X.K G p.1 (p.2.map V.int) ∧ (0 ≤ e.1 ∧ e.1 < 64 ∧ 0 ≤ e.2 ∧ e.2 < 64) := fun p hp => by
          obtain ⟨q, hq, rfl⟩ := List.mem_map.mp hp
          exact ⟨q.2, by rw [← k2]; exact List.mem_map.mpr ⟨q, hq, rfl⟩, rfl, (k3 q hq).1, (k3 q hq).2⟩
        have hlen : (ks.map fun p => ((p.1, [p.2.1, p.2.2]) : Addr × List Int)).length < 64 := by
          rw [List.length_map]
          have := congrArg List.length k2
          rw [List.length_map] at this; omega
        refine ⟨l, ks.map fun p => (p.1, [p.2.1, p.2.2]), rfl, by rw [← e1]; exact h1, fun p hp => ?_, hlen, fun r L hr hL hall => ?_⟩
        · obtain ⟨e', _, _, h4, _⟩ := hin p hp
          exact ex_t e h4
        · have eH : Ext G H G (upd H r (SetTO X.prog X.w r L)) := Ext.own e hr
          refine ⟨r, L, 2, 64, rfl, upd_same, fun p hp => ?_, by decide, fun p hp => ?_, fun L' t pm nd l64 srt ht => ?_⟩
          · obtain ⟨e', _, _, h4, _⟩ := hin p (hL p hp)
            exact ex_t eH.gh h4
          · obtain ⟨e', _, h3, _, h5⟩ := hin p (hL p hp)
            rw [h3]
            refine ⟨rfl, fun x hx => ?_⟩
            have : x = e'.1 ∨ x = e'.2 := by simpa using hx
            rcases this with w | w <;> (rw [w]; omega)
          · -- L' lists the pairs, each once, in order
            let pr : Addr × List Int → Pr := fun p => (p.2.getD 0 0, p.2.getD 1 0)
            have hpr : ∀ p ∈ L', p.2 = [(pr p).1, (pr p).2] ∧ pr p ∈ es ∧ SqT X.K G p.1 ([(pr p).1, (pr p).2].map V.int) ∧ (0 ≤ (pr p).1 ∧ (pr p).1 < 64 ∧ 0 ≤ (pr p).2 ∧ (pr p).2 < 64) := fun p hp => by
              obtain ⟨e', h2', h3, h4, h5⟩ := hin p (hL p (pm.mem_iff.mp hp))
              have : pr p = e' := by show (p.2.getD 0 0, p.2.getD 1 0) = e'; rw [h3]; rfl
              rw [this]
              exact ⟨h3, h2', by rw [h3] at h4; exact h4, h5⟩
            have nd2 : (L'.map pr).Nodup := by
              refine List.pairwise_map.mpr ((List.pairwise_map.mp nd).imp_of_mem fun {a b} ha hb hab he => ?_)
              exact hab (by rw [(hpr a ha).1, (hpr b hb).1, he])
            have pmd : (L'.map pr).Perm (ddP es) := (List.perm_ext_iff_of_nodup nd2 (ddP_nodup es)).mpr fun x => by
              rw [mem_ddP]
              constructor
              · intro hx
                obtain ⟨p, hp, rfl⟩ := List.mem_map.mp hx
                exact (hpr p hp).2.1
              · intro hx
                rw [← k2] at hx
                obtain ⟨q, hq, hqx⟩ := List.mem_map.mp hx
                have := hall (q.1, [q.2.1, q.2.2]) (List.mem_map.mpr ⟨q, hq, rfl⟩)
                obtain ⟨p, hp, hp2⟩ := List.mem_map.mp this
                have hp' := pm.mem_iff.mpr hp
                refine List.mem_map.mpr ⟨p, hp', ?_⟩
                have h1 := (hpr p hp').1
                rw [hp2] at h1
                have h2 : q.2.1 = (pr p).1 ∧ q.2.2 = (pr p).2 := by simpa using h1
                rw [← hqx]
                exact Prod.ext h2.1.symm h2.2.symm
            have srt2 : ((L'.map pr).map prE).Pairwise leD' := by
              rw [List.map_map, List.pairwise_map]
              refine srt.imp_of_mem fun {a b} ha hb hab => ?_
              have h1 := hpr a ha
              have h2 := hpr b hb
              rw [h1.1, h2.1, code_pair, code_pair] at hab
              refine le_prE.mpr ?_
              omega
            have od' : ∀ y ∈ (ddP es).map prE, od y = true := fun y hy => by
              obtain ⟨w, _, rfl⟩ := List.mem_map.mp hy
              simp [prE, od, odL]
            have eI : (L'.map pr).map prE = isort ((ddP es).map prE) := isort_unique od' (pmd.map prE) srt2
            have dL : DpAll X.K G (L'.map fun q => V.ref q.1) ((L'.map pr).map prE) := by
              have : ∀ M : List (Addr × List Int), (∀ p ∈ M, p ∈ L') → DpAll X.K G (M.map fun q => V.ref q.1) ((M.map pr).map prE) := fun M => by
                induction M with
                | nil => intro _; exact .nil
                | cons m M ih =>
                  intro hM
                  refine .cons (.tup (hpr m (hM m List.mem_cons_self)).2.2.1 (.cons (.int _) (.cons (.int _) .nil))) (ih fun q hq => hM q (List.mem_cons_of_mem _ hq))
              exact this L' fun p hp => hp
            rw [eI] at dL
            have N := Dp.newl eH.gh ht dL
            exact k _ _ _ (eH.trans N.1) N.2
      · cases hg
    · cases hg) q
end
end FE

namespace FE
open PySem L2 PyProof.Rows PySem.Spec
/-! ## try with several clauses `except C as e` -/
abbrev ClT := Addr → Value → Option Addr → TS
/-- behind a suite its name is gone -/
def goneE (i : Nat) (D : Ends) : Ends := { nx := fun σ H => D.nx (σ.set i none) H, rt := D.rt, bk := fun σ H => D.bk (σ.set i none) H, ct := fun σ H => D.ct (σ.set i none) H }
def wAsM (K : PySem.W.Frag) (i : Nat) (Wout : WX) (D : Ends) : List (Value × ClT) → WX
  | [] => Wout
  | (c, ts) :: r => fun cls d σ H => ∃ b, PySem.W.exmOne K cls c = some b ∧ (b = true → ∀ a, H a = none → ts a cls d (goneE i D) (σ.set i (some (.ref a))) H) ∧ (b = false → wAsM K i Wout D r cls d σ H)
inductive ClsAs (X : Cx) (n : Str) : List ExceptHandler → List (Value × ClT) → Prop
  | nil : ClsAs X n [] []
  | cons {x : Str} {c : Value} {ts : ClT} {b : Stmt} {suite : List Stmt} {p q : Pos} {hds : List ExceptHandler} {l : List (Value × ClT)} (hc : Names X x c)
      (hsu : ∀ (a : Addr) (oe : Obj) (cls : Value) (d : Option Addr) (pn : List (Addr × Obj)), Zc cls d oe → (∃ vs, oe.data = .fields vs) → PSs (X.suite a ((a, oe) :: pn)) (b :: suite) (ts a cls d)) (r : ClsAs X n hds l) :
      ClsAs X n (.ExceptHandler (some (.Name x p)) (some n) (b :: suite) q :: hds) ((c, ts) :: l)
section
variable {X : Cx} {n : Str} {i : Nat} {body : List Stmt} {hd₀ : ExceptHandler} {hds : List ExceptHandler} {l : List (Value × ClT)} {pos : Pos} {tb : WX → TS} {Wout : WX}
/-- how a flow that left a suite or the body reaches the end -/
theorem ps_try_asM (hs : X.stack = X.env :: X.outer) (hf : X.env.frame = some X.env.locals) (hN : X.N.Nodup) (hi : X.N[i]? = some n) (hln : X.env.kindOf n = some .local) (tk : Takes X Wout)
    (hb : ∀ (W : WX) (pn : List (Addr × Obj)) (xe : Value → Shared → Prop), Takes (X.tr pn xe) W → PassesOwn (model X.prog X.w) X.A X.env xe → PSs (X.tr pn xe) body (tb W)) (hh : ClsAs X n (hd₀ :: hds) l) :
    PS X (.Try body (hd₀ :: hds) [] [] pos) (fun D σ H => tb (wAsM X.K i Wout D l) D σ H) := by
  constructor
  intro pins s σ H D I h
  have ok := I.ok
  have hfr : X.A.frames = some (X.env :: X.outer) := by rw [ok.frames, hs]
  have hloc : Loc X.env.scope n := .inl hln
  have leave : ∀ {f : Flow} {s1 : Shared}, SP (X.tr (X.pn ++ pins) (fun e s₁ => wpAny (model X.prog X.w) X.A (noteFrame e X.env) (fun _ s₂ => wpAny (model X.prog X.w) X.A (setFlight e none) (fun _ s₃ => wpAny (model X.prog X.w) X.A (handleBy e X.env (hd₀ :: hds)) (SP X pins D) X.xe s₃) X.xe s₂) X.xe s₁)) [] D f s1 → SP X pins D f s1 := fun {f s1} k => by
    cases f with
    | next => obtain ⟨a, b, c, q⟩ := k; exact ⟨a, b, c.ofTry ok, q⟩
    | brk => obtain ⟨a, b, c, q⟩ := k; exact ⟨a, b, c.ofTry ok, q⟩
    | cont => obtain ⟨a, b, c, q⟩ := k; exact ⟨a, b, c.ofTry ok, q⟩
    | ret u => obtain ⟨v, a, b, c, r, q⟩ := k; exact ⟨v, a, b, c.ofTry ok, r, q⟩
  refine wpAny_Try_except (wpAny_mono ((hb (wAsM X.K i Wout D l) (X.pn ++ pins) _ (fun u s' xx => ?_) PassesOwn.looking).run [] s σ H D (I.toTry _) h) (fun f s1 k => ?_) (fun _ _ he => he))
  · obtain ⟨a, B, sI, pins', σ', H', cls, d, rfl, J', nb, up, sky, na, os, ag, w⟩ := xx
    have J : Inv X pins σ' H' sI := J'.ofTry ok
    have sky' : Sky B (X.env :: X.outer) a (Zc cls d) X.env.locals s'.heap := by rw [← hs]; exact sky
    show wpAny (model X.prog X.w) X.A (noteFrame (.ref a) X.env) _ _ _
    refine Sky.land Zc.steady hfr hf sky' fun h3 fl3 up3 => ?_
    have J3 : Inv X pins σ' H' { s' with heap := h3 } := J.landed nb fl3.1 (up.trans up3) os ag
    obtain ⟨oe3, vs3, he3, hz3, hd3⟩ := fl3.there
    have nfr : a ∉ frs (X.env :: X.outer) := fun hm => by
      obtain ⟨_, o', e', hnf⟩ := fl3.2.2.1.mem hm
      rw [he3] at e'; cases e'
      exact hnf _ hd3
    have nL : a ≠ X.env.locals := fun z => nfr (List.mem_filterMap.mpr ⟨X.env, List.mem_cons_self, by rw [hf, z]⟩)
    have nF : a ∉ X.fs := fun hm => by
      obtain ⟨e, he, q⟩ := List.mem_filterMap.mp hm
      exact nfr (List.mem_filterMap.mpr ⟨e, List.mem_cons_of_mem _ he, q⟩)
    have S3 := J3.suite he3 hd3 na nL nF
    have go : ∀ {hs' : List ExceptHandler} {l' : List (Value × ClT)}, ClsAs X n hs' l' → wAsM X.K i Wout D l' cls d σ' H' → wpAny (model X.prog X.w) X.A (handleBy (.ref a) X.env hs') (SP X pins D) X.xe { s' with heap := h3 } := by
      intro hs' l' hk
      induction hk with
      | nil =>
        intro w
        refine wpAny_handleBy_nil ?_
        obtain ⟨_, _, _, oe, vs, T, oT, ts', he, hz, hd, h1, hr⟩ := id fl3
        unfold PySem.passOn
        refine wpAny_bind (wpAny_field he hd h1 ?_)
        rw [if_neg (show ¬ ((Value.ref T == Value.none) = true) from by simp)]
        have fin : wpAny (model X.prog X.w) X.A (setFlight (.ref a) X.env.frame) (fun _ s4 => wpAny (model X.prog X.w) X.A (throw (.ref a) : Sem Flow) (SP X pins D) X.xe s4) X.xe { s' with heap := h3 } := by
          rw [hf]
          exact HandSPX.setFlight_upZ fl3 fun h4 hh4 up4 => wpAny_throw (tk _ _ ⟨a, B, sI, pins, σ', H', cls, d, rfl, J, nb, (up.trans up3).trans up4, .inr (.inr (by rw [hs]; exact hh4)), na, os, ag, w⟩)
        first
          | exact wpAny_bind (wpAny_pure (wpAny_bind fin))
          | exact wpAny_bind fin
      | @cons x c ts b suite p q hds2 l2 hc hsu r ih =>
        rintro ⟨t, ht, hyes, hno⟩
        refine wpAny_handleBy_cons (codeAny_handlers_test ?_) (by intro q; cases q)
        have LT : PySem.W.Looks (model X.prog X.w) h3 (typeOf (.ref a)) cls := fun A Q E s k q => wpAny_typeOf_ref (k _ _ he3) (by rw [hz3.1]; exact q)
        have LM := PySem.W.exm_one (M := model X.prog X.w) (J3.kIn) LT ht
        have named : ∀ {Q : Value → Shared → Prop} {E : Value → Shared → Prop}, Q c { s' with heap := h3 } → wpAny (model X.prog X.w) (X.A.mark (some (.ref a))) (eval (.Name x p) X.env) Q E { s' with heap := h3 } := fun {Q E} q => by
          obtain ⟨hg, hdbg, hm | ⟨hm, hv, hnn⟩⟩ := hc
          · exact ld_glob (X := X.suite a ((a, oe3) :: (X.pn ++ pins))) S3 hg hm q hdbg
          · exact ld_blt (X := X.suite a ((a, oe3) :: (X.pn ++ pins))) S3 hg hm hv q hnn hdbg
        refine named (LM.here ?_)
        cases t with
        | false =>
          show wpAny _ X.A (handleBy (.ref a) X.env hds2) _ _ _
          exact ih (hno rfl)
        | true =>
          refine codeAny_handlers_suite_as (HandSPX.lands_againZ fl3 fun h4 fl4 up4 => ?_)
          have J4 : Inv X pins σ' H' { s' with heap := h4 } := J.landed nb fl4.1 ((up.trans up3).trans up4) os ag
          obtain ⟨oe4, vs4, he4, hz4, hd4⟩ := fl4.there
          refine store_ok (X := X.suite a ((a, oe4) :: (X.pn ++ pins))) (v := .ref a) (J4.suite he4 hd4 na nL nF) hN hi hloc rfl (fun s5 S5 => ?_) (.inr hln)
          refine wpAny_mono ((hsu a oe4 cls d (X.pn ++ pins) hz4 ⟨_, hd4⟩).run [] s5 _ H' _ S5 (hyes rfl a na)) (fun f s6 k => ?_) (fun _ _ z => False.elim z)
          have out : ∀ {σ6 : L2.St} {H6 : Hp} {Q : Shared → Prop}, Inv (X.suite a ((a, oe4) :: (X.pn ++ pins))) [] σ6 H6 s6 → (∀ s7, Inv X pins (σ6.set i none) H6 s7 → Q s7) →
              wpAny (model X.prog X.w) X.A (do bindName X.env n .none; unbindBehindTheSuite X.env n q) (fun _ s7 => Q s7) X.xe s6 := fun {σ6 H6 Q} S6 hq => gone_ok (S6.unsuite ok) hN hi hln hq
          cases f with
          | next => obtain ⟨σ6, H6, S6, k6⟩ := k; exact out S6 fun s7 J7 => ⟨_, _, J7, k6⟩
          | brk => obtain ⟨σ6, H6, S6, k6⟩ := k; exact out S6 fun s7 J7 => ⟨_, _, J7, k6⟩
          | cont => obtain ⟨σ6, H6, S6, k6⟩ := k; exact out S6 fun s7 J7 => ⟨_, _, J7, k6⟩
          | ret u => obtain ⟨v6, σ6, H6, S6, r6, k6⟩ := k; exact out S6 fun s7 J7 => ⟨_, _, _, J7, r6, k6⟩
    exact go hh w
  · have k' := leave k
    cases f with
    | next => obtain ⟨a, b, c, q⟩ := k'; exact wpAny_execs_nil ⟨a, b, c, q⟩
    | brk => exact k'
    | cont => exact k'
    | ret u => exact k'
end
end FE

namespace FE
open PySem L2 PyProof.Rows PySem.Spec
/-! ## try with several clauses that return -/
abbrev Cl := Nat × (Nat → Addr → Rho → Out)
/-- which clause takes an exception of number k, and what it returns -/
def pickH (n i k : Nat) : List Cl → Out
  | [] => .exc ⟨k, none⟩
  | (c, h) :: r => if mOf c k = true then (match h k 0 (mk n i 0) with
      | .ret d => .ret d
      | _ => .bad) else pickH n i k r
def tryM (n i : Nat) (g : Rho → Out) (hs : List Cl) : Rho → Out := fun ρ => match g ρ with
  | .nx ρ' => .nx ρ'
  | .ret d => .ret d
  | .exc ⟨k, none⟩ => if k < 9 then pickH n i k hs else .bad
  | .exc ⟨k, some x⟩ => .bad
  | .bad => .bad
section
variable {X : Cx} {ca : CA} {W : WX}
inductive ClsR (X : Cx) (ca : CA) (n i : Nat) (nm : Str) : List ExceptHandler → List Cl → Prop
  | nil : ClsR X ca n i nm [] []
  | cons {x : Str} {c : Nat} {h : Nat → Addr → Rho → Out} {b : Stmt} {suite : List Stmt} {p q : Pos} {hds : List ExceptHandler} {l : List Cl} (T : ClsTxt X.K X.mg ca x c) (hg : Gl X x)
      (hsu : ∀ (k : Nat) (a : Addr) (oe : Obj) (pn : List (Addr × Obj)), k < 9 → Zc (.ref (ca k)) none oe → (∃ vs, oe.data = .fields vs) → FSs (X.suite a ((a, oe) :: pn)) ca W0 (h k a) (b :: suite))
      (hc : ∀ k a, h k a (mk n i a) = h k 0 (mk n i 0)) (r : ClsR X ca n i nm hds l) (hdb : (x == ("__debug__" : Str)) = false := by decide) :
      ClsR X ca n i nm (.ExceptHandler (some (.Name x p)) (some nm) (b :: suite) q :: hds) ((c, h) :: l)
def tsOf (K : PySem.W.Frag) (ca : CA) (n i : Nat) : List Cl → List (Value × ClT)
  | [] => []
  | (c, h) :: r => (.ref (ca c), tClause K ca n i c h) :: tsOf K ca n i r
theorem fs_tryM {n i : Nat} {nm : Str} {g : Rho → Out} {body : List Stmt} {hd₀ : ExceptHandler} {hds : List ExceptHandler} {l : List Cl} {pos : Pos} (hs : X.stack = X.env :: X.outer) (hf : X.env.frame = some X.env.locals) (hN : X.N.Nodup) (hlen : X.N.length = n) (hi : X.N[i]? = some nm) (hln : X.env.kindOf nm = some .local)
    (tk : Takes X W) (hb : ∀ (W' : WX) (pn : List (Addr × Obj)) (xe : Value → Shared → Prop), Takes (X.tr pn xe) W' → FSs (X.tr pn xe) ca W' g body) (hh : ClsR X ca n i nm (hd₀ :: hds) l) :
    FS X ca W (tryM n i g l) (.Try body (hd₀ :: hds) [] [] pos) := by
  have hin : i < n := by rw [← hlen]; exact (List.getElem?_eq_some_iff.mp hi).1
  have conv : ∀ {hs' : List ExceptHandler} {l' : List Cl}, ClsR X ca n i nm hs' l' → ClsAs X nm hs' (tsOf X.K ca n i l') := by
    intro hs' l' hk
    induction hk with
    | nil => exact .nil
    | @cons x c h b suite p q hds l T hg hsu hc r hdb ih =>
      refine .cons ⟨hg, hdb, Or.inl T.gP⟩ (fun a oe cls d pn hz hv => ⟨fun pins s σ H Dn I q => ?_⟩) ih
      obtain ⟨k, G0, H0, G, σ0, e1, e2, hk, hm, e3, e4, q⟩ := q
      subst e1 e2 e3
      refine (hsu k a oe pn hk hz hv).run pins s _ H Dn I ⟨G0, H0, G, mk n i a, ⟨mk_env e4.gh (by rw [← hlen]; exact I.len) hin, e4, fun j o r hj ho _ => ?_⟩, q⟩
      exfalso
      unfold mk at hj
      by_cases z : i = j
      · subst z
        rw [List.getElem?_set_self (by simpa using hin)] at hj
        cases hj; cases ho
      · rw [List.getElem?_set_ne z, List.getElem?_replicate] at hj
        split at hj
        · cases hj; cases ho
        · cases hj
  refine PSimp (ps_try_asM (i := i) (tb := fun W' => tSt X.K ca W' g) (l := tsOf X.K ca n i l) (Wout := W) hs hf hN hi hln tk (fun W' pn xe t _ => hb W' pn xe t) (conv hh)) fun Dn σ H ⟨G0, H0, G, ρ, s, q⟩ => ⟨G0, H0, G, ρ, s, ?_⟩
  unfold tryM at q
  cases hg2 : g ρ with
  | nx ρ' => rw [hg2] at q; exact q
  | ret d => rw [hg2] at q; exact q
  | bad => rw [hg2] at q; exact q
  | exc e =>
    obtain ⟨k, y⟩ := e
    cases y with
    | some y => rw [hg2] at q; exact q.elim
    | none =>
      rw [hg2] at q
      simp only at q
      by_cases hk : k < 9
      · rw [if_pos hk] at q
        intro cc dd' σ' G' H' e1 hx
        obtain ⟨hx1, hx2⟩ := hx
        have hx2' : dd' = none := hx2
        subst hx1 hx2'
        have go : ∀ {hs' : List ExceptHandler} {l' : List Cl}, ClsR X ca n i nm hs' l' → SRes X.K ca W Dn G0 H0 (pickH n i k l') → wAsM X.K i W Dn (tsOf X.K ca n i l') (.ref (ca k)) none σ' H' := by
          intro hs' l' hk'
          induction hk' with
          | nil => intro q; exact q _ _ σ' G' H' e1 ⟨rfl, rfl⟩
          | @cons x c h b suite p q' hds l T hg hsu hc r hdb ih =>
            intro q
            refine ⟨mOf c k, T.mP k hk, fun hm a ha => ?_, fun hm => ?_⟩
            · unfold pickH at q
              rw [if_pos hm] at q
              refine ⟨k, G0, H0, G', σ', rfl, rfl, hk, hm, rfl, e1, ?_⟩
              rw [hc]
              cases ho : h k 0 (mk n i 0) with
              | ret d => rw [ho] at q; exact q
              | nx ρ' => rw [ho] at q; exact q.elim
              | exc e => rw [ho] at q; exact q.elim
              | bad => rw [ho] at q; exact q.elim
            · unfold pickH at q
              rw [if_neg (by rw [hm]; decide)] at q
              exact ih q
        exact go hh q
      · rw [if_neg hk] at q; exact q.elim
end
end FE

namespace FE
open PySem L2 PyProof.Rows PySem.Spec
/-! ## a new list of new lists, each of which is added to in a loop; behind the loop it lasts -/
/-- the lists at qs hold the rows -/
def RowsOk (K : PySem.W.Frag) (H0 G H : Hp) (qs : List Addr) (rows : List (List D)) : Prop := qs.Nodup ∧ qs.length = rows.length ∧ ∀ (i : Nat) (q : Addr) (r : List D), qs[i]? = some q → rows[i]? = some r → H0 q = none ∧ G q = none ∧ ∃ ws, H q = some (.lst ws) ∧ DpAll K G ws r
theorem RowsOk.at {K : PySem.W.Frag} {H0 G H : Hp} {qs : List Addr} {rows : List (List D)} (h : RowsOk K H0 G H qs rows) {q : Addr} (hq : q ∈ qs) : H0 q = none ∧ G q = none ∧ ∃ ws, H q = some (.lst ws) := by
  obtain ⟨i, hi⟩ := List.mem_iff_getElem?.mp hq
  have hl := (List.getElem?_eq_some_iff.mp hi).1
  obtain ⟨a, b, ws, c, _⟩ := h.2.2 i q (rows[i]'(by rw [← h.2.1]; exact hl)) hi (List.getElem?_eq_getElem _)
  exact ⟨a, b, ws, c⟩
theorem RowsOk.mono {K : PySem.W.Frag} {H0 G H G' H' : Hp} {qs : List Addr} {rows : List (List D)} (h : RowsOk K H0 G H qs rows) (e : Ext G H G' H') : RowsOk K H0 G' H' qs rows := ⟨h.1, h.2.1, fun i q r h1 h2 => by
  obtain ⟨a, b, ws, c, d⟩ := h.2.2 i q r h1 h2
  exact ⟨a, e.new q b (by rw [c]; simp), ws, e.h q _ c, DpAll.ex e.g _ d⟩⟩
structure StN (K : PySem.W.Frag) (p : Addr) (qs : List Addr) (ib : Nat) (G0 H0 G H : Hp) (σ : L2.St) (ρ : Rho) (rows : List (List D)) : Prop where
  st : StOk K G0 H0 G H σ ρ
  np : H0 p = none
  gp : G p = none
  top : H p = some (.lst (qs.map V.ref))
  out : p ∉ qs
  rows : RowsOk K H0 G H qs rows
  noow : ∀ (i : Nat) (o : Option SV), ρ[i]? = some o → isOw o = false
  sl : σ[ib]? = some (some (.ref p))
inductive OutN where
  | nx (ρ : Rho) (rows : List (List D))
  | bad
def NRes (K : PySem.W.Frag) (ib : Nat) (Dn : Ends) (G0 H0 : Hp) : OutN → Prop
  | .nx ρ rows => ∀ p qs σ G H, StN K p qs ib G0 H0 G H σ ρ rows → Dn.nx σ H
  | .bad => False
def tN (K : PySem.W.Frag) (ib : Nat) (g : Rho → List (List D) → OutN) : TS := fun Dn σ H => ∃ p qs G0 H0 G ρ rows, StN K p qs ib G0 H0 G H σ ρ rows ∧ NRes K ib Dn G0 H0 (g ρ rows)
abbrev NS (X : Cx) (ib : Nat) (g : Rho → List (List D) → OutN) (st : Stmt) : Prop := PS X st (tN X.K ib g)
abbrev NSs (X : Cx) (ib : Nat) (g : Rho → List (List D) → OutN) (st : List Stmt) : Prop := PSs X st (tN X.K ib g)
theorem StN.mono {K : PySem.W.Frag} {p : Addr} {qs : List Addr} {ib : Nat} {G0 H0 G H G' H' : Hp} {σ : L2.St} {ρ : Rho} {rows : List (List D)} (s : StN K p qs ib G0 H0 G H σ ρ rows) (e : Ext G H G' H') : StN K p qs ib G0 H0 G' H' σ ρ rows :=
  ⟨s.st.mono e, s.np, e.new p s.gp (by rw [s.top]; simp), e.h p _ s.top, s.out, s.rows.mono e, s.noow, s.sl⟩
theorem StN.store {K : PySem.W.Frag} {p : Addr} {qs : List Addr} {ib : Nat} {G0 H0 G H : Hp} {σ σ' : L2.St} {ρ ρ' : Rho} {rows : List (List D)} (s : StN K p qs ib G0 H0 G H σ ρ rows) (env : EnvOk K G H σ' ρ') (n : ∀ (i : Nat) (o : Option SV), ρ'[i]? = some o → isOw o = false) (sl : σ'[ib]? = some (some (.ref p))) : StN K p qs ib G0 H0 G H σ' ρ' rows :=
  ⟨⟨env, s.st.ext, ownP_noow n⟩, s.np, s.gp, s.top, s.out, s.rows, n, sl⟩
theorem StN.forgets {K : PySem.W.Frag} {p : Addr} {qs : List Addr} {ib : Nat} {G0 H0 G H : Hp} {σ : L2.St} {ρ : Rho} {rows : List (List D)} (s : StN K p qs ib G0 H0 G H σ ρ rows) (vs : List Nat) : StN K p qs ib G0 H0 G H σ (wipeR ρ vs) rows := ⟨s.st.forgets vs, s.np, s.gp, s.top, s.out, s.rows, noow_wipe s.noow vs, s.sl⟩
/-- one row is added to -/
theorem StN.add {K : PySem.W.Frag} {p : Addr} {qs : List Addr} {ib : Nat} {G0 H0 G H : Hp} {σ : L2.St} {ρ : Rho} {rows : List (List D)} (s : StN K p qs ib G0 H0 G H σ ρ rows) {i : Nat} {q : Addr} {r : List D} {ws : List V} {v : V} {d : D} (h1 : qs[i]? = some q) (h2 : rows[i]? = some r) (hw : H q = some (.lst ws)) (hd : DpAll K G ws r) (dv : Dp K G v d) :
    StN K p qs ib G0 H0 G (upd H q (.lst (ws ++ [v]))) σ ρ (rows.set i (r ++ [d])) := by
  have hq := List.mem_of_getElem? h1
  obtain ⟨q0, qg, _⟩ := s.rows.at hq
  have npq : p ≠ q := fun z => s.out (z ▸ hq)
  have gh : Ex G (upd H q (.lst (ws ++ [v]))) := fun a o h => by
    have z : a ≠ q := fun z => by rw [z, qg] at h; cases h
    rw [upd_ne z]; exact s.st.env.ext a o h
  refine ⟨⟨s.st.env.noow_mono s.noow (Ex.refl _) gh, ⟨s.st.ext.g, fun a o h => ?_, gh, s.st.ext.new⟩, s.st.own⟩, s.np, s.gp, by rw [upd_ne npq]; exact s.top, s.out, ⟨s.rows.1, by rw [List.length_set]; exact s.rows.2.1, fun j q' r' hj hr => ?_⟩, s.noow, s.sl⟩
  · have z : a ≠ q := fun z => by rw [z, q0] at h; cases h
    rw [upd_ne z]; exact s.st.ext.h a o h
  · by_cases z : i = j
    · subst z
      rw [h1] at hj
      have hj := Option.some.inj hj
      subst hj
      rw [List.getElem?_set_self (List.getElem?_eq_some_iff.mp h2).1] at hr
      have hr := Option.some.inj hr
      subst hr
      exact ⟨q0, qg, _, upd_same, DpAll.app hd (.cons dv .nil)⟩
    · rw [List.getElem?_set_ne z] at hr
      obtain ⟨a, b, ws', c, d'⟩ := s.rows.2.2 j q' r' hj hr
      have zq : q' ≠ q := fun zq => by
        rw [zq] at hj
        obtain ⟨li, ei⟩ := List.getElem?_eq_some_iff.mp h1
        obtain ⟨lj, ej⟩ := List.getElem?_eq_some_iff.mp hj
        rcases Nat.lt_or_gt_of_ne z with w | w
        · exact List.pairwise_iff_getElem.mp s.rows.1 i j li lj w (ei.trans ej.symm)
        · exact List.pairwise_iff_getElem.mp s.rows.1 j i lj li w (ej.trans ei.symm)
      exact ⟨a, b, ws', by rw [upd_ne zq]; exact c, d'⟩
/-- from now on it lasts -/
theorem StN.freeze {K : PySem.W.Frag} {p : Addr} {qs : List Addr} {ib : Nat} {G0 H0 G H : Hp} {σ : L2.St} {ρ : Rho} {rows : List (List D)} (s : StN K p qs ib G0 H0 G H σ ρ rows) : ∃ G', StOk K G0 H0 G' H σ (ρ.set ib (some (.sh (.list (rows.map .list))))) := by
  let G' : Hp := fun a => if a ∈ p :: qs then H a else G a
  have inn : ∀ {a}, a ∈ p :: qs → G' a = H a := fun h => if_pos h
  have outn : ∀ {a}, a ∉ p :: qs → G' a = G a := fun h => if_neg h
  have none_ : ∀ {a}, a ∈ p :: qs → G a = none ∧ H0 a = none := fun {a} h => by
    rcases List.mem_cons.mp h with z | z
    · rw [z]; exact ⟨s.gp, s.np⟩
    · obtain ⟨x, y, _⟩ := s.rows.at z
      exact ⟨y, x⟩
  have gg : Ex G G' := fun a o h => by
    have z : a ∉ p :: qs := fun z => by rw [(none_ z).1] at h; cases h
    rw [outn z]; exact h
  have gh : Ex G' H := fun a o h => by
    by_cases z : a ∈ p :: qs
    · rw [inn z] at h; exact h
    · rw [outn z] at h; exact s.st.env.ext a o h
  have ext : Ext G0 H0 G' H := ⟨s.st.ext.g.trans gg, s.st.ext.h, gh, fun a h1 h2 => by
    have z : a ∉ p :: qs := fun z => h2 (none_ z).2
    rw [outn z]; exact s.st.ext.new a h1 h2⟩
  have dp : Dp K G' (.ref p) (.list (rows.map .list)) := by
    refine .lst (Or.inl (Or.inl (by rw [inn List.mem_cons_self]; exact s.top))) ?_
    have go : ∀ (qs' : List Addr) (rows' : List (List D)), qs'.length = rows'.length → (∀ q ∈ qs', q ∈ qs) → (∀ (i : Nat) (q : Addr) (r : List D), qs'[i]? = some q → rows'[i]? = some r → ∃ ws, H q = some (.lst ws) ∧ DpAll K G ws r) → DpAll K G' (qs'.map V.ref) (rows'.map .list) := by
      intro qs'
      induction qs' with
      | nil => intro rows' hl _ _; cases rows' with
        | nil => exact .nil
        | cons r rows' => cases hl
      | cons q qs' ih => intro rows' hl hm hr; cases rows' with
        | nil => cases hl
        | cons r rows' =>
          obtain ⟨ws, h1, h2⟩ := hr 0 q r rfl rfl
          refine .cons (.lst (Or.inl (Or.inl (by rw [inn (List.mem_cons_of_mem _ (hm q List.mem_cons_self))]; exact h1))) (DpAll.ex gg _ h2)) (ih rows' (by simpa using hl) (fun x hx => hm x (List.mem_cons_of_mem _ hx)) fun i q' r' a b => hr (i + 1) q' r' (by simpa using a) (by simpa using b))
    exact go qs rows s.rows.2.1 (fun q h => h) fun i q r a b => by
      obtain ⟨_, _, ws, c, d⟩ := s.rows.2.2 i q r a b
      exact ⟨ws, c, d⟩
  have env := s.st.env.noow_mono s.noow gg gh
  refine ⟨G', ⟨?_, ext, ?_⟩⟩
  · have hl : ib < ρ.length := by rw [← s.st.env.len]; exact (List.getElem?_eq_some_iff.mp s.sl).1
    have : σ.set ib (some (.ref p)) = σ := by
      apply List.ext_getElem?
      intro j
      by_cases z : ib = j
      · subst z
        rw [List.getElem?_set_self (by rw [s.st.env.len]; exact hl), s.sl]
      · rw [List.getElem?_set_ne z]
    have e2 := env.set_sh (i := ib) dp
    rw [this] at e2
    exact e2
  · exact ownP_noow (noow_set s.noow)
section
variable {X : Cx} {ca : CA} {ib : Nat} {st : Stmt} {rest : List Stmt} {pos : Pos}
def seqN (g h : Rho → List (List D) → OutN) : Rho → List (List D) → OutN := fun ρ c => match g ρ c with
  | .nx ρ' c' => h ρ' c'
  | .bad => .bad
theorem nss_cons {g h : Rho → List (List D) → OutN} (h1 : NS X ib g st) (h2 : NSs X ib h rest) : NSs X ib (seqN g h) (st :: rest) := PSsimp (pss_cons h1 h2) fun Dn σ H ⟨p, qs, G0, H0, G, ρ, c, s, q⟩ => by
  refine ⟨p, qs, G0, H0, G, ρ, c, s, ?_⟩
  unfold seqN at q
  cases hg : g ρ c with
  | nx ρ' c' => rw [hg] at q; exact fun p' qs' σ' G' H' s' => ⟨p', qs', G0, H0, G', ρ', c', s', q⟩
  | bad => rw [hg] at q; exact q
theorem nss_one {g : Rho → List (List D) → OutN} (h1 : NS X ib g st) : NSs X ib g [st] := pss_one h1
theorem nss_nil : NSs X ib OutN.nx [] := PSsimp pss_nil fun Dn σ H ⟨p, qs, G0, H0, G, ρ, c, s, q⟩ => q p qs σ G H s
def ifN (f : Rho → R Bool) (g h : Rho → List (List D) → OutN) : Rho → List (List D) → OutN := fun ρ c => match f ρ with
  | .ok b => if b = true then g ρ c else h ρ c
  | _ => .bad
theorem ns_if {e : Expr} {x y : List Stmt} {f : Rho → R Bool} {g h : Rho → List (List D) → OutN} (hc : FT X ca W0 f e) (hx : NSs X ib g x) (hy : NSs X ib h y) : NS X ib (ifN f g h) (.If e x y pos) := PSimp (ps_if hc hx hy) fun Dn σ H ⟨p, qs, G0, H0, G, ρ, c, s, q⟩ => by
  refine ⟨G, ρ, s.st.env, ?_⟩
  unfold ifN at q
  cases hf : f ρ with
  | exc z => rw [hf] at q; exact q.elim
  | bad => rw [hf] at q; exact q.elim
  | ok b =>
    rw [hf] at q
    intro G' H' e
    cases b with
    | true => rw [if_pos rfl]; exact ⟨p, qs, G0, H0, G', ρ, c, s.mono e, q⟩
    | false => rw [if_neg Bool.false_ne_true]; exact ⟨p, qs, G0, H0, G', ρ, c, s.mono e, q⟩
/-- x[f].append(h) -/
def addN (f h : Rho → R D) : Rho → List (List D) → OutN := fun ρ rows => match f ρ, h ρ with
  | .ok (.int k), .ok d => (match rows[k.toNat]? with
    | some r => if 0 ≤ k ∧ k ≤ 1000000 ∧ r.length < szMax then .nx ρ (rows.set k.toNat (r ++ [d])) else .bad
    | none => .bad)
  | _, _ => .bad
theorem ns_add {o b e : Expr} {f h : Rho → R D} {opos apos cpos : Pos} (ho : PE X o (tVar ib)) (hb : FB X ca W0 f b) (he : FE X ca W0 h e) (hpl : PlainIx b := by exact fun _ _ => rfl)
    (hbase : attributeBase (.Subscript o b opos) "append" X.env (eval (.Subscript o b opos) X.env) = eval (.Subscript o b opos) X.env := by rfl)
    (hfew : ((backTo cpos (starEach [e] X.env)).all (fun x => !x.1) && (backToKw cpos (keywordEach [] X.env)).all (fun x => x.1.isSome) && decide ([e].length + ([] : List Keyword).length + (if ([] : List Keyword).isEmpty then 0 else 1) < 30)) = true := by rfl)
    (hline : (apos.endLine == cpos.line) = true := by rfl) (hs : starEach [e] X.env = (false, eval e X.env) :: starEach [] X.env := by rfl) (hplain : (backTo cpos (starEach [] X.env)).any (·.1) = false := by rfl)
    (hsw : swapsWith (.Call (.Attribute (.Subscript o b opos) "append" apos) [e] [] cpos) none pos.line X.env = pure false := by rfl) :
    NS X ib (addN f h) (.Expr (.Call (.Attribute (.Subscript o b opos) "append" apos) [e] [] cpos) pos) := PSimp (ps_expr (pe_bm PySem.F.plainAttrs_list PySem.F.slot_list_append PySem.F.type_list_append mt_append (pe_ix ix_seq ho hb hpl) (pa_cons he pa_nil hs) hbase hfew hline hs hplain) hsw) fun Dn σ H ⟨p, qs, G0, H0, G, ρ, rows, s, q⟩ => by
  unfold addN at q
  cases hf : f ρ with
  | exc z => rw [hf] at q; exact q.elim
  | bad => rw [hf] at q; exact q.elim
  | ok x =>
  cases hh : h ρ with
  | exc z => cases x <;> (rw [hf, hh] at q; exact q.elim)
  | bad => cases x <;> (rw [hf, hh] at q; exact q.elim)
  | ok d =>
  cases x <;> try (rw [hf, hh] at q; exact q.elim)
  case int k =>
  rw [hf, hh] at q
  simp only at q
  cases hr : rows[k.toNat]? with
  | none => rw [hr] at q; exact q.elim
  | some r =>
  rw [hr] at q
  simp only at q
  obtain ⟨z, q⟩ : (0 ≤ k ∧ k ≤ 1000000 ∧ r.length < szMax) ∧ NRes X.K ib Dn G0 H0 (.nx ρ (rows.set k.toNat (r ++ [d]))) := by
    by_cases z : 0 ≤ k ∧ k ≤ 1000000 ∧ r.length < szMax
    · rw [if_pos z] at q; exact ⟨z, q⟩
    · rw [if_neg z] at q; exact q.elim
  have hlt := (List.getElem?_eq_some_iff.mp hr).1
  have hq : qs[k.toNat]? = some (qs[k.toNat]'(by rw [s.rows.2.1]; exact hlt)) := List.getElem?_eq_getElem _
  generalize (qs[k.toNat]'(by rw [s.rows.2.1]; exact hlt)) = a at hq
  refine ⟨.ref p, s.sl, G, ρ, s.st.env, ?_⟩
  rw [hf]
  intro v G1 H1 e1 dv
  have hv : v = .int k := by cases dv; rfl
  subst hv
  have s1 := s.mono e1
  refine Or.inl ⟨p, qs.map V.ref, k, .ref a, rfl, rfl, Or.inl (Or.inl s1.top), ?_, ?_⟩
  · have hql : k.toNat < qs.length := by rw [s.rows.2.1]; exact hlt
    have h1 : (qs.map V.ref)[k.toNat]? = some (.ref a) := by rw [List.getElem?_map, hq]; rfl
    have hix : ixN (qs.map V.ref).length k = some k.toNat := by
      unfold ixN
      rw [if_pos z.1, List.length_map, if_pos (by omega)]
    unfold L2.atI
    rw [hix]
    exact h1
  · obtain ⟨_, _, ws, hw, hd⟩ := s1.rows.2.2 k.toNat a r hq hr
    refine ⟨Or.inl ⟨rfl, ws, Or.inl (Or.inl hw)⟩, G1, ρ, s1.st.env, ?_⟩
    rw [hh]
    intro v G2 H2 e2 dv2
    have s2 := s1.mono e2
    obtain ⟨_, _, ws2, hw2, hd2⟩ := s2.rows.2.2 k.toNat a r hq hr
    exact ⟨a, ws2, v, rfl, rfl, hw2, by rw [DpAll.len hd2]; exact szLt (Nat.le_of_lt z.2.2), q p qs σ G2 _ (s2.add hq hr hw2 hd2 dv2)⟩
/-- for -/
def goN (u : D → Rho → Option Rho) (body : Rho → List (List D) → OutN) (vs : List Nat) (ρ : Rho) (c : List (List D)) : List D → OutN
  | [] => .nx ρ c
  | d :: ds => match u d ρ with
    | none => .bad
    | some ρ' => match body ρ' c with
      | .nx ρ'' c'' => goN u body vs (wipeR ρ'' vs) c'' ds
      | .bad => .bad
def forN (fi : Rho → R (List D)) (u : D → Rho → Option Rho) (body : Rho → List (List D) → OutN) (vs : List Nat) : Rho → List (List D) → OutN := fun ρ c => match fi ρ with
  | .ok ds => goN u body vs (wipeR ρ vs) c ds
  | _ => .bad
theorem ns_for {tg iter : Expr} {body : List Stmt} {fi : Rho → R (List D)} {u : D → Rho → Option Rho} {g : Rho → List (List D) → OutN} {is : List Nat} {t : TG} (vs : List Nat) (hp : PassesOwn (model X.prog X.w) X.A X.env X.xe) (hc : X.calm = true) (hi : FI X ca W0 fi tg iter) (hg : FG X u is tg t) (ku : Kind u) (ni : ib ∉ is) (hb : NSs X ib g body)
    (hs : ∀ x, foldedSetIterable iter X.env x = pure x := by intro _; rfl) : NS X ib (forN fi u g vs) (.For tg iter body [] pos) := PSimp (ps_for hp hc hi hg.1 hb hs) fun Dn σ H ⟨p, qs, G0, H0, G, ρ, c, s, q⟩ => by
  refine ⟨G, ρ, s.st.env, ?_⟩
  unfold forN at q
  cases hf : fi ρ with
  | exc z => rw [hf] at q; exact q.elim
  | bad => rw [hf] at q; exact q.elim
  | ok ds =>
  rw [hf] at q
  intro J G1 H1 e1 w
  refine ⟨fun i m σ H => m = ds.length - i ∧ i ≤ ds.length ∧ ∃ p2 qs2 G2 ρ2 c2, StN X.K p2 qs2 ib G0 H0 G2 H σ ρ2 c2 ∧ Ex G1 G2 ∧ NRes X.K ib Dn G0 H0 (goN u g vs ρ2 c2 (ds.drop i)), ⟨ds.length, by simp, Nat.zero_le _, p, qs, G1, _, c, (s.mono e1).forgets vs, Ex.refl _, by simpa using q⟩, ?_⟩
  rintro i m σ2 H2 ⟨rfl, hi, p2, qs2, G2, ρ2, c2, s2, e2, q2⟩
  have eh : Ex G1 H2 := e2.trans s2.st.env.ext
  by_cases hlt : i < ds.length
  · have hd : ds.drop i = ds[i] :: ds.drop (i + 1) := List.drop_eq_getElem_cons hlt
    rw [hd] at q2
    unfold goN at q2
    refine Or.inr ⟨w.goes i H2 eh hlt, fun σ H => ∃ p2 qs2 G2 ρ2 c2, StN X.K p2 qs2 ib G0 H0 G2 H σ ρ2 c2 ∧ Ex G1 G2 ∧ NRes X.K ib Dn G0 H0 (goN u g vs ρ2 c2 (ds.drop (i + 1))), fun σ' H' a => ⟨ds.length - (i + 1), by omega, rfl, hlt, a⟩, fun x H3 y => ?_⟩
    obtain ⟨G3, e3, dx⟩ := w.yields i H2 x H3 G2 ds[i] eh e2 s2.st.env.ext (List.getElem?_eq_getElem hlt) y
    have s3 := s2.mono e3
    split at q2
    · exact q2.elim
    · rename_i ρ' hu
      refine hg.2.run G3 H3 σ2 ρ2 ρ' x ds[i] _ s3.st.env dx hu fun σ' env' _ wp => ?_
      have s4 : StN X.K p2 qs2 ib G0 H0 G3 H3 σ' ρ' c2 := s3.store env' (ku _ ρ2 ρ' hu s2.noow) (sl_of (wp is fun _ h => h) ni s3.sl)
      refine ⟨p2, qs2, G1, H0, G3, ρ', c2, ⟨⟨s4.st.env, (s.st.ext.trans e1).up s4.st.ext (e2.trans e3.g), s4.st.own⟩, s4.np, s4.gp, s4.top, s4.out, s4.rows, s4.noow, s4.sl⟩, ?_⟩
      have back : ∀ {p4 qs4 σ4 G4 H4 ρ4 c4}, StN X.K p4 qs4 ib G1 H0 G4 H4 σ4 ρ4 c4 → StN X.K p4 qs4 ib G0 H0 G4 H4 σ4 ρ4 c4 := fun {p4 qs4 σ4 G4 H4 ρ4 c4} s4 => ⟨⟨s4.st.env, (s.st.ext.trans e1).down s4.st.ext, s4.st.own⟩, s4.np, s4.gp, s4.top, s4.out, s4.rows, s4.noow, s4.sl⟩
      cases hb : g ρ' c2 with
      | nx ρ'' c'' =>
        rw [hb] at q2
        exact fun p4 qs4 σ4 G4 H4 s4 => ⟨p4, qs4, G4, _, c'', (back s4).forgets vs, s4.st.ext.g, q2⟩
      | bad => rw [hb] at q2; exact q2
  · have e : i = ds.length := by omega
    subst e
    rw [List.drop_length] at q2
    exact Or.inl ⟨w.stops H2 eh, q2 p2 qs2 σ2 G2 H2 s2⟩
/-! ### the beginning: [[..] for x in xs] -/
def lcNGo (u : D → Rho → Option Rho) (e : Rho → R (List D)) (ρ : Rho) : List D → Option (List (List D))
  | [] => some []
  | d :: ds => match u d ρ with
    | none => none
    | some ρ' => match e ρ' with
      | .ok r => (lcNGo u e ρ ds).map (r :: ·)
      | _ => none
def noowB (ρ : Rho) : Bool := ρ.all fun o => !isOw o
theorem noowB_iff {ρ : Rho} (h : noowB ρ = true) : ∀ (i : Nat) (o : Option SV), ρ[i]? = some o → isOw o = false := fun i o hi => by
  have := List.all_eq_true.mp h o (List.mem_of_getElem? hi)
  simpa using this
/-- rows = [[..] for ..], then the statements h on them, then the rest, for which the rows last -/
def nestF (ib : Nat) (fi : Rho → R (List D)) (u : D → Rho → Option Rho) (e : Rho → R (List D)) (vs : List Nat) (h : Rho → List (List D) → OutN) : Rho → Out := fun ρ => if noowB ρ = true ∧ ib < ρ.length then (match fi ρ with
  | .ok ds => if ds.length ≤ szMax then (match lcNGo u e (wipeR ρ vs) ds with
    | some rows => (match h (ρ.set ib none) rows with
      | .nx ρ' rows' => .nx (ρ'.set ib (some (.sh (.list (rows'.map .list)))))
      | .bad => .bad)
    | none => .bad) else .bad
  | _ => .bad) else .bad
theorem lcNGo_len {u : D → Rho → Option Rho} {e : Rho → R (List D)} {ρ : Rho} : ∀ {ds : List D} {out : List (List D)}, lcNGo u e ρ ds = some out → out.length = ds.length
  | [], out, h => by cases h; rfl
  | d :: ds, out, h => by
    unfold lcNGo at h
    split at h
    · cases h
    · split at h
      · cases hr : lcNGo u e ρ ds with
        | none => rw [hr] at h; cases h
        | some xs => rw [hr] at h; cases h; simp [lcNGo_len hr]
      · cases h
theorem fss_nest {y : Str} {tg iter elt : Expr} {scope : Scope} {own : List (Str × Nat)} {py lpos : Pos} {fi : Rho → R (List D)} {u : D → Rho → Option Rho} {e : Rho → R (List D)} {is : List Nat} {g : TG} {st2 : Stmt} {h : Rho → List (List D) → OutN} {W : WX} {k : Rho → Out}
    (hc : X.calm = true) (hN : X.N.Nodup) (hy : X.N[ib]? = some y) (hyl : X.env.scope.names.lookup y = some .local) (hsw : swapsWith (.ListComp elt [⟨tg, iter, [], 0⟩] scope lpos) (some (.Name y py)) pos.line X.env = pure true) (hi : FIB X ca W0 fi tg iter) (ok : BlkOk X.N X.env.scope scope own)
    (hg : ∀ (s : Shared) (H : Hp) (C : Addr) (cl : List (Str × Addr)) (fp : List Addr), PG (X.blk s H scope (compEnvC scope cl C X.env) fp) tg g) (hk : GOk X.K g u is)
    (ht : ∀ (s : Shared) (H : Hp) (C : Addr) (cl : List (Str × Addr)) (fp : List Addr), PTs (X.blk s H scope (compEnvC scope cl C X.env) fp) [] (tSemT X.K ca W0 tT))
    (he : ∀ (s : Shared) (H : Hp) (C : Addr) (cl : List (Str × Addr)) (fp : List Addr), FL (X.blk s H scope (compEnvC scope cl C X.env) fp) ca W0 e elt) (his : ∀ j ∈ is, j ∈ own.map (·.2))
    (h2 : NS X ib h st2) (hrest : FSs X ca W k rest)
    (hs : ∀ x, foldedSetIterable iter X.env x = pure x := by intro _; rfl) :
    FSs X ca W (seqS (nestF ib fi u e (own.map (·.2)) h) k) (.Assign [.Name y py] (.ListComp elt [⟨tg, iter, [], 0⟩] scope lpos) pos :: st2 :: rest) :=
  PSsimp (pss_cons (ps_setLc (te := tSemL X.K ca W0 e) hc hN hy hyl hsw hi ok hg ht he hs) (pss_cons h2 hrest)) fun Dn σ H ⟨G0, H0, G, ρ, s, q⟩ => by
    unfold seqS nestF at q
    by_cases hn : noowB ρ = true ∧ ib < ρ.length
    · rw [if_pos hn] at q
      obtain ⟨hn, hib⟩ := hn
      have noow := noowB_iff hn
      cases hfi : fi ρ with
      | exc z => rw [hfi] at q; exact q.elim
      | bad => rw [hfi] at q; exact q.elim
      | ok ds =>
      rw [hfi] at q
      simp only at q
      by_cases hz : ds.length ≤ szMax
      · rw [if_pos hz] at q
        cases hout : lcNGo u e (wipeR ρ (own.map (·.2))) ds with
        | none => rw [hout] at q; exact q.elim
        | some out =>
        rw [hout] at q
        simp only at q
        have hol := lcNGo_len hout
        unfold tSeq tAsg tLc
        refine ⟨G, ρ, s.env, ?_⟩
        rw [hfi]
        intro J G1 H1 e1 w Dl hD
        have env1 : EnvOk X.K G1 H1 (L2.wipe σ (own.map (·.2))) (wipeR ρ (own.map (·.2))) := (s.env.mono e1).wipe _
        have gD : G1 Dl = none := e1.gh.back hD
        have noow1 := noow_wipe noow (own.map (·.2))
        have own1 : OwnP (fun q => q ≠ Dl) (L2.wipe σ (own.map (·.2))) (wipeR ρ (own.map (·.2))) := ownP_noow noow1
        let Inv : Nat → Hp → Prop := fun i H' => ∃ (G' : Hp) (qs : List Addr) (done more : List (List D)), Ext G1 H1 G' H' ∧ G' Dl = none ∧ H' Dl = some (.lst (qs.map V.ref)) ∧ Dl ∉ qs ∧ RowsOk X.K H1 G' H' qs done ∧ lcNGo u e (wipeR ρ (own.map (·.2))) (ds.drop i) = some more ∧ out = done ++ more
        refine ⟨fun i m H' => m = ds.length - i ∧ i ≤ ds.length ∧ Inv i H', ⟨ds.length, by simp, Nat.zero_le _, G1, [], [], out, Ext.own e1.gh hD, gD, upd_same, by simp, ⟨List.nodup_nil, rfl, fun i q r z => by simp at z⟩, by simpa using hout, rfl⟩, ?_⟩
        rintro i m H' ⟨rfl, hi, G2, qs, done, more, e2, g2, h2, nD, rk, hmore, ho⟩
        have env2 : EnvOk X.K G2 H' (L2.wipe σ (own.map (·.2))) (wipeR ρ (own.map (·.2))) := env1.mono e2
        by_cases hlt : i < ds.length
        · refine Or.inr ⟨w.goes i H' e2.h hlt, fun H'' => Inv (i + 1) H'', fun H'' a => ⟨ds.length - (i + 1), by omega, rfl, hlt, a⟩, fun x H3 yl => ?_⟩
          obtain ⟨G3, e3, dx⟩ := w.yields i H' x H3 G2 ds[i] e2.h e2.g e2.gh (List.getElem?_eq_getElem hlt) yl
          have hd : ds.drop i = ds[i] :: ds.drop (i + 1) := List.drop_eq_getElem_cons hlt
          rw [hd] at hmore
          unfold lcNGo at hmore
          split at hmore
          · cases hmore
          · rename_i ρ' hu
            have env3 := env2.mono e3
            refine hk.run G3 H3 _ _ ρ' x ds[i] _ env3 dx hu fun σ' env' ow hwp => ⟨by rw [hwp _ his, wipe_wipe], G3, ρ', env', ?_⟩
            intro G4 H4 e4
            rw [if_pos rfl]
            refine ⟨G4, ρ', env'.mono e4, ?_⟩
            split at hmore
            · rename_i r hr
              rw [hr]
              intro p vs G5 H5 e5 hp gp hl dv
              cases hxs : lcNGo u e (wipeR ρ (own.map (·.2))) (ds.drop (i + 1)) with
              | none => rw [hxs] at hmore; cases hmore
              | some xs =>
              rw [hxs] at hmore
              cases hmore
              have e24 : Ext G2 H' G4 H4 := e3.trans e4
              have e25 : Ext G2 H' G5 H5 := e24.trans e5
              have e15 : Ext G1 H1 G5 H5 := e2.trans e25
              have g5 : G5 Dl = none := e25.new Dl g2 (by rw [h2]; simp)
              have h5 : H5 Dl = some (.lst (qs.map V.ref)) := e25.h Dl _ h2
              have npD : p ≠ Dl := fun z => by rw [z, e24.h Dl _ h2] at hp; cases hp
              have npq : p ∉ qs := fun z => by
                obtain ⟨_, _, ws, hw⟩ := rk.at z
                rw [e24.h p _ hw] at hp; cases hp
              have hlen : (done ++ r :: xs).length = ds.length := by rw [← ho]; exact hol
              have gh5 : Ex G5 (upd H5 Dl (.lst (qs.map V.ref ++ [.ref p]))) := Ex.mut e15.gh g5
              refine ⟨qs.map V.ref, h5, ?_, ⟨G5, qs ++ [p], done ++ [r], xs, ⟨e15.g, Ex.mut e15.h hD, gh5, e15.new⟩, g5, ?_, ?_, ⟨?_, ?_, fun j q' r' hj hr' => ?_⟩, hxs, by rw [ho]; simp⟩⟩
              · rw [List.length_map, rk.2.1]
                rw [List.length_append] at hlen
                exact szLt (by simp at hlen; omega)
              · rw [upd_same, List.map_append]; rfl
              · intro z
                rcases List.mem_append.mp z with z | z
                · exact nD z
                · exact npD (List.mem_singleton.mp z).symm
              · refine List.nodup_append.mpr ⟨rk.1, by simp, fun a ha b hb z => ?_⟩
                rw [List.mem_singleton.mp hb] at z
                exact npq (z ▸ ha)
              · rw [List.length_append, List.length_append, rk.2.1]; rfl
              · by_cases z : j < qs.length
                · rw [List.getElem?_append_left z] at hj
                  rw [List.getElem?_append_left (by rw [← rk.2.1]; exact z)] at hr'
                  obtain ⟨a, b, ws, c, d⟩ := (rk.mono e25).2.2 j q' r' hj hr'
                  have zq : q' ≠ Dl := fun zq => nD (zq ▸ List.mem_of_getElem? hj)
                  exact ⟨a, b, ws, by rw [upd_ne zq]; exact c, d⟩
                · have zj : j = qs.length := by
                    have := (List.getElem?_eq_some_iff.mp hj).1
                    rw [List.length_append] at this
                    simp at this; omega
                  subst zj
                  rw [List.getElem?_append_right (Nat.le_refl _), Nat.sub_self] at hj
                  rw [rk.2.1, List.getElem?_append_right (Nat.le_refl _), Nat.sub_self] at hr'
                  have hj := Option.some.inj hj
                  have hr' := Option.some.inj hr'
                  subst hj
                  subst hr'
                  exact ⟨(e2.trans e24).h.back hp, gp, vs, by rw [upd_ne npD]; exact hl, dv⟩
            · cases hmore
        · have ei : i = ds.length := by omega
          subst ei
          rw [List.drop_length] at hmore
          cases hmore
          rw [List.append_nil] at ho
          subst ho
          refine Or.inl ⟨w.stops H' e2.h, ?_⟩
          -- the name is stored; the statements on the rows; the rest
          have env3 : EnvOk X.K G2 H' σ ρ := s.env.mono (e1.trans e2)
          have sN : StN X.K Dl qs ib G0 H0 G2 H' (σ.set ib (some (.ref Dl))) (ρ.set ib none) out := by
            have n2 : ∀ (j : Nat) (o : Option SV), (ρ.set ib none)[j]? = some o → isOw o = false := fun j o hj => by
              by_cases z : ib = j
              · subst z
                rw [List.getElem?_set_self hib] at hj
                cases hj; rfl
              · rw [List.getElem?_set_ne z] at hj
                exact noow j o hj
            have e02 := s.ext.trans (e1.trans e2)
            have ev : EnvOk X.K G2 H' (σ.set ib (some (.ref Dl))) (ρ.set ib none) := env3.set (o := none) (x := some (.ref Dl)) trivial fun z => by cases z
            have h0D : H0 Dl = none := (s.ext.trans e1).h.back hD
            refine ⟨⟨ev, e02, ownP_noow n2⟩, h0D, g2, h2, nD, ⟨rk.1, rk.2.1, fun j q' r' hj hr' => ?_⟩, n2, List.getElem?_set_self (by rw [s.env.len]; exact hib)⟩
            obtain ⟨a, b, c⟩ := rk.2.2 j q' r' hj hr'
            exact ⟨(s.ext.trans e1).h.back a, b, c⟩
          refine ⟨Dl, qs, G0, H0, G2, _, out, sN, ?_⟩
          cases hh : h (ρ.set ib none) out with
          | bad => rw [hh] at q; exact q.elim
          | nx ρ' rows' =>
            rw [hh] at q
            intro p' qs' σ' G' H'' s'
            obtain ⟨G3, s3⟩ := s'.freeze
            exact ⟨G0, H0, G3, _, s3, q⟩
      · rw [if_neg hz] at q; exact q.elim
    · rw [if_neg hn] at q; exact q.elim
end
end FE

namespace FE
open PySem L2 PyProof.Rows PySem.Spec
/-! ## try: one expression; a clause that stores and goes on -/
def wipeO (i : Nat) : Out → Out
  | .nx ρ => .nx (ρ.set i none)
  | .ret d => .ret d
  | _ => .bad
def rawR (i : Nat) (a : Addr) (ρ : Rho) : Rho := ρ.set i (some (.raw (.ref a)))
/-- the body stores nothing: the clause begins with what the slots held -/
def tryE (i c : Nat) (f : Rho → R D) (h : Nat → Addr → Rho → Out) : Rho → Out := fun ρ => match f ρ with
  | .ok _ => .nx ρ
  | .exc ⟨k, none⟩ => if k < 9 then (if mOf c k = true then wipeO i (h k 0 (rawR i 0 ρ)) else .exc ⟨k, none⟩) else .bad
  | .exc ⟨_, some _⟩ => .bad
  | .bad => .bad
section
variable {X : Cx} {ca : CA} {W : WX}
theorem StOk.gone {K : PySem.W.Frag} {G0 H0 G H : Hp} {σ : L2.St} {ρ : Rho} {i : Nat} (s : StOk K G0 H0 G H σ ρ) : StOk K G0 H0 G H (σ.set i none) (ρ.set i none) :=
  ⟨s.env.set (o := none) (x := none) trivial (fun z => Bool.noConfusion z), s.ext, s.own.set_sh rfl⟩
theorem StOk.raw {K : PySem.W.Frag} {G0 H0 G H : Hp} {σ : L2.St} {ρ : Rho} {i : Nat} {a : Addr} (s : StOk K G0 H0 G H σ ρ) : StOk K G0 H0 G H (σ.set i (some (.ref a))) (rawR i a ρ) :=
  ⟨s.env.set (o := some (.raw (.ref a))) (x := some (.ref a)) rfl (fun z => Bool.noConfusion z), s.ext, s.own.set_sh rfl⟩
def tClE (K : PySem.W.Frag) (ca : CA) (n i : Nat) (h : Nat → Addr → Rho → Out) (a : Addr) (cls : Value) (d : Option Addr) : TS := fun Dn σ H =>
  ∃ (k : Nat) (G0 H0 G : Hp) (ρ : Rho), cls = .ref (ca k) ∧ d = none ∧ k < 9 ∧ StOk K G0 H0 G H σ (rawR i a ρ) ∧ (ρ.length = n → SRes K ca W0 Dn G0 H0 (h k a (rawR i a ρ)))
theorem fs_tryE {n i c : Nat} {x nm : Str} {f : Rho → R D} {h : Nat → Addr → Rho → Out} {e : Expr} {suite : List Stmt} {b₀ : Stmt} {pos pos' p np : Pos} (hs : X.stack = X.env :: X.outer) (hf : X.env.frame = some X.env.locals) (hN : X.N.Nodup) (hlen : X.N.length = n) (hi : X.N[i]? = some nm) (hln : X.env.kindOf nm = some .local)
    (T : ClsTxt X.K X.mg ca x c) (hg : Gl X x) (tk : Takes X W) (hb : ∀ (W' : WX) (pn : List (Addr × Obj)) (xe : Value → Shared → Prop), Takes (X.tr pn xe) W' → FE (X.tr pn xe) ca W' f e)
    (hsu : ∀ (k : Nat) (a : Addr) (oe : Obj) (pn : List (Addr × Obj)), k < 9 → Zc (.ref (ca k)) none oe → (∃ vs, oe.data = .fields vs) → FSs (X.suite a ((a, oe) :: pn)) ca W0 (h k a) (b₀ :: suite))
    (hc : ∀ k a ρ, ρ.length = n → wipeO i (h k a (rawR i a ρ)) = wipeO i (h k 0 (rawR i 0 ρ))) (hdb : (x == ("__debug__" : Str)) = false := by decide)
    (hsw : ∀ (pn : List (Addr × Obj)) (xe : Value → Shared → Prop), swapsWith e none p.line (X.tr pn xe).env = pure false := by intro _ _; rfl) :
    FS X ca W (tryE i c f h) (.Try [.Expr e p] [.ExceptHandler (some (.Name x np)) (some nm) (b₀ :: suite) pos'] [] [] pos) := by
  have hh : ClsAs X nm [.ExceptHandler (some (.Name x np)) (some nm) (b₀ :: suite) pos'] [(.ref (ca c), tClE X.K ca n i h)] := by
    refine .cons ⟨hg, hdb, Or.inl T.gP⟩ (fun a oe cls d pn hz hv => ⟨fun pins s σ H Dn I q => ?_⟩) .nil
    obtain ⟨k, G0, H0, G, ρ, e1, e2, hk, st, q⟩ := q
    subst e1 e2
    have hl : ρ.length = n := by
      have h1 := st.env.len
      have h2 : σ.length = X.N.length := I.len
      unfold rawR at h1
      rw [List.length_set] at h1
      omega
    exact (hsu k a oe pn hk hz hv).run pins s _ H Dn I ⟨G0, H0, G, _, st, q hl⟩
  refine PSimp (ps_try_asM (i := i) (tb := fun W' => fun Dn σ H => tSem X.K ca W' f σ H fun _ H' => Dn.nx σ H') (Wout := W) hs hf hN hi hln tk (fun W' pn xe t _ => PSsimp (pss_one (ps_expr (hb W' pn xe t) (hsw pn xe))) fun Dn σ H q => q) hh) fun Dn σ H ⟨G0, H0, G, ρ, s, q⟩ => ?_
  refine ⟨G, ρ, s.env, ?_⟩
  unfold tryE at q
  cases hfr : f ρ with
  | ok d =>
    rw [hfr] at q
    exact fun v G' H' e1 dv => q σ G' H' (s.mono e1)
  | bad => rw [hfr] at q; exact q.elim
  | exc z =>
    obtain ⟨k, y⟩ := z
    cases y with
    | some y => rw [hfr] at q; exact q.elim
    | none =>
      rw [hfr] at q
      simp only at q
      by_cases hk : k < 9
      · rw [if_pos hk] at q
        intro cc dd G' H' e1 hx
        obtain ⟨hx1, hx2⟩ := hx
        have hx2' : dd = none := hx2
        subst hx1 hx2'
        refine ⟨mOf c k, T.mP k hk, fun hm a ha => ?_, fun hm => ?_⟩
        · rw [if_pos hm] at q
          refine ⟨k, G0, H0, G', ρ, rfl, rfl, hk, (s.mono e1).raw, fun hln => ?_⟩
          rw [← hc k a ρ hln] at q
          cases ho : h k a (rawR i a ρ) with
          | nx ρ' => rw [ho] at q; exact fun σ2 G2 H2 s2 => q _ G2 H2 s2.gone
          | ret d => rw [ho] at q; exact q
          | exc e => rw [ho] at q; exact q.elim
          | bad => rw [ho] at q; exact q.elim
        · rw [if_neg (by rw [hm]; decide)] at q
          exact q _ _ σ G' H' (s.mono e1).ext ⟨rfl, rfl⟩
      · rw [if_neg hk] at q; exact q.elim
end
/-! ### what a clause does, wherever the exception stands -/
section
variable {i j : Nat} {a : Addr} {ρ : Rho} {f : Rho → R D} {g : Rho → Out} {b : Bool}
theorem rawR_set {x : Option SV} (h : i ≠ j) : (rawR i a ρ).set j x = rawR i a (ρ.set j x) := List.set_comm _ _ h
theorem isEF_raw (h : i < ρ.length) : isEF i a b (rawR i a ρ) = .ok (.bool b) := by
  unfold isEF rawR
  rw [List.getElem?_set_self h]
  show (if a = a then R.ok (PyData.bool b) else .bad) = _
  rw [if_pos rfl]
theorem gv_raw (h : i ≠ j) : gv j (rawR i a ρ) = gv j ρ := by
  unfold gv rawR
  rw [List.getElem?_set_ne h]
theorem gv_self {d : D} (h : j < ρ.length) : gv j (ρ.set j (some (.sh d))) = .ok d := by
  unfold gv
  rw [List.getElem?_set_self h]
theorem wipe_raw : wipeO i (.nx (rawR i a ρ)) = .nx (ρ.set i none) := by
  show Out.nx ((rawR i a ρ).set i none) = _
  unfold rawR
  rw [List.set_set]
theorem seqS_raw (h : i ≠ j) : seqS (setF j f) g (rawR i a ρ) = (f (rawR i a ρ)).out fun d => g (rawR i a (ρ.set j (some (.sh d)))) := by
  unfold seqS setF
  cases f (rawR i a ρ) with
  | ok d => show g ((rawR i a ρ).set j _) = g _; rw [rawR_set h]
  | exc e => rfl
  | bad => rfl
theorem setF_raw (h : i ≠ j) : setF j f (rawR i a ρ) = (f (rawR i a ρ)).out fun d => .nx (rawR i a (ρ.set j (some (.sh d)))) := by
  unfold setF
  cases f (rawR i a ρ) with
  | ok d => show Out.nx ((rawR i a ρ).set j _) = Out.nx _; rw [rawR_set h]
  | exc e => rfl
  | bad => rfl
end
end FE

namespace FE
open PySem L2 PyProof.Rows PySem.Spec
/-! ## a planner's beginning: __init__ -/
structure PlTxt (K : PySem.W.Frag) (C : Addr) : Prop where
  ic : IsPl K C
  cls : Cls K C
  n1 : NoAttr K C "graph"
  n2 : NoAttr K C "marks"
  n3 : NoAttr K C "chosen"
  n4 : NoAttr K C "kept"
def obW (K : PySem.W.Frag) (ca : CA) (W : WX) (Dn : Ends) (C x : Addr) (G H0 : Hp) (σ : L2.St) (dg dm : D) (nd : Bool) : R D → Prop
  | .ok _ => ∀ G' H', Ext G H0 G' H' → ObOk K G' H' x ⟨dg, dm, .tuple [], .int 0, nd⟩ → Dn.nx σ H'
  | .exc e => ∀ c dd G' H', Ext G H0 G' H' → ExcAt K ca G' H' e c dd → W c dd σ H'
  | .bad => False
/-- another heap, in which the object's fields are others -/
theorem ext_fld {G H0 G1 H1 : Hp} {x : Addr} {o : HO} (e : Ext G H0 G1 H1) (hx : H0 x = none) (gx : G1 x = none) : Ext G H0 G1 (upd H1 x o) :=
  ⟨e.g, fun a u h => by
    have z : a ≠ x := fun z => by rw [z, hx] at h; cases h
    rw [upd_ne z]; exact e.h a u h, fun a u h => by
    have z : a ≠ x := fun z => by rw [z, gx] at h; cases h
    rw [upd_ne z]; exact e.gh a u h, e.new⟩
theorem putF_len (f : Str) (v : V) : ∀ fs : List (Str × V), (putF f v fs).length ≤ fs.length + 1
  | [] => Nat.le_refl _
  | (g, x) :: r => by
    unfold putF
    split
    · exact Nat.le_succ _
    · exact Nat.succ_le_succ (putF_len f v r)
section
variable {X : Cx} {ca : CA} {W : WX} {C : Addr}
def tInit (K : PySem.W.Frag) (ca : CA) (W : WX) (C : Addr) (f : Rho → R D) : TS := fun Dn σ H => ∃ (G H0 : Hp) (x dx : Addr) (vg vm : V) (dg dm : D) (nd : Bool), σ = [some (.ref x), some vg, some vm] ∧ Ex G H0 ∧ H0 x = none ∧ H0 dx = none ∧ dx ≠ x ∧ H = upd (upd H0 dx (.own x)) x (.ins C dx []) ∧
  Dp K G vg dg ∧ Dp K G vm dm ∧ (nd = true → GrV K G vg dg) ∧ obW K ca W Dn C x G H0 σ dg dm nd (f [none, some (.sh dg), some (.sh dm)])
theorem init_body {f : Rho → R D} {call s1 s2 s3 s4 eg em : Expr} {p0 p1 p2 p3 p4 a1 a2 a3 a4 pt pi : Pos} {j kk : Nat} (T : PlTxt X.K C) (hcall : FE X ca W f call)
    (h1 : PE X s1 (tVar 0)) (h2 : PE X s2 (tVar 0)) (h3 : PE X s3 (tVar 0)) (h4 : PE X s4 (tVar 0)) (hg : PE X eg (tVar 1)) (hm : PE X em (tVar 2))
    (w0 : swapsWith call none p0.line X.env = pure false) (w1 : swapsWith eg (some (.Attribute s1 "graph" a1)) p1.line X.env = pure false) (w2 : swapsWith em (some (.Attribute s2 "marks" a2)) p2.line X.env = pure false)
    (w3 : swapsWith (.Tuple [] kk pt) (some (.Attribute s3 "chosen" a3)) p3.line X.env = pure false) (w4 : swapsWith (.Constant (.int 0) j pi) (some (.Attribute s4 "kept" a4)) p4.line X.env = pure false) :
    PSs X [.Expr call p0, .Assign [.Attribute s1 "graph" a1] eg p1, .Assign [.Attribute s2 "marks" a2] em p2, .Assign [.Attribute s3 "chosen" a3] (.Tuple [] kk pt) p3, .Assign [.Attribute s4 "kept" a4] (.Constant (.int 0) j pi) p4] (tInit X.K ca W C f) :=
  PSsimp (pss_cons (ps_expr hcall w0) (pss_cons (ps_fld h1 hg w1) (pss_cons (ps_fld h2 hm w2) (pss_cons (ps_fld h3 (fe_tup (ca := ca) (W := W0) fa_nil) w3) (pss_one (ps_fld h4 (pe_int (i := 0)) w4)))))) fun Dn σ H ⟨G, H0, x, dx, vg, vm, dg, dm, nd, hσ, e0, hx, hdx, ne, hH, d1, d2, g1, q⟩ => by
    have gx : G x = none := e0.back hx
    have gd : G dx = none := e0.back hdx
    have e1 : Ext G H0 G H := by
      rw [hH]
      exact ext_fld (Ext.own e0 hdx) hx gx
    have Hx : H x = some (.ins C dx []) := by rw [hH, upd_same]
    have Hdx : H dx = some (.own x) := by rw [hH, upd_ne ne, upd_same]
    have env : EnvOk X.K G H σ [none, some (.sh dg), some (.sh dm)] := by
      refine ⟨e1.gh, by rw [hσ]; rfl, fun i o hi => ?_, fun i k o u a _ hi _ ho _ => ?_⟩
      · match i, hi with
        | 0, hi => cases hi; exact ⟨_, by rw [hσ]; rfl, trivial⟩
        | 1, hi => cases hi; exact ⟨_, by rw [hσ]; rfl, vg, rfl, d1⟩
        | 2, hi => cases hi; exact ⟨_, by rw [hσ]; rfl, vm, rfl, d2⟩
        | i + 3, hi => cases hi
      · match i, hi with
        | 0, hi => cases hi; cases ho
        | 1, hi => cases hi; cases ho
        | 2, hi => cases hi; cases ho
        | i + 3, hi => cases hi
    unfold tSeq
    refine ⟨G, _, env, ?_⟩
    cases hf : f [none, some (.sh dg), some (.sh dm)] with
    | bad => rw [hf] at q; exact q.elim
    | exc e =>
      rw [hf] at q
      exact fun c dd G' H' e2 hx' => q c dd G' H' (e1.trans e2) hx'
    | ok d =>
      rw [hf] at q
      intro v G1 H1 e2 _
      have e12 := e1.trans e2
      have g1x : G1 x = none := e2.new x gx (by rw [Hx]; simp)
      have H1x := e2.h x _ Hx
      have H1d := e2.h dx _ Hdx
      have g1d : G1 dx = none := e2.new dx gd (by rw [Hdx]; simp)
      -- graph
      refine ⟨vg, by rw [hσ]; rfl, .ref x, by rw [hσ]; rfl, x, C, dx, [], rfl, H1x, T.cls, T.n1, by decide, ?_⟩
      have L1 := putF_len "graph" vg []
      have L2 := putF_len "marks" vm (putF "graph" vg [])
      have L0 : ([] : List (Str × V)).length = 0 := rfl
      refine ⟨vm, by rw [hσ]; rfl, .ref x, by rw [hσ]; rfl, x, C, dx, _, rfl, upd_same, T.cls, T.n2, by omega, ?_⟩
      have e3 : Ext G H0 G1 (upd (upd H1 x (.ins C dx (putF "graph" vg []))) x (.ins C dx (putF "marks" vm (putF "graph" vg [])))) := ext_fld (ext_fld e12 hx g1x) hx g1x
      have noow : ∀ (i : Nat) (o : Option SV), ([none, some (.sh dg), some (.sh dm)] : Rho)[i]? = some o → isOw o = false := fun i o hi => by
        match i, hi with
        | 0, hi => cases hi; rfl
        | 1, hi => cases hi; rfl
        | 2, hi => cases hi; rfl
        | i + 3, hi => cases hi
      refine ⟨G1, [none, some (.sh dg), some (.sh dm)], env.noow_mono noow e2.g e3.gh, ?_⟩
      change ARes X.K ca W0 σ G1 _ _ (R.ok (PyData.tuple []))
      intro vc G4 H4 e4 dc
      have H4x := e4.h x _ (upd_same)
      have g4x : G4 x = none := e4.new x g1x (by rw [upd_same]; simp)
      refine ⟨.ref x, by rw [hσ]; rfl, x, C, dx, _, rfl, H4x, T.cls, T.n3, by omega, ?_⟩
      have L3 := putF_len "chosen" vc (putF "marks" vm (putF "graph" vg []))
      refine ⟨.ref x, by rw [hσ]; rfl, x, C, dx, _, rfl, upd_same, T.cls, T.n4, by omega, ?_⟩
      have e5 := ext_fld (o := .ins C dx (putF "kept" (.int 0) (putF "chosen" vc (putF "marks" vm (putF "graph" vg []))))) (ext_fld (o := .ins C dx (putF "chosen" vc (putF "marks" vm (putF "graph" vg [])))) (e3.trans e4) hx g4x) hx g4x
      refine q G4 _ e5 ⟨dx, vg, vm, vc, .int 0, C, T.ic, g4x, ?_, ?_, Dp.ex (e2.g.trans e4.g) _ d1, fun z => (g1 z).ex (e2.g.trans e4.g), Dp.ex (e2.g.trans e4.g) _ d2, dc, .int 0⟩
      · rw [upd_same]; rfl
      · rw [upd_ne ne, upd_ne ne]
        exact e4.h dx _ (by rw [upd_ne ne, upd_ne ne]; exact H1d)
end
end FE

namespace FE
open PySem L2 PyProof.Rows PySem.Spec
/-! ## C(..), where what is raised is told at the caller's slots -/
section
variable {X : Cx} {CX : CXT} {k : Nat} {f C : Addr} {fd : FuncData} {ps : List Str} {sp : Sp} {E : L2.St → XK} {x : Str} {p pos : Pos} {e : Expr} {es : List Expr} {t : TA}
def tMakeS (C : Addr) (sp : Sp) (E : L2.St → XK) (t : TA) : TE := fun σ H Q => t σ H fun vs H1 => ∀ x dx, H1 x = none → H1 dx = none → dx ≠ x →
  sp (.ref x :: vs) (upd (upd H1 dx (.own x)) x (.ins C dx [])) (fun v H2 => v = .non ∧ Q (.ref x) H2) (E σ)
theorem pe_makeS (M : Mk X.K C f) (F : FnOk X.prog X.w X.K X.mg X.base CX k f fd ps sp) (hr : Room (k + 1) X.A) (hg : Gl X x) (hm : X.mg x = some (.ref C)) (hb : Binds X.K fd ps []) (hx : ∀ σ, PassesAt CX X σ (E σ))
    (ha : PA X (e :: es) t) (hdb : (x == ("__debug__" : Str)) = false := by decide) (he : starEach (e :: es) X.env = (false, eval e X.env) :: starEach es X.env := by rfl) (hpl : (backTo pos (starEach es X.env)).any (·.1) = false := by rfl) :
    PE X (.Call (.Name x p) (e :: es) [] pos) (tMakeS C sp E t) := by
  refine ⟨fun pins s σ H Q I h => ?_⟩
  refine wpAny_Call_Name_kw (ld_glob I hg hm ?_ hdb)
  refine PySem.W.callWith_K (h₀ := X.base) I.ok.mod.kin M.kp (thn (ha.run pos pins s σ H _ I h) fun us s1 ⟨vs, H1, I1, r, q⟩ => ⟨I1.kIn, ?_⟩) he hpl
  have hq := q (s1.heap.objs.size + 1) s1.heap.objs.size (I1.hok.fresh (Nat.le_succ _)) (I1.hok.fresh (Nat.le_refl _)) (Nat.ne_of_lt (Nat.lt_succ_self _))
  have I2 := Inv.made (C := C) I1
  have r2 : Vals (V.ref (s1.heap.objs.size + 1) :: vs) (Value.ref (s1.heap.objs.size + 1) :: us) := .cons rfl r
  have hl : (Value.ref (s1.heap.objs.size + 1) :: us ++ ([] : List Value)).length = ps.length := by
    have e := r2.length
    rw [F.len _ _ _ _ hq] at e
    rw [List.append_nil]; exact e.symm
  have hbt := hb _ (Value.ref (s1.heap.objs.size + 1) :: us) I2.kIn hl
  rw [List.append_nil] at hbt
  refine wpAny_call (make_map (f := f) I1.kIn M.makes M.init (beq_iff_eq.mp M.fn) (codeAny_mono (F.run _ X.stack _ _ ⟨Value.ref (s1.heap.objs.size + 1) :: us, []⟩ (Value.ref (s1.heap.objs.size + 1) :: us) _ _ (E σ) (hr.make C us [])
    (I2.env0.make C us []) hbt r2 hq) fun r s' hq' => ?_))
  cases r with
  | error e => exact hx σ pins _ _ e s' I2 hq'
  | ok fl =>
    cases fl with
    | ret u =>
      obtain ⟨v, H', I3, rv, ev, q3⟩ := I2.after hq'
      subst ev
      exact ⟨rv, ⟨V.ref (s1.heap.objs.size + 1), H', I3, rfl, q3⟩⟩
    | next => exact False.elim hq'
    | brk => exact False.elim hq'
    | cont => exact False.elim hq'
end
/-! ## __init__'s promise -/
def obS (K : PySem.W.Frag) (ca : CA) (C x : Addr) (G H0 : Hp) (dg dm : D) (nd : Bool) (Q : VK) (E : XK) : R D → Prop
  | .ok _ => ∀ G' H', Ext G H0 G' H' → ObOk K G' H' x ⟨dg, dm, .tuple [], .int 0, nd⟩ → Q .non H'
  | .exc e => ∀ c dd G' H', Ext G H0 G' H' → ExcAt K ca G' H' e c dd → E c dd H'
  | .bad => False
def spI (K : PySem.W.Frag) (ca : CA) (C : Addr) (sem : List D → R D) : Sp := fun vs H Q E => ∃ (G H0 : Hp) (x dx : Addr) (vg vm : V) (dg dm : D) (nd : Bool), vs = [.ref x, vg, vm] ∧ Ex G H0 ∧ H0 x = none ∧ H0 dx = none ∧ dx ≠ x ∧ H = upd (upd H0 dx (.own x)) x (.ins C dx []) ∧
  Dp K G vg dg ∧ Dp K G vm dm ∧ (nd = true → GrV K G vg dg) ∧ obS K ca C x G H0 dg dm nd Q E (sem [dg, dm])
theorem fn_init {P : Program} {w : World} {K : PySem.W.Frag} {mg : Str → Option Value} {base : Heap} {ca : CA} {x qual : Str} {st : Stmt} {f C : Addr} {fd : FuncData} {N ps : List Str} {k : Nat} {g : Rho → R D} {sem : List D → R D} (F : Fun K x qual st f fd) (S : FnScope N ps (defScope st)) (hps : ps.length = 3) (hN : N.length = 3)
    (hg : ∀ dg dm, g [none, some (.sh dg), some (.sh dm)] = sem [dg, dm])
    (hbody : ∀ (cdv : Value) (A : Around) (outer : List Env) (s : Shared) (H : Hp) (E : XK), Room k (A.deeper (envOfC qual (defScope st) s.heap.objs.size f cdv)) →
      PSs (cxOf (L2.CX P w) P w K mg base N qual (defScope st) f cdv A outer s H E) (defBody st) (tInit K ca (fun c d _ H' => E c d H') C g)) : FnOk P w K mg base (L2.CX P w) (k + 1) f fd ps (spI K ca C sem) := by
  refine F.okX S (fun vs H Q E ⟨G, H0, y, dx, vg, vm, dg, dm, nd, e, _⟩ => by rw [e, hps]; rfl) fun cdv A outer s H vs Q E hr h => ⟨_, hbody cdv A outer s H E hr, ?_⟩
  obtain ⟨G, H0, y, dx, vg, vm, dg, dm, nd, rfl, h1, h2, h3, h4, h5, h6, h7, h8, q⟩ := h
  refine ⟨G, H0, y, dx, vg, vm, dg, dm, nd, ?_, h1, h2, h3, h4, h5, h6, h7, h8, ?_⟩
  · simp [L2.start, hN]
  · rw [hg]
    cases hs : sem [dg, dm] with
    | ok d => rw [hs] at q; exact fun G' H' e o => q G' H' e o
    | exc e => rw [hs] at q; exact fun c dd G' H' e2 hx => q c dd G' H' e2 hx
    | bad => rw [hs] at q; exact q
end FE

namespace FE
open PySem L2 PyProof.Rows PySem.Spec
/-- the class x makes planners -/
def PlOk (P : Program) (w : World) (K : PySem.W.Frag) (mg : Str → Option Value) (base : Heap) (ca : CA) (k : Nat) (x : Str) (sem : List D → R D) : Prop :=
  ∃ C f fd ps, mg x = some (.ref C) ∧ Mk K C f ∧ Binds K fd ps [] ∧ PlTxt K C ∧ FnOk P w K mg base (L2.CX P w) k f fd ps (spI K ca C sem)
/-- Planner(g, m) that raises -/
def mkXF (sem : List D → R D) (fA : Rho → R (List D)) : Rho → R D := fun ρ => do
  let ds ← fA ρ
  match ds with
  | [g, m] => (match sem [g, m] with
    | .exc e => .exc e
    | _ => .bad)
  | _ => .bad
section
variable {X : Cx} {ca : CA} {W : WX} {k j : Nat} {x : Str} {sem : List D → R D} {p pos : Pos} {e : Expr} {es : List Expr} {fA : Rho → R (List D)}
theorem fe_mkX (tk : Takes X W) (o : PlOk X.prog X.w X.K X.mg X.base ca k x sem) (hr : Room j X.A) (hkj : k + 1 ≤ j) (hg : Gl X x) (ha : FA X ca W fA (e :: es)) (hdb : (x == ("__debug__" : Str)) = false := by decide)
    (he : starEach (e :: es) X.env = (false, eval e X.env) :: starEach es X.env := by rfl) (hpl : (backTo pos (starEach es X.env)).any (·.1) = false := by rfl) : FE X ca W (mkXF sem fA) (.Call (.Name x p) (e :: es) [] pos) := by
  obtain ⟨C, f, fd, ps, hm, M, hb, T, F⟩ := o
  refine PEimp (pe_makeS M F (hr.mono hkj) hg hm hb (fun σ => passAt tk σ) ha hdb he hpl) fun σ H Q ⟨G, ρ, env, q⟩ => ?_
  refine ⟨G, ρ, env, q.bind.imp fun ds q vs G1 H1 e1 dvs a dx hx hdx ne => ?_⟩
  match ds, dvs, q with
  | [g, m], .cons d1 (.cons d2 .nil), q =>
    refine ⟨G1, H1, a, dx, _, _, g, m, false, rfl, e1.gh, hx, hdx, ne, rfl, d1, d2, (fun z => Bool.noConfusion z), ?_⟩
    simp only at q
    cases hs : sem [g, m] with
    | ok d => rw [hs] at q; exact q.elim
    | bad => rw [hs] at q; exact q.elim
    | exc z => rw [hs] at q; exact fun c dd G' H' e2 hx => q c dd G' H' (e1.trans e2) hx
end
end FE

namespace FE
open PySem L2 PyProof.Rows PySem.Spec
/-! ## planners that are looked at -/
def obAt (i : Nat) (ρ : Rho) : Option ObD := match ρ[i]? with
  | some (some (.ob P)) => some P
  | some (some (.rd P)) => some P
  | _ => none
theorem EnvOk.obAt {K : PySem.W.Frag} {G H : Hp} {σ : L2.St} {ρ : Rho} {i : Nat} {P : ObD} (k : EnvOk K G H σ ρ) (h : obAt i ρ = some P) : ∃ p, σ[i]? = some (some (.ref p)) ∧ ObOk K G H p P := by
  unfold FE.obAt at h
  split at h
  · rename_i Q hq; cases h; exact k.ob hq
  · rename_i Q hq; cases h; exact k.rd hq
  · cases h
def PlT (K : PySem.W.Frag) : Prop := ∃ C, PlTxt K C
theorem lkp_here {k : Str} {v : V} {r : List (Str × V)} : List.lookup k ((k, v) :: r) = some v := by
  have e : (k == k) = true := beq_self_eq_true k
  simp only [List.lookup, e]
theorem lkp_past {k g : Str} {v : V} {r : List (Str × V)} (h : (k == g) = false) : List.lookup k ((g, v) :: r) = List.lookup k r := by
  simp only [List.lookup, h]
abbrev obFs (vg vm vc vk : V) : List (Str × V) := [("graph", vg), ("marks", vm), ("chosen", vc), ("kept", vk)]
theorem lk_graph {vg vm vc vk : V} : List.lookup ("graph" : Str) (obFs vg vm vc vk) = some vg := lkp_here
theorem lk_marks {vg vm vc vk : V} : List.lookup ("marks" : Str) (obFs vg vm vc vk) = some vm := (lkp_past (by decide +kernel)).trans lkp_here
theorem lk_chosen {vg vm vc vk : V} : List.lookup ("chosen" : Str) (obFs vg vm vc vk) = some vc := (lkp_past (by decide +kernel)).trans ((lkp_past (by decide +kernel)).trans lkp_here)
theorem lk_kept {vg vm vc vk : V} : List.lookup ("kept" : Str) (obFs vg vm vc vk) = some vk := (lkp_past (by decide +kernel)).trans ((lkp_past (by decide +kernel)).trans ((lkp_past (by decide +kernel)).trans lkp_here))
def NoFld (m : Str) : Prop := (m == ("graph" : Str)) = false ∧ (m == ("marks" : Str)) = false ∧ (m == ("chosen" : Str)) = false ∧ (m == ("kept" : Str)) = false
instance (m : Str) : Decidable (NoFld m) := by unfold NoFld; infer_instance
theorem NoFld.lk {m : Str} (h : NoFld m) {vg vm vc vk : V} : List.lookup m (obFs vg vm vc vk) = none := (lkp_past h.1).trans ((lkp_past h.2.1).trans ((lkp_past h.2.2.1).trans ((lkp_past h.2.2.2).trans rfl)))
/-! ### fields -/
def fldF (i : Nat) (sel : ObD → D) : Rho → R D := fun ρ => match obAt i ρ with
  | some P => .ok (sel P)
  | none => .bad
section
variable {X : Cx} {ca : CA} {W : WX} {o e : Expr} {es : List Expr} {pos apos : Pos} {i : Nat}
theorem fe_fldX {f : Str} {sel : ObD → D} (pick : V → V → V → V → V) (T : PlT X.K) (hn : ∀ C, PlTxt X.K C → NoAttr X.K C f) (lk : ∀ vg vm vc vk : V, List.lookup f (obFs vg vm vc vk) = some (pick vg vm vc vk))
    (dp : ∀ (G : Hp) (P : ObD) (vg vm vc vk : V), Dp X.K G vg P.g → Dp X.K G vm P.m → Dp X.K G vc P.ch → Dp X.K G vk P.kept → Dp X.K G (pick vg vm vc vk) (sel P)) (ho : PE X o (tVar i)) (hb : attributeBase o f X.env (eval o X.env) = eval o X.env) :
    FE X ca W (fldF i sel) (.Attribute o f pos) := PEimp (pe_fld ho hb) fun σ H Q ⟨G, ρ, env, q⟩ => by
  unfold fldF at q
  cases hP : obAt i ρ with
  | none => rw [hP] at q; exact q.elim
  | some P =>
    rw [hP] at q
    obtain ⟨p, h1, dx, vg, vm, vc, vk, C, ic, h2, h3, h4, d1, d2, d3, d4, d5⟩ := env.obAt hP
    obtain ⟨C', T'⟩ := T
    have z := ic.uniq T'.ic
    subst z
    exact ⟨.ref p, h1, p, C, dx, _, _, rfl, h3, T'.cls, hn _ T', lk _ _ _ _, q _ G H (Ext.refl env.ext) (dp G P vg vm vc vk d1 d3 d4 d5)⟩
theorem fe_graph (T : PlT X.K) (ho : PE X o (tVar i)) (hb : attributeBase o "graph" X.env (eval o X.env) = eval o X.env := by rfl) : FE X ca W (fldF i ObD.g) (.Attribute o "graph" pos) := fe_fldX (fun a _ _ _ => a) T (fun _ t => t.n1) (fun _ _ _ _ => lk_graph) (fun _ _ _ _ _ _ h _ _ _ => h) ho hb
theorem fe_marks (T : PlT X.K) (ho : PE X o (tVar i)) (hb : attributeBase o "marks" X.env (eval o X.env) = eval o X.env := by rfl) : FE X ca W (fldF i ObD.m) (.Attribute o "marks" pos) := fe_fldX (fun _ a _ _ => a) T (fun _ t => t.n2) (fun _ _ _ _ => lk_marks) (fun _ _ _ _ _ _ _ h _ _ => h) ho hb
theorem fe_chosen (T : PlT X.K) (ho : PE X o (tVar i)) (hb : attributeBase o "chosen" X.env (eval o X.env) = eval o X.env := by rfl) : FE X ca W (fldF i ObD.ch) (.Attribute o "chosen" pos) := fe_fldX (fun _ _ a _ => a) T (fun _ t => t.n3) (fun _ _ _ _ => lk_chosen) (fun _ _ _ _ _ _ _ _ h _ => h) ho hb
theorem fe_kept (T : PlT X.K) (ho : PE X o (tVar i)) (hb : attributeBase o "kept" X.env (eval o X.env) = eval o X.env := by rfl) : FE X ca W (fldF i ObD.kept) (.Attribute o "kept" pos) := fe_fldX (fun _ _ _ a => a) T (fun _ t => t.n4) (fun _ _ _ _ => lk_kept) (fun _ _ _ _ _ _ _ _ _ h => h) ho hb
/-- o.graph, whose tuple of edges is known -/
def fldG (i : Nat) : Rho → R D := fun ρ => match obAt i ρ with
  | some P => if P.nd = true then .ok P.g else .bad
  | none => .bad
theorem feg_graph (T : PlT X.K) (ho : PE X o (tVar i)) (hb : attributeBase o "graph" X.env (eval o X.env) = eval o X.env := by rfl) : FEG X ca W (fldG i) (.Attribute o "graph" pos) := PEimp (pe_fld ho hb) fun σ H Q ⟨G, ρ, env, q⟩ => by
  unfold fldG at q
  cases hP : obAt i ρ with
  | none => rw [hP] at q; exact q.elim
  | some P =>
    rw [hP] at q
    obtain ⟨p, h1, dx, vg, vm, vc, vk, C, ic, h2, h3, h4, d1, d2, d3, d4, d5⟩ := env.obAt hP
    obtain ⟨C', T'⟩ := T
    have z := ic.uniq T'.ic
    subst z
    simp only at q
    by_cases hn : P.nd = true
    · rw [if_pos hn] at q
      exact ⟨.ref p, h1, p, C, dx, _, _, rfl, h3, T'.cls, T'.n1, lk_graph, q _ G H (Ext.refl env.ext) d1 (d2 hn)⟩
    · rw [if_neg hn] at q; exact q.elim
end
/-! ### methods that only look, defs whose first argument is such a planner -/
def spR (K : PySem.W.Frag) (ca : CA) (n : Nat) (sem : ObD → List D → R D) : Sp := fun vs H Q E => ∃ (G : Hp) (p : Addr) (P : ObD) (vs0 : List V) (ds : List D), vs = .ref p :: vs0 ∧ Ex G H ∧ ObOk K G H p P ∧ DpAll K G vs0 ds ∧ ds.length + 1 = n ∧ match sem P ds with
  | .ok d => ∀ v G' H', Ext G H G' H' → Dp K G' v d → Q v H'
  | .exc z => ∀ c dd G' H', Ext G H G' H' → ExcAt K ca G' H' z c dd → E c dd H'
  | .bad => False
theorem spR_len {K : PySem.W.Frag} {ca : CA} {ps : List Str} {sem : ObD → List D → R D} : ∀ vs H Q E, spR K ca ps.length sem vs H Q E → vs.length = ps.length := fun vs H Q E ⟨G, p, P, vs0, ds, e, _, _, h2, h3, _⟩ => by rw [e, List.length_cons, DpAll.len h2, h3]
def startR (n : Nat) (P : ObD) (ds : List D) : Rho := (start0 n (.none :: ds)).set 0 (some (.rd P))
def bodyR (n : Nat) (g : Rho → Out) : ObD → List D → R D := fun P ds => match g (startR n P ds) with
  | .nx _ => .ok .none
  | .ret d => .ok d
  | .exc e => .exc e
  | .bad => .bad
theorem start0_noow {n : Nat} {ds : List D} : ∀ (i : Nat) (o : Option SV), (start0 n ds)[i]? = some o → isOw o = false := fun i o hi => by
  unfold start0 at hi
  by_cases z : i < ds.length
  · rw [List.getElem?_append_left (by simpa using z), List.getElem?_map] at hi
    cases q : ds[i]? with
    | none => rw [q] at hi; cases hi
    | some d => rw [q] at hi; cases hi; rfl
  · rw [List.getElem?_append_right (by simpa using z), List.getElem?_replicate] at hi
    split at hi
    · cases hi; rfl
    · cases hi
theorem startR_env {K : PySem.W.Frag} {G H : Hp} {N : List Str} {p : Addr} {P : ObD} {vs : List V} {ds : List D} (e : Ex G H) (ho : ObOk K G H p P) (h : DpAll K G vs ds) : StOk K G H G H (start N (.ref p :: vs)) (startR N.length P ds) := by
  have s := start_env (N := N) (vs := .non :: vs) (ds := .none :: ds) e (.cons .non h)
  have k := s.env.set (i := 0) (o := some (.rd P)) (x := some (.ref p)) ⟨p, rfl, ho⟩ fun _ j u q _ hj hu _ => by
    rw [start0_noow j u hj] at hu; cases hu
  have e1 : (start N (.non :: vs)).set 0 (some (.ref p)) = start N (.ref p :: vs) := by
    unfold L2.start
    rfl
  rw [e1] at k
  refine ⟨k, Ext.refl e, fun j u q hj hu hq => ?_⟩
  unfold startR at hj
  by_cases z : 0 = j
  · subst z
    have hl : 0 < (start0 N.length (.none :: ds)).length := by simp [start0]
    rw [List.getElem?_set_self hl] at hj; cases hj; cases hu
  · rw [List.getElem?_set_ne z] at hj
    rw [isOn_no (start0_noow j u hj)] at hu; cases hu
theorem fn_okR {P : Program} {w : World} {K : PySem.W.Frag} {mg : Str → Option Value} {base : Heap} {ca : CA} {x qual : Str} {st : Stmt} {f : Addr} {fd : FuncData} {N ps : List Str} {k n : Nat} {g : Rho → Out} (F : Fun K x qual st f fd) (S : FnScope N ps (defScope st)) (hn : N.length = n)
    (hbody : ∀ (cdv : Value) (A : Around) (outer : List Env) (s : Shared) (H : Hp) (E : XK), Room k (A.deeper (envOfC qual (defScope st) s.heap.objs.size f cdv)) →
      FSs (cxOf (L2.CX P w) P w K mg base N qual (defScope st) f cdv A outer s H E) ca (fun c d _ H' => E c d H') g (defBody st)) : FnOk P w K mg base (L2.CX P w) (k + 1) f fd ps (spR K ca ps.length (bodyR n g)) := by
  subst hn
  refine F.okX S spR_len fun cdv A outer s H vs Q E hr h => ⟨_, hbody cdv A outer s H E hr, ?_⟩
  obtain ⟨G, p, P, vs0, ds, rfl, hG, ho, hd, hl, q⟩ := h
  refine ⟨G, H, G, startR N.length P ds, startR_env hG ho hd, ?_⟩
  unfold bodyR at q
  cases hg : g (startR N.length P ds) with
  | nx ρ => rw [hg] at q; exact fun σ' G' H' s' => q .non G' H' s'.ext .non
  | ret d => rw [hg] at q; exact fun v G' H' e dv => q v G' H' e dv
  | exc z => rw [hg] at q; exact fun c dd σ' G' H' e hx => q c dd G' H' e hx
  | bad => rw [hg] at q; exact q
/-- a method of planners in the text -/
def DefM (K : PySem.W.Frag) (m qual : Str) (st : Stmt) (ps : List Str) : Prop := ∃ C f fd, PlTxt K C ∧ Meth K C m f ∧ Fun K m qual st f fd ∧ Binds K fd ps []
def OkR (P : Program) (w : World) (K : PySem.W.Frag) (mg : Str → Option Value) (base : Heap) (ca : CA) (k : Nat) (m : Str) (ps : List Str) (sem : ObD → List D → R D) : Prop :=
  ∃ C f fd, PlTxt K C ∧ Meth K C m f ∧ Binds K fd ps [] ∧ FnOk P w K mg base (L2.CX P w) k f fd ps (spR K ca ps.length sem)
theorem OkR.mk {P : Program} {w : World} {K : PySem.W.Frag} {mg : Str → Option Value} {base : Heap} {ca : CA} {m qual : Str} {st : Stmt} {N ps : List Str} {k n : Nat} {g : Rho → Out} (d : DefM K m qual st ps) (S : FnScope N ps (defScope st)) (hn : N.length = n)
    (hbody : ∀ (cdv : Value) (A : Around) (outer : List Env) (s : Shared) (H : Hp) (E : XK) (f : Addr), Room k (A.deeper (envOfC qual (defScope st) s.heap.objs.size f cdv)) →
      FSs (cxOf (L2.CX P w) P w K mg base N qual (defScope st) f cdv A outer s H E) ca (fun c d _ H' => E c d H') g (defBody st)) : OkR P w K mg base ca (k + 1) m ps (bodyR n g) := by
  obtain ⟨C, f, fd, T, M, F, b⟩ := d
  exact ⟨C, f, fd, T, M, b, fn_okR F S hn fun cdv A outer s H E hr => hbody cdv A outer s H E f hr⟩
/-- a def that is given a planner to look at -/
def OkRf (P : Program) (w : World) (K : PySem.W.Frag) (mg : Str → Option Value) (base : Heap) (ca : CA) (k : Nat) (x : Str) (ps : List Str) (sem : ObD → List D → R D) : Prop :=
  ∃ f fd, mg x = some (.ref f) ∧ PySem.W.keepIn K (.ref f) = true ∧ Binds K fd ps [] ∧ FnOk P w K mg base (L2.CX P w) k f fd ps (spR K ca ps.length sem)
theorem OkRf.mk {P : Program} {w : World} {K : PySem.W.Frag} {mg : Str → Option Value} {base : Heap} {ca : CA} {x : Str} {st : Stmt} {N ps : List Str} {k n : Nat} {g : Rho → Out} (d : DefE K mg x st ps) (S : FnScope N ps (defScope st)) (hn : N.length = n)
    (hbody : ∀ (cdv : Value) (A : Around) (outer : List Env) (s : Shared) (H : Hp) (E : XK) (f : Addr), Room k (A.deeper (envOfC x (defScope st) s.heap.objs.size f cdv)) →
      FSs (cxOf (L2.CX P w) P w K mg base N x (defScope st) f cdv A outer s H E) ca (fun c d _ H' => E c d H') g (defBody st)) : OkRf P w K mg base ca (k + 1) x ps (bodyR n g) := by
  obtain ⟨f, fd, h1, F, h2⟩ := d
  exact ⟨f, fd, h1, F.kp, h2, fn_okR F S hn fun cdv A outer s H E hr => hbody cdv A outer s H E f hr⟩
/-! ### calls -/
section
variable {X : Cx} {CX : CXT} {k : Nat} {f C : Addr} {fd : FuncData} {ps : List Str} {sp : Sp} {E : L2.St → XK} {m : Str} {pos apos : Pos} {e o : Expr} {es : List Expr} {ta : TE} {t : TA}
/-- o.m(e, ..): what it raises is told at the caller's slots -/
def tMethS (C : Addr) (m : Str) (sp : Sp) (E : L2.St → XK) (ta : TE) (t : TA) : TE := fun σ H Q => ta σ H fun x H1 => ∃ a dx fs, x = .ref a ∧ H1 a = some (.ins C dx fs) ∧ fs.lookup m = none ∧ t σ H1 fun vs H2 => sp (x :: vs) H2 Q (E σ)
theorem pe_methS {pl : Sem Bool} (he : PE X o ta) (c : Cls X.K C) (hm : Meth X.K C m f)
    (F : FnOk X.prog X.w X.K X.mg X.base CX k f fd ps sp) (hr : Room k X.A) (hb : Binds X.K fd ps []) (hx : ∀ σ, PassesAt CX X σ (E σ)) (ha : PA X (e :: es) t)
    (hst : starEach (e :: es) X.env = (false, eval e X.env) :: starEach es X.env) (hpl : (backTo pos (starEach es X.env)).any (·.1) = false)
    (ht : eval (.Call (.Attribute o m apos) (e :: es) [] pos) X.env = (do
      let ov ← eval o X.env
      standAt apos.atName
      let (f, first) ← holding [ov] (getMethod ov m pl)
      callWith pos f first (backTo pos (starEach (e :: es) X.env)) (backToKw pos (keywordEach [] X.env)))) :
    PE X (.Call (.Attribute o m apos) (e :: es) [] pos) (tMethS C m sp E ta t) := by
  refine ⟨fun pins s σ H Q I h => ?_⟩
  refine PySem.W.methodCall_KW (pl := pl) (thn (he.run pins s σ H _ I h) fun u s1 ⟨x, H1, I1, rx, a, dx, fs, ex, ea, l, q⟩ => ?_) ht
  subst ex
  obtain rfl : u = Value.ref a := rx
  refine getmeth_ok I1 ea c hm l ?_
  refine PySem.W.callWith_K (first := [.ref a]) (h₀ := X.base) I.ok.mod.kin hm.kp (thn (ha.run pos pins s1 σ H1 _ I1 q) fun us s2 ⟨vs, H2, I2, r, q2⟩ => ⟨I2.kIn, ?_⟩) hst hpl
  exact run_fnS (us := .ref a :: us) (vs := .ref a :: vs) F hr hb (hx σ) I2 (.cons rfl r) q2
theorem pe_methS0 {pl : Sem Bool} (he : PE X o ta) (c : Cls X.K C) (hm : Meth X.K C m f)
    (F : FnOk X.prog X.w X.K X.mg X.base CX k f fd ps sp) (hr : Room k X.A) (hb : Binds X.K fd ps []) (hx : ∀ σ, PassesAt CX X σ (E σ))
    (ht : eval (.Call (.Attribute o m apos) [] [] pos) X.env = (do
      let ov ← eval o X.env
      standAt apos.atName
      let (f, first) ← holding [ov] (getMethod ov m pl)
      callWith pos f first (backTo pos (starEach [] X.env)) (backToKw pos (keywordEach [] X.env)))) :
    PE X (.Call (.Attribute o m apos) [] [] pos) (tMethS C m sp E ta tNil) := by
  refine ⟨fun pins s σ H Q I h => ?_⟩
  refine PySem.W.methodCall_KW (pl := pl) (thn (he.run pins s σ H _ I h) fun u s1 ⟨x, H1, I1, rx, a, dx, fs, ex, ea, l, q⟩ => ?_) ht
  subst ex
  obtain rfl : u = Value.ref a := rx
  refine getmeth_ok I1 ea c hm l ?_
  exact PySem.W.callWith_K0 (first := [.ref a]) I1.kIn hm.kp (run_fnS (us := [.ref a]) (vs := [.ref a]) F hr hb (hx σ) I1 (.cons rfl .nil) q)
end
def methF (i n : Nat) (sem : ObD → List D → R D) (fA : Rho → R (List D)) : Rho → R D := fun ρ => match obAt i ρ with
  | some P => (do let ds ← fA ρ; if ds.length + 1 = n then sem P ds else .bad)
  | none => .bad
section
variable {X : Cx} {ca : CA} {W : WX} {o e : Expr} {es : List Expr} {pos apos p : Pos} {i k j n : Nat} {m x : Str} {ps : List Str} {sem : ObD → List D → R D} {fA : Rho → R (List D)}
/-- what is left of a call, its arguments read -/
theorem spR_go {σ : L2.St} {G H G1 H1 : Hp} {ρ : Rho} {P : ObD} {ds : List D} {vs : List V} {a : Addr} {Q : VK} (e1 : Ext G H G1 H1) (ho : ObOk X.K G1 H1 a P) (dvs : DpAll X.K G1 vs ds)
    (q : ARes X.K ca W σ G H (fun d => ∀ v G' H', Ext G H G' H' → Dp X.K G' v d → Q v H') (if ds.length + 1 = n then sem P ds else .bad)) : spR X.K ca n sem (.ref a :: vs) H1 Q (WE W σ) := by
  by_cases hl : ds.length + 1 = n
  · rw [if_pos hl] at q
    refine ⟨G1, a, P, vs, ds, rfl, e1.gh, ho, dvs, hl, ?_⟩
    cases hsem : sem P ds with
    | ok d => rw [hsem] at q; exact fun v G' H' e2 dv => q v G' H' (e1.trans e2) dv
    | exc z => rw [hsem] at q; exact fun c dd G' H' e2 hx => q c dd G' H' (e1.trans e2) hx
    | bad => rw [hsem] at q; exact q
  · rw [if_neg hl] at q; exact q.elim
theorem fe_meth {pl : Sem Bool} (tk : Takes X W) (c : OkR X.prog X.w X.K X.mg X.base ca k m ps sem) (hr : Room j X.A) (hkj : k ≤ j) (hv : PE X o (tVar i)) (ha : FA X ca W fA (e :: es)) (nf : NoFld m := by decide +kernel)
    (hst : starEach (e :: es) X.env = (false, eval e X.env) :: starEach es X.env := by rfl) (hpl : (backTo pos (starEach es X.env)).any (·.1) = false := by rfl)
    (ht : eval (.Call (.Attribute o m apos) (e :: es) [] pos) X.env = (do
      let ov ← eval o X.env
      standAt apos.atName
      let (f, first) ← holding [ov] (getMethod ov m pl)
      callWith pos f first (backTo pos (starEach (e :: es) X.env)) (backToKw pos (keywordEach [] X.env))) := by rfl) (hn : ps.length = n := by rfl) : FE X ca W (methF i n sem fA) (.Call (.Attribute o m apos) (e :: es) [] pos) := by
  subst hn
  obtain ⟨C, f, fd, T, M, hb, F⟩ := c
  refine PEimp (pe_methS hv T.cls M F (hr.mono hkj) hb (fun σ => passAt tk σ) ha hst hpl ht) fun σ H Q ⟨G, ρ, env, q⟩ => ?_
  unfold methF at q
  cases hP : obAt i ρ with
  | none => rw [hP] at q; exact q.elim
  | some P =>
    rw [hP] at q
    obtain ⟨a, h1, dx, vg, vm, vc, vk, C', ic, h2, h3, h4⟩ := env.obAt hP
    have z := ic.uniq T.ic
    subst z
    have ho : ObOk X.K G H a P := ⟨dx, vg, vm, vc, vk, C', ic, h2, h3, h4⟩
    exact ⟨.ref a, h1, a, dx, _, rfl, h3, nf.lk, G, ρ, env, ARes.imp (ARes.bind q) fun ds q vs G1 H1 e1 dvs => spR_go (ρ := ρ) e1 (ho.ext e1) dvs q⟩
theorem fe_meth0 {pl : Sem Bool} (tk : Takes X W) (c : OkR X.prog X.w X.K X.mg X.base ca k m ps sem) (hr : Room j X.A) (hkj : k ≤ j) (hv : PE X o (tVar i)) (nf : NoFld m := by decide +kernel)
    (ht : eval (.Call (.Attribute o m apos) [] [] pos) X.env = (do
      let ov ← eval o X.env
      standAt apos.atName
      let (f, first) ← holding [ov] (getMethod ov m pl)
      callWith pos f first (backTo pos (starEach [] X.env)) (backToKw pos (keywordEach [] X.env))) := by rfl) (hn : ps.length = n := by rfl) : FE X ca W (methF i n sem aN) (.Call (.Attribute o m apos) [] [] pos) := by
  subst hn
  obtain ⟨C, f, fd, T, M, hb, F⟩ := c
  refine PEimp (pe_methS0 hv T.cls M F (hr.mono hkj) hb (fun σ => passAt tk σ) ht) fun σ H Q ⟨G, ρ, env, q⟩ => ?_
  unfold methF at q
  cases hP : obAt i ρ with
  | none => rw [hP] at q; exact q.elim
  | some P =>
    rw [hP] at q
    obtain ⟨a, h1, dx, vg, vm, vc, vk, C', ic, h2, h3, h4⟩ := env.obAt hP
    have z := ic.uniq T.ic
    subst z
    have ho : ObOk X.K G H a P := ⟨dx, vg, vm, vc, vk, C', ic, h2, h3, h4⟩
    exact ⟨.ref a, h1, a, dx, _, rfl, h3, nf.lk, spR_go (ρ := ρ) (Ext.refl env.ext) ho .nil q⟩
/-- f(o, ..) -/
theorem fe_callR (tk : Takes X W) (c : OkRf X.prog X.w X.K X.mg X.base ca k x ps sem) (hr : Room j X.A) (hkj : k ≤ j) (hg : Gl X x) (hv : PE X e (tVar i)) (ha : FA X ca W fA es) (hdb : (x == ("__debug__" : Str)) = false := by decide)
    (he : starEach (e :: es) X.env = (false, eval e X.env) :: starEach es X.env := by rfl) (hpl : (backTo pos (starEach es X.env)).any (·.1) = false := by rfl) (hn : ps.length = n := by rfl) : FE X ca W (methF i n sem fA) (.Call (.Name x p) (e :: es) [] pos) := by
  subst hn
  obtain ⟨f, fd, h1, h2, h3, h4⟩ := c
  refine PEimp (pe_callS h4 (hr.mono hkj) hg h1 h2 h3 (fun σ => passAt tk σ) (pa_cons hv ha he) hdb he hpl) fun σ H Q ⟨G, ρ, env, q⟩ => ?_
  unfold methF at q
  cases hP : obAt i ρ with
  | none => rw [hP] at q; exact q.elim
  | some P =>
    rw [hP] at q
    obtain ⟨a, k1, ho⟩ := env.obAt hP
    exact ⟨.ref a, k1, G, ρ, env, ARes.imp (ARes.bind q) fun ds q vs G1 H1 e1 dvs => spR_go (ρ := ρ) e1 (ho.ext e1) dvs q⟩
/-- f(e, ..), e a graph whose tuple is known -/
def callPGF (n : Nat) (sem : List D → R D) (f0 : Rho → R D) (fA : Rho → R (List D)) : Rho → R D := fun ρ => do
  let d ← f0 ρ; let ds ← fA ρ; if (d :: ds).length = n then sem (d :: ds) else .bad
theorem fe_callPG {sem : List D → R D} {f0 : Rho → R D} (tk : Takes X W) (c : OkP X.prog X.w X.K X.mg X.base ca k x ps sem) (hr : Room j X.A) (hkj : k ≤ j) (hg : Gl X x) (hv : FEG X ca W f0 e) (ha : FA X ca W fA es) (hdb : (x == ("__debug__" : Str)) = false := by decide)
    (he : starEach (e :: es) X.env = (false, eval e X.env) :: starEach es X.env := by rfl) (hpl : (backTo pos (starEach es X.env)).any (·.1) = false := by rfl) (hn : ps.length = n := by rfl) : FE X ca W (callPGF n sem f0 fA) (.Call (.Name x p) (e :: es) [] pos) := by
  subst hn
  obtain ⟨f, fd, h1, h2, h3, h4⟩ := c
  refine PEimp (pe_callS h4 (hr.mono hkj) hg h1 h2 h3 (fun σ => passAt tk σ) (pa_cons hv ha he) hdb he hpl) fun σ H Q ⟨G, ρ, env, q⟩ => ?_
  have q0 : ARes X.K ca W σ G H (fun d => ∀ v G' H', Ext G H G' H' → Dp X.K G' v d → Q v H') (do let d ← f0 ρ; let ds ← fA ρ; if (d :: ds).length = ps.length then sem (d :: ds) else .bad) := q
  refine ⟨G, ρ, env, q0.bind.imp fun d q v G0 H0 e0 dv gv => ⟨G0, ρ, env.mono e0, q.bind.mono e0 fun ds q vs G1 H1 e1 dvs => ?_⟩⟩
  by_cases hl : (d :: ds).length = ps.length
  · rw [if_pos hl] at q
    refine ⟨G1, d, v, ds, vs, e1.gh, rfl, gv.ex e1.g, .cons (Dp.ex e1.g d dv) dvs, hl, ?_⟩
    cases hsem : sem (d :: ds) with
    | ok d => rw [hsem] at q; exact fun v G' H' e2 dv => q v G' H' ((e0.trans e1).trans e2) dv
    | exc z => rw [hsem] at q; exact fun c dd G' H' e2 hx => q c dd G' H' ((e0.trans e1).trans e2) hx
    | bad => rw [hsem] at q; exact q
  · rw [if_neg hl] at q; exact q.elim
end
end FE

namespace FE
open PySem L2 PyProof.Rows PySem.Spec
/-! ## len(o), str(o), o == p, o != p by the class's own methods -/
/-- an own def runs somewhere below; nothing is raised -/
theorem run_in {X : Cx} {A : Around} {k : Nat} {f : Addr} {fd : FuncData} {ps : List Str} {sp : Sp} {pins : List (Addr × Obj)} {σ : L2.St} {H : Hp} {s : Shared} {Q : VK} {us : List Value} {vs : List V} (sb : Sub X k A) (F : FnOk X.prog X.w X.K X.mg X.base (L2.CX X.prog X.w) k f fd ps sp) (hb : Binds X.K fd ps [])
    (I : Inv X pins σ H s) (r : Vals vs us) (h : sp vs H Q (fun _ _ _ => False)) : wpAny (model X.prog X.w) A (call (.ref f) us) (EP X pins σ Q) X.xe s := by
  have hl : us.length = ps.length := by rw [← r.length]; exact F.len _ _ _ _ h
  have b := hb s us I.kIn (by rw [List.append_nil]; exact hl)
  rw [List.append_nil] at b
  have e0 : Env0 X.prog X.w X.K X.mg X.base A X.stack s H := by
    have e := I.env0
    exact ⟨by rw [sb.fr]; exact e.frames, e.mod, e.bs, e.bsz, e.funs, e.frf, e.hok, e.bare⟩
  refine wpAny_call (codeAny_mono (F.run A X.stack s H ⟨us, []⟩ us vs Q _ sb.room e0 b r h) fun r s' hq => ?_)
  cases r with
  | error e => exact passAt (X := X) takes_none5 σ pins H s e s' I hq
  | ok fl =>
    cases fl with
    | ret u => exact I.after hq
    | next => exact False.elim hq
    | brk => exact False.elim hq
    | cont => exact False.elim hq
theorem Sub.top {X : Cx} {k : Nat} (h : Room k X.A) : Sub X k X.A := ⟨h, rfl⟩
def rLenO (K : PySem.W.Frag) (sem : ObD → List D → R D) : List V → Hp → VK → Prop := fun xs H Q => ∃ (G : Hp) (p : Addr) (P : ObD) (n : Int), xs = [.ref p] ∧ Ex G H ∧ ObOk K G H p P ∧ sem P [] = .ok (.int n) ∧ 0 ≤ n ∧ n < 2 ^ 62 ∧ ∀ G' H', Ext G H G' H' → Q (.int n) H'
theorem call_lenO {X : Cx} {ca : CA} {k j : Nat} {ps : List Str} {sem : ObD → List D → R D} (c : OkR X.prog X.w X.K X.mg X.base ca k "__len__" ps sem) (hn : ps.length = 1) (hr : Room j X.A) (hkj : k + 1 ≤ j) : CallR X (.builtin "len") (rLenO X.K sem) := by
  intro pins s σ H xs us Q I r h
  obtain ⟨G, p, P, n, rfl, eG, ho, hs, h0, h1, q⟩ := h
  obtain ⟨u, rfl, ru⟩ := vals1 r
  obtain rfl : u = Value.ref p := ru
  obtain ⟨C, f, fd, T, M, hb, F⟩ := c
  obtain ⟨dx, vg, vm, vc, vk, C', ic, h2, h3, h4⟩ := ho
  have z := ic.uniq T.ic
  subst z
  obtain ⟨mA, J, _⟩ := ins_get I.hok h3
  obtain ⟨od, J, _⟩ := J.look
  obtain ⟨m, hF⟩ := I.fr
  refine PySem.W.len_K hF I.ok.mod.kin J M.at_ M.fn ?_
  refine wpAny_mono (run_in (Q := fun v H' => v = .int n ∧ Q (.int n) H') (vs := [.ref p]) (Sub.in1 (Sub.top (hr.mono hkj))) F hb I (.cons rfl .nil) ?_) (fun v s' hv => ?_) fun _ _ x => x
  · refine ⟨G, p, P, [], [], rfl, eG, ⟨dx, vg, vm, vc, vk, C', ic, h2, h3, h4⟩, .nil, hn.symm, ?_⟩
    rw [hs]
    exact fun v G' H' e dv => ⟨by cases dv; rfl, q G' H' e⟩
  · obtain ⟨w, H', I', rw', rfl, hq⟩ := hv
    obtain ⟨t, rfl⟩ := (show ∃ t, v = Value.int n t from rw')
    exact ⟨⟨h0, by have : (2:Int) ^ 62 < 2 ^ 63 := by decide
                   omega⟩, ⟨.int n, H', I'.tok _, ⟨_, rfl⟩, hq⟩⟩
def rStrO (K : PySem.W.Frag) (sem : ObD → List D → R D) : List V → Hp → VK → Prop := fun xs H Q => ∃ (G : Hp) (p : Addr) (P : ObD) (n : Str), xs = [.ref p] ∧ Ex G H ∧ ObOk K G H p P ∧ sem P [] = .ok (.str n) ∧ ∀ G' H', Ext G H G' H' → Q (.str n) H'
theorem call_strO {X : Cx} {ca : CA} {k j : Nat} {ps : List Str} {sem : ObD → List D → R D} (c : OkR X.prog X.w X.K X.mg X.base ca k "__str__" ps sem) (hn : ps.length = 1) (hr : Room j X.A) (hkj : k + 2 ≤ j) : CallR X (.type "str") (rStrO X.K sem) := by
  intro pins s σ H xs us Q I r h
  obtain ⟨G, p, P, n, rfl, eG, ho, hs, q⟩ := h
  obtain ⟨u, rfl, ru⟩ := vals1 r
  obtain rfl : u = Value.ref p := ru
  obtain ⟨C, f, fd, T, M, hb, F⟩ := c
  obtain ⟨dx, vg, vm, vc, vk, C', ic, h2, h3, h4⟩ := ho
  have z := ic.uniq T.ic
  subst z
  obtain ⟨mA, J, _⟩ := ins_get I.hok h3
  obtain ⟨od, J, _⟩ := J.look
  have sb : Sub X k X.A.in1.in1 := Sub.in1 (Sub.in1 (Sub.top (hr.mono hkj)))
  refine str_own sb.room.units0 I.kIn J M.at_ M.fn ?_
  refine wpAny_mono (run_in (Q := fun v H' => v = .str n ∧ Q (.str n) H') (vs := [.ref p]) sb F hb I (.cons rfl .nil) ?_) (fun v s' hv => ?_) fun _ _ x => x
  · refine ⟨G, p, P, [], [], rfl, eG, ⟨dx, vg, vm, vc, vk, C', ic, h2, h3, h4⟩, .nil, hn.symm, ?_⟩
    rw [hs]
    exact fun v G' H' e dv => ⟨by cases dv; rfl, q G' H' e⟩
  · obtain ⟨w, H', I', rw', rfl, hq⟩ := hv
    obtain ⟨t, rfl⟩ := (show ∃ t, v = Value.str n t from rw')
    exact ⟨.str n, H', I', ⟨_, rfl⟩, hq⟩
/-! ### == -/
def spE (K : PySem.W.Frag) (ca : CA) (sem : ObD → ObD ⊕ D → R D) : Sp := fun vs H Q E => ∃ (G : Hp) (p : Addr) (P : ObD) (y : V) (o : ObD ⊕ D), vs = [.ref p, y] ∧ Ex G H ∧ ObOk K G H p P ∧ (match o with
    | .inl P2 => ∃ p2, y = .ref p2 ∧ p ≠ p2 ∧ ObOk K G H p2 P2
    | .inr d => Dp K G y d) ∧ match sem P o with
  | .ok d => ∀ v G' H', Ext G H G' H' → Dp K G' v d → Q v H'
  | .exc z => ∀ c dd G' H', Ext G H G' H' → ExcAt K ca G' H' z c dd → E c dd H'
  | .bad => False
def startE (n : Nat) (P : ObD) : ObD ⊕ D → Rho
  | .inl P2 => ((start0 n [.none, .none]).set 0 (some (.rd P))).set 1 (some (.rd P2))
  | .inr d => (start0 n [.none, d]).set 0 (some (.rd P))
def bodyE (n : Nat) (g : Rho → Out) : ObD → ObD ⊕ D → R D := fun P o => match g (startE n P o) with
  | .nx _ => .ok .none
  | .ret d => .ok d
  | .exc e => .exc e
  | .bad => .bad
theorem startE_env {K : PySem.W.Frag} {G H : Hp} {N : List Str} {p : Addr} {P : ObD} {y : V} {o : ObD ⊕ D} (hN : 2 ≤ N.length) (e : Ex G H) (ho : ObOk K G H p P) (h : match o with
    | .inl P2 => ∃ p2, y = .ref p2 ∧ p ≠ p2 ∧ ObOk K G H p2 P2
    | .inr d => Dp K G y d) : StOk K G H G H (start N [.ref p, y]) (startE N.length P o) := by
  cases o with
  | inr d => exact startR_env (ds := [d]) e ho (.cons h .nil)
  | inl P2 =>
    obtain ⟨p2, rfl, hne, ho2⟩ := h
    have s := startR_env (N := N) (vs := [.non]) (ds := [.none]) e ho (.cons .non .nil)
    have k := s.env.set (i := 1) (o := some (.rd P2)) (x := some (.ref p2)) ⟨p2, rfl, ho2⟩ fun _ j u q hj1 hj hu hq hσ => by
      cases hq
      unfold startR at hj
      by_cases z : 0 = j
      · subst z
        have : (start N [.ref p, V.non])[0]? = some (some (.ref p)) := rfl
        rw [this] at hσ
        cases hσ
        exact hne rfl
      · rw [List.getElem?_set_ne z] at hj
        rw [start0_noow j u hj] at hu; cases hu
    have e1 : (start N [.ref p, V.non]).set 1 (some (.ref p2)) = start N [.ref p, .ref p2] := by
      unfold L2.start
      rfl
    rw [e1] at k
    refine ⟨k, Ext.refl e, fun j u q hj hu hq => ?_⟩
    change (((start0 N.length [PyData.none, PyData.none]).set 0 (some (SV.rd P))).set 1 (some (SV.rd P2)))[j]? = some u at hj
    by_cases z : 1 = j
    · subst z
      have hl : 1 < ((start0 N.length [.none, .none]).set 0 (some (SV.rd P))).length := by simp [start0]
      rw [List.getElem?_set_self hl] at hj; cases hj; cases hu
    · rw [List.getElem?_set_ne z] at hj
      by_cases z : 0 = j
      · subst z
        have hl : 0 < (start0 N.length [.none, .none]).length := by simp [start0]
        rw [List.getElem?_set_self hl] at hj; cases hj; cases hu
      · rw [List.getElem?_set_ne z] at hj
        rw [isOn_no (start0_noow j u hj)] at hu; cases hu
/-- what is known of the class's == -/
structure EqT (K : PySem.W.Frag) (C : Addr) : Prop where
  T : PlTxt K C
  ne : PySem.W.findIn K (.ref C) "__ne__" = some (some (.builtin "object.__ne__"))
  ob : PySem.W.mroIn K C (.type "object") = some true
  ha : PySem.W.findIn K (.ref C) "__class__" = some (some (.builtin "object.__class__"))
  hn : PySem.W.specialIn K (.builtin "object.__class__") "__get__" = some (some (.builtin "getset_descriptor.__get__"))
  tk : PySem.W.takesIn K (.builtin "object.__class__") = some true
  me : PySem.W.kitOne K (.ref C) (.ref C) = some true
  st : PySem.W.subIn K (.type "tuple") (.ref C) = some false
  ss : PySem.W.subIn K (.type "str") (.ref C) = some false
  kt : PySem.W.kitOne K (.type "tuple") (.ref C) = some false
  ks : PySem.W.kitOne K (.type "str") (.ref C) = some false
def OkE (P : Program) (w : World) (K : PySem.W.Frag) (mg : Str → Option Value) (base : Heap) (ca : CA) (k : Nat) (sem : ObD → ObD ⊕ D → R D) : Prop :=
  ∃ C f fd ps, EqT K C ∧ Meth K C "__eq__" f ∧ Binds K fd ps [] ∧ ps.length = 2 ∧ FnOk P w K mg base (L2.CX P w) k f fd ps (spE K ca sem)
theorem OkE.mk {P : Program} {w : World} {K : PySem.W.Frag} {mg : Str → Option Value} {base : Heap} {ca : CA} {qual : Str} {st : Stmt} {N ps : List Str} {k n : Nat} {g : Rho → Out} (d : DefM K "__eq__" qual st ps) (Q : ∃ C, EqT K C) (S : FnScope N ps (defScope st)) (hps : ps.length = 2) (hn : N.length = n) (hN : 2 ≤ n)
    (hbody : ∀ (cdv : Value) (A : Around) (outer : List Env) (s : Shared) (H : Hp) (E : XK) (f : Addr), Room k (A.deeper (envOfC qual (defScope st) s.heap.objs.size f cdv)) →
      FSs (cxOf (L2.CX P w) P w K mg base N qual (defScope st) f cdv A outer s H E) ca (fun c d _ H' => E c d H') g (defBody st)) : OkE P w K mg base ca (k + 1) (bodyE n g) := by
  obtain ⟨C, f, fd, T, M, F, b⟩ := d
  obtain ⟨C', q⟩ := Q
  have z := T.ic.uniq q.T.ic
  subst z
  subst hn
  refine ⟨C, f, fd, ps, q, M, b, hps, F.okX S (fun vs H Q E ⟨G, p, P, y, o, e, _⟩ => by rw [e, hps]; rfl) fun cdv A outer s H vs Q E hr h => ⟨_, hbody cdv A outer s H E f hr, ?_⟩⟩
  obtain ⟨G, p, P, y, o, rfl, hG, ho, hy, q⟩ := h
  refine ⟨G, H, G, startE N.length P o, startE_env hN hG ho hy, ?_⟩
  unfold bodyE at q
  cases hg : g (startE N.length P o) with
  | nx ρ => rw [hg] at q; exact fun σ' G' H' s' => q .non G' H' s'.ext .non
  | ret d => rw [hg] at q; exact fun v G' H' e dv => q v G' H' e dv
  | exc z => rw [hg] at q; exact fun c dd σ' G' H' e hx => q c dd G' H' e hx
  | bad => rw [hg] at q; exact q
/-- the other side of ==: a planner at another place; a tuple, a text -/
def tsD : D → Bool
  | .tuple _ => true
  | .str _ => true
  | _ => false
def rEqO (K : PySem.W.Frag) (neg : Bool) (sem : ObD → ObD ⊕ D → R D) : R2 := fun x y H Q => ∃ (G : Hp) (p : Addr) (P : ObD) (o : ObD ⊕ D) (b : Bool), x = .ref p ∧ Ex G H ∧ ObOk K G H p P ∧ (match o with
    | .inl P2 => ∃ p2, y = .ref p2 ∧ p ≠ p2 ∧ ObOk K G H p2 P2
    | .inr d => tsD d = true ∧ Dp K G y d) ∧ sem P o = .ok (.bool b) ∧ ∀ G' H', Ext G H G' H' → Q (.bl (b != neg)) H'
theorem spE_of {K : PySem.W.Frag} {ca : CA} {sem : ObD → ObD ⊕ D → R D} {G H : Hp} {p : Addr} {P : ObD} {y : V} {o : ObD ⊕ D} {b : Bool} {Q : VK} {E : XK} (eG : Ex G H) (ho : ObOk K G H p P) (hy : match o with
    | .inl P2 => ∃ p2, y = .ref p2 ∧ p ≠ p2 ∧ ObOk K G H p2 P2
    | .inr d => tsD d = true ∧ Dp K G y d) (hs : sem P o = .ok (.bool b)) (q : ∀ G' H', Ext G H G' H' → Q (.bl b) H') : spE K ca sem [.ref p, y] H Q E := by
  refine ⟨G, p, P, y, o, rfl, eG, ho, ?_, ?_⟩
  · cases o with
    | inl P2 => exact hy
    | inr d => exact hy.2
  · rw [hs]
    exact fun v G' H' e dv => by cases dv; exact q G' H' e
/-- the type of the other side -/
theorem side_ty {X : Cx} {pins : List (Addr × Obj)} {σ : L2.St} {G H : Hp} {s : Shared} {C p : Addr} {y : V} {v : Value} {o : ObD ⊕ D} (I : Inv X pins σ H s) (q : EqT X.K C) (eG : Ex G H) (ry : RelV y v) (hy : match o with
    | .inl P2 => ∃ p2, y = .ref p2 ∧ p ≠ p2 ∧ ObOk X.K G H p2 P2
    | .inr d => tsD d = true ∧ Dp X.K G y d) : ∃ tb, PySem.W.Looks (model X.prog X.w) s.heap (typeOf v) tb ∧ PySem.W.notFirst X.K C tb = true := by
  cases o with
  | inl P2 =>
    obtain ⟨p2, rfl, _, dx, vg, vm, vc, vk, C', ic, h2, h3, h4⟩ := hy
    obtain rfl : v = Value.ref p2 := ry
    have z := ic.uniq q.T.ic
    subst z
    obtain ⟨mA, J, _⟩ := ins_get I.hok h3
    obtain ⟨od, J, _⟩ := J.look
    exact ⟨.ref C', J.type, by simp [PySem.W.notFirst]⟩
  | inr d =>
    obtain ⟨ht, hd⟩ := hy
    cases d <;> try (cases ht; done)
    case str z =>
      cases hd
      obtain ⟨t, rfl⟩ := ry
      exact ⟨.type "str", PySem.W.Looks.of_pure rfl, by simp [PySem.W.notFirst, q.ss]⟩
    case tuple ds =>
      cases hd with
      | @tup a vs ds h1 h2 =>
        obtain rfl : v = Value.ref a := ry
        obtain ⟨its, r, ⟨ob, ho, hc, _⟩, _⟩ := I.tuple (ex_t eG h1)
        exact ⟨.type "tuple", fun A Q E s' k q' => wpAny_typeOf_ref (k _ _ ho) (by rw [hc]; exact q'), by simp [PySem.W.notFirst, q.st]⟩
theorem op_eqO {X : Cx} {ca : CA} {k j : Nat} {sem : ObD → ObD ⊕ D → R D} (c : OkE X.prog X.w X.K X.mg X.base ca k sem) (hr : Room j X.A) (hkj : k ≤ j) : OpR X (compareOp .Eq) (rEqO X.K false sem) := by
  intro pins s σ H x y v u Q I rx ry h
  obtain ⟨G, p, P, o, b, rfl, eG, ho, hy, hs, q⟩ := h
  obtain rfl : v = Value.ref p := rx
  obtain ⟨C, f, fd, ps, T, M, hb, hl, F⟩ := c
  obtain ⟨tb, L, nf⟩ := side_ty I T eG ry hy
  have ho' := ho
  obtain ⟨dx, vg, vm, vc, vk, C', ic, h2, h3, h4⟩ := ho'
  have z := ic.uniq T.T.ic
  subst z
  obtain ⟨mA, J, _⟩ := ins_get I.hok h3
  obtain ⟨od, J, _⟩ := J.look
  obtain ⟨m, hF⟩ := I.fr
  show wpAny (model X.prog X.w) X.A (richCompare .Eq (.ref p) u) (EP X pins σ Q) X.xe s
  refine PySem.W.cmp_K (op := .Eq) hr.units0 hF I.ok.mod.kin J L nf M.at_ M.fn ?_
  refine wpAny_mono (run_in (Q := fun v H' => v = .bl b ∧ Q (.bl b) H') (vs := [.ref p, y]) (Sub.top (hr.mono hkj)) F hb I (.cons rfl (.cons ry .nil)) (spE_of eG ho hy hs fun G' H' e => ⟨rfl, by have := q G' H' e; rw [Bool.bne_false] at this; exact this⟩)) (fun v s' hv => ?_) fun _ _ x => x
  obtain ⟨w, H', I', rw', rfl, hq⟩ := hv
  obtain rfl : v = Value.bool b := rw'
  exact ⟨.bl b, H', I', rfl, hq⟩
theorem op_neO {X : Cx} {ca : CA} {k j : Nat} {sem : ObD → ObD ⊕ D → R D} (c : OkE X.prog X.w X.K X.mg X.base ca k sem) (hr : Room j X.A) (hkj : k + 1 ≤ j) : OpR X (compareOp .NotEq) (rEqO X.K true sem) := by
  intro pins s σ H x y v u Q I rx ry h
  obtain ⟨G, p, P, o, b, rfl, eG, ho, hy, hs, q⟩ := h
  obtain rfl : v = Value.ref p := rx
  obtain ⟨C, f, fd, ps, T, M, hb, hl, F⟩ := c
  obtain ⟨tb, L, nf⟩ := side_ty I T eG ry hy
  have ho' := ho
  obtain ⟨dx, vg, vm, vc, vk, C', ic, h2, h3, h4⟩ := ho'
  have z := ic.uniq T.T.ic
  subst z
  obtain ⟨mA, J, _⟩ := ins_get I.hok h3
  obtain ⟨od, J, _⟩ := J.look
  obtain ⟨m, hF⟩ := I.fr
  have sb : Sub X k X.A.in1 := Sub.in1 (Sub.top (hr.mono hkj))
  show wpAny (model X.prog X.w) X.A (richCompare .NotEq (.ref p) u) (EP X pins σ Q) X.xe s
  refine ne_own (by have := hr.un; omega) hF I.ok.mod.kin J L nf T.ne T.ob M.at_ M.fn ?_
  refine wpAny_mono (run_in (Q := fun v H' => v = .bl b ∧ Q (.bl (!b)) H') (vs := [.ref p, y]) sb F hb I (.cons rfl (.cons ry .nil)) (spE_of eG ho hy hs fun G' H' e => ⟨rfl, by have := q G' H' e; rw [Bool.bne_true] at this; exact this⟩)) (fun v s' hv => ?_) fun _ _ x => x
  obtain ⟨w, H', I', rw', rfl, hq⟩ := hv
  obtain rfl : v = Value.bool b := rw'
  exact ⟨b, rfl, ⟨.bl (!b), H', I', rfl, hq⟩⟩
end FE

namespace FE
open PySem L2 PyProof.Rows PySem.Spec
/-! ## .. as expressions -/
def lenOF (i : Nat) (sem : ObD → List D → R D) : Rho → R D := fun ρ => match obAt i ρ with
  | some P => (match sem P [] with
    | .ok (.int n) => if 0 ≤ n ∧ n < 2 ^ 62 then .ok (.int n) else .bad
    | _ => .bad)
  | none => .bad
def strOF (i : Nat) (sem : ObD → List D → R D) : Rho → R D := fun ρ => match obAt i ρ with
  | some P => (match sem P [] with
    | .ok (.str n) => .ok (.str n)
    | _ => .bad)
  | none => .bad
/-- what is known once == is asked -/
def eqR (neg : Bool) : R D → R D
  | .ok (.bool b) => .ok (.bool (b != neg))
  | _ => .bad
def eqOOF (neg : Bool) (i j : Nat) (sem : ObD → ObD ⊕ D → R D) : Rho → R D := fun ρ => if i = j then .bad else match obAt i ρ, obAt j ρ with
  | some P, some P2 => eqR neg (sem P (.inl P2))
  | _, _ => .bad
def eqODF (neg : Bool) (i : Nat) (sem : ObD → ObD ⊕ D → R D) (f : Rho → R D) : Rho → R D := fun ρ => match obAt i ρ with
  | some P => (do let d ← f ρ; if tsD d = true then eqR neg (sem P (.inr d)) else .bad)
  | none => .bad
theorem obAt_isOw {i : Nat} {ρ : Rho} {P : ObD} (h : obAt i ρ = some P) : ∃ o, ρ[i]? = some o ∧ isOw o = true := by
  unfold obAt at h
  split at h
  · rename_i Q hq; exact ⟨_, hq, rfl⟩
  · rename_i Q hq; exact ⟨_, hq, rfl⟩
  · cases h
section
variable {X : Cx} {ca : CA} {W : WX} {a b e : Expr} {es : List Expr} {pos p p2 : Pos} {i j k l : Nat} {ps : List Str} {sem : ObD → List D → R D} {semE : ObD → ObD ⊕ D → R D} {f : Rho → R D} {fA : Rho → R (List D)}
theorem fe_lenO (c : OkR X.prog X.w X.K X.mg X.base ca k "__len__" ps sem) (hn : ps.length = 1) (hr : Room l X.A) (hkj : k + 1 ≤ l) (hg : Gl X "len") (hm : X.mg "len" = none) (hv : PE X e (tVar i)) (hs : starEach [e] X.env = (false, eval e X.env) :: starEach [] X.env := by rfl) :
    FE X ca W (lenOF i sem) (.Call (.Name "len" p) [e] [] pos) := PEimp (pe_callB (call_lenO c hn hr hkj) hg hm PySem.boot_len (pa_cons hv pa_nil hs) (he := hs)) fun σ H Q ⟨G, ρ, env, q⟩ => by
  unfold lenOF at q
  cases hP : obAt i ρ with
  | none => rw [hP] at q; exact q.elim
  | some P =>
    rw [hP] at q
    simp only at q
    obtain ⟨a, h1, ho⟩ := env.obAt hP
    split at q
    · rename_i n hs2
      by_cases hz : 0 ≤ n ∧ n < 2 ^ 62
      · rw [if_pos hz] at q
        exact ⟨.ref a, h1, G, a, P, n, rfl, env.ext, ho, hs2, hz.1, hz.2, fun G' H' e => q _ G' H' e (.int n)⟩
      · rw [if_neg hz] at q; exact q.elim
    · exact q.elim
theorem boot_str : bootBuiltins "str" = some (.type "str") := by decide +kernel
theorem fe_strO (c : OkR X.prog X.w X.K X.mg X.base ca k "__str__" ps sem) (hn : ps.length = 1) (hr : Room l X.A) (hkj : k + 2 ≤ l) (hg : Gl X "str") (hm : X.mg "str" = none) (hv : PE X e (tVar i)) (hs : starEach [e] X.env = (false, eval e X.env) :: starEach [] X.env := by rfl) :
    FE X ca W (strOF i sem) (.Call (.Name "str" p) [e] [] pos) := PEimp (pe_callTy (call_strO c hn hr hkj) hg hm boot_str (pa_cons hv pa_nil hs) (he := hs)) fun σ H Q ⟨G, ρ, env, q⟩ => by
  unfold strOF at q
  cases hP : obAt i ρ with
  | none => rw [hP] at q; exact q.elim
  | some P =>
    rw [hP] at q
    simp only at q
    obtain ⟨a, h1, ho⟩ := env.obAt hP
    split at q
    · rename_i n hs2
      exact ⟨.ref a, h1, G, a, P, n, rfl, env.ext, ho, hs2, fun G' H' e => q _ G' H' e (.str n)⟩
    · exact q.elim
theorem eqR_ok {neg : Bool} {x : R D} {K : PySem.W.Frag} {σ : L2.St} {G H : Hp} {k : D → Prop} (h : ARes K ca W σ G H k (eqR neg x)) : ∃ b, x = .ok (.bool b) ∧ k (.bool (b != neg)) := by
  unfold eqR at h
  split at h
  · rename_i b; exact ⟨b, rfl, h⟩
  · exact h.elim
theorem tOO_sem {neg : Bool} {σ : L2.St} {H : Hp} {Q : VK} (q : tSem X.K ca W (eqOOF neg i j semE) σ H Q) : tOp (rEqO X.K neg semE) (tVar i) (tVar j) σ H Q := by
  obtain ⟨G, ρ, env, q⟩ := q
  unfold eqOOF at q
  by_cases hij : i = j
  · rw [if_pos hij] at q; exact q.elim
  · rw [if_neg hij] at q
    split at q
    · rename_i P P2 hP hP2
      obtain ⟨a1, h1, ho1⟩ := env.obAt hP
      obtain ⟨a2, h2, ho2⟩ := env.obAt hP2
      obtain ⟨bb, hs, q⟩ := eqR_ok q
      have hne : a1 ≠ a2 := fun z => by
        subst z
        obtain ⟨o1, g1, w1⟩ := obAt_isOw hP
        obtain ⟨o2, g2, w2⟩ := obAt_isOw hP2
        exact env.sep i j o1 o2 a1 hij g1 g2 w1 w2 h1 h2
      exact ⟨.ref a1, h1, .ref a2, h2, G, a1, P, .inl P2, bb, rfl, env.ext, ho1, ⟨a2, rfl, hne, ho2⟩, hs, fun G' H' e => q _ G' H' e (.bl _)⟩
    · exact q.elim
theorem fe_eqOO (c : OkE X.prog X.w X.K X.mg X.base ca k semE) (hr : Room l X.A) (hkj : k ≤ l) (ha : PE X a (tVar i)) (hb : PE X b (tVar j)) : FE X ca W (eqOOF false i j semE) (.Compare a [.Eq] [b] pos) := PEimp (pe_cmpR (op_eqO c hr hkj) ha hb (nomark _)) fun σ H Q q => tOO_sem q
theorem fe_neOO (c : OkE X.prog X.w X.K X.mg X.base ca k semE) (hr : Room l X.A) (hkj : k + 1 ≤ l) (ha : PE X a (tVar i)) (hb : PE X b (tVar j)) : FE X ca W (eqOOF true i j semE) (.Compare a [.NotEq] [b] pos) := PEimp (pe_cmpR (op_neO c hr hkj) ha hb (nomark _)) fun σ H Q q => tOO_sem q
theorem ft_eqOO (c : OkE X.prog X.w X.K X.mg X.base ca k semE) (hr : Room l X.A) (hkj : k ≤ l) (ha : PE X a (tVar i)) (hb : PE X b (tVar j)) : FT X ca W (asB (eqOOF false i j semE)) (.Compare a [.Eq] [b] pos) := PTimp (pt_cmpR (op_eqO c hr hkj) ha hb (nomark _)) fun σ H Q q => tTest_sem (fun Q q => tOO_sem q) q
theorem ft_neOO (c : OkE X.prog X.w X.K X.mg X.base ca k semE) (hr : Room l X.A) (hkj : k + 1 ≤ l) (ha : PE X a (tVar i)) (hb : PE X b (tVar j)) : FT X ca W (asB (eqOOF true i j semE)) (.Compare a [.NotEq] [b] pos) := PTimp (pt_cmpR (op_neO c hr hkj) ha hb (nomark _)) fun σ H Q q => tTest_sem (fun Q q => tOO_sem q) q
theorem tOD_sem {neg : Bool} {σ : L2.St} {H : Hp} {Q : VK} (q : tSem X.K ca W (eqODF neg i semE f) σ H Q) : tOp (rEqO X.K neg semE) (tVar i) (tSem X.K ca W f) σ H Q := by
  obtain ⟨G, ρ, env, q⟩ := q
  unfold eqODF at q
  cases hP : obAt i ρ with
  | none => rw [hP] at q; exact q.elim
  | some P =>
    rw [hP] at q
    obtain ⟨a1, h1, ho1⟩ := env.obAt hP
    refine ⟨.ref a1, h1, G, ρ, env, ARes.imp (ARes.bind q) fun d q v G1 H1 e1 dv => ?_⟩
    by_cases ht : tsD d = true
    · rw [if_pos ht] at q
      obtain ⟨bb, hs, q⟩ := eqR_ok q
      exact ⟨G1, a1, P, .inr d, bb, rfl, e1.gh, ho1.ext e1, ⟨ht, dv⟩, hs, fun G' H' e => q _ G' H' (e1.trans e) (.bl _)⟩
    · rw [if_neg ht] at q; exact q.elim
theorem fe_eqOD (c : OkE X.prog X.w X.K X.mg X.base ca k semE) (hr : Room l X.A) (hkj : k ≤ l) (ha : PE X a (tVar i)) (hb : FE X ca W f b) : FE X ca W (eqODF false i semE f) (.Compare a [.Eq] [b] pos) := PEimp (pe_cmpR (op_eqO c hr hkj) ha hb (nomark _)) fun σ H Q q => tOD_sem q
theorem ft_eqOD (c : OkE X.prog X.w X.K X.mg X.base ca k semE) (hr : Room l X.A) (hkj : k ≤ l) (ha : PE X a (tVar i)) (hb : FE X ca W f b) : FT X ca W (asB (eqODF false i semE f)) (.Compare a [.Eq] [b] pos) := PTimp (pt_cmpR (op_eqO c hr hkj) ha hb (nomark _)) fun σ H Q q => tTest_sem (fun Q q => tOD_sem q) q
/-! ### isinstance(o, Planner) -/
def isPF (i : Nat) : Rho → R D := fun ρ => match obAt i ρ with
  | some _ => .ok (.bool true)
  | none => (match gv i ρ with
    | .ok d => if tsD d = true then .ok (.bool false) else .bad
    | _ => .bad)
theorem fe_isP {nm : Str} (T : ∃ C, EqT X.K C ∧ X.mg nm = some (.ref C)) (hg : Gl X "isinstance") (hm : X.mg "isinstance" = none) (hv : PE X e (tVar i)) (hg2 : Gl X nm) (hd2 : (nm == ("__debug__" : Str)) = false := by decide)
    (hs : starEach [e, .Name nm p2] X.env = (false, eval e X.env) :: starEach [.Name nm p2] X.env := by rfl) (hpl : (backTo pos (starEach [.Name nm p2] X.env)).any (·.1) = false := by rfl) :
    FE X ca W (isPF i) (.Call (.Name "isinstance" p) [e, .Name nm p2] [] pos) := by
  obtain ⟨C, T, hC⟩ := T
  refine PEimp (pe_callB call_isi hg hm boot_isi (pa_cons hv (pa_cons (pe_glob (v := .ref C) hg2 hC rfl hd2) pa_nil) hs) (he := hs) (hpl := hpl)) fun σ H Q ⟨G, ρ, env, q⟩ => ?_
  unfold isPF at q
  cases hP : obAt i ρ with
  | some P =>
    rw [hP] at q
    obtain ⟨a, h1, dx, vg, vm, vc, vk, C', ic, h2, h3, h4⟩ := env.obAt hP
    have z := ic.uniq T.T.ic
    subst z
    exact ⟨.ref a, h1, .ref a, .ref C', .ref C', .ref C', true, rfl, .own C', .base (.ins h3 T.T.cls T.ha T.hn T.tk T.ob), T.me, q _ G H (Ext.refl env.ext) (.bl true)⟩
  | none =>
    rw [hP] at q
    simp only at q
    split at q
    · rename_i d hd
      have hh : ∃ v, σ[i]? = some (some v) ∧ Dp X.K G v d := by
        unfold gv at hd
        split at hd
        · rename_i d' hd'; cases hd; exact env.sh hd'
        · rename_i d' hd'; cases hd; obtain ⟨v, k1, k2, _⟩ := env.gr hd'; exact ⟨v, k1, k2⟩
        · cases hd
      obtain ⟨v, k1, k2⟩ := hh
      by_cases ht : tsD d = true
      · rw [if_pos ht] at q
        have kf : PySem.W.kitOne X.K (.type (tyN d)) (.ref C) = some false := by
          cases d <;> try (cases ht; done)
          · exact T.ks
          · exact T.kt
        exact ⟨v, k1, v, .ref C, .type (tyN d), .ref C, false, rfl, .own C, tyX_dp env.ext (DpB.of env.ext k2), kf, q _ G H (Ext.refl env.ext) (.bl false)⟩
      · rw [if_neg ht] at q; exact q.elim
    · exact q.elim
end
end FE

namespace FE
open PySem L2 PyProof.Rows PySem.Spec
/-! ## new planners -/
def tSemN (K : PySem.W.Frag) (ca : CA) (W : WX) (f : Rho → R ObD) : TE := fun σ H Q => ∃ G ρ, EnvOk K G H σ ρ ∧
  ARes K ca W σ G H (fun P => ∀ p G' H', Ext G H G' H' → H p = none → ObOk K G' H' p P → Q (.ref p) H') (f ρ)
abbrev FN (X : Cx) (ca : CA) (W : WX) (f : Rho → R ObD) (e : Expr) : Prop := PE X e (tSemN X.K ca W f)
/-- a variable that holds a graph whose tuple of edges is known -/
def gvG (i : Nat) (ρ : Rho) : R D := match ρ[i]? with
  | some (some (.gr d)) => .ok d
  | _ => .bad
def mkF (nd : Bool) (sem : List D → R D) (f0 f1 : Rho → R D) : Rho → R ObD := fun ρ => do
  let g ← f0 ρ; let m ← f1 ρ; let _ ← sem [g, m]; pure ⟨g, m, .tuple [], .int 0, nd⟩
theorem fresh_sep {K : PySem.W.Frag} {G H : Hp} {σ : L2.St} {ρ : Rho} {p : Addr} (k : EnvOk K G H σ ρ) (hp : H p = none) {j : Nat} {u : Option SV} (hj : ρ[j]? = some u) (hu : isOw u = true) : σ[j]? ≠ some (some (.ref p)) := fun hσ => by
  obtain ⟨x, h1, h2⟩ := k.at_ j u hj
  cases u with
  | none => cases hu
  | some sv =>
    cases sv with
    | sh d => cases hu
    | gr d => cases hu
    | raw v => cases hu
    | xr a dd l => cases hu
    | ow es =>
      obtain ⟨p', vs, h3, h4, h5, h6⟩ := h2
      rw [h1, h3] at hσ; cases hσ
      rw [hp] at h5; cases h5
    | ob P =>
      obtain ⟨p', h3, dx, vg, vm, vc, vk, _, _, _, h5, _⟩ := h2
      rw [h1, h3] at hσ; cases hσ
      rw [hp] at h5; cases h5
    | rd P =>
      obtain ⟨p', h3, dx, vg, vm, vc, vk, _, _, _, h5, _⟩ := h2
      rw [h1, h3] at hσ; cases hσ
      rw [hp] at h5; cases h5
theorem StOk.set_ob {K : PySem.W.Frag} {G0 H0 G H G' H' : Hp} {σ : L2.St} {ρ : Rho} {i : Nat} {p : Addr} {P : ObD} (s : StOk K G0 H0 G H σ ρ) (e : Ext G H G' H') (hp : H p = none) (ho : ObOk K G' H' p P) :
    StOk K G0 H0 G' H' (σ.set i (some (.ref p))) (ρ.set i (some (.ob P))) := by
  have s' := s.mono e
  refine ⟨s'.env.set (o := some (.ob P)) (x := some (.ref p)) ⟨p, rfl, ho⟩ fun _ j u q hj hu ow hq hσ => ?_, s'.ext, s'.own.set_ow (s.ext.h.back hp) s.env.len⟩
  cases hq
  exact fresh_sep s.env hp hu ow hσ
section
variable {X : Cx} {ca : CA} {W : WX} {a b o e e2 : Expr} {es : List Expr} {pos apos p p2 pp : Pos} {i j k l n : Nat} {x : Str} {ps : List Str} {sem : List D → R D} {f f0 f1 : Rho → R D} {fA : Rho → R (List D)} {fN gN : Rho → R ObD} {semE : ObD → ObD ⊕ D → R D}
theorem feg_var (h : PE X e (tVar i)) : FEG X ca W (gvG i) e := PEimp h fun σ H Q ⟨G, ρ, env, q⟩ => by
  unfold gvG at q
  split at q
  · rename_i d hd
    obtain ⟨v, h1, h2, h3⟩ := env.gr hd
    exact ⟨v, h1, q v G H (Ext.refl env.ext) h2 h3⟩
  · exact q.elim
/-- Planner(g, m) -/
theorem fn_mk (tk : Takes X W) (c : PlOk X.prog X.w X.K X.mg X.base ca k x sem) (hr : Room j X.A) (hkj : k + 1 ≤ j) (hg : Gl X x) (h0 : FE X ca W f0 e) (h1 : FE X ca W f1 e2) (hdb : (x == ("__debug__" : Str)) = false := by decide)
    (he : starEach [e, e2] X.env = (false, eval e X.env) :: starEach [e2] X.env := by rfl) (he2 : starEach [e2] X.env = (false, eval e2 X.env) :: starEach [] X.env := by rfl) (hpl : (backTo pos (starEach [e2] X.env)).any (·.1) = false := by rfl) : FN X ca W (mkF false sem f0 f1) (.Call (.Name x p) [e, e2] [] pos) := by
  obtain ⟨C, f, fd, ps, hm, M, hb, T, F⟩ := c
  refine PEimp (pe_makeS M F (hr.mono hkj) hg hm hb (fun σ => passAt tk σ) (pa_cons h0 (pa_cons h1 pa_nil he2) he) hdb he hpl) fun σ H Q ⟨G, ρ, env, q⟩ => ?_
  refine ⟨G, ρ, env, q.bind.imp fun dg q vg G1 H1 e1 d1 => ⟨G1, ρ, env.mono e1, q.bind.mono e1 fun dm q vm G2 H2 e2 d2 a dx hx hdx ne => ?_⟩⟩
  refine ⟨G2, H2, a, dx, vg, vm, dg, dm, false, rfl, e2.gh, hx, hdx, ne, rfl, Dp.ex e2.g _ d1, d2, (fun z => Bool.noConfusion z), ?_⟩
  have q := q.bind
  cases hs : sem [dg, dm] with
  | ok d => rw [hs] at q; exact fun G' H' e3 ho => ⟨rfl, q a G' H' ((e1.trans e2).trans e3) ((e1.trans e2).h.back hx) ho⟩
  | bad => rw [hs] at q; exact q.elim
  | exc z => rw [hs] at q; exact fun c dd G' H' e3 hx => q c dd G' H' ((e1.trans e2).trans e3) hx
theorem fn_mkG (tk : Takes X W) (c : PlOk X.prog X.w X.K X.mg X.base ca k x sem) (hr : Room j X.A) (hkj : k + 1 ≤ j) (hg : Gl X x) (h0 : FEG X ca W f0 e) (h1 : FE X ca W f1 e2) (hdb : (x == ("__debug__" : Str)) = false := by decide)
    (he : starEach [e, e2] X.env = (false, eval e X.env) :: starEach [e2] X.env := by rfl) (he2 : starEach [e2] X.env = (false, eval e2 X.env) :: starEach [] X.env := by rfl) (hpl : (backTo pos (starEach [e2] X.env)).any (·.1) = false := by rfl) : FN X ca W (mkF true sem f0 f1) (.Call (.Name x p) [e, e2] [] pos) := by
  obtain ⟨C, f, fd, ps, hm, M, hb, T, F⟩ := c
  refine PEimp (pe_makeS M F (hr.mono hkj) hg hm hb (fun σ => passAt tk σ) (pa_cons h0 (pa_cons h1 pa_nil he2) he) hdb he hpl) fun σ H Q ⟨G, ρ, env, q⟩ => ?_
  refine ⟨G, ρ, env, q.bind.imp fun dg q vg G1 H1 e1 d1 g1 => ⟨G1, ρ, env.mono e1, q.bind.mono e1 fun dm q vm G2 H2 e2 d2 a dx hx hdx ne => ?_⟩⟩
  refine ⟨G2, H2, a, dx, vg, vm, dg, dm, true, rfl, e2.gh, hx, hdx, ne, rfl, Dp.ex e2.g _ d1, d2, (fun _ => g1.ex e2.g), ?_⟩
  have q := q.bind
  cases hs : sem [dg, dm] with
  | ok d => rw [hs] at q; exact fun G' H' e3 ho => ⟨rfl, q a G' H' ((e1.trans e2).trans e3) ((e1.trans e2).h.back hx) ho⟩
  | bad => rw [hs] at q; exact q.elim
  | exc z => rw [hs] at q; exact fun c dd G' H' e3 hx => q c dd G' H' ((e1.trans e2).trans e3) hx
/-- x = a new planner -/
def setOF (i : Nat) (f : Rho → R ObD) : Rho → Out := fun ρ => (f ρ).out fun P => .nx (ρ.set i (some (.ob P)))
theorem fs_setO {i : Nat} {x : Str} {pos' : Pos} (hN : X.N.Nodup) (hi : X.N[i]? = some x) (hx : Loc X.env.scope x) (he : FN X ca W fN e) (hs : swapsWith e (some (.Name x pos')) pos.line X.env = pure false := by rfl) (hf : X.fn x = true ∨ X.env.scope.names.lookup x = some .local := by first | exact .inl rfl | exact .inr rfl | assumption) :
    FS X ca W (setOF i fN) (.Assign [.Name x pos'] e pos) := PSimp (ps_set hN hi hx he hs hf) fun Dn σ H ⟨G0, H0, G, ρ, s, q⟩ =>
  ⟨G, ρ, s.env, (SRes.out s q).imp fun P q p G' H' e hp ho => q _ G' H' (s.set_ob e hp ho)⟩
/-- e, a new planner that is dropped -/
def dropOF (f : Rho → R ObD) : Rho → Out := fun ρ => (f ρ).out fun _ => .nx ρ
theorem fs_exprO (he : FN X ca W fN e) (hs : swapsWith e none pos.line X.env = pure false := by rfl) : FS X ca W (dropOF fN) (.Expr e pos) := PSimp (ps_expr he hs) fun Dn σ H ⟨G0, H0, G, ρ, s, q⟩ =>
  ⟨G, ρ, s.env, (SRes.out s q).imp fun P q p G' H' e hp ho => q σ G' H' (s.mono e)⟩
/-- a, b = two new planners -/
def parOF (i j : Nat) (f g : Rho → R ObD) : Rho → Out := fun ρ => (f ρ).out fun P => (g ρ).out fun P2 => .nx ((ρ.set i (some (.ob P))).set j (some (.ob P2)))
theorem fs_parO {i j : Nat} {x y : Str} {px py pt : Pos} {kt k2 pt2} (hc : X.calm = true) (hN : X.N.Nodup) (hi : X.N[i]? = some x) (hj : X.N[j]? = some y) (hij : i ≠ j)
    (hx : X.env.scope.names.lookup x = some .local) (hy : X.env.scope.names.lookup y = some .local) (ha : FN X ca W fN a) (hb : FN X ca W gN b) (hs1 : starEach [a, b] X.env = (false, eval a X.env) :: starEach [b] X.env := by rfl) (hs2 : starEach [b] X.env = (false, eval b X.env) :: starEach [] X.env := by rfl)
    (hw : swappedStores [.Tuple [.Name x px, .Name y py] kt pt] (.Tuple [a, b] k2 pt2) X.env = pure (some [x, y]))
    (hs : swapsWithSole [.Tuple [.Name x px, .Name y py] kt pt] (.Tuple [a, b] k2 pt2) pos.line X.env = pure false := by rfl) :
    FS X ca W (parOF i j fN gN) (.Assign [.Tuple [.Name x px, .Name y py] kt pt] (.Tuple [a, b] k2 pt2) pos) := PSimp (ps_par hc hN hi hj hij hx hy (pa_cons ha (pa_cons hb pa_nil hs2) hs1) hw hs) fun Dn σ H ⟨G0, H0, G, ρ, s, q⟩ => by
  refine ⟨G, ρ, s.env, (SRes.out s q).imp fun P q p1 G1 H1 e1 hp1 ho1 => ⟨G1, ρ, (s.mono e1).env, (SRes.out (s.mono e1) q).imp fun P2 q p2 G2 H2 e2 hp2 ho2 => ?_⟩⟩
  have s1 := s.set_ob (i := i) e1 hp1 ho1
  exact ⟨.ref p1, .ref p2, rfl, q _ G2 H2 (s1.set_ob (i := j) e2 hp2 ho2)⟩
/-- o == a new planner -/
def eqONF (neg : Bool) (i : Nat) (sem : ObD → ObD ⊕ D → R D) (f : Rho → R ObD) : Rho → R D := fun ρ => match obAt i ρ with
  | some P => (do let P2 ← f ρ; eqR neg (sem P (.inl P2)))
  | none => .bad
theorem tON_sem {neg : Bool} {σ : L2.St} {H : Hp} {Q : VK} (q : tSem X.K ca W (eqONF neg i semE fN) σ H Q) : tOp (rEqO X.K neg semE) (tVar i) (tSemN X.K ca W fN) σ H Q := by
  obtain ⟨G, ρ, env, q⟩ := q
  unfold eqONF at q
  cases hP : obAt i ρ with
  | none => rw [hP] at q; exact q.elim
  | some P =>
    rw [hP] at q
    obtain ⟨a1, h1, ho1⟩ := env.obAt hP
    refine ⟨.ref a1, h1, G, ρ, env, ARes.imp (ARes.bind q) fun P2 q p2 G1 H1 e1 hp2 ho2 => ?_⟩
    obtain ⟨bb, hs, q⟩ := eqR_ok q
    have hne : a1 ≠ p2 := fun z => by
      subst z
      obtain ⟨dx, vg, vm, vc, vk, C, ic, h2, h3, h4⟩ := ho1
      rw [hp2] at h3; cases h3
    exact ⟨G1, a1, P, .inl P2, bb, rfl, e1.gh, ho1.ext e1, ⟨p2, rfl, hne, ho2⟩, hs, fun G' H' e => q _ G' H' (e1.trans e) (.bl _)⟩
theorem fe_eqON (c : OkE X.prog X.w X.K X.mg X.base ca k semE) (hr : Room l X.A) (hkj : k ≤ l) (ha : PE X a (tVar i)) (hb : FN X ca W fN b) : FE X ca W (eqONF false i semE fN) (.Compare a [.Eq] [b] pos) := PEimp (pe_cmpR (op_eqO c hr hkj) ha hb (nomark _)) fun σ H Q q => tON_sem q
theorem ft_eqON (c : OkE X.prog X.w X.K X.mg X.base ca k semE) (hr : Room l X.A) (hkj : k ≤ l) (ha : PE X a (tVar i)) (hb : FN X ca W fN b) : FT X ca W (asB (eqONF false i semE fN)) (.Compare a [.Eq] [b] pos) := PTimp (pt_cmpR (op_eqO c hr hkj) ha hb (nomark _)) fun σ H Q q => tTest_sem (fun Q q => tON_sem q) q
end
/-! ## methods that change the planner -/
def spM (K : PySem.W.Frag) (ca : CA) (n : Nat) (sem : ObD → List D → R (D × ObD)) : Sp := fun vs H Q E => ∃ (G : Hp) (p : Addr) (P : ObD) (vs0 : List V) (ds : List D), vs = .ref p :: vs0 ∧ Ex G H ∧ ObOk K G H p P ∧ DpAll K G vs0 ds ∧ ds.length + 1 = n ∧ match sem P ds with
  | .ok (d, P') => ∀ v G' H', Ext G (del H p) G' H' → ObOk K G' H' p P' → Dp K G' v d → Q v H'
  | .exc z => ∀ c dd G' H', Ext G H G' H' → ExcAt K ca G' H' z c dd → E c dd H'
  | .bad => False
theorem spM_len {K : PySem.W.Frag} {ca : CA} {ps : List Str} {sem : ObD → List D → R (D × ObD)} : ∀ vs H Q E, spM K ca ps.length sem vs H Q E → vs.length = ps.length := fun vs H Q E ⟨G, p, P, vs0, ds, e, _, _, h2, h3, _⟩ => by rw [e, List.length_cons, DpAll.len h2, h3]
def OkM (P : Program) (w : World) (K : PySem.W.Frag) (mg : Str → Option Value) (base : Heap) (ca : CA) (k : Nat) (m : Str) (ps : List Str) (sem : ObD → List D → R (D × ObD)) : Prop :=
  ∃ C f fd, PlTxt K C ∧ Meth K C m f ∧ Binds K fd ps [] ∧ FnOk P w K mg base (L2.CX P w) k f fd ps (spM K ca ps.length sem)
/-- an own planner behind a change -/
theorem EnvOk.change_ob {K : PySem.W.Frag} {G H G' H' : Hp} {σ : L2.St} {ρ : Rho} {i : Nat} {p : Addr} {P P' : ObD} (k : EnvOk K G H σ ρ) (h : ρ[i]? = some (some (.ob P))) (hσ : σ[i]? = some (some (.ref p))) (ho : ObOk K G H p P) (e : Ext G (del H p) G' H') (ho' : ObOk K G' H' p P') : EnvOk K G' H' σ (ρ.set i (some (.ob P'))) := by
  have hi : i < ρ.length := (List.getElem?_eq_some_iff.mp h).1
  obtain ⟨dx0, vg0, vm0, vc0, vk0, C0, ic0, p2, p3, p4, _⟩ := ho
  refine ⟨e.gh, by simp [k.len], fun j o hj => ?_, fun a b o u q hne ha hb oa ob ha2 hb2 => ?_⟩
  · by_cases z : i = j
    · subst z
      rw [List.getElem?_set_self hi] at hj
      cases hj
      exact ⟨_, hσ, p, rfl, ho'⟩
    · rw [List.getElem?_set_ne z] at hj
      obtain ⟨x, h1, h2⟩ := k.at_ j o hj
      refine ⟨x, h1, ?_⟩
      have obs : ∀ {Q : ObD}, isOw o = true → (∃ q, x = some (.ref q) ∧ ObOk K G H q Q) → ∃ q, x = some (.ref q) ∧ ObOk K G' H' q Q := fun {Q} oo ⟨q, h3, dx, vg, vm, vc, vk, C, hc, g1, g2, g3, g4, g5, g6, g7, g8⟩ => by
        have n1 : q ≠ p := fun w => by
          subst w
          exact k.sep i j _ _ q z h hj rfl oo hσ (by rw [h1, h3])
        have n2 : dx ≠ p := fun w => by subst w; rw [g3] at p3; cases p3
        exact ⟨q, h3, dx, vg, vm, vc, vk, C, hc, e.new q g1 (by rw [del_ne n1, g2]; simp), e.h q _ (by rw [del_ne n1]; exact g2), e.h dx _ (by rw [del_ne n2]; exact g3), Dp.ex e.g _ g4, fun w => (g5 w).ex e.g, Dp.ex e.g _ g6, Dp.ex e.g _ g7, Dp.ex e.g _ g8⟩
      cases o with
      | none => trivial
      | some sv =>
        cases sv with
        | sh d => obtain ⟨v, h3, h4⟩ := h2; exact ⟨v, h3, Dp.ex e.g d h4⟩
        | gr d => obtain ⟨v, h3, h4, h5⟩ := h2; exact ⟨v, h3, Dp.ex e.g d h4, h5.ex e.g⟩
        | raw v => exact h2
        | xr a dd l => obtain ⟨h3, v, h4, h5⟩ := h2; exact ⟨h3, v, e.g dd _ h4, Dp.ex e.g l h5⟩
        | ob Q => exact obs rfl h2
        | rd Q => exact obs rfl h2
        | ow ds' =>
          obtain ⟨q, vs, h3, h4, h5, h6⟩ := h2
          have ne : q ≠ p := fun w => by subst w; rw [h5] at p3; cases p3
          have hq : del H p q = some (.lst vs) := by rw [del_ne ne]; exact h5
          exact ⟨q, vs, h3, e.new q h4 (by rw [hq]; simp), e.h q _ hq, DpAll.ex e.g ds' h6⟩
  · have iso : ∀ {m : Nat} {y : Option SV}, (ρ.set i (some (SV.ob P')))[m]? = some y → isOw y = true → ∃ y', ρ[m]? = some y' ∧ isOw y' = true := fun {m y} hm hy => by
      by_cases z : i = m
      · subst z; exact ⟨_, h, rfl⟩
      · rw [List.getElem?_set_ne z] at hm; exact ⟨y, hm, hy⟩
    obtain ⟨o', h1, h2⟩ := iso ha oa
    obtain ⟨u', h3, h4⟩ := iso hb ob
    exact k.sep a b o' u' q hne h1 h3 h2 h4 ha2 hb2
theorem StOk.change_ob {K : PySem.W.Frag} {G0 H0 G H G' H' : Hp} {σ : L2.St} {ρ : Rho} {i : Nat} {p : Addr} {P P' : ObD} (s : StOk K G0 H0 G H σ ρ) (h : ρ[i]? = some (some (.ob P))) (hσ : σ[i]? = some (some (.ref p))) (ho : ObOk K G H p P) (e : Ext G (del H p) G' H') (ho' : ObOk K G' H' p P') : StOk K G0 H0 G' H' σ (ρ.set i (some (.ob P'))) := by
  have hp0 : H0 p = none := s.own i _ p h rfl hσ
  refine ⟨s.env.change_ob h hσ ho e ho', ⟨s.ext.g.trans e.g, fun a o q => ?_, e.gh, fun a h1 h2 => ?_⟩, fun j u q hj hu hq => ?_⟩
  · have z : a ≠ p := fun z => by rw [z, hp0] at q; cases q
    exact e.h a o (by rw [del_ne z]; exact s.ext.h a o q)
  · have z : a ≠ p := fun z => by rw [z] at h2; exact h2 hp0
    refine e.new a (s.ext.new a h1 h2) (by
      rw [del_ne z]
      cases q : H0 a with
      | none => exact absurd q h2
      | some o => rw [s.ext.h a o q]; simp)
  · by_cases z : i = j
    · subst z
      rw [hσ] at hq; cases hq; exact hp0
    · rw [List.getElem?_set_ne z] at hj
      exact s.own j u q hj hu hq
/-! ### expressions that change planners -/
def MRes (K : PySem.W.Frag) (ca : CA) (W : WX) (G0 H0 G : Hp) (σ : L2.St) (Q : VK) : R (D × Rho) → Prop
  | .ok (d, ρ') => ∀ v G' H', StOk K G0 H0 G' H' σ ρ' → Ex G G' → Dp K G' v d → Q v H'
  | .exc e => ∀ c dd G' H', Ext G0 H0 G' H' → ExcAt K ca G' H' e c dd → W c dd σ H'
  | .bad => False
def tSemM (K : PySem.W.Frag) (ca : CA) (W : WX) (f : Rho → R (D × Rho)) : TE := fun σ H Q => ∃ G0 H0 G ρ, StOk K G0 H0 G H σ ρ ∧ MRes K ca W G0 H0 G σ Q (f ρ)
abbrev FM (X : Cx) (ca : CA) (W : WX) (f : Rho → R (D × Rho)) (e : Expr) : Prop := PE X e (tSemM X.K ca W f)
def mutOF (i n : Nat) (sem : ObD → List D → R (D × ObD)) (fA : Rho → R (List D)) : Rho → R (D × Rho) := fun ρ => match ρ[i]? with
  | some (some (.ob P)) => (do
    let ds ← fA ρ
    if ds.length + 1 = n then (match sem P ds with
      | .ok (d, P') => .ok (d, ρ.set i (some (.ob P')))
      | .exc e => .exc e
      | .bad => .bad) else .bad)
  | _ => .bad
section
variable {X : Cx} {ca : CA} {W : WX} {a b o e : Expr} {es : List Expr} {pos apos p p2 pp : Pos} {i j k l n : Nat} {m x : Str} {ps : List Str} {sem : ObD → List D → R (D × ObD)} {f f0 f1 : Rho → R D} {fA : Rho → R (List D)} {fm : Rho → R (D × Rho)}
theorem spM_go {G0 H0 G H G1 H1 : Hp} {σ : L2.St} {ρ : Rho} {P : ObD} {ds : List D} {vs : List V} {a : Addr} {Q : VK} (s : StOk X.K G0 H0 G H σ ρ) (h : ρ[i]? = some (some (.ob P))) (hσ : σ[i]? = some (some (.ref a))) (e1 : Ext G H G1 H1) (ho : ObOk X.K G H a P) (dvs : DpAll X.K G1 vs ds)
    (q : MRes X.K ca W G0 H0 G σ Q (if ds.length + 1 = n then (match sem P ds with
      | .ok (d, P') => .ok (d, ρ.set i (some (.ob P')))
      | .exc e => .exc e
      | .bad => .bad) else .bad)) : spM X.K ca n sem (.ref a :: vs) H1 Q (WE W σ) := by
  by_cases hl : ds.length + 1 = n
  · rw [if_pos hl] at q
    refine ⟨G1, a, P, vs, ds, rfl, e1.gh, ho.ext e1, dvs, hl, ?_⟩
    cases hsem : sem P ds with
    | ok x =>
      obtain ⟨d, P'⟩ := x
      rw [hsem] at q
      exact fun v G' H' e2 ho' dv => q v G' H' ((s.mono e1).change_ob h hσ (ho.ext e1) e2 ho') (e1.g.trans e2.g) dv
    | exc z => rw [hsem] at q; exact fun c dd G' H' e2 hx => q c dd G' H' ((s.ext.trans e1).trans e2) hx
    | bad => rw [hsem] at q; exact q
  · rw [if_neg hl] at q; exact q.elim
/-- the arguments of such a call -/
theorem mut_args {G0 H0 G H : Hp} {σ : L2.St} {ρ : Rho} {P : ObD} {a : Addr} {Q : VK} (s : StOk X.K G0 H0 G H σ ρ) (h : ρ[i]? = some (some (.ob P))) (hσ : σ[i]? = some (some (.ref a))) (ho : ObOk X.K G H a P) (q : MRes X.K ca W G0 H0 G σ Q (mutOF i n sem fA ρ)) :
    tSemA X.K ca W fA σ H fun vs H1 => spM X.K ca n sem (.ref a :: vs) H1 Q (WE W σ) := by
  refine ⟨G, ρ, s.env, ?_⟩
  unfold mutOF at q
  rw [h] at q
  simp only at q
  cases hf : fA ρ with
  | ok ds =>
    rw [hf] at q
    exact fun vs G1 H1 e1 dvs => spM_go (i := i) s h hσ e1 ho dvs q
  | exc z => rw [hf] at q; exact fun c dd G' H' e1 hx => q c dd G' H' (s.ext.trans e1) hx
  | bad => rw [hf] at q; exact q.elim
theorem mut_at {G0 H0 G H : Hp} {σ : L2.St} {ρ : Rho} {Q : VK} (s : StOk X.K G0 H0 G H σ ρ) (q : MRes X.K ca W G0 H0 G σ Q (mutOF i n sem fA ρ)) : ∃ P a, ρ[i]? = some (some (.ob P)) ∧ σ[i]? = some (some (.ref a)) ∧ ObOk X.K G H a P := by
  unfold mutOF at q
  split at q
  · rename_i P hP
    obtain ⟨a, h1, ho⟩ := s.env.ob hP
    exact ⟨P, a, hP, h1, ho⟩
  · exact q.elim
theorem fm_mut {pl : Sem Bool} (tk : Takes X W) (c : OkM X.prog X.w X.K X.mg X.base ca k m ps sem) (hr : Room j X.A) (hkj : k ≤ j) (hv : PE X o (tVar i)) (ha : FA X ca W fA (e :: es)) (nf : NoFld m := by decide +kernel)
    (hst : starEach (e :: es) X.env = (false, eval e X.env) :: starEach es X.env := by rfl) (hpl : (backTo pos (starEach es X.env)).any (·.1) = false := by rfl)
    (ht : eval (.Call (.Attribute o m apos) (e :: es) [] pos) X.env = (do
      let ov ← eval o X.env
      standAt apos.atName
      let (f, first) ← holding [ov] (getMethod ov m pl)
      callWith pos f first (backTo pos (starEach (e :: es) X.env)) (backToKw pos (keywordEach [] X.env))) := by rfl) (hn : ps.length = n := by rfl) : FM X ca W (mutOF i n sem fA) (.Call (.Attribute o m apos) (e :: es) [] pos) := by
  subst hn
  obtain ⟨C, f, fd, T, M, hb, F⟩ := c
  refine PEimp (pe_methS hv T.cls M F (hr.mono hkj) hb (fun σ => passAt tk σ) ha hst hpl ht) fun σ H Q ⟨G0, H0, G, ρ, s, q⟩ => ?_
  obtain ⟨P, a, hP, h1, ho⟩ := mut_at s q
  obtain ⟨dx, vg, vm, vc, vk, C', ic, h2, h3, h4⟩ := id ho
  have z := ic.uniq T.ic
  subst z
  exact ⟨.ref a, h1, a, dx, _, rfl, h3, nf.lk, mut_args s hP h1 ho q⟩
theorem fm_mut0 {pl : Sem Bool} (tk : Takes X W) (c : OkM X.prog X.w X.K X.mg X.base ca k m ps sem) (hr : Room j X.A) (hkj : k ≤ j) (hv : PE X o (tVar i)) (nf : NoFld m := by decide +kernel)
    (ht : eval (.Call (.Attribute o m apos) [] [] pos) X.env = (do
      let ov ← eval o X.env
      standAt apos.atName
      let (f, first) ← holding [ov] (getMethod ov m pl)
      callWith pos f first (backTo pos (starEach [] X.env)) (backToKw pos (keywordEach [] X.env))) := by rfl) (hn : ps.length = n := by rfl) : FM X ca W (mutOF i n sem aN) (.Call (.Attribute o m apos) [] [] pos) := by
  subst hn
  obtain ⟨C, f, fd, T, M, hb, F⟩ := c
  refine PEimp (pe_methS0 hv T.cls M F (hr.mono hkj) hb (fun σ => passAt tk σ) ht) fun σ H Q ⟨G0, H0, G, ρ, s, q⟩ => ?_
  obtain ⟨P, a, hP, h1, ho⟩ := mut_at s q
  obtain ⟨dx, vg, vm, vc, vk, C', ic, h2, h3, h4⟩ := id ho
  have z := ic.uniq T.ic
  subst z
  refine ⟨.ref a, h1, a, dx, _, rfl, h3, nf.lk, ?_⟩
  have q' : MRes X.K ca W G0 H0 G σ Q (if ([] : List D).length + 1 = ps.length then (match sem P [] with
      | .ok (d, P') => .ok (d, ρ.set i (some (.ob P')))
      | .exc e => .exc e
      | .bad => .bad) else .bad) := by
    unfold mutOF at q
    rw [hP] at q
    exact q
  exact spM_go (i := i) s hP h1 (Ext.refl s.env.ext) ho .nil q'
/-- .. where it is known to raise: the planner stays, it may be looked at alone -/
def methXF (i n : Nat) (sem : ObD → List D → R (D × ObD)) (fA : Rho → R (List D)) : Rho → R D := fun ρ => match obAt i ρ with
  | some P => (do
    let ds ← fA ρ
    if ds.length + 1 = n then (match sem P ds with
      | .exc e => .exc e
      | _ => .bad) else .bad)
  | none => .bad
theorem spMX_go {σ : L2.St} {G H G1 H1 : Hp} {P : ObD} {ds : List D} {vs : List V} {a : Addr} {Q : VK} (e1 : Ext G H G1 H1) (ho : ObOk X.K G1 H1 a P) (dvs : DpAll X.K G1 vs ds)
    (q : ARes X.K ca W σ G H (fun d => ∀ v G' H', Ext G H G' H' → Dp X.K G' v d → Q v H') (if ds.length + 1 = n then (match sem P ds with
      | .exc e => .exc e
      | _ => .bad) else .bad)) : spM X.K ca n sem (.ref a :: vs) H1 Q (WE W σ) := by
  by_cases hl : ds.length + 1 = n
  · rw [if_pos hl] at q
    refine ⟨G1, a, P, vs, ds, rfl, e1.gh, ho, dvs, hl, ?_⟩
    cases hsem : sem P ds with
    | ok d => rw [hsem] at q; exact q.elim
    | exc z => rw [hsem] at q; exact fun c dd G' H' e2 hx => q c dd G' H' (e1.trans e2) hx
    | bad => rw [hsem] at q; exact q
  · rw [if_neg hl] at q; exact q.elim
theorem fe_methX {pl : Sem Bool} (tk : Takes X W) (c : OkM X.prog X.w X.K X.mg X.base ca k m ps sem) (hr : Room j X.A) (hkj : k ≤ j) (hv : PE X o (tVar i)) (ha : FA X ca W fA (e :: es)) (nf : NoFld m := by decide +kernel)
    (hst : starEach (e :: es) X.env = (false, eval e X.env) :: starEach es X.env := by rfl) (hpl : (backTo pos (starEach es X.env)).any (·.1) = false := by rfl)
    (ht : eval (.Call (.Attribute o m apos) (e :: es) [] pos) X.env = (do
      let ov ← eval o X.env
      standAt apos.atName
      let (f, first) ← holding [ov] (getMethod ov m pl)
      callWith pos f first (backTo pos (starEach (e :: es) X.env)) (backToKw pos (keywordEach [] X.env))) := by rfl) (hn : ps.length = n := by rfl) : FE X ca W (methXF i n sem fA) (.Call (.Attribute o m apos) (e :: es) [] pos) := by
  subst hn
  obtain ⟨C, f, fd, T, M, hb, F⟩ := c
  refine PEimp (pe_methS hv T.cls M F (hr.mono hkj) hb (fun σ => passAt tk σ) ha hst hpl ht) fun σ H Q ⟨G, ρ, env, q⟩ => ?_
  unfold methXF at q
  cases hP : obAt i ρ with
  | none => rw [hP] at q; exact q.elim
  | some P =>
    rw [hP] at q
    obtain ⟨a, h1, ho⟩ := env.obAt hP
    obtain ⟨dx, vg, vm, vc, vk, C', ic, h2, h3, h4⟩ := id ho
    have z := ic.uniq T.ic
    subst z
    exact ⟨.ref a, h1, a, dx, _, rfl, h3, nf.lk, G, ρ, env, ARes.imp (ARes.bind q) fun ds q vs G1 H1 e1 dvs => spMX_go e1 (ho.ext e1) dvs q⟩
theorem fe_methX0 {pl : Sem Bool} (tk : Takes X W) (c : OkM X.prog X.w X.K X.mg X.base ca k m ps sem) (hr : Room j X.A) (hkj : k ≤ j) (hv : PE X o (tVar i)) (nf : NoFld m := by decide +kernel)
    (ht : eval (.Call (.Attribute o m apos) [] [] pos) X.env = (do
      let ov ← eval o X.env
      standAt apos.atName
      let (f, first) ← holding [ov] (getMethod ov m pl)
      callWith pos f first (backTo pos (starEach [] X.env)) (backToKw pos (keywordEach [] X.env))) := by rfl) (hn : ps.length = n := by rfl) : FE X ca W (methXF i n sem aN) (.Call (.Attribute o m apos) [] [] pos) := by
  subst hn
  obtain ⟨C, f, fd, T, M, hb, F⟩ := c
  refine PEimp (pe_methS0 hv T.cls M F (hr.mono hkj) hb (fun σ => passAt tk σ) ht) fun σ H Q ⟨G, ρ, env, q⟩ => ?_
  unfold methXF at q
  cases hP : obAt i ρ with
  | none => rw [hP] at q; exact q.elim
  | some P =>
    rw [hP] at q
    obtain ⟨a, h1, ho⟩ := env.obAt hP
    obtain ⟨dx, vg, vm, vc, vk, C', ic, h2, h3, h4⟩ := id ho
    have z := ic.uniq T.ic
    subst z
    exact ⟨.ref a, h1, a, dx, _, rfl, h3, nf.lk, spMX_go (Ext.refl env.ext) ho .nil q⟩
/-! ### statements with such an expression -/
def exprMF (fm : Rho → R (D × Rho)) : Rho → Out := fun ρ => (fm ρ).out fun x => .nx x.2
def setMF (i : Nat) (fm : Rho → R (D × Rho)) : Rho → Out := fun ρ => (fm ρ).out fun x => .nx (x.2.set i (some (.sh x.1)))
def retMF (fm : Rho → R (D × Rho)) : Rho → Out := fun ρ => (fm ρ).out fun x => .ret x.1
theorem MRes_of {Dn : Ends} {G0 H0 G : Hp} {σ : L2.St} {Q : VK} {r : R (D × Rho)} {kk : D × Rho → Out} (q : SRes X.K ca W Dn G0 H0 (r.out kk)) (h : ∀ d ρ', SRes X.K ca W Dn G0 H0 (kk (d, ρ')) → ∀ v G' H', StOk X.K G0 H0 G' H' σ ρ' → Ex G G' → Dp X.K G' v d → Q v H') : MRes X.K ca W G0 H0 G σ Q r := by
  cases r with
  | ok x => exact h x.1 x.2 q
  | exc e => exact fun c dd G' H' e1 hx => q c dd σ G' H' e1 hx
  | bad => exact q
theorem fs_exprM (he : FM X ca W fm e) (hs : swapsWith e none pos.line X.env = pure false := by rfl) : FS X ca W (exprMF fm) (.Expr e pos) := PSimp (ps_expr he hs) fun Dn σ H ⟨G0, H0, G, ρ, s, q⟩ =>
  ⟨G0, H0, G, ρ, s, MRes_of q fun d ρ' q v G' H' s' _ _ => q σ G' H' s'⟩
theorem fs_setM {i : Nat} {x : Str} {pos' : Pos} (hN : X.N.Nodup) (hi : X.N[i]? = some x) (hx : Loc X.env.scope x) (he : FM X ca W fm e) (hs : swapsWith e (some (.Name x pos')) pos.line X.env = pure false := by rfl) (hf : X.fn x = true ∨ X.env.scope.names.lookup x = some .local := by first | exact .inl rfl | exact .inr rfl | assumption) :
    FS X ca W (setMF i fm) (.Assign [.Name x pos'] e pos) := PSimp (ps_set hN hi hx he hs hf) fun Dn σ H ⟨G0, H0, G, ρ, s, q⟩ =>
  ⟨G0, H0, G, ρ, s, MRes_of q fun d ρ' q v G' H' s' _ dv => q _ G' H' (s'.set_sh dv)⟩
theorem fs_retM (he : FM X ca W fm e) : FS X ca W (retMF fm) (.Return (some e) pos) := PSimp (ps_ret he) fun Dn σ H ⟨G0, H0, G, ρ, s, q⟩ =>
  ⟨G0, H0, G, ρ, s, MRes_of q fun d ρ' q v G' H' s' _ dv => q v G' H' s'.ext dv⟩
/-- m != e, m == e -/
def cmpMF (g : D → D → Option D) (fm : Rho → R (D × Rho)) (f : Rho → R D) : Rho → R (Bool × Rho) := fun ρ => do
  let x ← fm ρ; let y ← f x.2; let r ← R.of (g x.1 y); let b ← R.of (bl? r); pure (b, x.2)
def ifMF (c : Rho → R (Bool × Rho)) (g h : Rho → Out) : Rho → Out := fun ρ => (c ρ).out fun x => if x.1 = true then g x.2 else h x.2
theorem fs_ifM {op : CmpOp} {r : R2} {gd : D → D → Option D} {xs ys : List Stmt} {g h : Rho → Out} (ho : OpR X (compareOp op) r) (hr : ROp X.K r gd) (ha : FM X ca W fm a) (hb : FE X ca W f b) (hm : behindInMarks op b = false) (hx : FSs X ca W g xs) (hy : FSs X ca W h ys) :
    FS X ca W (ifMF (cmpMF gd fm f) g h) (.If (.Compare a [op] [b] p) xs ys pos) := PSimp (ps_if (pt_cmpR ho ha hb hm) hx hy) fun Dn σ H ⟨G0, H0, G, ρ, s, q⟩ => by
  refine ⟨G0, H0, G, ρ, s, ?_⟩
  unfold ifMF cmpMF at q
  cases hfm : fm ρ with
  | bad => rw [hfm] at q; exact q.elim
  | exc z => rw [hfm] at q; exact fun c dd G' H' e1 hx => q c dd σ G' H' e1 hx
  | ok w =>
    obtain ⟨d, ρ'⟩ := w
    rw [hfm] at q
    intro v G1 H1 s1 e01 dv
    refine ⟨G1, ρ', s1.env, ?_⟩
    cases hf : f ρ' with
    | bad => simp only [bind, R.bind, hf] at q; exact q.elim
    | exc z => simp only [bind, R.bind, hf] at q; exact fun c dd G' H' e1 hx => q c dd σ G' H' (s1.ext.trans e1) hx
    | ok y =>
      intro u G2 H2 e2 dy
      simp only [bind, R.bind, hf] at q
      cases hg : gd d y with
      | none => simp only [hg, R.of] at q; exact q.elim
      | some rr =>
        simp only [hg, R.of] at q
        refine hr G2 H2 v u d y rr _ e2.gh (DpB.of e2.gh (Dp.ex e2.g _ dv)) (DpB.of e2.gh dy) hg fun vv G3 H3 e3 dr => ?_
        cases dr with
        | bl bb =>
          refine ⟨bb, rfl, ?_⟩
          have s3 := s1.mono (e2.trans e3)
          cases bb with
          | true =>
            show if (true : Bool) = true then tSt X.K ca W g Dn σ H3 else tSt X.K ca W h Dn σ H3
            rw [if_pos rfl]; exact ⟨G0, H0, G3, ρ', s3, q⟩
          | false =>
            show if (false : Bool) = true then tSt X.K ca W g Dn σ H3 else tSt X.K ca W h Dn σ H3
            rw [if_neg Bool.false_ne_true]; exact ⟨G0, H0, G3, ρ', s3, q⟩
        | _ => exact q.elim
theorem fs_ifNeM {xs ys : List Stmt} {g h : Rho → Out} (hr : Room k X.A) (ha : FM X ca W fm a) (hb : FE X ca W f b) (hx : FSs X ca W g xs) (hy : FSs X ca W h ys) : FS X ca W (ifMF (cmpMF neD fm f) g h) (.If (.Compare a [.NotEq] [b] p) xs ys pos) := fs_ifM (op_neD (hu64 hr)) rop_ne ha hb (nomark _) hx hy
end
end FE

namespace FE
open PySem L2 PyProof.Rows PySem.Spec
/-! ## fields stored -/
theorem pf_here {f : Str} {v x : V} {r : List (Str × V)} : putF f v ((f, x) :: r) = (f, v) :: r := if_pos rfl
theorem pf_past {f g : Str} {v x : V} {r : List (Str × V)} (h : ¬ g = f) : putF f v ((g, x) :: r) = (g, x) :: putF f v r := if_neg h
theorem pf_chosen {vg vm vc vk y : V} : putF "chosen" y (obFs vg vm vc vk) = obFs vg vm y vk := (pf_past (by decide +kernel)).trans (congrArg _ ((pf_past (by decide +kernel)).trans (congrArg _ pf_here)))
theorem pf_kept {vg vm vc vk y : V} : putF "kept" y (obFs vg vm vc vk) = obFs vg vm vc y := (pf_past (by decide +kernel)).trans (congrArg _ ((pf_past (by decide +kernel)).trans (congrArg _ ((pf_past (by decide +kernel)).trans (congrArg _ pf_here)))))
/-- the heap behind a store of another field -/
theorem fld_ext {K : PySem.W.Frag} {G H : Hp} {C dx p : Addr} {fs : List (Str × V)} (e : Ex G H) (gp : G p = none) : Ext G (del H p) G (upd H p (.ins C dx fs)) := ⟨Ex.refl _, fun a o h => by
    have z : a ≠ p := fun z => by rw [z, del_same] at h; cases h
    rw [del_ne z] at h
    rw [upd_ne z]; exact h, fun a o h => by
    have z : a ≠ p := fun z => by rw [z, gp] at h; cases h
    rw [upd_ne z]; exact e a o h, fun _ z _ => z⟩
theorem ob_ch {K : PySem.W.Frag} {G H : Hp} {p dx C : Addr} {P : ObD} {d : D} {vg vm vc vk y : V} (ic : IsPl K C) (h2 : G p = none) (h3 : H p = some (.ins C dx (obFs vg vm vc vk))) (h4 : H dx = some (.own p)) (d1 : Dp K G vg P.g) (d2 : P.nd = true → GrV K G vg P.g) (d3 : Dp K G vm P.m) (d5 : Dp K G vk P.kept) (dy : Dp K G y d) :
    ObOk K G (upd H p (.ins C dx (putF "chosen" y (obFs vg vm vc vk)))) p { P with ch := d } := by
  have n : dx ≠ p := fun z => by subst z; rw [h3] at h4; cases h4
  exact ⟨dx, vg, vm, y, vk, C, ic, h2, by rw [upd_same, pf_chosen], by rw [upd_ne n]; exact h4, d1, d2, d3, dy, d5⟩
theorem ob_kept {K : PySem.W.Frag} {G H : Hp} {p dx C : Addr} {P : ObD} {d : D} {vg vm vc vk y : V} (ic : IsPl K C) (h2 : G p = none) (h3 : H p = some (.ins C dx (obFs vg vm vc vk))) (h4 : H dx = some (.own p)) (d1 : Dp K G vg P.g) (d2 : P.nd = true → GrV K G vg P.g) (d3 : Dp K G vm P.m) (d5 : Dp K G vc P.ch) (dy : Dp K G y d) :
    ObOk K G (upd H p (.ins C dx (putF "kept" y (obFs vg vm vc vk)))) p { P with kept := d } := by
  have n : dx ≠ p := fun z => by subst z; rw [h3] at h4; cases h4
  exact ⟨dx, vg, vm, vc, y, C, ic, h2, by rw [upd_same, pf_kept], by rw [upd_ne n]; exact h4, d1, d2, d3, d5, dy⟩
def storeF (i : Nat) (u : ObD → D → ObD) (f : Rho → R D) : Rho → Out := fun ρ => match ρ[i]? with
  | some (some (.ob P)) => (f ρ).out fun d => .nx (ρ.set i (some (.ob (u P d))))
  | _ => .bad
section
variable {X : Cx} {ca : CA} {W : WX} {o e : Expr} {es : List Expr} {st : Stmt} {rest : List Stmt} {pos apos : Pos} {i j k : Nat} {f : Rho → R D}
theorem fs_storeCh (T : PlT X.K) (ho : PE X o (tVar i)) (he : FE X ca W f e) (hs : swapsWith e (some (.Attribute o "chosen" apos)) pos.line X.env = pure false := by rfl) : FS X ca W (storeF i (fun P d => { P with ch := d }) f) (.Assign [.Attribute o "chosen" apos] e pos) := PSimp (ps_fld ho he hs) fun Dn σ H ⟨G0, H0, G, ρ, s, q⟩ => by
  unfold storeF at q
  split at q
  · rename_i P hP
    obtain ⟨p, h1, _⟩ := s.env.ob hP
    refine ⟨G, ρ, s.env, (SRes.out s q).imp fun d q v G1 H1 e1 dv => ?_⟩
    have s1 := s.mono e1
    obtain ⟨p', h1', ho1⟩ := s1.env.ob hP
    rw [h1] at h1'; cases h1'
    obtain ⟨dx, vg, vm, vc, vk, C, ic, h2, h3, h4, d1, d2, d3, d4, d5⟩ := id ho1
    obtain ⟨C', T'⟩ := T
    have z := ic.uniq T'.ic
    subst z
    exact ⟨.ref p, h1, p, C, dx, _, rfl, h3, T'.cls, T'.n3, (by show 4 < 1000; decide), q σ G1 _ (s1.change_ob hP h1 ho1 (fld_ext (K := X.K) e1.gh h2) (ob_ch ic h2 h3 h4 d1 d2 d3 d5 dv))⟩
  · exact q.elim
theorem fs_storeKept (T : PlT X.K) (ho : PE X o (tVar i)) (he : FE X ca W f e) (hs : swapsWith e (some (.Attribute o "kept" apos)) pos.line X.env = pure false := by rfl) : FS X ca W (storeF i (fun P d => { P with kept := d }) f) (.Assign [.Attribute o "kept" apos] e pos) := PSimp (ps_fld ho he hs) fun Dn σ H ⟨G0, H0, G, ρ, s, q⟩ => by
  unfold storeF at q
  split at q
  · rename_i P hP
    obtain ⟨p, h1, _⟩ := s.env.ob hP
    refine ⟨G, ρ, s.env, (SRes.out s q).imp fun d q v G1 H1 e1 dv => ?_⟩
    have s1 := s.mono e1
    obtain ⟨p', h1', ho1⟩ := s1.env.ob hP
    rw [h1] at h1'; cases h1'
    obtain ⟨dx, vg, vm, vc, vk, C, ic, h2, h3, h4, d1, d2, d3, d4, d5⟩ := id ho1
    obtain ⟨C', T'⟩ := T
    have z := ic.uniq T'.ic
    subst z
    exact ⟨.ref p, h1, p, C, dx, _, rfl, h3, T'.cls, T'.n4, (by show 4 < 1000; decide), q σ G1 _ (s1.change_ob hP h1 ho1 (fld_ext (K := X.K) e1.gh h2) (ob_kept ic h2 h3 h4 d1 d2 d3 d4 dv))⟩
  · exact q.elim
/-! ## a method that hands out a new planner -/
def tStN (K : PySem.W.Frag) (ca : CA) (W : WX) (h : Rho → R ObD) : TS := fun Dn σ H => ∃ G0 H0 G ρ, StOk K G0 H0 G H σ ρ ∧ match h ρ with
  | .ok P => ∀ p G' H', Ext G0 H0 G' H' → H0 p = none → ObOk K G' H' p P → Dn.rt (.ref p) H'
  | .exc e => ∀ c dd σ G' H', Ext G0 H0 G' H' → ExcAt K ca G' H' e c dd → W c dd σ H'
  | .bad => False
def seqNF (g : Rho → Out) (h : Rho → R ObD) : Rho → R ObD := fun ρ => match g ρ with
  | .nx ρ' => h ρ'
  | .exc e => .exc e
  | _ => .bad
theorem fsn_cons {g : Rho → Out} {h : Rho → R ObD} (h1 : FS X ca W g st) (h2 : PSs X rest (tStN X.K ca W h)) : PSs X (st :: rest) (tStN X.K ca W (seqNF g h)) := PSsimp (pss_cons h1 h2) fun Dn σ H ⟨G0, H0, G, ρ, s, q⟩ => by
  refine ⟨G0, H0, G, ρ, s, ?_⟩
  unfold seqNF at q
  cases hg : g ρ with
  | nx ρ' => rw [hg] at q; exact fun σ' G' H' s' => ⟨G0, H0, G', ρ', s', q⟩
  | ret d => rw [hg] at q; exact q.elim
  | exc e => rw [hg] at q; exact q
  | bad => rw [hg] at q; exact q.elim
def retNF (i : Nat) : Rho → R ObD := fun ρ => match ρ[i]? with
  | some (some (.ob P)) => .ok P
  | _ => .bad
theorem fsn_ret (hv : PE X e (tVar i)) : PSs X [.Return (some e) pos] (tStN X.K ca W (retNF i)) := PSsimp (pss_one (ps_ret hv)) fun Dn σ H ⟨G0, H0, G, ρ, s, q⟩ => by
  unfold retNF at q
  split at q
  · rename_i P heq
    split at heq
    · rename_i P' hP
      cases heq
      obtain ⟨p, h1, ho⟩ := s.env.ob hP
      exact ⟨.ref p, h1, q p G H s.ext (s.own i _ p hP rfl h1) ho⟩
    · cases heq
  · rename_i heq
    split at heq <;> cases heq
  · exact q.elim
end
def spD (K : PySem.W.Frag) (ca : CA) (sem : ObD → R ObD) : Sp := fun vs H Q E => ∃ (G : Hp) (p : Addr) (P : ObD), vs = [.ref p] ∧ Ex G H ∧ ObOk K G H p P ∧ match sem P with
  | .ok P' => ∀ p' G' H', Ext G H G' H' → H p' = none → ObOk K G' H' p' P' → Q (.ref p') H'
  | .exc z => ∀ c dd G' H', Ext G H G' H' → ExcAt K ca G' H' z c dd → E c dd H'
  | .bad => False
def OkD (P : Program) (w : World) (K : PySem.W.Frag) (mg : Str → Option Value) (base : Heap) (ca : CA) (k : Nat) (m : Str) (sem : ObD → R ObD) : Prop :=
  ∃ C f fd ps, PlTxt K C ∧ Meth K C m f ∧ Binds K fd ps [] ∧ ps.length = 1 ∧ FnOk P w K mg base (L2.CX P w) k f fd ps (spD K ca sem)
def bodyD (n : Nat) (g : Rho → R ObD) : ObD → R ObD := fun P => g (startR n P [])
theorem OkD.mk {P : Program} {w : World} {K : PySem.W.Frag} {mg : Str → Option Value} {base : Heap} {ca : CA} {m qual : Str} {st : Stmt} {N ps : List Str} {k n : Nat} {g : Rho → R ObD} (d : DefM K m qual st ps) (S : FnScope N ps (defScope st)) (hps : ps.length = 1) (hn : N.length = n)
    (hbody : ∀ (cdv : Value) (A : Around) (outer : List Env) (s : Shared) (H : Hp) (E : XK) (f : Addr), Room k (A.deeper (envOfC qual (defScope st) s.heap.objs.size f cdv)) →
      PSs (cxOf (L2.CX P w) P w K mg base N qual (defScope st) f cdv A outer s H E) (defBody st) (tStN K ca (fun c d _ H' => E c d H') g)) : OkD P w K mg base ca (k + 1) m (bodyD n g) := by
  obtain ⟨C, f, fd, T, M, F, b⟩ := d
  subst hn
  refine ⟨C, f, fd, ps, T, M, b, hps, F.okX S (fun vs H Q E ⟨G, p, P, e, _⟩ => by rw [e, hps]; rfl) fun cdv A outer s H vs Q E hr h => ⟨_, hbody cdv A outer s H E f hr, ?_⟩⟩
  obtain ⟨G, p, P, rfl, hG, ho, q⟩ := h
  refine ⟨G, H, G, startR N.length P [], startR_env hG ho .nil, ?_⟩
  unfold bodyD at q
  cases hg : g (startR N.length P []) with
  | ok P' => rw [hg] at q; exact fun p' G' H' e hp ho' => q p' G' H' e hp ho'
  | exc z => rw [hg] at q; exact fun c dd σ' G' H' e hx => q c dd G' H' e hx
  | bad => rw [hg] at q; exact q
def dupF (i : Nat) (sem : ObD → R ObD) : Rho → R ObD := fun ρ => match obAt i ρ with
  | some P => sem P
  | none => .bad
section
variable {X : Cx} {ca : CA} {W : WX} {o e e1 : Expr} {es : List Expr} {pos apos pos1 : Pos} {i j k l n c : Nat} {m x y : Str} {ps : List Str} {sem : ObD → R ObD}
theorem fn_dup {pl : Sem Bool} (tk : Takes X W) (c : OkD X.prog X.w X.K X.mg X.base ca k m sem) (hr : Room j X.A) (hkj : k ≤ j) (hv : PE X o (tVar i)) (nf : NoFld m := by decide +kernel)
    (ht : eval (.Call (.Attribute o m apos) [] [] pos) X.env = (do
      let ov ← eval o X.env
      standAt apos.atName
      let (f, first) ← holding [ov] (getMethod ov m pl)
      callWith pos f first (backTo pos (starEach [] X.env)) (backToKw pos (keywordEach [] X.env))) := by rfl) : FN X ca W (dupF i sem) (.Call (.Attribute o m apos) [] [] pos) := by
  obtain ⟨C, f, fd, ps, T, M, hb, hps, F⟩ := c
  refine PEimp (pe_methS0 hv T.cls M F (hr.mono hkj) hb (fun σ => passAt tk σ) ht) fun σ H Q ⟨G, ρ, env, q⟩ => ?_
  unfold dupF at q
  cases hP : obAt i ρ with
  | none => rw [hP] at q; exact q.elim
  | some P =>
    rw [hP] at q
    obtain ⟨a, h1, ho⟩ := env.obAt hP
    obtain ⟨dx, vg, vm, vc, vk, C', ic, h2, h3, h4⟩ := id ho
    have z := ic.uniq T.ic
    subst z
    refine ⟨.ref a, h1, a, dx, _, rfl, h3, nf.lk, G, a, P, rfl, env.ext, ho, ?_⟩
    simp only at q
    cases hs : sem P with
    | ok P' => rw [hs] at q; exact fun p' G' H' e hp ho' => q p' G' H' e hp ho'
    | exc z => rw [hs] at q; exact fun c dd G' H' e hx => q c dd G' H' e hx
    | bad => rw [hs] at q; exact q
/-- copied = work; work = work.duplicate() -/
def aliasF (i c : Nat) (sem : ObD → R ObD) : Rho → Out := fun ρ => match ρ[i]? with
  | some (some (.ob P)) => (match sem P with
    | .ok P' => .nx ((ρ.set c (some (.ob P))).set i (some (.ob P')))
    | _ => .bad)
  | _ => .bad
theorem fss_alias {ic : i ≠ c} {rest : List Stmt} {g : Rho → Out} {px py : Pos} {pl : Sem Bool} (tk : Takes X W) (D : OkD X.prog X.w X.K X.mg X.base ca k m sem) (hr : Room j X.A) (hkj : k ≤ j) (hN : X.N.Nodup) (hc : X.N[c]? = some y) (hi : X.N[i]? = some x) (hy : Loc X.env.scope y) (hx : Loc X.env.scope x)
    (hv1 : PE X e1 (tVar i)) (hv : PE X o (tVar i)) (hrest : FSs X ca W g rest)
    (hs1 : swapsWith e1 (some (.Name y py)) pos1.line X.env = pure false := by rfl) (hs2 : swapsWith (.Call (.Attribute o m apos) [] [] pos) (some (.Name x px)) pos.line X.env = pure false := by rfl)
    (hf1 : X.fn y = true ∨ X.env.scope.names.lookup y = some .local := by first | exact .inl rfl | exact .inr rfl | assumption) (hf2 : X.fn x = true ∨ X.env.scope.names.lookup x = some .local := by first | exact .inl rfl | exact .inr rfl | assumption) (nf : NoFld m := by decide +kernel)
    (ht : eval (.Call (.Attribute o m apos) [] [] pos) X.env = (do
      let ov ← eval o X.env
      standAt apos.atName
      let (f, first) ← holding [ov] (getMethod ov m pl)
      callWith pos f first (backTo pos (starEach [] X.env)) (backToKw pos (keywordEach [] X.env))) := by rfl) {pos2 : Pos} (hs2' : swapsWith (.Call (.Attribute o m apos) [] [] pos) (some (.Name x px)) pos2.line X.env = pure false := by rfl) :
    FSs X ca W (seqS (aliasF i c sem) g) (.Assign [.Name y py] e1 pos1 :: .Assign [.Name x px] (.Call (.Attribute o m apos) [] [] pos) pos2 :: rest) := by
  obtain ⟨C, f, fd, ps, T, M, hb, hps, F⟩ := D
  refine PSsimp (pss_cons (ps_set hN hc hy hv1 hs1 hf1) (pss_cons (ps_set hN hi hx (pe_methS0 hv T.cls M F (hr.mono hkj) hb (fun σ => passAt (X := X) (W := fun _ _ _ _ => False) takes_none5 σ) ht) hs2' hf2) hrest)) fun Dn σ H ⟨G0, H0, G, ρ, s, q⟩ => ?_
  unfold seqS aliasF at q
  split at q
  · rename_i ρ' heq
    split at heq
    · rename_i P hP
      split at heq
      · rename_i P' hs
        cases heq
        obtain ⟨p, h1, ho⟩ := s.env.ob hP
        have hi' : i < σ.length := (List.getElem?_eq_some_iff.mp h1).1
        obtain ⟨dx, vg, vm, vc, vk, C', ic', h2, h3, h4⟩ := id ho
        have z := ic'.uniq T.ic
        subst z
        have hσ1 : (σ.set c (some (.ref p)))[i]? = some (some (.ref p)) := by rw [List.getElem?_set_ne (fun z => ic z.symm)]; exact h1
        refine ⟨.ref p, h1, .ref p, hσ1, p, dx, _, rfl, h3, nf.lk, G, p, P, rfl, s.env.ext, ho, ?_⟩
        rw [hs]
        intro p' G' H' e1 hp ho'
        -- the slot i is forgotten, c takes the planner, i the new one
        have hnc : ∀ (j : Nat) (u : Option SV) (q : Addr), j ≠ c → (ρ.set i none)[j]? = some u → isOw u = true → (some (V.ref p)) = some (.ref q) → σ[j]? ≠ some (some (.ref q)) := fun j u q hj hu hw hq hσ => by
          cases hq
          by_cases z : i = j
          · subst z
            have hl : i < ρ.length := by rw [← s.env.len]; exact hi'
            rw [List.getElem?_set_self hl] at hu; cases hu; cases hw
          · rw [List.getElem?_set_ne z] at hu
            exact s.env.sep i j _ u p z hP hu rfl hw h1 hσ
        have k1 := s.env.forget (i := i)
        have k2 := k1.set (i := c) (o := some (.ob P)) (x := some (.ref p)) ⟨p, rfl, ho⟩ fun _ => hnc
        have s2 : StOk X.K G0 H0 G H (σ.set c (some (.ref p))) ((ρ.set i none).set c (some (.ob P))) := ⟨k2, s.ext, (OwnP.forget s.own).set_ow (s.own i _ p hP rfl h1) (by simpa using s.env.len)⟩
        have s3 := s2.set_ob (i := i) e1 hp ho'
        have e2 : (((ρ.set i none).set c (some (SV.ob P))).set i (some (SV.ob P'))) = ((ρ.set c (some (.ob P))).set i (some (.ob P'))) := by
          apply List.ext_getElem?
          intro j
          by_cases z : i = j
          · subst z; simp [List.getElem?_set]
          · rw [List.getElem?_set_ne z, List.getElem?_set_ne z]
            by_cases z2 : c = j
            · subst z2; simp [List.getElem?_set]
            · rw [List.getElem?_set_ne z2, List.getElem?_set_ne z2, List.getElem?_set_ne z]
        rw [e2] at s3
        exact ⟨G0, H0, G', _, s3, q⟩
      · cases heq
    · cases heq
  · rename_i d heq
    split at heq
    · split at heq <;> cases heq
    · cases heq
  · rename_i z heq
    split at heq
    · split at heq <;> cases heq
    · cases heq
  · exact q.elim
end
/-! ## the bodies of take and undo -/
/-- the growth of the heap, the planner's own place left out -/
theorem del_ext {G H G' H' : Hp} {p : Addr} (e : Ext G H G' H') (gp : G p = none ∧ H p ≠ none) : Ext G (del H p) G' (del H' p) := ⟨e.g, fun a o h => by
    have z : a ≠ p := fun z => by rw [z, del_same] at h; cases h
    rw [del_ne z] at h ⊢
    exact e.h a o h, fun a o h => by
    have z : a ≠ p := fun z => by rw [z, e.new p gp.1 gp.2] at h; cases h
    rw [del_ne z]; exact e.gh a o h, fun a h1 h2 => e.new a h1 (fun w => h2 (by
    by_cases z : a = p
    · subst z; exact del_same
    · rw [del_ne z]; exact w))⟩
theorem del_ext_none {K : PySem.W.Frag} {G H : Hp} {p : Addr} {P : ObD} (h : ObOk K G H p P) : G p = none ∧ H p ≠ none := by
  obtain ⟨dx, vg, vm, vc, vk, C, ic, h2, h3, h4⟩ := h
  exact ⟨h2, by rw [h3]; simp⟩
def startO (n : Nat) (P : ObD) (ds : List D) : Rho := (start0 n (.none :: ds)).set 0 (some (.ob P))
theorem startO_env {K : PySem.W.Frag} {G H : Hp} {N : List Str} {p : Addr} {P : ObD} {vs : List V} {ds : List D} (e : Ex G H) (ho : ObOk K G H p P) (h : DpAll K G vs ds) : EnvOk K G H (start N (.ref p :: vs)) (startO N.length P ds) := by
  have s := start_env (N := N) (vs := .non :: vs) (ds := .none :: ds) e (.cons .non h)
  have k := s.env.set (i := 0) (o := some (.ob P)) (x := some (.ref p)) ⟨p, rfl, ho⟩ fun _ j u q _ hj hu _ => by
    rw [start0_noow j u hj] at hu; cases hu
  have e1 : (start N (.non :: vs)).set 0 (some (.ref p)) = start N (.ref p :: vs) := by
    unfold L2.start
    rfl
  rw [e1] at k
  exact k
theorem startO_set {n : Nat} {P P' : ObD} {ds : List D} : (startO n P ds).set 0 (some (.ob P')) = startO n P' ds := by unfold startO; rw [List.set_set]
theorem startO_0 {n : Nat} {P : ObD} {ds : List D} : (startO n P ds)[0]? = some (some (.ob P)) := by
  unfold startO
  have hl : 0 < (start0 n (.none :: ds)).length := by simp [start0]
  exact List.getElem?_set_self hl
theorem start_0 {N : List Str} {v : V} {vs : List V} : (start N (v :: vs))[0]? = some (some v) := rfl
def mutAt (K : PySem.W.Frag) (ca : CA) (W : WX) (N : List Str) (sem : ObD → List D → R (D × ObD)) : TS := fun Dn σ H => ∃ (G : Hp) (p : Addr) (P : ObD) (vs0 : List V) (ds : List D), σ = start N (.ref p :: vs0) ∧ Ex G H ∧ ObOk K G H p P ∧ DpAll K G vs0 ds ∧ match sem P ds with
  | .ok (d, P') => ∀ v G' H', Ext G (del H p) G' H' → ObOk K G' H' p P' → Dp K G' v d → Dn.rt v H'
  | .exc z => ∀ c dd σ G' H', Ext G H G' H' → ExcAt K ca G' H' z c dd → W c dd σ H'
  | .bad => False
theorem OkM.mk {P : Program} {w : World} {K : PySem.W.Frag} {mg : Str → Option Value} {base : Heap} {ca : CA} {m qual : Str} {st : Stmt} {N ps : List Str} {k : Nat} {sem : ObD → List D → R (D × ObD)} (d : DefM K m qual st ps) (S : FnScope N ps (defScope st))
    (hbody : ∀ (cdv : Value) (A : Around) (outer : List Env) (s : Shared) (H : Hp) (E : XK) (f : Addr), Room k (A.deeper (envOfC qual (defScope st) s.heap.objs.size f cdv)) →
      PSs (cxOf (L2.CX P w) P w K mg base N qual (defScope st) f cdv A outer s H E) (defBody st) (mutAt K ca (fun c d _ H' => E c d H') N sem)) : OkM P w K mg base ca (k + 1) m ps sem := by
  obtain ⟨C, f, fd, T, M, F, b⟩ := d
  refine ⟨C, f, fd, T, M, b, F.okX S spM_len fun cdv A outer s H vs Q E hr h => ⟨_, hbody cdv A outer s H E f hr, ?_⟩⟩
  obtain ⟨G, p, P, vs0, ds, rfl, hG, ho, hd, hl, q⟩ := h
  refine ⟨G, p, P, vs0, ds, rfl, hG, ho, hd, ?_⟩
  cases hg : sem P ds with
  | ok x => obtain ⟨d, P'⟩ := x; rw [hg] at q; exact fun v G' H' e ho' dv => q v G' H' e ho' dv
  | exc z => rw [hg] at q; exact fun c dd σ' G' H' e hx => q c dd G' H' e hx
  | bad => rw [hg] at q; exact q
def takeR (n kx : Nat) (c : Rho → R Bool) (e1 e2 : Rho → R D) : ObD → List D → R (D × ObD) := fun P ds => match c (startO n P ds) with
  | .ok true => .exc ⟨kx, none⟩
  | .ok false => (match e1 (startO n P ds) with
    | .ok d1 => (match e2 (startO n { P with ch := d1 } ds) with
      | .ok r => .ok (r, { P with ch := d1 })
      | _ => .bad)
    | _ => .bad)
  | .exc z => .exc z
  | .bad => .bad
def undoR (n l kx : Nat) (c : Rho → R Bool) (e0 e1 : Rho → R D) : ObD → List D → R (D × ObD) := fun P ds => match c (startO n P ds) with
  | .ok true => .exc ⟨kx, none⟩
  | .ok false => (match e0 (startO n P ds) with
    | .ok d0 => (match e1 ((startO n P ds).set l (some (.sh d0))) with
      | .ok d1 => .ok (d0, { P with ch := d1 })
      | _ => .bad)
    | _ => .bad)
  | .exc z => .exc z
  | .bad => .bad
section
variable {X : Cx} {ca : CA} {W : WX} {ec o ee1 ee2 : Expr} {st : Stmt} {pi ps pr apos : Pos} {kx : Nat} {c : Rho → R Bool} {f1 f2 : Rho → R D}
theorem take_body {n : Nat} (hn : X.N.length = n) (T : PlT X.K) (hc : FT X ca W c ec) (hx : FS X ca W (fun _ => .exc ⟨kx, none⟩) st) (ho : PE X o (tVar 0)) (h1 : FE X ca W0 f1 ee1) (h2 : FE X ca W0 f2 ee2) (hs : swapsWith ee1 (some (.Attribute o "chosen" apos)) ps.line X.env = pure false := by rfl) :
    PSs X [.If ec [st] [] pi, .Assign [.Attribute o "chosen" apos] ee1 ps, .Return (some ee2) pr] (mutAt X.K ca W X.N (takeR n kx c f1 f2)) :=
  PSsimp (pss_cons (ps_if hc (pss_one hx) pss_nil) (pss_cons (ps_fld ho h1 hs) (pss_one (ps_ret h2)))) fun Dn σ H ⟨G, p, P, vs0, ds, hσ, eG, hob, hd, q⟩ => by
    subst hσ hn
    have env := startO_env (N := X.N) eG hob hd
    obtain ⟨C', T'⟩ := T
    refine ⟨G, _, env, ?_⟩
    unfold takeR at q
    cases hcr : c (startO X.N.length P ds) with
    | bad => rw [hcr] at q; exact q.elim
    | exc z => rw [hcr] at q; exact fun cc dd G' H' e1 hxx => q cc dd _ G' H' e1 hxx
    | ok b =>
      rw [hcr] at q
      intro G1 H1 e1
      cases b with
      | true =>
        show if (true : Bool) = true then _ else _
        rw [if_pos rfl]
        exact ⟨G, H, G1, _, (startR_env (N := X.N) eG hob hd).mono e1, q⟩
      | false =>
        show if (false : Bool) = true then _ else _
        rw [if_neg Bool.false_ne_true]
        refine ⟨G1, _, env.mono e1, ?_⟩
        simp only at q
        cases hf1 : f1 (startO X.N.length P ds) with
        | bad => rw [hf1] at q; exact q.elim
        | exc z => rw [hf1] at q; exact q.elim
        | ok d1 =>
          rw [hf1] at q
          intro v G2 H2 e2 dv
          have e12 := e1.trans e2
          have ho2 := hob.ext e12
          obtain ⟨dx, vg, vm, vc, vk, C, ic, h2, h3, h4, d1', d2, d3, d4, d5⟩ := id ho2
          have z := ic.uniq T'.ic
          subst z
          have fe := fld_ext (K := X.K) (C := C) (dx := dx) (fs := putF "chosen" v (obFs vg vm vc vk)) e12.gh h2
          have ob2 := ob_ch ic h2 h3 h4 d1' d2 d3 d5 dv
          refine ⟨.ref p, start_0, p, C, dx, _, rfl, h3, T'.cls, T'.n3, (by show 4 < 1000; decide), G2, _, ((env.mono e12).change_ob startO_0 start_0 ho2 fe ob2), ?_⟩
          rw [startO_set]
          simp only at q
          cases hf2 : f2 (startO X.N.length { P with ch := d1 } ds) with
          | bad => rw [hf2] at q; exact q.elim
          | exc z => rw [hf2] at q; exact q.elim
          | ok r =>
            rw [hf2] at q
            intro u G3 H3 e3 du
            exact q u G3 H3 ((del_ext e12 (del_ext_none hob)).trans (fe.trans e3)) (ob2.ext e3) du
theorem undo_body {n l : Nat} {x : Str} {e0 ev : Expr} {f0 : Rho → R D} {p0 px : Pos} (hn : X.N.length = n) (hl : l ≠ 0) (hll : l < n) (hN : X.N.Nodup) (hi : X.N[l]? = some x) (hxl : Loc X.env.scope x) (T : PlT X.K) (hc : FT X ca W c ec) (hx : FS X ca W (fun _ => .exc ⟨kx, none⟩) st) (ho : PE X o (tVar 0)) (h0 : FE X ca W0 f0 e0) (h1 : FE X ca W0 f1 ee1) (hv : PE X ev (tVar l))
    (hs0 : swapsWith e0 (some (.Name x px)) p0.line X.env = pure false := by rfl) (hs : swapsWith ee1 (some (.Attribute o "chosen" apos)) ps.line X.env = pure false := by rfl) (hf : X.fn x = true ∨ X.env.scope.names.lookup x = some .local := by first | exact .inl rfl | exact .inr rfl | assumption) :
    PSs X [.If ec [st] [] pi, .Assign [.Name x px] e0 p0, .Assign [.Attribute o "chosen" apos] ee1 ps, .Return (some ev) pr] (mutAt X.K ca W X.N (undoR n l kx c f0 f1)) :=
  PSsimp (pss_cons (ps_if hc (pss_one hx) pss_nil) (pss_cons (ps_set hN hi hxl h0 hs0 hf) (pss_cons (ps_fld ho h1 hs) (pss_one (ps_ret hv))))) fun Dn σ H ⟨G, p, P, vs0, ds, hσ, eG, hob, hd, q⟩ => by
    subst hσ hn
    have env := startO_env (N := X.N) eG hob hd
    obtain ⟨C', T'⟩ := T
    refine ⟨G, _, env, ?_⟩
    unfold undoR at q
    cases hcr : c (startO X.N.length P ds) with
    | bad => rw [hcr] at q; exact q.elim
    | exc z => rw [hcr] at q; exact fun cc dd G' H' e1 hxx => q cc dd _ G' H' e1 hxx
    | ok b =>
      rw [hcr] at q
      intro G1 H1 e1
      cases b with
      | true =>
        show if (true : Bool) = true then _ else _
        rw [if_pos rfl]
        exact ⟨G, H, G1, _, (startR_env (N := X.N) eG hob hd).mono e1, q⟩
      | false =>
        show if (false : Bool) = true then _ else _
        rw [if_neg Bool.false_ne_true]
        refine ⟨G1, _, env.mono e1, ?_⟩
        simp only at q
        cases hf0 : f0 (startO X.N.length P ds) with
        | bad => rw [hf0] at q; exact q.elim
        | exc z => rw [hf0] at q; exact q.elim
        | ok d0 =>
          rw [hf0] at q
          intro v0 G2 H2 e2 dv0
          have e12 := e1.trans e2
          have env2 := (env.mono e12).set_sh (i := l) dv0
          refine ⟨G2, _, env2, ?_⟩
          simp only at q
          cases hf1 : f1 ((startO X.N.length P ds).set l (some (.sh d0))) with
          | bad => rw [hf1] at q; exact q.elim
          | exc z => rw [hf1] at q; exact q.elim
          | ok d1 =>
            rw [hf1] at q
            intro v G3 H3 e3 dv
            have e13 := e12.trans e3
            have ho3 := hob.ext e13
            obtain ⟨dx, vg, vm, vc, vk, C, ic, h2, h3, h4, d1', d2, d3, d4, d5⟩ := id ho3
            have z := ic.uniq T'.ic
            subst z
            have fe := fld_ext (K := X.K) (C := C) (dx := dx) (fs := putF "chosen" v (obFs vg vm vc vk)) e13.gh h2
            have ob3 := ob_ch ic h2 h3 h4 d1' d2 d3 d5 dv
            have s0 : ((start X.N (.ref p :: vs0)).set l (some v0))[0]? = some (some (.ref p)) := by rw [List.getElem?_set_ne hl]; exact start_0
            have sl : ((start X.N (.ref p :: vs0)).set l (some v0))[l]? = some (some v0) := by
              have hlen : l < (start X.N (.ref p :: vs0)).length := by rw [env.len]; simp [startO, start0]; omega
              exact List.getElem?_set_self hlen
            refine ⟨.ref p, s0, p, C, dx, _, rfl, h3, T'.cls, T'.n3, (by show 4 < 1000; decide), v0, sl, ?_⟩
            exact q v0 G3 _ ((del_ext e13 (del_ext_none hob)).trans fe) ob3 (Dp.ex e3.g _ dv0)
end
end FE

namespace FE
open PySem L2 PyProof.Rows PySem.Spec
/-! ## texts -/
def strD : D → Option D
  | .int i => if i.natAbs.log2 < 1920 then some (.str (toString i)) else none
  | .str a => some (.str a)
  | _ => none
section
variable {K : PySem.W.Frag}
theorem rfn_str : RFn1 K (fun xs H Q => (∃ i : Int, xs = [.int i] ∧ i.natAbs.log2 < 1920 ∧ Q (.str (toString i)) H) ∨ (∃ a, xs = [.str a] ∧ Q (.str a) H)) strD := by
  intro G H x a d Q e dx hg k
  cases a <;> try (cases hg; done)
  case int i =>
    obtain ⟨z, rfl⟩ := ite_some hg
    exact Or.inl ⟨i, by rw [Dp.int_of dx], z, k _ G H (Ext.refl e) (.str _)⟩
  case str a =>
    cases hg
    exact Or.inr ⟨a, by rw [Dp.str_of dx], k _ G H (Ext.refl e) (.str _)⟩
/-- texts alone -/
def txts? : List D → Option (List Str)
  | [] => some []
  | .str a :: ds => (txts? ds).map (a :: ·)
  | _ :: _ => none
theorem txts_dp {G : Hp} : ∀ {vs : List V} {ds : List D} {ys : List Str}, DpAll K G vs ds → txts? ds = some ys → vs = ys.map V.str
  | _, _, ys, .nil, e => by cases e; rfl
  | _, _, ys, @DpAll.cons _ _ v vs d ds h t, e => by
    cases d <;> try (cases e; done)
    case str a =>
      have e' : (txts? ds).map (a :: ·) = some ys := e
      cases q : txts? ds with
      | none => rw [q] at e'; cases e'
      | some zs =>
        rw [q] at e'; cases e'
        cases h
        rw [List.map_cons, ← txts_dp t q]
def joinD : D → D → Option D
  | .str a, .list ds => (match txts? ds with
    | some ys => if (ys.map (·.length)).sum + ys.length * a.length ≤ szMax then some (.str (Txt.join a ys)) else none
    | none => none)
  | _, _ => none
end
/-- a part of an f-string -/
def fmtS : D → Option Str
  | .str y => if y.length ≤ szMax then some y else none
  | .int i => if i.natAbs.log2 < 1920 then some (toString i) else none
  | _ => none
def catS : List Str → Str
  | [] => Str.empty
  | y :: ys => y ++ catS ys
theorem str_assoc (x y z : Str) : (x ++ y) ++ z = x ++ (y ++ z) := TL.ext_tl (by rw [TL.tl_append, TL.tl_append, TL.tl_append, TL.tl_append, List.append_assoc])
theorem str_nil (x : Str) : x ++ Str.empty = x := TL.ext_tl (by rw [TL.tl_append]; simp [TL.tl, Str.empty])
theorem str_nil' (x : Str) : Str.empty ++ x = x := TL.ext_tl (by rw [TL.tl_append]; simp [TL.tl, Str.empty])
theorem str_len (x y : Str) : (x ++ y).length = x.length + y.length := by rw [TL.len_tl, TL.tl_append, List.length_append, ← TL.len_tl, ← TL.len_tl]
section
variable {X : Cx} {ca : CA} {W : WX} {e o a : Expr} {es : List Expr} {pos p apos : Pos} {f g : Rho → R D}
theorem fe_str1 (hg : Gl X "str") (hm : X.mg "str" = none) (ha : FB X ca W f e) (hs : starEach [e] X.env = (false, eval e X.env) :: starEach [] X.env := by rfl) : FE X ca W (fn1 strD f) (.Call (.Name "str" p) [e] [] pos) := fe_t1 (CallR.or call_str_int SkE.call_str_str) rfn_str hg hm boot_str ha (hs := hs)
/-- 'a'.join(xs) -/
def joinF (a : Str) (g : Rho → R D) : Rho → R D := fn1 (joinD (.str a)) g
theorem fe_join {x : Str} {j} (he : FB X ca W g e) (hs : starEach [e] X.env = [(false, eval e X.env)] := by rfl) (hbase : attributeBase (.Constant (.str x) j p) "join" X.env (eval (.Constant (.str x) j p) X.env) = eval (.Constant (.str x) j p) X.env := by rfl) (hline : (apos.endLine == pos.line) = true := by rfl) :
    FE X ca W (joinF x g) (.Call (.Attribute (.Constant (.str x) j p) "join" apos) [e] [] pos) := PEimp (pe_join pe_str he hs hbase hline) fun σ H Q ⟨G, ρ, env, q⟩ => by
  refine ⟨⟨x, rfl⟩, G, ρ, env, (ARes.bind q).imp fun y q u G1 H1 e1 dy => ?_⟩
  have q2 : ARes X.K ca W σ G H (fun d => ∀ v G' H', Ext G H G' H' → Dp X.K G' v d → Q v H') (R.of (joinD (.str x) y)) := q
  cases hj : joinD (.str x) y with
  | none => rw [hj] at q2; exact q2.elim
  | some d =>
    rw [hj] at q2
    have q3 : ∀ v G' H', Ext G H G' H' → Dp X.K G' v d → Q v H' := q2
    cases y <;> try (cases hj; done)
    case list ds =>
      cases ht : txts? ds with
      | none => simp only [joinD, ht] at hj; cases hj
      | some ys =>
        simp only [joinD, ht] at hj
        obtain ⟨hz, rfl⟩ := ite_some hj
        obtain ⟨r, vs, rfl, k1, k2⟩ := Dp.lst_of dy
        rw [txts_dp k2 ht] at k1
        exact ⟨x, r, ys, rfl, rfl, Or.inl k1, Nat.le_trans hz (by decide), q3 _ G1 H1 e1 (.str _)⟩
/-! ### f-strings -/
/-- the parts' texts, from the left -/
def FJ (X : Cx) (ca : CA) (W : WX) (g : Rho → R (List Str)) (es : List Expr) : Prop := ∃ ts, PJ X es ts ∧ ∀ (acc : Str) (σ : L2.St) (H : Hp) (Q : Str → Hp → Prop), (∃ G ρ, EnvOk X.K G H σ ρ ∧ ARes X.K ca W σ G H (fun ys => acc.length + (catS ys).length ≤ sizeLine ∧ ∀ G' H', Ext G H G' H' → Q (acc ++ catS ys) H') (g ρ)) → tJs ts acc σ H Q
theorem fj_nil : FJ X ca W (fun _ => .ok []) [] := ⟨[], .nil, fun acc σ H Q ⟨G, ρ, env, hz, q⟩ => by
  have := q G H (Ext.refl env.ext)
  rw [show catS [] = Str.empty from rfl, str_nil] at this
  exact this⟩
def fjF (f : Rho → R D) (g : Rho → R (List Str)) : Rho → R (List Str) := fun ρ => do let d ← f ρ; let y ← R.of (fmtS d); let ys ← g ρ; pure (y :: ys)
theorem fj_step {G H : Hp} {σ : L2.St} {acc y : Str} {Q : Str → Hp → Prop} {G1 H1 : Hp} {r : R (List Str)} (e1 : Ext G H G1 H1)
    (q : ARes X.K ca W σ G H (fun ys => acc.length + (catS ys).length ≤ sizeLine ∧ ∀ G' H', Ext G H G' H' → Q (acc ++ catS ys) H') (do let ys ← r; pure (y :: ys))) :
    ARes X.K ca W σ G1 H1 (fun ys => (acc ++ y).length + (catS ys).length ≤ sizeLine ∧ ∀ G' H', Ext G1 H1 G' H' → Q ((acc ++ y) ++ catS ys) H') r := (ARes.bind q).mono e1 fun ys hq => by
  obtain ⟨h1, h2⟩ := hq
  rw [show catS (y :: ys) = y ++ catS ys from rfl] at h1 h2
  rw [str_len] at h1
  refine ⟨by rw [str_len]; omega, fun G' H' e2 => ?_⟩
  rw [str_assoc]
  exact h2 G' H' (e1.trans e2)
/-- {e}, the last part or not -/
theorem fj_fmt {g : Rho → R (List Str)} (ha : FE X ca W f e) (hr : FJ X ca W g es) (hx : ∀ ρ z, g ρ ≠ .exc z) : FJ X ca W (fjF f g) (.FormattedValue e (-1) none pos :: es) := by
  obtain ⟨ts, hj, hq⟩ := hr
  refine ⟨_, .cons (pe_fmt ha) hj, fun acc σ H Q ⟨G, ρ, env, q⟩ => ?_⟩
  refine ⟨G, ρ, env, (ARes.bind q).imp fun d q u G1 H1 e1 dv => ?_⟩
  have q2 : ARes X.K ca W σ G H (fun ys => acc.length + (catS ys).length ≤ sizeLine ∧ ∀ G' H', Ext G H G' H' → Q (acc ++ catS ys) H') (do let y ← R.of (fmtS d); let ys ← g ρ; pure (y :: ys)) := q
  have room : ∀ y, ARes X.K ca W σ G H (fun ys => acc.length + (catS ys).length ≤ sizeLine ∧ ∀ G' H', Ext G H G' H' → Q (acc ++ catS ys) H') (do let ys ← g ρ; pure (y :: ys)) → (acc ++ y).length ≤ sizeLine ∧ tJs ts (acc ++ y) σ H1 Q := fun y q3 => by
    refine ⟨?_, hq _ σ H1 Q ⟨G1, ρ, env.mono e1, fj_step e1 q3⟩⟩
    have q4 := fj_step (X := X) (ca := ca) (W := W) (G1 := G) (H1 := H) (Ext.refl env.ext) q3
    cases hg : g ρ with
    | ok ys => rw [hg] at q4; have := q4.1; omega
    | exc z => exact absurd hg (hx ρ z)
    | bad => rw [hg] at q4; exact q4.elim
  cases d <;> try (exact q2.elim)
  case str y =>
    have q3 : ARes X.K ca W σ G H (fun ys => acc.length + (catS ys).length ≤ sizeLine ∧ ∀ G' H', Ext G H G' H' → Q (acc ++ catS ys) H') (do let y ← R.of (if y.length ≤ szMax then some y else none); let ys ← g ρ; pure (y :: ys)) := q2
    by_cases hy : y.length ≤ szMax
    · rw [if_pos hy] at q3
      obtain ⟨r1, r2⟩ := room y q3
      exact Or.inl ⟨y, Dp.str_of (H := H1) dv, szLe hy, y, rfl, r1, r2⟩
    · rw [if_neg hy] at q3; exact q3.elim
  case int i =>
    have q3 : ARes X.K ca W σ G H (fun ys => acc.length + (catS ys).length ≤ sizeLine ∧ ∀ G' H', Ext G H G' H' → Q (acc ++ catS ys) H') (do let y ← R.of (if i.natAbs.log2 < 1920 then some (toString i : Str) else none); let ys ← g ρ; pure (y :: ys)) := q2
    by_cases hy : i.natAbs.log2 < 1920
    · rw [if_pos hy] at q3
      obtain ⟨r1, r2⟩ := room _ q3
      exact Or.inr ⟨i, Dp.int_of (H := H1) dv, hy, _, rfl, r1, r2⟩
    · rw [if_neg hy] at q3; exact q3.elim
def fjC (x : Str) (g : Rho → R (List Str)) : Rho → R (List Str) := fun ρ => do let ys ← g ρ; pure (x :: ys)
theorem fj_const {x : Str} {j} {g : Rho → R (List Str)} (hr : FJ X ca W g es) (hx : ∀ ρ z, g ρ ≠ .exc z) : FJ X ca W (fjC x g) (.Constant (.str x) j pos :: es) := by
  obtain ⟨ts, hj, hq⟩ := hr
  refine ⟨_, .cons pe_str hj, fun acc σ H Q ⟨G, ρ, env, q⟩ => ?_⟩
  have q4 := fj_step (X := X) (ca := ca) (W := W) (G1 := G) (H1 := H) (Ext.refl env.ext) q
  refine ⟨x, rfl, ?_, hq _ σ H Q ⟨G, ρ, env, q4⟩⟩
  cases hg : g ρ with
  | ok ys => rw [hg] at q4; have := q4.1; omega
  | exc z => exact absurd hg (hx ρ z)
  | bad => rw [hg] at q4; exact q4.elim
def joinedF (g : Rho → R (List Str)) : Rho → R D := fun ρ => do let ys ← g ρ; chk (catS ys).length; pure (.str (catS ys))
theorem fe_joined {v1 v2 : Expr} {g : Rho → R (List Str)} (h : FJ X ca W g (v1 :: v2 :: es)) : FE X ca W (joinedF g) (.JoinedStr (v1 :: v2 :: es) pos) := by
  obtain ⟨ts, hj, hq⟩ := h
  refine PEimp (pe_joined hj) fun σ H Q ⟨G, ρ, env, q⟩ => hq _ σ H _ ⟨G, ρ, env, (ARes.bind q).imp fun ys q => ?_⟩
  obtain ⟨hz, q⟩ := ARes.chk q
  refine ⟨by rw [show Str.empty.length = 0 from rfl]; have := szLe hz; omega, fun G' H' e1 => ?_⟩
  rw [str_nil']
  exact q _ G' H' e1 (.str _)
end
/-- the parts raise nothing where their expressions do not -/
def NoX {α : Type} (f : Rho → R α) : Prop := ∀ ρ z, f ρ ≠ .exc z
theorem nx_nil : NoX (fun _ : Rho => (R.ok [] : R (List Str))) := fun ρ z h => by cases h
theorem nx_const {x : Str} {g : Rho → R (List Str)} (h : NoX g) : NoX (fjC x g) := fun ρ z q => by
  unfold fjC at q
  cases hg : g ρ with
  | ok ys => rw [hg] at q; cases q
  | exc w => exact h ρ w hg
  | bad => rw [hg] at q; cases q
theorem nx_fmt {f : Rho → R D} {g : Rho → R (List Str)} (h0 : NoX f) (h : NoX g) : NoX (fjF f g) := fun ρ z q => by
  unfold fjF at q
  cases hf : f ρ with
  | exc w => exact h0 ρ w hf
  | bad => rw [hf] at q; cases q
  | ok d =>
    rw [hf] at q
    have q2 : (do let y ← R.of (fmtS d); let ys ← g ρ; pure (y :: ys) : R (List Str)) = .exc z := q
    cases hd : fmtS d with
    | none => rw [hd] at q2; cases q2
    | some y =>
      rw [hd] at q2
      cases hg : g ρ with
      | ok ys => rw [hg] at q2; cases q2
      | exc w => exact h ρ w hg
      | bad => rw [hg] at q2; cases q2
theorem nx_gv {i : Nat} : NoX (gv i) := fun ρ z h => by unfold gv at h; split at h <;> cases h
theorem nx_of {α β : Type} {f : Rho → R α} {k : α → Option β} (h : NoX f) : NoX (fun ρ => do let d ← f ρ; R.of (k d)) := fun ρ z q => by
  have q : (do let d ← f ρ; R.of (k d) : R β) = .exc z := q
  cases hf : f ρ with
  | exc w => exact h ρ w hf
  | bad => rw [hf] at q; cases q
  | ok d =>
    rw [hf] at q
    have q2 : R.of (k d) = .exc z := q
    cases hk : k d with
    | none => rw [hk] at q2; cases q2
    | some y => rw [hk] at q2; cases q2
theorem nx_kI {i : Int} : NoX (fun _ : Rho => (R.ok (.int i) : R D)) := fun ρ z h => by cases h
theorem nx_op2 {g : D → D → Option D} {f h : Rho → R D} (hf : NoX f) (hh : NoX h) : NoX (op2 g f h) := fun ρ z q => by
  unfold op2 at q
  cases h1 : f ρ with
  | exc w => exact hf ρ w h1
  | bad => rw [h1] at q; cases q
  | ok x =>
    rw [h1] at q
    exact nx_of (k := fun y => g x y) hh ρ z q
/-! ## isinstance(e, T) of a caught error, T a built-in class above them all -/
section
variable {X : Cx} {ca : CA} {W : WX} {pos p p1 p2 : Pos}
theorem fe_isEB {i k : Nat} {a : Addr} {oe : Obj} {pn : List (Addr × Obj)} {nm x : Str} {T : String} (C : ExcC X.K (ca k)) (hT : ∀ k, k < 9 → PySem.W.kitOne X.K (.ref (ca k)) (.type T) = some true) (hk : k < 9) (hz : Zc (.ref (ca k)) none oe) (hf : ∃ vs, oe.data = .fields vs) (hg : Gl X "isinstance") (hm : X.mg "isinstance" = none) (hv : PE (X.suite a ((a, oe) :: pn)) (.Name nm p1) (tVar i))
    (hg2 : Gl X x) (hm2 : X.mg x = none) (hv2 : bootBuiltins x = some (.type T)) (hn2 : x ≠ "__name__" := by decide) (hdb : (x == ("__debug__" : Str)) = false := by decide)
    (hs : starEach [.Name nm p1, .Name x p2] X.env = (false, eval (.Name nm p1) X.env) :: starEach [.Name x p2] X.env := by rfl) (hpl : (backTo pos (starEach [.Name x p2] X.env)).any (·.1) = false := by rfl) :
    FE (X.suite a ((a, oe) :: pn)) ca W (isEF i a true) (.Call (.Name "isinstance" p) [.Name nm p1, .Name x p2] [] pos) := by
  refine PEimp (pe_callB (X := X.suite a ((a, oe) :: pn)) (call_isE C hz hf) hg hm boot_isi (pa_cons (X := X.suite a ((a, oe) :: pn)) hv (pa_cons (X := X.suite a ((a, oe) :: pn)) (pe_bltn (v := .ty T) hg2 hm2 hv2 rfl hn2 hdb) pa_nil) hs) (he := hs) (hpl := hpl)) fun σ H Q ⟨G, ρ, env, q⟩ => ?_
  unfold isEF at q
  split at q
  · rename_i a' hr
    split at q
    · rename_i ea
      subst ea
      refine ⟨.ref a', env.raw hr, .ty T, .type T, true, rfl, fun u hu => hu, hT k hk, ?_⟩
      exact q (.bl true) G H (Ext.refl env.ext) (.bl _)
    · exact q.elim
  · exact q.elim
end
end FE

/-! # errors that say a line -/
namespace PySem.W
open PySem PySem.Spec PySem.Calls PyProof.Rows
section
variable {prog : Program} {w : World} {A : Around} {E : Value → Shared → Prop} {s : Shared} {K : Frag} {x D : Addr} {ox : Obj} {od : Option Obj}
theorem findObj_any {C : Addr} {name : Str} {a g : Value} (hc : (clsIn K C).isSome = true) (ha : findIn K (.ref C) name = some (some a)) (hg : specialIn K a "__get__" = some (some g)) (ht : takesIn K a = some true) : findObj K C od name = some (.bind g a) := by
  cases od with
  | none => exact findObj_dataN hc ha hg ht
  | some o => exact findObj_data hc ha hg ht
theorem kin_classD {Q : Option Value → Shared → Prop} (hga : findIn K (.ref D) "__getattribute__" = some (some (.builtin "BaseException.__getattribute__"))) (hgt : findIn K (.ref D) "__getattr__" = some none) (hsub : subIn K (.ref D) (.type "BaseException") = some true)
    (hdct : hasDictIn K D = true) (ha : findIn K (.ref D) "__class__" = some (some (.builtin "object.__class__")))
    (hn : specialIn K (.builtin "object.__class__") "__get__" = some (some (.builtin "getset_descriptor.__get__"))) (htk : takesIn K (.builtin "object.__class__") = some true) (hm : mroIn K D (.type "object") = some true)
    (X : K.In s.heap) (I : InstAt s.heap x ox D od) (h : Q (some (.ref D)) { s with toks := s.toks + 1 }) : wpAny (model prog w) A (getAttr? (.ref x) "__class__") Q E s := by
  have hf : findObj K D od "__class__" = some (.bind (.builtin "getset_descriptor.__get__") (.builtin "object.__class__")) := findObj_any (by obtain ⟨cd, hc, _⟩ := any_some hdct; rw [hc]; rfl) ha hn htk
  obtain ⟨hp, g, d, t, os⟩ := s
  have L0 := I.type (M := model prog w)
  have L1 := looks_findIn (M := model prog w) X hga
  have L2 := looks_findIn (M := model prog w) X hgt
  have L3 := looks_find (M := model prog w) X I hf
  have sub : Looks (model prog w) hp (isInstance (.ref x) (.type "BaseException")) true := L0.andThen (looks_subIn X hsub)
  have hx0 : (false && onTheHeap (Value.builtin "BaseException.__getattribute__")) = false := rfl
  have hx2 : (Value.builtin "BaseException.__getattribute__" == Value.builtin "object.__getattribute__") = false := by decide +kernel
  have hx1 : (onTheHeap (Value.ref D) && Value.builtin "BaseException.__getattribute__" == Value.builtin "object.__getattribute__") = false := by rw [hx2]; rfl
  unfold getAttr? getAttrBy? getAttrBy
  refine wpAny_bind (wpAny_mkText (wpAny_bind (wpAny_attempt (wpAny_holding (wpAny_bind (L0.at (wpAny_bind (L1.at ?_))))))))
  show wpAny _ _ (if (onTheHeap (Value.ref D) && Value.builtin "BaseException.__getattribute__" == Value.builtin "object.__getattribute__") = true then _ else _) _ _ _
  rw [hx1, if_neg Bool.false_ne_true]
  unfold getAttrByItsOwn hookBefore
  refine wpAny_bind ?_
  rw [if_pos (show onTheHeap (Value.ref D) = true from rfl)]
  refine L2.at ?_
  refine wpAny_bind (wpAny_attempt (wpAny_holding ?_))
  unfold callGetattribute
  rw [hx0, if_neg Bool.false_ne_true]
  unfold boundAndCalled
  rw [PySem.F.excAttr_ValueError.ga.bind (.ref x)]
  refine wpAny_bind (wpAny_pure ?_)
  show wpAny _ _ (call (.builtin "BaseException.__getattribute__") [.ref x, .str "__class__" t]) _ _ _
  refine wpAny_call (codeAny_call_builtin PySem.F.excAttr_ValueError.ga.plain PySem.F.entry_bexc_ga ?_)
  refine @check_slot (model prog w) _ _ ⟨hp, g, d, t + 1, os⟩ "BaseException.__getattribute__" "BaseException" "__getattribute__" (.ref x) [.str "__class__" t] [] _ (by decide +kernel) (by decide +kernel) sub (PySem.F.args_bexc_ga (.ref x) (.str "__class__" t)) ?_
  unfold Builtin.«object.__getattribute__»
  refine wpAny_bind (wpAny_of_eq (a := ((Value.ref x : Value), [Value.str "__class__" t])) (by first | rfl | (simp only [slotArgs]; rfl)) ?_)
  refine wpAny_bind (wpAny_pure (wpAny_bind (L0.at (wpAny_bind (L3.at ?_)))))
  show wpAny _ _ (holding [Value.builtin "object.__class__"] (call (.builtin "getset_descriptor.__get__") [.builtin "object.__class__", .ref x, .ref D]) >>= ret) _ _ _
  refine wpAny_bind (wpAny_holding (wpAny_call (class_get (s := ⟨hp, g, d, t + 1, os⟩) (ox := ox) (od := od) X I hm ?_)))
  refine wpAny_pure ?_
  show wpAny _ _ (handedOut (.ref D)) _ _ _
  rw [handedOut_of (v := .ref D) rfl]
  first
    | exact wpAny_pure (wpAny_pure h)
    | exact wpAny_pure h
    | exact wpAny_pure (wpAny_bind (wpAny_pure (wpAny_pure h)))
theorem kitx_excD (hga : findIn K (.ref D) "__getattribute__" = some (some (.builtin "BaseException.__getattribute__"))) (hgt : findIn K (.ref D) "__getattr__" = some none) (hsub : subIn K (.ref D) (.type "BaseException") = some true) (hdct : hasDictIn K D = true) (ha : findIn K (.ref D) "__class__" = some (some (.builtin "object.__class__")))
    (hn : specialIn K (.builtin "object.__class__") "__get__" = some (some (.builtin "getset_descriptor.__get__"))) (htk : takesIn K (.builtin "object.__class__") = some true) (hm : mroIn K D (.type "object") = some true) :
    KitX K (.ref x) (.ref D) (fun h => InstAt h x ox D od) where
  ty := fun _ _ _ I => I.type
  it := fun _ _ X _ => by
    obtain ⟨cdD, hcD, _⟩ := any_some hdct
    unfold clsIn at hcD
    split at hcD
    · rename_i c' d' cd' sl' ho
      intro A' Q' E' s' k q
      unfold isType loadHead
      exact wpAny_bind (wpAny_loadPart (k _ _ (X _ _ ho)) (wpAny_pure q))
    · cases hcD
  ne := fun h tp dd its n sl X htp => by
    obtain ⟨cdD, hcD, _⟩ := any_some hdct
    refine Bool.eq_false_iff.mpr fun q => ?_
    have e : D = tp := Value.ref.inj (beq_iff_eq.mp q)
    subst e
    unfold clsIn at hcD
    split at hcD
    · rename_i c' d' cd' sl' ho
      have z := (X _ _ ho).symm.trans htp
      cases z
    · cases hcD
  ca := fun X I k => kin_classD hga hgt hsub hdct ha hn htk hm X I k
end
end PySem.W
namespace FE
open PySem L2 PyProof.Rows PySem.Spec
/-! ## isinstance(e, C) of an error that may have its dict -/
def rIsEL (K : PySem.W.Frag) (D a : Addr) (d : Option Addr) : List V → Hp → VK → Prop := fun xs H Q => ∃ (c : V) (cv : Value) (b : Bool), xs = [.ref a, c] ∧ (∀ u, RelV c u → u = cv) ∧ PySem.W.kitOne K (.ref D) cv = some b ∧ (∀ dd, d = some dd → ∃ fs, H dd = some (.xd fs)) ∧ Q (.bl b) H
theorem call_isEL {X : Cx} {a D : Addr} {d : Option Addr} {oe : Obj} {pn : List (Addr × Obj)} (C : ExcC X.K D) (hz : Zc (.ref D) d oe) (hf : ∃ vs, oe.data = .fields vs) : CallR (X.suite a ((a, oe) :: pn)) (.builtin "isinstance") (rIsEL X.K D a d) := by
  intro pins s σ H xs us Q I r h
  obtain ⟨c, cv, b, rfl, hcv, e, hdd, q⟩ := h
  cases r with
  | cons rx rr =>
    cases rr with
    | cons rt rr =>
      cases rr
      cases rx
      have ec := hcv _ rt
      subst ec
      obtain ⟨hget, _⟩ := I.pin (a, oe) (List.mem_append.mpr (.inl List.mem_cons_self))
      obtain ⟨vs, hv⟩ := hf
      have J : ∃ od, PySem.W.InstAt s.heap a oe D od := by
        obtain ⟨oc, od, oda, osl⟩ := oe
        obtain ⟨h1, h2⟩ := hz
        dsimp only at h1 h2 hv
        subst h1 h2 hv
        cases od with
        | none => exact ⟨none, hget, rfl, rfl, trivial⟩
        | some dd =>
          obtain ⟨fs, ea⟩ := hdd dd rfl
          have hx : ObjOk X.prog X.w H s.heap dd (.xd fs) := I.hok dd _ ea
          obtain ⟨mA, hns, hr⟩ := hx
          obtain ⟨od, ho, hl⟩ := lookIn_ns hns
          exact ⟨some od, hget, rfl, rfl, ho⟩
      obtain ⟨od, J⟩ := J
      exact PySem.W.kia_one (PySem.W.kitx_excD C.hg C.hk C.hs C.hd C.ha C.hn C.ht C.hm) I.kIn J e (fun z => nomatch z) fun tk => ⟨.bl b, H, I.kept (t' := tk) fun _ _ z => z, rfl, q⟩
/-- in a clause: the slot i holds the error; d: its dict -/
def isEL (i : Nat) (a : Addr) (d : Option Addr) (b : Bool) : Rho → R D := fun ρ => match ρ[i]? with
  | some (some (.raw (.ref a'))) => if a' = a ∧ d = none then .ok (.bool b) else .bad
  | some (some (.xr a' dd _)) => if a' = a ∧ d = some dd then .ok (.bool b) else .bad
  | _ => .bad
def lnF (i : Nat) (a : Addr) (d : Option Addr) : Rho → R D := fun ρ => match ρ[i]? with
  | some (some (.xr a' dd l)) => if a' = a ∧ d = some dd then .ok l else .bad
  | _ => .bad
section
variable {X : Cx} {ca : CA} {W : WX} {pos p p1 p2 : Pos}
theorem isEL_go {K : PySem.W.Frag} {i : Nat} {a : Addr} {d : Option Addr} {b : Bool} {σ : L2.St} {G H : Hp} {ρ : Rho} {k : D → Prop} (env : EnvOk K G H σ ρ) (q : ARes K ca W σ G H k (isEL i a d b ρ)) : σ[i]? = some (some (.ref a)) ∧ (∀ dd, d = some dd → ∃ fs, H dd = some (.xd fs)) ∧ k (.bool b) := by
  unfold isEL at q
  split at q
  · rename_i a' hr
    split at q
    · rename_i ea
      obtain ⟨rfl, rfl⟩ := ea
      exact ⟨env.raw hr, fun dd h => (by cases h), q⟩
    · exact q.elim
  · rename_i a' dd l hr
    split at q
    · rename_i ea
      obtain ⟨rfl, rfl⟩ := ea
      obtain ⟨h1, v, h2, h3⟩ := env.xr hr
      exact ⟨h1, fun dd' h => (by cases h; exact ⟨_, env.ext _ _ h2⟩), q⟩
    · exact q.elim
  · exact q.elim
theorem fe_isEL {i k c : Nat} {a : Addr} {d : Option Addr} {oe : Obj} {pn : List (Addr × Obj)} {nm x : Str} (C : ExcC X.K (ca k)) (T : ClsTxt X.K X.mg ca x c) (hk : k < 9) (hz : Zc (.ref (ca k)) d oe) (hf : ∃ vs, oe.data = .fields vs) (hg : Gl X "isinstance") (hm : X.mg "isinstance" = none) (hg2 : Gl X x) (hv : PE (X.suite a ((a, oe) :: pn)) (.Name nm p1) (tVar i))
    (hdb : (x == ("__debug__" : Str)) = false := by decide)
    (hs : starEach [.Name nm p1, .Name x p2] X.env = (false, eval (.Name nm p1) X.env) :: starEach [.Name x p2] X.env := by rfl) (hpl : (backTo pos (starEach [.Name x p2] X.env)).any (·.1) = false := by rfl) :
    FE (X.suite a ((a, oe) :: pn)) ca W (isEL i a d (mOf c k)) (.Call (.Name "isinstance" p) [.Name nm p1, .Name x p2] [] pos) :=
  PEimp (pe_callB (X := X.suite a ((a, oe) :: pn)) (call_isEL C hz hf) hg hm boot_isi (pa_cons (X := X.suite a ((a, oe) :: pn)) hv (pa_cons (X := X.suite a ((a, oe) :: pn)) (pe_glob (v := .ref (ca c)) hg2 T.gP rfl hdb) pa_nil) hs) (he := hs) (hpl := hpl)) fun σ H Q ⟨G, ρ, env, q⟩ => by
    obtain ⟨h1, h2, q⟩ := isEL_go env q
    exact ⟨.ref a, h1, .ref (ca c), .ref (ca c), mOf c k, rfl, fun u hu => hu, T.iP k hk, h2, q (.bl (mOf c k)) G H (Ext.refl env.ext) (.bl _)⟩
theorem fe_isELB {i k : Nat} {a : Addr} {d : Option Addr} {oe : Obj} {pn : List (Addr × Obj)} {nm x : Str} {T : String} (C : ExcC X.K (ca k)) (hT : ∀ k, k < 9 → PySem.W.kitOne X.K (.ref (ca k)) (.type T) = some true) (hk : k < 9) (hz : Zc (.ref (ca k)) d oe) (hf : ∃ vs, oe.data = .fields vs) (hg : Gl X "isinstance") (hm : X.mg "isinstance" = none) (hv : PE (X.suite a ((a, oe) :: pn)) (.Name nm p1) (tVar i))
    (hg2 : Gl X x) (hm2 : X.mg x = none) (hv2 : bootBuiltins x = some (.type T)) (hn2 : x ≠ "__name__" := by decide) (hdb : (x == ("__debug__" : Str)) = false := by decide)
    (hs : starEach [.Name nm p1, .Name x p2] X.env = (false, eval (.Name nm p1) X.env) :: starEach [.Name x p2] X.env := by rfl) (hpl : (backTo pos (starEach [.Name x p2] X.env)).any (·.1) = false := by rfl) :
    FE (X.suite a ((a, oe) :: pn)) ca W (isEL i a d true) (.Call (.Name "isinstance" p) [.Name nm p1, .Name x p2] [] pos) :=
  PEimp (pe_callB (X := X.suite a ((a, oe) :: pn)) (call_isEL C hz hf) hg hm boot_isi (pa_cons (X := X.suite a ((a, oe) :: pn)) hv (pa_cons (X := X.suite a ((a, oe) :: pn)) (pe_bltn (v := .ty T) hg2 hm2 hv2 rfl hn2 hdb) pa_nil) hs) (he := hs) (hpl := hpl)) fun σ H Q ⟨G, ρ, env, q⟩ => by
    obtain ⟨h1, h2, q⟩ := isEL_go env q
    exact ⟨.ref a, h1, .ty T, .type T, true, rfl, fun u hu => hu, hT k hk, h2, q (.bl true) G H (Ext.refl env.ext) (.bl _)⟩
/-- e.line -/
theorem fe_line {i k : Nat} {a : Addr} {d : Option Addr} {oe : Obj} {pn : List (Addr × Obj)} {nm : Str} (C : ExcC X.K (ca k)) (hno : PySem.W.findIn X.K (.ref (ca k)) "line" = some none) (hz : Zc (.ref (ca k)) d oe) (hf : ∃ vs, oe.data = .fields vs) (hv : PE (X.suite a ((a, oe) :: pn)) (.Name nm p1) (tVar i))
    (hb : attributeBase (.Name nm p1) "line" X.env (eval (.Name nm p1) X.env) = eval (.Name nm p1) X.env := by rfl) :
    FE (X.suite a ((a, oe) :: pn)) ca W (lnF i a d) (.Attribute (.Name nm p1) "line" pos) :=
  PEimp (pe_xf (C := ca k) ⟨C.hg, C.hk, C.hs, C.hd⟩ hno hz hf hv hb) fun σ H Q ⟨G, ρ, env, q⟩ => by
    unfold lnF at q
    split at q
    · rename_i a' dd l hr
      split at q
      · rename_i ea
        obtain ⟨rfl, rfl⟩ := ea
        obtain ⟨h1, v, h2, h3⟩ := env.xr hr
        exact ⟨.ref a', h1, rfl, rfl, dd, _, v, rfl, env.ext _ _ h2, lkp_here, q v G H (Ext.refl env.ext) h3⟩
      · exact q.elim
    · exact q.elim
end
/-! ## class P(M): def __init__(self, line): M.__init__(self, '..'); self.line = line -/
structure LineTxt (K : PySem.W.Frag) (mg : Str → Option Value) (ca : CA) (M P : Str) : Prop where
  gM : mg M = some (.ref (ca 8))
  gP : mg P = some (.ref (ca 7))
  ga : PySem.W.specialIn K (.ref (ca 8)) "__getattribute__" = some (some (.builtin "type.__getattribute__"))
  rd : PySem.W.readsIn K (ca 8) (.type "type") = true
  fi : PySem.W.findCls K (.ref (ca 8)) (.type "type") "__init__" = some (.val (.builtin "ValueError.__init__"))
  ox : OexC K (ca 7)
  nl : PySem.W.findIn K (.ref (ca 7)) "line" = some none
section
variable {X : Cx} {ca : CA} {W : WX} {o e : Expr} {es : List Expr} {to te : TE} {ta : TA} {M P : Str} {p p' p1 p2 pos : Pos}
theorem pe_meinit {pl : Sem Bool} (T : LineTxt X.K X.mg ca M P) (hg : Gl X M) (ha : PA X (e :: es) ta) (hd : (M == ("__debug__" : Str)) = false := by decide)
    (hc : eval (.Call (.Attribute (.Name M p1) "__init__" p2) (e :: es) [] pos) X.env = (do
      let ov ← eval (.Name M p1) X.env
      standAt p2.atName
      let (f, first) ← holding [ov] (getMethod ov "__init__" pl)
      callWith pos f first (backTo pos (starEach (e :: es) X.env)) (backToKw pos (keywordEach [] X.env))) := by rfl)
    (he : starEach (e :: es) X.env = (false, eval e X.env) :: starEach es X.env := by rfl) (hpl : (backTo pos (starEach es X.env)).any (·.1) = false := by rfl) :
    PE X (.Call (.Attribute (.Name M p1) "__init__" p2) (e :: es) [] pos) (tVeI X.K ta) := by
  refine ⟨fun pins s σ H Q I h => ?_⟩
  refine PySem.W.methodCall_KW (ld_glob I hg T.gM ?_ hd) hc
  refine PySem.W.method_cls I.kIn T.ga (PySem.W.cls_value I.kIn T.rd T.fi (by decide +kernel) ?_)
  show wpAny _ _ (callWith pos (Value.builtin "ValueError.__init__") [] (backTo pos (starEach (e :: es) X.env)) []) _ _ _
  refine PyProof.Rows.callWith_method1 (thn (ha.run pos pins _ σ H _ (I.tok _) h) fun us s1 ⟨vs, H1, I1, r1, a, C, ws, ev, hl, T, ea, q⟩ => ?_) he hpl
  subst ev
  cases r1 with
  | @cons _ u0 _ ur ra rw' =>
    obtain rfl : u0 = Value.ref a := ra
    have hlen : ur.length ≤ sizeLine := by
      rw [← Paired.length rw', sizeLine_eq]
      omega
    exact oinit_ok T I1 ea hlen fun s' J => ⟨.non, H1, J, rfl, q⟩
/-- what __init__ promises -/
def spLn (C : Addr) : Sp := fun vs H Q _ => ∃ (a : Addr) (v : V), vs = [.ref a, v] ∧ H a = some (exo a C none) ∧ ∀ dx, H dx = none → dx ≠ a → Q .non (upd (upd H dx (exd dx [("line", v)])) a (exo a C (some dx)))
def OkLn (P : Program) (w : World) (K : PySem.W.Frag) (mg : Str → Option Value) (base : Heap) (ca : CA) (k : Nat) : Prop :=
  ∃ f fd ps, PySem.W.findIn K (.ref (ca 7)) "__init__" = some (some (.ref f)) ∧ PySem.W.typeIn K (.ref f) = some (.type "function") ∧ Binds K fd ps [] ∧ FnOk P w K mg base (L2.CX P w) k f fd ps (spLn (ca 7))
theorem ln_body {x1 : Str} {j} {s0 s1 ev : Expr} {pa pb pc : Pos} {pl : Sem Bool} (T : LineTxt X.K X.mg ca M P) (hN : X.N.length = 2) (hg : Gl X M) (h0 : PE X s0 (tVar 0)) (h1 : PE X s1 (tVar 0)) (hv : PE X ev (tVar 1)) (hd : (M == ("__debug__" : Str)) = false := by decide)
    (hc : eval (.Call (.Attribute (.Name M p1) "__init__" p2) [s0, .Constant (.str x1) j pc] [] pos) X.env = (do
      let ov ← eval (.Name M p1) X.env
      standAt p2.atName
      let (f, first) ← holding [ov] (getMethod ov "__init__" pl)
      callWith pos f first (backTo pos (starEach [s0, .Constant (.str x1) j pc] X.env)) (backToKw pos (keywordEach [] X.env))) := by rfl)
    (he1 : starEach [s0, .Constant (.str x1) j pc] X.env = (false, eval s0 X.env) :: starEach [.Constant (.str x1) j pc] X.env := by rfl) (he2 : starEach [.Constant (.str x1) j pc] X.env = (false, eval (.Constant (.str x1) j pc) X.env) :: starEach [] X.env := by rfl) (hpl : (backTo pos (starEach [.Constant (.str x1) j pc] X.env)).any (·.1) = false := by rfl)
    (hs1 : swapsWith (.Call (.Attribute (.Name M p1) "__init__" p2) [s0, .Constant (.str x1) j pc] [] pos) none pa.line X.env = pure false := by rfl) (hs2 : swapsWith ev (some (.Attribute s1 "line" p')) pb.line X.env = pure false := by rfl) :
    PSs X [.Expr (.Call (.Attribute (.Name M p1) "__init__" p2) [s0, .Constant (.str x1) j pc] [] pos) pa, .Assign [.Attribute s1 "line" p'] ev pb] (fun Dn σ H => ∃ (a : Addr) (v : V), σ = start X.N [.ref a, v] ∧ H a = some (exo a (ca 7) none) ∧ ∀ dx, H dx = none → dx ≠ a → Dn.nx σ (upd (upd H dx (exd dx [("line", v)])) a (exo a (ca 7) (some dx)))) :=
  PSsimp (pss_cons (ps_expr (pe_meinit T hg (pa_cons h0 (pa_cons pe_str pa_nil he2) he1) hd hc he1 hpl) hs1) (pss_one (ps_ost h1 hv hs2))) fun Dn σ H ⟨a, v, hσ, ha, q⟩ => by
    subst hσ
    exact ⟨.ref a, rfl, a, ca 7, [.str x1], rfl, (by show 1 ≤ 1000; decide), T.ox, ha, v, rfl, .ref a, rfl, a, ca 7, rfl, T.ox, T.nl, Or.inl ⟨ha, fun dx n ne => q dx n ne⟩⟩
theorem OkLn.mk {Pr : Program} {w : World} {K : PySem.W.Frag} {mg : Str → Option Value} {base : Heap} {ca : CA} {qual : Str} {st : Stmt} {f : Addr} {fd : FuncData} {N ps : List Str} {k : Nat} (fi : PySem.W.findIn K (.ref (ca 7)) "__init__" = some (some (.ref f))) (F : Fun K "__init__" qual st f fd) (hfn : PySem.W.isFn K (.ref f) = true) (hb : Binds K fd ps []) (S : FnScope N ps (defScope st)) (hps : ps.length = 2)
    (hbody : ∀ (cdv : Value) (A : Around) (outer : List Env) (s : Shared) (H : Hp) (E : XK), Room k (A.deeper (envOfC qual (defScope st) s.heap.objs.size f cdv)) →
      PSs (cxOf (L2.CX Pr w) Pr w K mg base N qual (defScope st) f cdv A outer s H E) (defBody st) (fun Dn σ H => ∃ (a : Addr) (v : V), σ = start N [.ref a, v] ∧ H a = some (exo a (ca 7) none) ∧ ∀ dx, H dx = none → dx ≠ a → Dn.nx σ (upd (upd H dx (exd dx [("line", v)])) a (exo a (ca 7) (some dx))))) : OkLn Pr w K mg base ca (k + 1) :=
  ⟨f, fd, ps, fi, beq_iff_eq.mp hfn, hb, F.okX S (fun vs H Q E ⟨a, v, e, _⟩ => by rw [e, hps]; rfl) fun cdv A outer s H vs Q E hr h => by
    obtain ⟨a, v, rfl, ha, q⟩ := h
    exact ⟨_, hbody cdv A outer s H E hr, a, v, rfl, ha, fun dx n ne => q dx n ne⟩⟩
/-- raise P(e) -/
def raiseL (f : Rho → R D) : Rho → Out := fun ρ => (f ρ).out fun d => .exc ⟨7, some d⟩
theorem fs_raiseL {k j : Nat} {f : Rho → R D} (hc : X.calm = true) (tk : Takes X W) (T : LineTxt X.K X.mg ca M P) (o : OkLn X.prog X.w X.K X.mg X.base ca k) (hr : Room j X.A) (hkj : k + 1 ≤ j) (hg : Gl X P) (ha : FE X ca W f e) (hdb : (P == ("__debug__" : Str)) = false := by decide)
    (he : starEach [e] X.env = (false, eval e X.env) :: starEach [] X.env := by rfl) (hpl : (backTo pos (starEach [] X.env)).any (·.1) = false := by rfl) :
    FS X ca W (raiseL f) (.Raise (some (.Call (.Name P p) [e] [] pos)) none p2) := by
  obtain ⟨fI, fd, ps, iC, tI, hb, F⟩ := o
  refine PSimp (ps_raise hc tk (pmk_oex (dvs := []) (ds := []) T.ox iC tI F (hr.mono hkj) hb .nil (fun pins σ H s e s' I h => passAt (X := X) takes_none5 σ pins H s e s' I h) hg T.gP (pa_cons ha pa_nil he) hdb he hpl)) fun Dn σ H ⟨G0, H0, G, ρ, s, q⟩ => ?_
  refine ⟨G, ρ, s.env, (SRes.out s q).imp fun d q v G1 H1 e1 dv => ⟨(by show 1 ≤ 1000; decide), fun a hna => ⟨a, v, rfl, upd_same, fun dx hdx ne => ?_⟩⟩⟩
  have hdx1 : H1 dx = none := by rw [upd_ne ne] at hdx; exact hdx
  refine ⟨rfl, dx, [("line", v)], upd_same, ?_, hdx1, ?_⟩
  · rw [upd_ne ne, upd_same]
  · -- the heap behind: the dict alone is new
    have eh : upd (L2.del (upd (upd (upd H1 a (exo a (ca 7) none)) dx (exd dx [("line", v)])) a (exo a (ca 7) (some dx))) a) dx (HO.xd [("line", v)]) = upd H1 dx (HO.xd [("line", v)]) := by
      funext b
      by_cases hd : b = dx
      · subst hd; rw [upd_same, upd_same]
      · rw [upd_ne hd, upd_ne hd]
        by_cases hba : b = a
        · subst hba; rw [L2.del_same, hna]
        · rw [L2.del_ne hba, upd_ne hba, upd_ne hd, upd_ne hba]
    rw [eh]
    have e2 := Ext.lay (o := HO.xd [("line", v)]) e1.gh hdx1
    exact q (.ref (ca 7)) (some dx) σ _ _ ((s.ext.trans e1).trans e2) ⟨rfl, dx, v, rfl, upd_same, Dp.ex e2.g _ dv⟩
end
end FE

namespace FE
open PySem L2 PyProof.Rows PySem.Spec
/-! ## try: .. where the error may say a line -/
def dOf (l : Option D) : Option Addr := l.map fun _ => 0
def erS (a : Addr) (d : Option Addr) (l : Option D) : SV := match l, d with
  | some l, some dd => .xr a dd l
  | _, _ => .raw (.ref a)
def mkL (n i : Nat) (a : Addr) (d : Option Addr) (l : Option D) : Rho := (List.replicate n none).set i (some (erS a d l))
/-- what the error's dict says -/
def LnAt (K : PySem.W.Frag) (G : Hp) (d : Option Addr) : Option D → Prop
  | none => d = none
  | some x => ∃ dd v, d = some dd ∧ G dd = some (.xd [("line", v)]) ∧ Dp K G v x
theorem LnAt.same {K : PySem.W.Frag} {G : Hp} {d : Option Addr} : ∀ {l : Option D}, LnAt K G d l → l.isSome = d.isSome
  | none, h => by
    have h' : d = none := h
    rw [h']; rfl
  | some x, ⟨dd, v, h, _⟩ => by rw [h]; rfl
theorem dOf_same (l : Option D) : l.isSome = (dOf l).isSome := by cases l <;> rfl
theorem LnAt.ex {K : PySem.W.Frag} {G G' : Hp} {d : Option Addr} (e : Ex G G') : ∀ {l : Option D}, LnAt K G d l → LnAt K G' d l
  | none, h => h
  | some x, ⟨dd, v, h, k, z⟩ => ⟨dd, v, h, e dd _ k, Dp.ex e x z⟩
theorem excAt_ln {K : PySem.W.Frag} {ca : CA} {G H : Hp} {k : Nat} {l : Option D} {c : Value} {d : Option Addr} (h : ExcAt K ca G H ⟨k, l⟩ c d) : c = .ref (ca k) ∧ LnAt K G d l := by
  obtain ⟨h1, h2⟩ := h
  cases l with
  | none => exact ⟨h1, h2⟩
  | some x => exact ⟨h1, h2⟩
theorem ln_excAt {K : PySem.W.Frag} {ca : CA} {G H : Hp} {k : Nat} {l : Option D} {c : Value} {d : Option Addr} (h1 : c = .ref (ca k)) (h2 : LnAt K G d l) : ExcAt K ca G H ⟨k, l⟩ c d := by
  cases l with
  | none => exact ⟨h1, h2⟩
  | some x => exact ⟨h1, h2⟩
theorem erS_ok {K : PySem.W.Frag} {G H : Hp} {a : Addr} {d : Option Addr} : ∀ {l : Option D}, LnAt K G d l → SvOk K G H (some (erS a d l)) (some (.ref a))
  | none, h => rfl
  | some x, ⟨dd, v, h, k, z⟩ => by subst h; exact ⟨rfl, v, k, z⟩
theorem erS_ow {a : Addr} {d : Option Addr} {l : Option D} : isOw (some (erS a d l)) = false := by
  cases l <;> cases d <;> rfl
theorem isEL_er {i : Nat} {a : Addr} {d : Option Addr} {l : Option D} {b : Bool} {ρ : Rho} (h : i < ρ.length) (hl : l.isSome = d.isSome) : isEL i a d b (ρ.set i (some (erS a d l))) = .ok (.bool b) := by
  unfold isEL
  rw [List.getElem?_set_self h]
  cases l <;> cases d
  · simp [erS]
  · exact absurd hl (by simp)
  · exact absurd hl (by simp)
  · simp [erS]
theorem lnF_er {i : Nat} {a : Addr} {d : Option Addr} {l : Option D} {ρ : Rho} (h : i < ρ.length) (hl : l.isSome = d.isSome) : lnF i a d (ρ.set i (some (erS a d l))) = R.of l := by
  unfold lnF
  rw [List.getElem?_set_self h]
  cases l <;> cases d
  · simp [erS, R.of]
  · exact absurd hl (by simp)
  · exact absurd hl (by simp)
  · simp [erS, R.of]
theorem isEL_mkL {n i : Nat} {a : Addr} {d : Option Addr} {l : Option D} {b : Bool} (h : i < n) (hl : l.isSome = d.isSome) : isEL i a d b (mkL n i a d l) = .ok (.bool b) := isEL_er (by simpa using h) hl
theorem lnF_mkL {n i : Nat} {a : Addr} {d : Option Addr} {l : Option D} (h : i < n) (hl : l.isSome = d.isSome) : lnF i a d (mkL n i a d l) = R.of l := lnF_er (by simpa using h) hl
def tryL (n i c : Nat) (g : Rho → Out) (h : Nat → Addr → Option Addr → Rho → Out) : Rho → Out := fun ρ => match g ρ with
  | .nx ρ' => .nx ρ'
  | .ret d => .ret d
  | .exc ⟨k, l⟩ => if k < 9 then (if mOf c k = true then (match h k 0 (dOf l) (mkL n i 0 (dOf l) l) with
      | .ret d => .ret d
      | _ => .bad) else .exc ⟨k, l⟩) else .bad
  | .bad => .bad
def erR (i : Nat) (a : Addr) (d : Option Addr) (l : Option D) (ρ : Rho) : Rho := ρ.set i (some (erS a d l))
def tryEL (i c : Nat) (f : Rho → R D) (h : Nat → Addr → Option Addr → Rho → Out) : Rho → Out := fun ρ => match f ρ with
  | .ok _ => .nx ρ
  | .exc ⟨k, l⟩ => if k < 9 then (if mOf c k = true then wipeO i (h k 0 (dOf l) (erR i 0 (dOf l) l ρ)) else .exc ⟨k, l⟩) else .bad
  | .bad => .bad
section
variable {X : Cx} {ca : CA} {W : WX}
theorem mkL_env {G H : Hp} {σ0 : L2.St} {n i : Nat} {a : Addr} {d : Option Addr} {l : Option D} {K : PySem.W.Frag} (e : Ex G H) (hln : LnAt K G d l) (hl : (σ0.set i (some (.ref a))).length = n) (hi : i < n) : EnvOk K G H (σ0.set i (some (.ref a))) (mkL n i a d l) := by
  have hl' : σ0.length = n := by simpa using hl
  refine ⟨e, by rw [hl]; simp [mkL], fun j o hj => ?_, fun j u w x q _ hj _ hu _ _ => ?_⟩
  · unfold mkL at hj
    by_cases z : i = j
    · subst z
      rw [List.getElem?_set_self (by simpa using hi)] at hj
      cases hj
      exact ⟨some (.ref a), List.getElem?_set_self (by omega), erS_ok hln⟩
    · rw [List.getElem?_set_ne z, List.getElem?_replicate] at hj
      split at hj
      · rename_i hjn
        cases hj
        have hjs : j < (σ0.set i (some (.ref a))).length := by rw [hl]; exact hjn
        exact ⟨_, List.getElem?_eq_getElem hjs, trivial⟩
      · cases hj
  · exfalso
    unfold mkL at hj
    by_cases z : i = j
    · subst z
      rw [List.getElem?_set_self (by simpa using hi)] at hj
      cases hj; rw [erS_ow] at hu; cases hu
    · rw [List.getElem?_set_ne z, List.getElem?_replicate] at hj
      split at hj
      · cases hj; cases hu
      · cases hj
def tClauseL (K : PySem.W.Frag) (ca : CA) (n i c : Nat) (h : Nat → Addr → Option Addr → Rho → Out) (a : Addr) (cls : Value) (d : Option Addr) : TS := fun Dn σ H =>
  ∃ (k : Nat) (G0 H0 G : Hp) (σ0 : L2.St) (l : Option D), cls = .ref (ca k) ∧ LnAt K G d l ∧ k < 9 ∧ mOf c k = true ∧ σ = σ0.set i (some (.ref a)) ∧ Ext G0 H0 G H ∧ SRes K ca W0 Dn G0 H0 (h k a d (mkL n i a d l))
theorem fs_tryL {n i c : Nat} {x nm : Str} {g : Rho → Out} {h : Nat → Addr → Option Addr → Rho → Out} {body suite : List Stmt} {b₀ : Stmt} {pos pos' np : Pos} (hs : X.stack = X.env :: X.outer) (hf : X.env.frame = some X.env.locals) (hN : X.N.Nodup) (hlen : X.N.length = n) (hi : X.N[i]? = some nm) (hln : X.env.kindOf nm = some .local)
    (T : ClsTxt X.K X.mg ca x c) (hg : Gl X x) (tk : Takes X W) (hb : ∀ (W' : WX) (pn : List (Addr × Obj)) (xe : Value → Shared → Prop), Takes (X.tr pn xe) W' → FSs (X.tr pn xe) ca W' g body)
    (hsu : ∀ (k : Nat) (a : Addr) (d : Option Addr) (oe : Obj) (pn : List (Addr × Obj)), k < 9 → Zc (.ref (ca k)) d oe → (∃ vs, oe.data = .fields vs) → FSs (X.suite a ((a, oe) :: pn)) ca W0 (h k a d) (b₀ :: suite))
    (hc : ∀ k a d l, l.isSome = d.isSome → h k a d (mkL n i a d l) = h k 0 (dOf l) (mkL n i 0 (dOf l) l)) (hdb : (x == ("__debug__" : Str)) = false := by decide) :
    FS X ca W (tryL n i c g h) (.Try body [.ExceptHandler (some (.Name x np)) (some nm) (b₀ :: suite) pos'] [] [] pos) := by
  have hin : i < n := by rw [← hlen]; exact (List.getElem?_eq_some_iff.mp hi).1
  refine PSimp (ps_try_as (tb := fun W' => tSt X.K ca W' g) (ts := tClauseL X.K ca n i c h) (Wout := W) hs hf hN hi hln ⟨hg, hdb, Or.inl T.gP⟩ tk (fun W' pn xe t _ => hb W' pn xe t) fun a oe cls d pn hz hv => ⟨fun pins s σ H Dn I q => ?_⟩) fun Dn σ H ⟨G0, H0, G, ρ, s, q⟩ => ⟨G0, H0, G, ρ, s, ?_⟩
  · obtain ⟨k, G0, H0, G, σ0, l, e1, e2, hk, hm, e3, e4, q⟩ := q
    subst e1 e3
    refine (hsu k a d oe pn hk hz hv).run pins s _ H Dn I ⟨G0, H0, G, mkL n i a d l, ⟨mkL_env e4.gh e2 (by rw [← hlen]; exact I.len) hin, e4, fun j o r hj ho _ => ?_⟩, q⟩
    exfalso
    unfold mkL at hj
    by_cases z : i = j
    · subst z
      rw [List.getElem?_set_self (by simpa using hin)] at hj
      cases hj; rw [isOn_no erS_ow] at ho; cases ho
    · rw [List.getElem?_set_ne z, List.getElem?_replicate] at hj
      split at hj
      · cases hj; cases ho
      · cases hj
  · unfold tryL at q
    cases hg2 : g ρ with
    | nx ρ' => rw [hg2] at q; exact q
    | ret d => rw [hg2] at q; exact q
    | bad => rw [hg2] at q; exact q
    | exc e =>
      obtain ⟨k, l⟩ := e
      rw [hg2] at q
      simp only at q
      by_cases hk : k < 9
      · rw [if_pos hk] at q
        intro cc dd' σ' G' H' e1 hx
        obtain ⟨hx1, hx2⟩ := excAt_ln hx
        subst hx1
        refine ⟨mOf c k, T.mP k hk, fun hm a ha => ?_, fun hm => ?_⟩
        · rw [if_pos hm] at q
          refine ⟨k, G0, H0, G', σ', l, rfl, hx2, hk, hm, rfl, e1, ?_⟩
          rw [hc k a dd' l hx2.same]
          cases ho : h k 0 (dOf l) (mkL n i 0 (dOf l) l) with
          | ret d => rw [ho] at q; exact q
          | nx ρ' => rw [ho] at q; exact q.elim
          | exc e => rw [ho] at q; exact q.elim
          | bad => rw [ho] at q; exact q.elim
        · rw [if_neg (by rw [hm]; decide)] at q
          exact q _ _ σ' G' H' e1 (ln_excAt rfl hx2)
      · rw [if_neg hk] at q; exact q.elim
theorem StOk.er {K : PySem.W.Frag} {G0 H0 G H : Hp} {σ : L2.St} {ρ : Rho} {i : Nat} {a : Addr} {d : Option Addr} {l : Option D} (s : StOk K G0 H0 G H σ ρ) (h : LnAt K G d l) : StOk K G0 H0 G H (σ.set i (some (.ref a))) (erR i a d l ρ) :=
  ⟨s.env.set (o := some (erS a d l)) (x := some (.ref a)) (erS_ok h) (fun z => by rw [erS_ow] at z; cases z), s.ext, s.own.set_sh (isOn_no erS_ow)⟩
def tClEL (K : PySem.W.Frag) (ca : CA) (n i : Nat) (h : Nat → Addr → Option Addr → Rho → Out) (a : Addr) (cls : Value) (d : Option Addr) : TS := fun Dn σ H =>
  ∃ (k : Nat) (G0 H0 G : Hp) (ρ : Rho) (l : Option D), cls = .ref (ca k) ∧ k < 9 ∧ StOk K G0 H0 G H σ (erR i a d l ρ) ∧ (ρ.length = n → SRes K ca W0 Dn G0 H0 (h k a d (erR i a d l ρ)))
theorem fs_tryEL {n i c : Nat} {x nm : Str} {f : Rho → R D} {h : Nat → Addr → Option Addr → Rho → Out} {e : Expr} {suite : List Stmt} {b₀ : Stmt} {pos pos' p np : Pos} (hs : X.stack = X.env :: X.outer) (hf : X.env.frame = some X.env.locals) (hN : X.N.Nodup) (hlen : X.N.length = n) (hi : X.N[i]? = some nm) (hln : X.env.kindOf nm = some .local)
    (T : ClsTxt X.K X.mg ca x c) (hg : Gl X x) (tk : Takes X W) (hb : ∀ (W' : WX) (pn : List (Addr × Obj)) (xe : Value → Shared → Prop), Takes (X.tr pn xe) W' → FE (X.tr pn xe) ca W' f e)
    (hsu : ∀ (k : Nat) (a : Addr) (d : Option Addr) (oe : Obj) (pn : List (Addr × Obj)), k < 9 → Zc (.ref (ca k)) d oe → (∃ vs, oe.data = .fields vs) → FSs (X.suite a ((a, oe) :: pn)) ca W0 (h k a d) (b₀ :: suite))
    (hc : ∀ k a d l ρ, ρ.length = n → l.isSome = d.isSome → wipeO i (h k a d (erR i a d l ρ)) = wipeO i (h k 0 (dOf l) (erR i 0 (dOf l) l ρ))) (hdb : (x == ("__debug__" : Str)) = false := by decide)
    (hsw : ∀ (pn : List (Addr × Obj)) (xe : Value → Shared → Prop), swapsWith e none p.line (X.tr pn xe).env = pure false := by intro _ _; rfl) :
    FS X ca W (tryEL i c f h) (.Try [.Expr e p] [.ExceptHandler (some (.Name x np)) (some nm) (b₀ :: suite) pos'] [] [] pos) := by
  have hh : ClsAs X nm [.ExceptHandler (some (.Name x np)) (some nm) (b₀ :: suite) pos'] [(.ref (ca c), tClEL X.K ca n i h)] := by
    refine .cons ⟨hg, hdb, Or.inl T.gP⟩ (fun a oe cls d pn hz hv => ⟨fun pins s σ H Dn I q => ?_⟩) .nil
    obtain ⟨k, G0, H0, G, ρ, l, e1, hk, st, q⟩ := q
    subst e1
    have hl : ρ.length = n := by
      have h1 := st.env.len
      have h2 : σ.length = X.N.length := I.len
      unfold erR at h1
      rw [List.length_set] at h1
      omega
    exact (hsu k a d oe pn hk hz hv).run pins s _ H Dn I ⟨G0, H0, G, _, st, q hl⟩
  refine PSimp (ps_try_asM (i := i) (tb := fun W' => fun Dn σ H => tSem X.K ca W' f σ H fun _ H' => Dn.nx σ H') (Wout := W) hs hf hN hi hln tk (fun W' pn xe t _ => PSsimp (pss_one (ps_expr (hb W' pn xe t) (hsw pn xe))) fun Dn σ H q => q) hh) fun Dn σ H ⟨G0, H0, G, ρ, s, q⟩ => ?_
  refine ⟨G, ρ, s.env, ?_⟩
  unfold tryEL at q
  cases hfr : f ρ with
  | ok d =>
    rw [hfr] at q
    exact fun v G' H' e1 dv => q σ G' H' (s.mono e1)
  | bad => rw [hfr] at q; exact q.elim
  | exc z =>
    obtain ⟨k, l⟩ := z
    rw [hfr] at q
    simp only at q
    by_cases hk : k < 9
    · rw [if_pos hk] at q
      intro cc dd G' H' e1 hx
      obtain ⟨hx1, hx2⟩ := excAt_ln hx
      subst hx1
      refine ⟨mOf c k, T.mP k hk, fun hm a ha => ?_, fun hm => ?_⟩
      · rw [if_pos hm] at q
        refine ⟨k, G0, H0, G', ρ, l, rfl, hk, (s.mono e1).er hx2, fun hln => ?_⟩
        rw [← hc k a dd l ρ hln hx2.same] at q
        cases ho : h k a dd (erR i a dd l ρ) with
        | nx ρ' => rw [ho] at q; exact fun σ2 G2 H2 s2 => q _ G2 H2 s2.gone
        | ret d => rw [ho] at q; exact q
        | exc e => rw [ho] at q; exact q.elim
        | bad => rw [ho] at q; exact q.elim
      · rw [if_neg (by rw [hm]; decide)] at q
        exact q _ _ σ G' H' (s.mono e1).ext (ln_excAt rfl hx2)
    · rw [if_neg hk] at q; exact q.elim
end
/-! ### what such a clause does, wherever the error stands -/
section
variable {i j : Nat} {a : Addr} {d : Option Addr} {l : Option D} {ρ : Rho} {f : Rho → R D} {g : Rho → Out} {b : Bool}
theorem erR_set {x : Option SV} (h : i ≠ j) : (erR i a d l ρ).set j x = erR i a d l (ρ.set j x) := List.set_comm _ _ h
theorem isEL_erR (h : i < ρ.length) (hl : l.isSome = d.isSome) : isEL i a d b (erR i a d l ρ) = .ok (.bool b) := isEL_er h hl
theorem lnF_erR (h : i < ρ.length) (hl : l.isSome = d.isSome) : lnF i a d (erR i a d l ρ) = R.of l := lnF_er h hl
theorem gv_erR (h : i ≠ j) : gv j (erR i a d l ρ) = gv j ρ := by
  unfold gv erR
  rw [List.getElem?_set_ne h]
theorem wipe_erR : wipeO i (.nx (erR i a d l ρ)) = .nx (ρ.set i none) := by
  show Out.nx ((erR i a d l ρ).set i none) = _
  unfold erR
  rw [List.set_set]
theorem seqS_erR (h : i ≠ j) : seqS (setF j f) g (erR i a d l ρ) = (f (erR i a d l ρ)).out fun v => g (erR i a d l (ρ.set j (some (.sh v)))) := by
  unfold seqS setF
  cases f (erR i a d l ρ) with
  | ok v => show g ((erR i a d l ρ).set j _) = g _; rw [erR_set h]
  | exc e => rfl
  | bad => rfl
theorem setF_erR (h : i ≠ j) : setF j f (erR i a d l ρ) = (f (erR i a d l ρ)).out fun v => .nx (erR i a d l (ρ.set j (some (.sh v)))) := by
  unfold setF
  cases f (erR i a d l ρ) with
  | ok v => show Out.nx ((erR i a d l ρ).set j _) = Out.nx _; rw [erR_set h]
  | exc e => rfl
  | bad => rfl
end
end FE

namespace L2
open PySem PySem.Spec PyProof.Rows
theorem tuple_mul1W (l : Addr) (items : Array Value) (n : Nat) (dd : Option Addr) (sl : Array (Option Value)) (u : Tok) :
    Meets (Builtin.«tuple.__mul__» ⟨[.ref l, .int 1 u], []⟩) (fun _ R s => s.heap.get? l = some { cls := .type "tuple", dict := dd, data := .seq items n, slots := sl } ∧ R (.ok (.ret (Value.ref l))) s) :=
  .of_wp fun prog w A R s h => by
    obtain ⟨hp, g, d, tk, os⟩ := s
    obtain ⟨hl, h⟩ := h
    have f1 := AutoSeq1.idx_int
    have c1 : (items.isEmpty || (1 : Int) == 1) = true := by simp
    wp_walk using wpAny_loadPart' hl
    repeat (first
      | (refine wpAny_ite_true (decide_eq_true (by rw [c1])) ?_; wp_walk using wpAny_loadPart' hl)
      | (refine wpAny_ite_false (decide_eq_false (by decide)) ?_; wp_walk using wpAny_loadPart' hl))
    exact ⟨_, rfl, h⟩
theorem tuple_mul0W (l : Addr) (items : Array Value) (n : Nat) (dd : Option Addr) (sl : Array (Option Value)) (u : Tok) (c0 : items.isEmpty = false) :
    Meets (Builtin.«tuple.__mul__» ⟨[.ref l, .int 0 u], []⟩) (fun _ R s => s.heap.get? l = some { cls := .type "tuple", dict := dd, data := .seq items n, slots := sl } ∧
      R (.ok (.ret (Value.ref s.heap.objs.size))) { s with heap := s.heap.push { cls := Value.type "tuple", data := Data.seq #[] }, toks := s.toks }) :=
  .of_wp fun prog w A R s h => by
    obtain ⟨hp, g, d, tk, os⟩ := s
    obtain ⟨hl, h⟩ := h
    have f1 := AutoSeq1.idx_int
    have c1 : (items.isEmpty || (0 : Int) == 1) = false := by rw [c0]; rfl
    have c2 : (decide ((0 : Int) ≤ 0) || items.isEmpty) = true := by simp
    wp_walk using wpAny_loadPart' hl
    repeat (first
      | (refine wpAny_ite_false (decide_eq_false (by rw [c1]; exact Bool.false_ne_true)) ?_; wp_walk using wpAny_loadPart' hl)
      | (refine wpAny_ite_true (decide_eq_true (by rw [c2])) ?_; wp_walk using wpAny_loadPart' hl)
      | (refine wpAny_ite_false (decide_eq_false (by decide)) ?_; wp_walk using wpAny_loadPart' hl))
    exact ⟨_, rfl, h⟩
/-- t * 0, t * 1 -/
def rRep01 (K : PySem.W.Frag) : R2 := fun x y H Q => ∃ l k xs, x = .ref l ∧ y = .int k ∧ SqT K H l xs ∧ xs ≠ [] ∧ (k = 1 ∧ Q (.ref l) H ∨ k = 0 ∧ ∀ p, H p = none → Q (.ref p) (upd H p (.tup [])))
theorem op_rep01 {X : Cx} : OpR X (binaryOp .Mult) (rRep01 X.K) := by
  intro pins s σ H x y v u Q I rx ry h
  obtain ⟨l, k, xs, rfl, rfl, hT, hne, q⟩ := h
  cases rx
  obtain ⟨t, rfl⟩ := ry
  obtain ⟨its, r, ⟨⟨cls, dd, data, sl⟩, ho, hc, n, hd⟩, hs⟩ := I.tuple hT
  simp only at hc hd
  subst hc hd
  have hle : its.length = xs.length := r.length.symm
  have hn : its ≠ [] := fun e => hne (by
    rw [e] at hle
    exact List.eq_nil_of_length_eq_zero hle.symm)
  have hi : its.toArray.isEmpty = false := by
    cases its with
    | nil => exact absurd rfl hn
    | cons a b => rfl
  rcases q with ⟨rfl, q⟩ | ⟨rfl, q⟩
  · exact wpAny_binaryOp_repeat_ref (T := "tuple") (U := "int") (by decide) ⟨_, ho, rfl⟩ (fun s' => typeIs_int s' 1 t) noFill_tuple_mul F.fills_int_mul F.slot_int_rmul repeat_tuple F.slot_int_index.lookup
      (call_meets F.slot_int_rmul (typeIs_int s 1 t) F.entry_int_rmul (F.args_int_rmul_2 _ _) (int_rmul_tuple 1 t l its.toArray n dd sl)
        ⟨ho, rfl, ⟨_, ho, rfl⟩, call_meets F.slot_tuple_mul ⟨_, ho, rfl⟩ F.entry_tuple_mul (F.args_tuple_mul_2 _ _) (tuple_mul1W l its.toArray n dd sl t) ⟨ho, ⟨.ref l, H, I, rfl, q⟩⟩⟩)
  · refine wpAny_binaryOp_repeat_ref (T := "tuple") (U := "int") (by decide) ⟨_, ho, rfl⟩ (fun s' => typeIs_int s' 0 t) noFill_tuple_mul F.fills_int_mul F.slot_int_rmul repeat_tuple F.slot_int_index.lookup
      (call_meets F.slot_int_rmul (typeIs_int s 0 t) F.entry_int_rmul (F.args_int_rmul_2 _ _) (int_rmul_tuple 0 t l its.toArray n dd sl)
        ⟨ho, rfl, ⟨_, ho, rfl⟩, call_meets F.slot_tuple_mul ⟨_, ho, rfl⟩ F.entry_tuple_mul (F.args_tuple_mul_2 _ _) (tuple_mul0W l its.toArray n dd sl t hi) ⟨ho, ?_⟩⟩)
    refine ⟨.ref s.heap.objs.size, _, I.laid (t' := s.toks) (o := .tup []) (fun b ob q => Heap.get?_push_of_some _ q) (Nat.le_refl _) ?_, rfl, q _ (I.hok.fresh (Nat.le_refl _))⟩
    exact ⟨by rw [sizeLine_eq]; decide, _, .nil, IsTup.new _ _⟩
end L2
namespace FE
open PySem L2 PyProof.Rows PySem.Spec
/-- t * n, n 0 or 1 -/
def rep01D : D → D → Option D
  | .tuple ds, .int n => if ds ≠ [] ∧ (n = 0 ∨ n = 1) then some (.tuple (if n = 1 then ds else [])) else none
  | _, _ => none
theorem rop_rep01 {K : PySem.W.Frag} : ROp K (rRep01 K) rep01D := by
  intro G H x y a b d Q e dx dy hg k
  cases a <;> try (cases hg; done)
  case tuple ds =>
    cases b <;> try (cases hg; done)
    case int n =>
      obtain ⟨z, rfl⟩ := ite_some hg
      obtain ⟨p, vs, rfl, h1, h2, _⟩ := Dp.tup_of e dx
      refine ⟨p, n, vs, rfl, Dp.int_of dy, h1, fun hn => z.1 (nil_of (by rw [← hn]; exact h2)), ?_⟩
      rcases z.2 with rfl | rfl
      · refine Or.inr ⟨rfl, fun r hr => ?_⟩
        have N := Dp.newt e hr (DpAll.nil (K := K) (H := G))
        exact k _ _ _ N.1 N.2
      · exact Or.inl ⟨rfl, k _ G H (Ext.refl e) dx⟩
/-- int(x), x a number or a truth -/
def intD : D → Option D
  | .int i => some (.int i)
  | .bool b => some (.int (if b then 1 else 0))
  | _ => none
section
variable {X : Cx} {ca : CA} {W : WX} {a b e : Expr} {f g : Rho → R D} {pos p : Pos}
theorem fe_rep01 (ha : FE X ca W f a) (hb : FE X ca W g b) : FE X ca W (op2 rep01D f g) (.BinOp a .Mult b pos) := fe_op op_rep01 rop_rep01 (fb_fe ha) (fb_fe hb)
theorem boot_int : bootBuiltins "int" = some (.type "int") := by decide +kernel
theorem rfn_int {K : PySem.W.Frag} : RFn1 K (fun xs H Q => (∃ i, xs = [.int i] ∧ Q (.int i) H) ∨ ∃ k, xs = [.bl k] ∧ Q (.int (if k then 1 else 0)) H) intD := by
  intro G H x a d Q e dx hg k
  cases a <;> try (cases hg; done)
  case int i =>
    cases hg
    exact Or.inl ⟨i, by rw [Dp.int_of dx], k _ G H (Ext.refl e) (.int _)⟩
  case bool b =>
    cases hg
    exact Or.inr ⟨b, by cases dx; rfl, k _ G H (Ext.refl e) (.int _)⟩
theorem fe_int1 (hg : Gl X "int") (hm : X.mg "int" = none) (ha : FB X ca W f e) (hs : starEach [e] X.env = (false, eval e X.env) :: starEach [] X.env := by rfl) : FE X ca W (fn1 intD f) (.Call (.Name "int" p) [e] [] pos) := fe_t1 call_int1 rfn_int hg hm boot_int ha (hs := hs)
end
end FE

namespace FE
open PySem L2 PyProof.Rows PySem.Spec
/-! ## a def that changes the planner it is given, with clauses that return -/
def GRes (K : PySem.W.Frag) (ca : CA) (W : WX) (G H : Hp) (p : Addr) (σ : L2.St) (Q : VK) : R (D × ObD) → Prop
  | .ok (d, P') => ∀ v G' H', Ext G (del H p) G' H' → ObOk K G' H' p P' → Dp K G' v d → Q v H'
  | .exc z => ∀ c dd G' H', Ext G H G' H' → ExcAt K ca G' H' z c dd → W c dd σ H'
  | .bad => False
theorem GRes.mono {K : PySem.W.Frag} {ca : CA} {W : WX} {G H G1 H1 : Hp} {p : Addr} {P : ObD} {σ : L2.St} {Q : VK} (e1 : Ext G H G1 H1) (ho : ObOk K G H p P) : ∀ {r : R (D × ObD)}, GRes K ca W G H p σ Q r → GRes K ca W G1 H1 p σ Q r
  | .ok (d, P'), q => fun v G' H' e h dv => q v G' H' ((del_ext e1 (del_ext_none ho)).trans e) h dv
  | .exc z, q => fun c dd G' H' e hx => q c dd G' H' (e1.trans e) hx
  | .bad, q => q
def tGiv (K : PySem.W.Frag) (ca : CA) (W : WX) (f : Rho → R (D × ObD)) : TE := fun σ H Q => ∃ G p P ρ, EnvOk K G H σ ρ ∧ ρ[(0 : Nat)]? = some (some (.ob P)) ∧ σ[(0 : Nat)]? = some (some (.ref p)) ∧ ObOk K G H p P ∧ GRes K ca W G H p σ Q (f ρ)
def mutGF (n : Nat) (sem : ObD → List D → R (D × ObD)) (fA : Rho → R (List D)) : Rho → R (D × ObD) := fun ρ => match ρ[(0 : Nat)]? with
  | some (some (.ob P)) => (match fA ρ with
    | .ok ds => if ds.length + 1 = n then sem P ds else .bad
    | .exc e => .exc e
    | .bad => .bad)
  | _ => .bad
def ifG (c : Rho → R Bool) (f g : Rho → R (D × ObD)) : Rho → R (D × ObD) := fun ρ => match c ρ with
  | .ok b => if b = true then f ρ else g ρ
  | .exc e => .exc e
  | .bad => .bad
section
variable {X : Cx} {ca : CA} {W : WX} {a b o e ec : Expr} {es : List Expr} {pos apos p : Pos} {i j k n : Nat} {m x : Str} {ps : List Str} {sem : ObD → List D → R (D × ObD)} {fA : Rho → R (List D)} {c : Rho → R Bool} {f g : Rho → R (D × ObD)}
theorem giv_go {G H G1 H1 : Hp} {p : Addr} {P : ObD} {σ : L2.St} {Q : VK} {ds : List D} {vs : List V} (ho : ObOk X.K G H p P) (e1 : Ext G H G1 H1) (dvs : DpAll X.K G1 vs ds) (q : GRes X.K ca W G H p σ Q (if ds.length + 1 = n then sem P ds else .bad)) : spM X.K ca n sem (.ref p :: vs) H1 Q (WE W σ) := by
  by_cases hl : ds.length + 1 = n
  · rw [if_pos hl] at q
    refine ⟨G1, p, P, vs, ds, rfl, e1.gh, ho.ext e1, dvs, hl, ?_⟩
    cases hs : sem P ds with
    | ok y =>
      obtain ⟨d, P'⟩ := y
      rw [hs] at q
      exact fun v G' H' e2 ho' dv => q v G' H' ((del_ext e1 (del_ext_none ho)).trans e2) ho' dv
    | exc z => rw [hs] at q; exact fun cc dd G' H' e2 hx => q cc dd G' H' (e1.trans e2) hx
    | bad => rw [hs] at q; exact q
  · rw [if_neg hl] at q; exact q.elim
theorem fg_mut {pl : Sem Bool} (tk : Takes X W) (c : OkM X.prog X.w X.K X.mg X.base ca k m ps sem) (hr : Room j X.A) (hkj : k ≤ j) (hv : PE X o (tVar 0)) (ha : FA X ca W fA (e :: es)) (nf : NoFld m := by decide +kernel)
    (hst : starEach (e :: es) X.env = (false, eval e X.env) :: starEach es X.env := by rfl) (hpl : (backTo pos (starEach es X.env)).any (·.1) = false := by rfl)
    (ht : eval (.Call (.Attribute o m apos) (e :: es) [] pos) X.env = (do
      let ov ← eval o X.env
      standAt apos.atName
      let (f, first) ← holding [ov] (getMethod ov m pl)
      callWith pos f first (backTo pos (starEach (e :: es) X.env)) (backToKw pos (keywordEach [] X.env))) := by rfl) (hn : ps.length = n := by rfl) : PE X (.Call (.Attribute o m apos) (e :: es) [] pos) (tGiv X.K ca W (mutGF n sem fA)) := by
  subst hn
  obtain ⟨C, f, fd, T, M, hb, F⟩ := c
  refine PEimp (pe_methS hv T.cls M F (hr.mono hkj) hb (fun σ => passAt tk σ) ha hst hpl ht) fun σ H Q ⟨G, p, P, ρ, env, hP, h1, ho, q⟩ => ?_
  obtain ⟨dx, vg, vm, vc, vk, C', ic, h2, h3, h4⟩ := id ho
  have z := ic.uniq T.ic
  subst z
  refine ⟨.ref p, h1, p, dx, _, rfl, h3, nf.lk, G, ρ, env, ?_⟩
  unfold mutGF at q
  rw [hP] at q
  simp only at q
  cases hf : fA ρ with
  | ok ds => rw [hf] at q; exact fun vs G1 H1 e1 dvs => giv_go ho e1 dvs q
  | exc z => rw [hf] at q; exact fun c dd G' H' e1 hx => q c dd G' H' e1 hx
  | bad => rw [hf] at q; exact q.elim
theorem fg_mut0 {pl : Sem Bool} (tk : Takes X W) (c : OkM X.prog X.w X.K X.mg X.base ca k m ps sem) (hr : Room j X.A) (hkj : k ≤ j) (hv : PE X o (tVar 0)) (nf : NoFld m := by decide +kernel)
    (ht : eval (.Call (.Attribute o m apos) [] [] pos) X.env = (do
      let ov ← eval o X.env
      standAt apos.atName
      let (f, first) ← holding [ov] (getMethod ov m pl)
      callWith pos f first (backTo pos (starEach [] X.env)) (backToKw pos (keywordEach [] X.env))) := by rfl) (hn : ps.length = n := by rfl) : PE X (.Call (.Attribute o m apos) [] [] pos) (tGiv X.K ca W (mutGF n sem aN)) := by
  subst hn
  obtain ⟨C, f, fd, T, M, hb, F⟩ := c
  refine PEimp (pe_methS0 hv T.cls M F (hr.mono hkj) hb (fun σ => passAt tk σ) ht) fun σ H Q ⟨G, p, P, ρ, env, hP, h1, ho, q⟩ => ?_
  obtain ⟨dx, vg, vm, vc, vk, C', ic, h2, h3, h4⟩ := id ho
  have z := ic.uniq T.ic
  subst z
  refine ⟨.ref p, h1, p, dx, _, rfl, h3, nf.lk, ?_⟩
  unfold mutGF at q
  rw [hP] at q
  exact giv_go ho (Ext.refl env.ext) .nil q
theorem fg_if (hc : FT X ca W c ec) (ha : PE X a (tGiv X.K ca W f)) (hb : PE X b (tGiv X.K ca W g)) : PE X (.IfExp ec a b pos) (tGiv X.K ca W (ifG c f g)) := PEimp (pe_ifExp hc ha hb) fun σ H Q ⟨G, p, P, ρ, env, hP, h1, ho, q⟩ => by
  refine ⟨G, ρ, env, ?_⟩
  unfold ifG at q
  cases hcr : c ρ with
  | bad => rw [hcr] at q; exact q.elim
  | exc z => rw [hcr] at q; exact fun cc dd G' H' e1 hx => q cc dd G' H' e1 hx
  | ok bb =>
    rw [hcr] at q
    intro G1 H1 e1
    cases bb with
    | true => rw [if_pos rfl]; exact ⟨G1, p, P, ρ, env.mono e1, hP, h1, ho.ext e1, GRes.mono e1 ho (show GRes X.K ca W G H p σ Q (f ρ) from q)⟩
    | false => rw [if_neg Bool.false_ne_true]; exact ⟨G1, p, P, ρ, env.mono e1, hP, h1, ho.ext e1, GRes.mono e1 ho (show GRes X.K ca W G H p σ Q (g ρ) from q)⟩
/-! ### the clauses, parted from fs_tryM -/
theorem ClsR.as {n i : Nat} {nm : Str} (hlen : X.N.length = n) (hin : i < n) {hs' : List ExceptHandler} {l' : List Cl} (hk : ClsR X ca n i nm hs' l') : ClsAs X nm hs' (tsOf X.K ca n i l') := by
  induction hk with
  | nil => exact .nil
  | @cons x c h b suite p q hds l T hg hsu hc r hdb ih =>
    refine .cons ⟨hg, hdb, Or.inl T.gP⟩ (fun a oe cls d pn hz hv => ⟨fun pins s σ H Dn I q => ?_⟩) ih
    obtain ⟨k, G0, H0, G, σ0, e1, e2, hk, hm, e3, e4, q⟩ := q
    subst e1 e2 e3
    refine (hsu k a oe pn hk hz hv).run pins s _ H Dn I ⟨G0, H0, G, mk n i a, ⟨mk_env e4.gh (by rw [← hlen]; exact I.len) hin, e4, fun j o r hj ho _ => ?_⟩, q⟩
    exfalso
    unfold mk at hj
    by_cases z : i = j
    · subst z
      rw [List.getElem?_set_self (by simpa using hin)] at hj
      cases hj; cases ho
    · rw [List.getElem?_set_ne z, List.getElem?_replicate] at hj
      split at hj
      · cases hj; cases ho
      · cases hj
theorem ClsR.go {n i k : Nat} {nm : Str} {G0 H0 G' H' : Hp} {σ' : L2.St} {Dn : Ends} (hk : k < 9) (e1 : Ext G0 H0 G' H') {hs' : List ExceptHandler} {l' : List Cl} (hk' : ClsR X ca n i nm hs' l') (q : SRes X.K ca W Dn G0 H0 (pickH n i k l')) : wAsM X.K i W Dn (tsOf X.K ca n i l') (.ref (ca k)) none σ' H' := by
  induction hk' with
  | nil => exact q _ _ σ' G' H' e1 ⟨rfl, rfl⟩
  | @cons x c h b suite p q' hds l T hg hsu hc r hdb ih =>
    refine ⟨mOf c k, T.mP k hk, fun hm a ha => ?_, fun hm => ?_⟩
    · unfold pickH at q
      rw [if_pos hm] at q
      refine ⟨k, G0, H0, G', σ', rfl, rfl, hk, hm, rfl, e1, ?_⟩
      rw [hc]
      cases ho : h k 0 (mk n i 0) with
      | ret d => rw [ho] at q; exact q
      | nx ρ' => rw [ho] at q; exact q.elim
      | exc e => rw [ho] at q; exact q.elim
      | bad => rw [ho] at q; exact q.elim
    · unfold pickH at q
      rw [if_neg (by rw [hm]; decide)] at q
      exact ih q
def takenR (n i : Nat) (f : Rho → R (D × ObD)) (l : List Cl) : ObD → List D → R (D × ObD) := fun P ds => match f (startO n P ds) with
  | .ok x => .ok x
  | .exc ⟨k, none⟩ => if k < 9 then (match pickH n i k l with
    | .ret d => .ok (d, P)
    | _ => .bad) else .bad
  | _ => .bad
theorem ext_del {G H G' H' : Hp} {p : Addr} (e : Ext G H G' H') : Ext G (del H p) G' H' := ⟨e.g, fun a o h => by
    have z : a ≠ p := fun z => by rw [z, del_same] at h; cases h
    rw [del_ne z] at h
    exact e.h a o h, e.gh, fun a h1 h2 => e.new a h1 fun w => h2 (by
    by_cases z : a = p
    · subst z; exact del_same
    · rw [del_ne z]; exact w)⟩
theorem taken_body {nm : Str} {hd₀ : ExceptHandler} {hds : List ExceptHandler} {l : List Cl} {pr : Pos} (hs : X.stack = X.env :: X.outer) (hf : X.env.frame = some X.env.locals) (hN : X.N.Nodup) (hlen : X.N.length = n) (hi : X.N[i]? = some nm) (hln : X.env.kindOf nm = some .local)
    (tk : Takes X W) (hb : ∀ (W' : WX) (pn : List (Addr × Obj)) (xe : Value → Shared → Prop), Takes (X.tr pn xe) W' → PE (X.tr pn xe) e (tGiv X.K ca W' f)) (hh : ClsR X ca n i nm (hd₀ :: hds) l) :
    PSs X [.Try [.Return (some e) pr] (hd₀ :: hds) [] [] pos] (mutAt X.K ca W X.N (takenR n i f l)) := by
  have hin : i < n := by rw [← hlen]; exact (List.getElem?_eq_some_iff.mp hi).1
  refine PSsimp (pss_one (ps_try_asM (i := i) (tb := fun W' => fun Dn σ H => tGiv X.K ca W' f σ H fun v H' => Dn.rt v H') (l := tsOf X.K ca n i l) (Wout := W) hs hf hN hi hln tk (fun W' pn xe t _ => PSsimp (pss_one (ps_ret (hb W' pn xe t))) fun Dn σ H q => q) (hh.as hlen hin))) fun Dn σ H ⟨G, p, P, vs0, ds, hσ, eG, hob, hd, q⟩ => ?_
  subst hσ
  have env := startO_env (N := X.N) eG hob hd
  rw [hlen] at env
  refine ⟨G, p, P, startO n P ds, env, startO_0, start_0, hob, ?_⟩
  unfold takenR at q
  cases hfr : f (startO n P ds) with
  | bad => rw [hfr] at q; exact q.elim
  | ok y =>
    obtain ⟨d, P'⟩ := y
    rw [hfr] at q
    exact fun v G' H' e ho' dv => q v G' H' e ho' dv
  | exc z =>
    obtain ⟨k, y⟩ := z
    cases y with
    | some y => rw [hfr] at q; exact q.elim
    | none =>
      rw [hfr] at q
      simp only at q
      by_cases hk : k < 9
      · rw [if_pos hk] at q
        intro cc dd G' H' e1 hx
        obtain ⟨hx1, hx2⟩ := hx
        have hx2' : dd = none := hx2
        subst hx1 hx2'
        refine ClsR.go hk e1 hh ?_
        cases ho : pickH n i k l with
        | ret d =>
          rw [ho] at q
          exact fun v G2 H2 e2 dv => q v G2 H2 (ext_del e2) (hob.ext e2) dv
        | nx ρ' => rw [ho] at q; exact q.elim
        | exc e => rw [ho] at q; exact q.elim
        | bad => rw [ho] at q; exact q.elim
      · rw [if_neg hk] at q; exact q.elim
end
def OkMf (P : Program) (w : World) (K : PySem.W.Frag) (mg : Str → Option Value) (base : Heap) (ca : CA) (k : Nat) (x : Str) (ps : List Str) (sem : ObD → List D → R (D × ObD)) : Prop :=
  ∃ f fd, mg x = some (.ref f) ∧ PySem.W.keepIn K (.ref f) = true ∧ Binds K fd ps [] ∧ FnOk P w K mg base (L2.CX P w) k f fd ps (spM K ca ps.length sem)
theorem OkMf.mk {P : Program} {w : World} {K : PySem.W.Frag} {mg : Str → Option Value} {base : Heap} {ca : CA} {x : Str} {st : Stmt} {N ps : List Str} {k : Nat} {sem : ObD → List D → R (D × ObD)} (d : DefE K mg x st ps) (S : FnScope N ps (defScope st))
    (hbody : ∀ (cdv : Value) (A : Around) (outer : List Env) (s : Shared) (H : Hp) (E : XK) (f : Addr), Room k (A.deeper (envOfC x (defScope st) s.heap.objs.size f cdv)) →
      PSs (cxOf (L2.CX P w) P w K mg base N x (defScope st) f cdv A outer s H E) (defBody st) (mutAt K ca (fun c d _ H' => E c d H') N sem)) : OkMf P w K mg base ca (k + 1) x ps sem := by
  obtain ⟨f, fd, h1, F, b⟩ := d
  refine ⟨f, fd, h1, F.kp, b, F.okX S spM_len fun cdv A outer s H vs Q E hr h => ⟨_, hbody cdv A outer s H E f hr, ?_⟩⟩
  obtain ⟨G, p, P, vs0, ds, rfl, hG, ho, hd, hl, q⟩ := h
  refine ⟨G, p, P, vs0, ds, rfl, hG, ho, hd, ?_⟩
  cases hg : sem P ds with
  | ok x => obtain ⟨d, P'⟩ := x; rw [hg] at q; exact fun v G' H' e ho' dv => q v G' H' e ho' dv
  | exc z => rw [hg] at q; exact fun c dd σ' G' H' e hx => q c dd G' H' e hx
  | bad => rw [hg] at q; exact q
section
variable {X : Cx} {ca : CA} {W : WX} {o e : Expr} {es : List Expr} {pos p : Pos} {i j k n : Nat} {x : Str} {ps : List Str} {sem : ObD → List D → R (D × ObD)} {fA : Rho → R (List D)}
/-- f(o, ..), where f changes o -/
theorem fm_callM (tk : Takes X W) (c : OkMf X.prog X.w X.K X.mg X.base ca k x ps sem) (hr : Room j X.A) (hkj : k ≤ j) (hg : Gl X x) (hv : PE X e (tVar i)) (ha : FA X ca W fA es) (hdb : (x == ("__debug__" : Str)) = false := by decide)
    (he : starEach (e :: es) X.env = (false, eval e X.env) :: starEach es X.env := by rfl) (hpl : (backTo pos (starEach es X.env)).any (·.1) = false := by rfl) (hn : ps.length = n := by rfl) : FM X ca W (mutOF i n sem fA) (.Call (.Name x p) (e :: es) [] pos) := by
  subst hn
  obtain ⟨f, fd, h1, h2, h3, h4⟩ := c
  refine PEimp (pe_callS h4 (hr.mono hkj) hg h1 h2 h3 (fun σ => passAt tk σ) (pa_cons hv ha he) hdb he hpl) fun σ H Q ⟨G0, H0, G, ρ, s, q⟩ => ?_
  obtain ⟨P, a, hP, k1, ho⟩ := mut_at s q
  exact ⟨.ref a, k1, mut_args s hP k1 ho q⟩
/-- return m(..) == e -/
def retCM (gd : D → D → Option D) (fm : Rho → R (D × Rho)) (f : Rho → R D) : Rho → Out := fun ρ => match fm ρ with
  | .ok x => (match f x.2 with
    | .ok y => (match gd x.1 y with
      | some d => .ret d
      | none => .bad)
    | .exc e => .exc e
    | .bad => .bad)
  | .exc e => .exc e
  | .bad => .bad
theorem fs_retEqM {a b : Expr} {fm : Rho → R (D × Rho)} {f : Rho → R D} (hr : Room k X.A) (ha : FM X ca W fm a) (hb : FE X ca W f b) : FS X ca W (retCM eqD fm f) (.Return (some (.Compare a [.Eq] [b] p)) pos) := PSimp (ps_ret (pe_cmpR (op_eqD (hu64 hr)) ha hb (nomark _))) fun Dn σ H ⟨G0, H0, G, ρ, s, q⟩ => by
  refine ⟨G0, H0, G, ρ, s, ?_⟩
  unfold retCM at q
  cases hfm : fm ρ with
  | bad => rw [hfm] at q; exact q.elim
  | exc z => rw [hfm] at q; exact fun c dd G' H' e1 hx => q c dd σ G' H' e1 hx
  | ok w =>
    obtain ⟨d, ρ'⟩ := w
    rw [hfm] at q
    intro v G1 H1 s1 e01 dv
    refine ⟨G1, ρ', s1.env, ?_⟩
    simp only at q
    cases hf : f ρ' with
    | bad => rw [hf] at q; exact q.elim
    | exc z => rw [hf] at q; exact fun c dd G' H' e1 hx => q c dd σ G' H' (s1.ext.trans e1) hx
    | ok y =>
      rw [hf] at q
      intro u G2 H2 e2 dy
      simp only at q
      cases hg : eqD d y with
      | none => rw [hg] at q; exact q.elim
      | some rr =>
        rw [hg] at q
        exact rop_eq G2 H2 v u d y rr _ e2.gh (DpB.of e2.gh (Dp.ex e2.g _ dv)) (DpB.of e2.gh dy) hg fun vv G3 H3 e3 dr => q vv G3 H3 ((s1.ext.trans e2).trans e3) dr
end
end FE

namespace FE
open PySem L2 PyProof.Rows PySem.Spec
/-! ## text: split, slices, signs, in, index -/
def splitD (b : Str) : D → Option D
  | .str a => if (b.length == 0) = false ∧ a.length + 2 ≤ szMax then some (.list ((Txt.split a b).map .str)) else none
  | _ => none
theorem strs_dp {K : PySem.W.Frag} {G : Hp} : ∀ ys : List Str, DpAll K G (ys.map V.str) (ys.map .str)
  | [] => .nil
  | y :: ys => .cons (.str _) (strs_dp ys)
/-- the signs of a text -/
def signsOf : D → Option (List D)
  | .str x => some (x.cps.toList.map fun c => .str ⟨#[c]⟩)
  | _ => none
def sliceSD : D → Option Int → Option Int → Option D
  | .str z, lo, hi => if z.length ≤ szMax then some (.str (cutS z lo hi)) else none
  | _, _, _ => none
def sliceSF (f : Rho → R D) (lo hi : Rho → R (Option Int)) : Rho → R D := fun ρ => do let d ← f ρ; let l ← lo ρ; let h ← hi ρ; R.of (sliceSD d l h)
def signF (f : Rho → R D) : Rho → R (List D) := fun ρ => do let d ← f ρ; R.of (signsOf d)
/-- i in j, two texts -/
def hasS (i j : Str) : Bool := !(Builtin.Str.occurrences j i 0 j.length 1).isEmpty
def inSD (neg : Bool) : D → D → Option D
  | .str i, .str j => some (.bool (if neg then !hasS i j else hasS i j))
  | _, _ => none
def sidxD (a : Str) : D → Option D
  | .str b => (match Builtin.Str.occurrences a b 0 a.length 1 with
    | i :: _ => some (.int (i : Nat))
    | [] => none)
  | _ => none
theorem rop_inS {K : PySem.W.Frag} : ROp K (fun x y H Q => ∃ i j, x = .str i ∧ y = .str j ∧ Q (.bl (!(Builtin.Str.occurrences j i 0 j.length 1).isEmpty)) H) (inSD false) := by
  intro G H x y a b d Q e dx dy hg k
  cases a <;> try (cases hg; done)
  case str i =>
    cases b <;> try (cases hg; done)
    case str j =>
      cases hg
      exact ⟨i, j, Dp.str_of dx, Dp.str_of dy, k _ G H (Ext.refl e) (.bl _)⟩
theorem rop_ninS {K : PySem.W.Frag} : ROp K (fun x y H Q => ∃ i j, x = .str i ∧ y = .str j ∧ Q (.bl (!(!(Builtin.Str.occurrences j i 0 j.length 1).isEmpty))) H) (inSD true) := by
  intro G H x y a b d Q e dx dy hg k
  cases a <;> try (cases hg; done)
  case str i =>
    cases b <;> try (cases hg; done)
    case str j =>
      cases hg
      exact ⟨i, j, Dp.str_of dx, Dp.str_of dy, k _ G H (Ext.refl e) (.bl _)⟩
section
variable {X : Cx} {ca : CA} {W : WX} {o e a b tg : Expr} {pos apos p p2 : Pos} {f g : Rho → R D} {k j : Nat} {nm x : Str}
theorem fe_inS (ha : FB X ca W f a) (hb : FB X ca W g b) (hm : behindInMarks .In b = false := by with_unfolding_all rfl) : FE X ca W (op2 (inSD false) f g) (.Compare a [.In] [b] pos) := fe_cmp op_in_str rop_inS ha hb hm
theorem fe_ninS (ha : FB X ca W f a) (hb : FB X ca W g b) (hm : behindInMarks .NotIn b = false := by with_unfolding_all rfl) : FE X ca W (op2 (inSD true) f g) (.Compare a [.NotIn] [b] pos) := fe_cmp op_notin_str rop_ninS ha hb hm
theorem ft_inS (ha : FB X ca W f a) (hb : FB X ca W g b) (hm : behindInMarks .In b = false := by with_unfolding_all rfl) : FT X ca W (asB (op2 (inSD false) f g)) (.Compare a [.In] [b] pos) := ft_cmp op_in_str rop_inS ha hb hm
theorem ft_ninS (ha : FB X ca W f a) (hb : FB X ca W g b) (hm : behindInMarks .NotIn b = false := by with_unfolding_all rfl) : FT X ca W (asB (op2 (inSD true) f g)) (.Compare a [.NotIn] [b] pos) := ft_cmp op_notin_str rop_ninS ha hb hm
theorem fe_split {i} (he : FE X ca W f o) (hs : starEach [.Constant (.str x) i p] X.env = [(false, eval (.Constant (.str x) i p) X.env)] := by rfl) (hbase : attributeBase o "split" X.env (eval o X.env) = eval o X.env := by rfl) (hline : (apos.endLine == pos.line) = true := by rfl) :
    FE X ca W (fn1 (splitD x) f) (.Call (.Attribute o "split" apos) [.Constant (.str x) i p] [] pos) := PEimp (pe_split he pe_str hs hbase hline) fun σ H Q ⟨G, ρ, env, q⟩ => by
  refine ⟨G, ρ, env, (ARes.bind q).imp fun y q u G1 H1 e1 dy => ?_⟩
  have q2 : ARes X.K ca W σ G H (fun d => ∀ v G' H', Ext G H G' H' → Dp X.K G' v d → Q v H') (R.of (splitD x y)) := q
  cases y <;> try (exact q2.elim)
  case str z =>
    by_cases c : (x.length == 0) = false ∧ z.length + 2 ≤ szMax
    · have q3 : ∀ v G' H', Ext G H G' H' → Dp X.K G' v (.list ((Txt.split z x).map .str)) → Q v H' := by
        have hc : splitD x (.str z) = some (.list ((Txt.split z x).map .str)) := if_pos c
        rw [hc] at q2
        exact q2
      refine ⟨⟨z, Dp.str_of (H := H1) dy⟩, z, x, Dp.str_of (H := H1) dy, rfl, c.1, Nat.le_trans c.2 (by decide), fun r hr => ?_⟩
      have N := Dp.newl e1.gh hr (strs_dp (K := X.K) (G := G1) (Txt.split z x))
      exact q3 _ _ _ (e1.trans N.1) N.2
    · have hc : splitD x (.str z) = none := if_neg c
      rw [hc] at q2
      exact q2.elim
theorem fe_sliceS {lo hi : Option Expr} {l u : Rho → R (Option Int)} (he : FE X ca W f e) (hl : FO X ca W l lo) (hu : FO X ca W u hi) : FE X ca W (sliceSF f l u) (.Subscript e (.Slice lo hi none p2) pos) := PEimp (pe_slice sl_str he hl hu) fun σ H Q ⟨G, ρ, env, q⟩ => by
  refine ⟨G, ρ, env, q.bind.imp fun d q v G1 H1 e1 dv => ⟨G1, ρ, env.mono e1, q.bind.mono e1 fun lo q G2 H2 e2 => ⟨G2, ρ, env.mono (e1.trans e2), q.bind.mono (e1.trans e2) fun hi q G3 H3 e3 => ?_⟩⟩⟩
  cases d with
  | none => exact q.elim
  | bool b => exact q.elim
  | int b => exact q.elim
  | list b => exact q.elim
  | tuple b => exact q.elim
  | dict b => exact q.elim
  | str z =>
    by_cases c : z.length ≤ szMax
    · have hc : sliceSD (.str z) lo hi = some (.str (cutS z lo hi)) := if_pos c
      rw [hc] at q
      exact ⟨z, Dp.str_of (H := H) dv, Nat.le_trans c (by decide), q _ G3 H3 ((e1.trans e2).trans e3) (.str _)⟩
    · have hc : sliceSD (.str z) lo hi = none := if_neg c
      rw [hc] at q
      exact q.elim
theorem walkD_str {K : PySem.W.Frag} {z : Str} {Gb Hb : Hp} : WalkD K (Its z) Gb Hb (z.cps.toList.map fun c => .str ⟨#[c]⟩) := by
  have hl : (z.cps.toList.map fun c => (PyData.str ⟨#[c]⟩ : D)).length = z.cps.size := by rw [List.length_map, Array.length_toList]
  refine ⟨fun i H e hi => by rw [hl] at hi; exact hi, fun H e => by rw [hl]; exact Nat.le_refl _, fun i H x H' G d e1 e2 e3 hd y => ?_⟩
  obtain ⟨rfl, c, hc, rfl⟩ := y
  rw [List.getElem?_map, Array.getElem?_toList, hc] at hd
  cases hd
  exact ⟨G, Ext.refl e3, .str _⟩
theorem fib_str (h : FE X ca W f e) : FIB X ca W (signF f) tg e := PIimp (pi_str h) fun σ H Rr ⟨G, ρ, env, q⟩ => ⟨G, ρ, env, q.bind.imp fun d q v G' H' e dv => by
  cases d <;> try (exact q.elim)
  case str z => exact ⟨z, Dp.str_of (H := H) dv, q _ G' H' e walkD_str⟩⟩
/-- NAME.index(e), NAME a text -/
theorem fe_sindex (hg : Gl X nm) (hm : ∃ t, X.mg nm = some (.str x t)) (he : FE X ca W f e) (hd : (nm == ("__debug__" : Str)) = false := by decide) (hs : starEach [e] X.env = [(false, eval e X.env)] := by rfl) (hbase : attributeBase (.Name nm p) "index" X.env (eval (.Name nm p) X.env) = eval (.Name nm p) X.env := by rfl) (hline : (apos.endLine == pos.line) = true := by rfl) :
    FE X ca W (fn1 (sidxD x) f) (.Call (.Attribute (.Name nm p) "index" apos) [e] [] pos) := PEimp (pe_m1 F.slot_str_index F.type_str_index mt_sindex (fe_gstr (ca := ca) (W := W) hg hm hd) he hs hbase hline) fun σ H Q ⟨G, ρ, env, q⟩ => by
  refine ⟨G, ρ, env, fun v G1 H1 e1 dv => ⟨⟨x, Dp.str_of (H := H) dv⟩, G1, ρ, env.mono e1, (ARes.bind q).mono e1 fun y q u G2 H2 e2 dy => ?_⟩⟩
  have q2 : ARes X.K ca W σ G H (fun d => ∀ v G' H', Ext G H G' H' → Dp X.K G' v d → Q v H') (R.of (sidxD x y)) := q
  cases y <;> try (exact q2.elim)
  case str z =>
    cases ho : Builtin.Str.occurrences x z 0 x.length 1 with
    | nil =>
      have hc : sidxD x (.str z) = none := by
        show (match Builtin.Str.occurrences x z 0 x.length 1 with
          | i :: _ => some (PyData.int (i : Nat))
          | [] => none) = none
        rw [ho]
      rw [hc] at q2
      exact q2.elim
    | cons i r =>
      have hc : sidxD x (.str z) = some (.int (i : Nat)) := by
        show (match Builtin.Str.occurrences x z 0 x.length 1 with
          | i :: _ => some (PyData.int (i : Nat))
          | [] => none) = _
        rw [ho]
      rw [hc] at q2
      exact ⟨x, z, i, r, Dp.str_of (H := H) dv, by rw [Dp.str_of (H := H) dy], ho, q2 _ G2 H2 (e1.trans e2) (.int _)⟩
/-! ## C(..).m(..), where the method is known to raise -/
def mkMethXF (n : Nat) (sem : ObD → List D → R (D × ObD)) (fN : Rho → R ObD) (fA : Rho → R (List D)) : Rho → R D := fun ρ => do
  let P ← fN ρ
  let ds ← fA ρ
  if ds.length + 1 = n then (match sem P ds with
    | .exc e => .exc e
    | _ => .bad) else .bad
variable {es : List Expr} {m : Str} {ps : List Str} {sem : ObD → List D → R (D × ObD)} {fA : Rho → R (List D)} {fN : Rho → R ObD} {n : Nat}
theorem fe_mkMethX {pl : Sem Bool} (tk : Takes X W) (c : OkM X.prog X.w X.K X.mg X.base ca k m ps sem) (hr : Room j X.A) (hkj : k ≤ j) (hv : FN X ca W fN o) (ha : FA X ca W fA (e :: es)) (nf : NoFld m := by decide +kernel)
    (hst : starEach (e :: es) X.env = (false, eval e X.env) :: starEach es X.env := by rfl) (hpl : (backTo pos (starEach es X.env)).any (·.1) = false := by rfl)
    (ht : eval (.Call (.Attribute o m apos) (e :: es) [] pos) X.env = (do
      let ov ← eval o X.env
      standAt apos.atName
      let (f, first) ← holding [ov] (getMethod ov m pl)
      callWith pos f first (backTo pos (starEach (e :: es) X.env)) (backToKw pos (keywordEach [] X.env))) := by rfl) (hn : ps.length = n := by rfl) : FE X ca W (mkMethXF n sem fN fA) (.Call (.Attribute o m apos) (e :: es) [] pos) := by
  subst hn
  obtain ⟨C, f, fd, T, M, hb, F⟩ := c
  refine PEimp (pe_methS hv T.cls M F (hr.mono hkj) hb (fun σ => passAt tk σ) ha hst hpl ht) fun σ H Q ⟨G, ρ, env, q⟩ => ?_
  refine ⟨G, ρ, env, (ARes.bind q).imp fun P q p G1 H1 e1 hp ho => ?_⟩
  obtain ⟨dx, vg, vm, vc, vk, C', ic, h2, h3, h4⟩ := id ho
  have z := ic.uniq T.ic
  subst z
  exact ⟨p, dx, _, rfl, h3, nf.lk, G1, ρ, env.mono e1, (ARes.bind q).mono e1 fun ds q vs G2 H2 e2 dvs => spMX_go (G := G) (H := H) (e1.trans e2) (ho.ext e2) dvs q⟩
theorem fe_mkMethX0 {pl : Sem Bool} (tk : Takes X W) (c : OkM X.prog X.w X.K X.mg X.base ca k m ps sem) (hr : Room j X.A) (hkj : k ≤ j) (hv : FN X ca W fN o) (nf : NoFld m := by decide +kernel)
    (ht : eval (.Call (.Attribute o m apos) [] [] pos) X.env = (do
      let ov ← eval o X.env
      standAt apos.atName
      let (f, first) ← holding [ov] (getMethod ov m pl)
      callWith pos f first (backTo pos (starEach [] X.env)) (backToKw pos (keywordEach [] X.env))) := by rfl) (hn : ps.length = n := by rfl) : FE X ca W (mkMethXF n sem fN aN) (.Call (.Attribute o m apos) [] [] pos) := by
  subst hn
  obtain ⟨C, f, fd, T, M, hb, F⟩ := c
  refine PEimp (pe_methS0 hv T.cls M F (hr.mono hkj) hb (fun σ => passAt tk σ) ht) fun σ H Q ⟨G, ρ, env, q⟩ => ?_
  refine ⟨G, ρ, env, (ARes.bind q).imp fun P q p G1 H1 e1 hp ho => ?_⟩
  obtain ⟨dx, vg, vm, vc, vk, C', ic, h2, h3, h4⟩ := id ho
  have z := ic.uniq T.ic
  subst z
  exact ⟨p, dx, _, rfl, h3, nf.lk, spMX_go (G := G) (H := H) e1 ho .nil q⟩
end
section
variable {X : Cx} {ca : CA} {W : WX} {a b : Expr} {pos : Pos} {f g : Rho → R D} {k : Nat} {x : Addr} {pn : List (Addr × Obj)}
/-- == in a clause -/
theorem ft_eqU (hr : Room k X.A) (ha : FB (X.suite x pn) ca W f a) (hb : FB (X.suite x pn) ca W g b) : FT (X.suite x pn) ca W (asB (op2 eqD f g)) (.Compare a [.Eq] [b] pos) := ft_cmp (op_eqD (X := X.suite x pn) (by have h := hu64 hr; exact h)) rop_eq ha hb (nomark _)
theorem fe_eqU (hr : Room k X.A) (ha : FB (X.suite x pn) ca W f a) (hb : FB (X.suite x pn) ca W g b) : FE (X.suite x pn) ca W (op2 eqD f g) (.Compare a [.Eq] [b] pos) := fe_cmp (op_eqD (X := X.suite x pn) (by have h := hu64 hr; exact h)) rop_eq ha hb (nomark _)
end
/-! ### clauses that store, the last statement with a choice -/
theorem okOut {α : Type} {a : α} {f : α → Out} : (R.ok a).out f = f a := rfl
theorem wipe_outE {i : Nat} {a : Addr} {d : Option Addr} {l : Option D} {r : R D} {F : D → Rho} : wipeO i (r.out fun v => .nx (erR i a d l (F v))) = wipeO i (r.out fun v => .nx ((F v).set i none)) := by
  cases r with
  | ok v =>
    show wipeO i (.nx (erR i a d l (F v))) = wipeO i (.nx ((F v).set i none))
    rw [wipe_erR]
    show _ = Out.nx (((F v).set i none).set i none)
    rw [List.set_set]
  | exc e => rfl
  | bad => rfl
end FE

namespace PL
open PySem L2 FE
/-! # Plain laws: what the semantics compute -/
section
variable {α β : Type}
@[simp] theorem ok_bind (a : α) (f : α → R β) : (R.ok a >>= f) = f a := (rfl)
@[simp] theorem exc_bind (e : Exn) (f : α → R β) : ((R.exc e : R α) >>= f) = .exc e := (rfl)
@[simp] theorem bad_bind (f : α → R β) : ((R.bad : R α) >>= f) = .bad := (rfl)
@[simp] theorem pure_ok (a : α) : (pure a : R α) = .ok a := (rfl)
@[simp] theorem of_some (a : α) : R.of (some a) = .ok a := (rfl)
@[simp] theorem of_none : R.of (none : Option α) = .bad := (rfl)
@[simp] theorem ok_out (a : α) (f : α → Out) : (R.ok a).out f = f a := (rfl)
@[simp] theorem exc_out (e : Exn) (f : α → Out) : (R.exc e : R α).out f = .exc e := (rfl)
end
section
variable {g h : Rho → Out} {ρ ρ' : Rho} {f f' f'' : Rho → R D} {i j : Nat} {d d' : D}
theorem seq_nx (hg : g ρ = .nx ρ') : seqS g h ρ = h ρ' := by unfold seqS; rw [hg]
theorem seq_ret (hg : g ρ = .ret d) : seqS g h ρ = .ret d := by unfold seqS; rw [hg]
theorem seq_exc {e : Exn} (hg : g ρ = .exc e) : seqS g h ρ = .exc e := by unfold seqS; rw [hg]
def seqO (o : Out) (h : Rho → Out) : Out := match o with
  | .nx ρ' => h ρ'
  | .ret d => .ret d
  | .exc e => .exc e
  | .bad => .bad
@[simp] theorem seqO_nx : seqO (.nx ρ') h = h ρ' := (rfl)
@[simp] theorem seqO_ret : seqO (.ret d) h = .ret d := (rfl)
@[simp] theorem seqO_exc {e : Exn} : seqO (.exc e) h = .exc e := (rfl)
@[simp] theorem seqO_bad : seqO .bad h = .bad := (rfl)
@[simp] theorem seq_ap : seqS g h ρ = seqO (g ρ) h := (rfl)
def resO (o : Out) : R D := match o with
  | .nx _ => .ok .none
  | .ret d => .ok d
  | .exc e => .exc e
  | .bad => .bad
@[simp] theorem resO_nx : resO (.nx ρ') = .ok .none := (rfl)
@[simp] theorem resO_ret : resO (.ret d) = .ok d := (rfl)
@[simp] theorem resO_exc {e : Exn} : resO (.exc e) = .exc e := (rfl)
@[simp] theorem resO_bad : resO .bad = .bad := (rfl)
@[simp] theorem body_ap {n : Nat} {ds : List D} : bodySem n g ds = resO (g (start0 n ds)) := (rfl)
@[simp] theorem seqO_ite {c : Prop} [Decidable c] {x y : Out} : seqO (if c then x else y) h = if c then seqO x h else seqO y h := by split <;> rfl
@[simp] theorem resO_ite {c : Prop} [Decidable c] {x y : Out} : resO (if c then x else y) = if c then resO x else resO y := by split <;> rfl
@[simp] theorem bind_ite {α β : Type} {c : Prop} [Decidable c] {x y : R α} {k : α → R β} : ((if c then x else y) >>= k) = if c then x >>= k else y >>= k := by split <;> rfl
@[simp] theorem out_ite {α : Type} {c : Prop} [Decidable c] {x y : R α} {k : α → Out} : (if c then x else y).out k = if c then x.out k else y.out k := by split <;> rfl
@[simp] theorem setF_ap : setF i f ρ = (f ρ).out fun d => .nx (ρ.set i (some (.sh d))) := (rfl)
@[simp] theorem setL_ap {f : Rho → R (List D)} : setL i f ρ = (f ρ).out fun d => .nx (ρ.set i (some (.ow d))) := (rfl)
@[simp] theorem retF_ap : retF f ρ = (f ρ).out .ret := (rfl)
@[simp] theorem dropF_ap : dropF f ρ = (f ρ).out fun _ => .nx ρ := (rfl)
@[simp] theorem ifS_ap {c : Rho → R Bool} : ifS c g h ρ = (c ρ).out fun b => if b = true then g ρ else h ρ := (rfl)
@[simp] theorem raiseF_ap {k : Nat} : raiseF k ρ = .exc ⟨k, none⟩ := (rfl)
@[simp] theorem unpF_ap {u : D → Rho → Option Rho} : unpF u f ρ = (f ρ).out fun d => match u d ρ with
  | some ρ' => .nx ρ'
  | none => .bad := (rfl)
@[simp] theorem parF_ap : parF i j f f' ρ = (f ρ).out fun a => (f' ρ).out fun b => .nx ((ρ.set i (some (.sh a))).set j (some (.sh b))) := (rfl)
@[simp] theorem gv_ap : gv i ρ = (match ρ[i]? with
  | some (some (.sh d)) => .ok d
  | some (some (.gr d)) => .ok d
  | _ => .bad) := (rfl)
@[simp] theorem go_ap : go i ρ = (match ρ[i]? with
  | some (some (.ow ds)) => .ok (.list ds)
  | _ => .bad) := (rfl)
@[simp] theorem op2_ap {k : D → D → Option D} : op2 k f f' ρ = (f ρ >>= fun x => f' ρ >>= fun y => R.of (k x y)) := (rfl)
@[simp] theorem fn1_ap {k : D → Option D} : fn1 k f ρ = (f ρ >>= fun x => R.of (k x)) := (rfl)
@[simp] theorem asB_ap : asB f ρ = (f ρ >>= fun d => R.of (bl? d)) := (rfl)
@[simp] theorem tru_ap : tru f ρ = (f ρ >>= fun d => R.of (tru? d)) := (rfl)
@[simp] theorem notT_ap {c : Rho → R Bool} : notT c ρ = (c ρ >>= fun b => .ok (!b)) := (rfl)
@[simp] theorem andT_ap {c c' : Rho → R Bool} : andT c c' ρ = (c ρ >>= fun b => if b = true then c' ρ else .ok false) := (rfl)
@[simp] theorem orT_ap {c c' : Rho → R Bool} : orT c c' ρ = (c ρ >>= fun b => if b = true then .ok true else c' ρ) := (rfl)
@[simp] theorem andV_ap : andV f f' ρ = (f ρ >>= fun d => R.of (bl? d) >>= fun b => if b = true then f' ρ else .ok (.bool false)) := (rfl)
@[simp] theorem orV_ap : orV f f' ρ = (f ρ >>= fun d => R.of (bl? d) >>= fun b => if b = true then .ok (.bool true) else f' ρ) := (rfl)
@[simp] theorem notV_ap : notV f ρ = (f ρ >>= fun d => R.of (tru? d) >>= fun b => .ok (.bool (!b))) := (rfl)
@[simp] theorem ifE_ap {c : Rho → R Bool} : ifE c f f' ρ = (c ρ >>= fun b => if b = true then f ρ else f' ρ) := (rfl)
@[simp] theorem chain_ap {k k' : D → D → Option D} : chain k k' f f' f'' ρ = (f ρ >>= fun x => f' ρ >>= fun y => R.of ((k x y).bind bl?) >>= fun b => if b = true then (f'' ρ >>= fun z => R.of (k' y z)) else .ok (.bool false)) := (rfl)
@[simp] theorem kI_ap {n : Int} : kI n ρ = .ok (.int n) := (rfl)
@[simp] theorem kB_ap {n : Bool} : kB n ρ = .ok (.bool n) := (rfl)
@[simp] theorem kS_ap {n : Str} : kS n ρ = .ok (.str n) := (rfl)
@[simp] theorem kN_ap : kN ρ = .ok .none := (rfl)
@[simp] theorem lE_ap {f : Rho → R (List D)} : lE f ρ = (f ρ >>= fun ds => .ok (.list ds)) := (rfl)
@[simp] theorem aN_ap : aN ρ = .ok [] := (rfl)
@[simp] theorem aC_ap {g : Rho → R (List D)} : aC f g ρ = (f ρ >>= fun d => g ρ >>= fun ds => .ok (d :: ds)) := (rfl)
@[simp] theorem tupF_ap {g : Rho → R (List D)} : tupF g ρ = (g ρ >>= fun ds => chk ds.length >>= fun _ => .ok (.tuple ds)) := (rfl)
@[simp] theorem lstF_ap {g : Rho → R (List D)} : lstF g ρ = (g ρ >>= fun ds => chk ds.length >>= fun _ => .ok ds) := (rfl)
@[simp] theorem nP_ap : nP ρ = .ok none := (rfl)
@[simp] theorem tT_ap : tT ρ = .ok true := (rfl)
@[simp] theorem someP_ap : someP f ρ = (f ρ >>= fun d => R.of (int? d) >>= fun i => .ok (some i)) := (rfl)
@[simp] theorem sliceF_ap {l u : Rho → R (Option Int)} : sliceF f l u ρ = (f ρ >>= fun d => l ρ >>= fun a => u ρ >>= fun b => R.of (sliceD d a b)) := (rfl)
@[simp] theorem callF_ap {n : Nat} {sem : List D → R D} {fA : Rho → R (List D)} : callF n sem fA ρ = (fA ρ >>= fun ds => if ds.length = n then sem ds else .bad) := (rfl)
@[simp] theorem seqF_ap : seqF f ρ = (f ρ >>= fun d => R.of (itemsOf d)) := (rfl)
@[simp] theorem listL_ap : listL f ρ = (f ρ >>= fun d => R.of (itemsOf d)) := (rfl)
theorem rng1_ok {j : Int} (hf : f ρ = .ok (.int j)) (hb : -(2 ^ 62) ≤ j ∧ j < 2 ^ 62) : rng1 f ρ = .ok (rangeD 0 j.toNat) := by
  unfold rng1
  rw [hf]
  show (if -(2 ^ 62) ≤ j ∧ j < 2 ^ 62 then pure (rangeD 0 j.toNat) else R.bad) = _
  rw [if_pos hb]; rfl
theorem rng2_ok {i j : Int} (hf : f ρ = .ok (.int i)) (hg : f' ρ = .ok (.int j)) (hb : -(2 ^ 62) ≤ i ∧ i < 2 ^ 62 ∧ -(2 ^ 62) ≤ j ∧ j < 2 ^ 62) : rng2 f f' ρ = .ok (rangeD i (j - i).toNat) := by
  unfold rng2
  rw [hf, hg]
  show (if -(2 ^ 62) ≤ i ∧ i < 2 ^ 62 ∧ -(2 ^ 62) ≤ j ∧ j < 2 ^ 62 then pure (rangeD i (j - i).toNat) else R.bad) = _
  rw [if_pos hb]; rfl
@[simp] theorem forF_ap {fi : Rho → R (List D)} {u : D → Rho → Option Rho} {body : Rho → Out} {vs : List Nat} : forF fi u body vs ρ = (fi ρ).out fun ds => forGo u body vs (wipeR ρ vs) ds := (rfl)
@[simp] theorem mutF_ap {m : List D → D → Option (List D)} : mutF i m f ρ = (match ρ[i]? with
  | some (some (.ow ds)) => (f ρ).out fun d => (match m ds d with
    | some es => .nx (ρ.set i (some (.ow es)))
    | none => .bad)
  | _ => .bad) := (rfl)
@[simp] theorem tg1_ap : tg1 i d ρ = some (ρ.set i (some (.sh d))) := (rfl)
@[simp] theorem tg2_ap : tg2 i j (.tuple [d, d']) ρ = some ((ρ.set i (some (.sh d))).set j (some (.sh d'))) := (rfl)
@[simp] theorem wipe0 : wipeR ρ [] = ρ := (rfl)
@[simp] theorem wipe1 {v : Nat} {vs : List Nat} : wipeR ρ (v :: vs) = (wipeR ρ vs).set v none := (rfl)
@[simp] theorem bl_bool {b : Bool} : bl? (.bool b) = some b := (rfl)
@[simp] theorem int_int {b : Int} : int? (.int b) = some b := (rfl)
@[simp] theorem tru_bool {b : Bool} : tru? (.bool b) = some b := (rfl)
@[simp] theorem tru_int {b : Int} : tru? (.int b) = some (b != 0) := (rfl)
@[simp] theorem tru_list {ds : List D} : tru? (.list ds) = some (!ds.isEmpty) := (rfl)
@[simp] theorem tru_tuple {ds : List D} : tru? (.tuple ds) = some (!ds.isEmpty) := (rfl)
@[simp] theorem items_list {ds : List D} : itemsOf (.list ds) = some ds := (rfl)
@[simp] theorem items_tuple {ds : List D} : itemsOf (.tuple ds) = some ds := (rfl)
@[simp] theorem lenD_list {ds : List D} : lenD (.list ds) = some (.int ds.length) := (rfl)
@[simp] theorem lenD_tuple {ds : List D} : lenD (.tuple ds) = some (.int ds.length) := (rfl)
@[simp] theorem addD_int {a b : Int} : addD (.int a) (.int b) = some (.int (a + b)) := (rfl)
@[simp] theorem subD_int {a b : Int} : subD (.int a) (.int b) = some (.int (a - b)) := (rfl)
@[simp] theorem cmpI_int {p : Int → Int → Bool} {a b : Int} : cmpI p (.int a) (.int b) = some (.bool (p a b)) := (rfl)
@[simp] theorem max2_int {a b : Int} : max2D (.int a) (.int b) = some (.int (if b > a then b else a)) := (rfl)
@[simp] theorem min2_int {a b : Int} : min2D (.int a) (.int b) = some (.int (if b < a then b else a)) := (rfl)
@[simp] theorem tupleD_list {ds : List D} : tupleD (.list ds) = some (.tuple ds) := (rfl)
@[simp] theorem tupleD_tuple {ds : List D} : tupleD (.tuple ds) = some (.tuple ds) := (rfl)
@[simp] theorem slice_list {ds : List D} {a b : Option Int} : sliceD (.list ds) a b = some (.list (cutL ds a b)) := (rfl)
@[simp] theorem slice_tuple {ds : List D} {a b : Option Int} : sliceD (.tuple ds) a b = some (.tuple (cutL ds a b)) := (rfl)
@[simp] theorem neg_int {a : Int} : negD (.int a) = some (.int (-a)) := (rfl)
theorem chk_ok {n : Nat} (h : n ≤ szMax) : chk n = .ok () := if_pos h
@[simp] theorem chk0 : chk 0 = .ok () := (rfl)
@[simp] theorem chk1 : chk 1 = .ok () := (rfl)
@[simp] theorem chk2 : chk 2 = .ok () := (rfl)
@[simp] theorem chk3 : chk 3 = .ok () := (rfl)
@[simp] theorem chk4 : chk 4 = .ok () := (rfl)
@[simp] theorem zipF_tup {xs ys : List D} (h1 : f ρ = .ok (.tuple xs)) (h2 : f' ρ = .ok (.tuple ys)) : zipF f f' ρ = .ok (zipD xs ys) := by unfold zipF; rw [h1, h2]; rfl
theorem idx_at {ds : List D} {n : Nat} {d : D} (h : ds[n]? = some d) : idxD (.tuple ds) (.int (n : Int)) = some d := by
  have hn : n < ds.length := (List.getElem?_eq_some_iff.mp h).1
  show L2.atI ds (n : Int) = some d
  unfold L2.atI ixN
  simp [hn]
  exact (List.getElem?_eq_some_iff.mp h).2
end
end PL

namespace PL
open PySem L2 FE
/-! ## more of the operations on data -/
def isIB : D → Bool
  | .int _ => true
  | .bool _ => true
  | _ => false
@[simp] theorem isIB_none : isIB (.none) = false := (rfl)
@[simp] theorem isIB_bool {x : Bool} : isIB (.bool x) = true := (rfl)
@[simp] theorem isIB_int {x : Int} : isIB (.int x) = true := (rfl)
@[simp] theorem isIB_str {x : Str} : isIB (.str x) = false := (rfl)
@[simp] theorem isIB_list {x : List D} : isIB (.list x) = false := (rfl)
@[simp] theorem isIB_dict {x : List (D × D)} : isIB (.dict x) = false := (rfl)
@[simp] theorem isIB_tuple {x : List D} : isIB (.tuple x) = false := (rfl)
def isBo : D → Bool
  | .bool _ => true
  | _ => false
@[simp] theorem isBo_none : isBo (.none) = false := (rfl)
@[simp] theorem isBo_bool {x : Bool} : isBo (.bool x) = true := (rfl)
@[simp] theorem isBo_int {x : Int} : isBo (.int x) = false := (rfl)
@[simp] theorem isBo_str {x : Str} : isBo (.str x) = false := (rfl)
@[simp] theorem isBo_list {x : List D} : isBo (.list x) = false := (rfl)
@[simp] theorem isBo_dict {x : List (D × D)} : isBo (.dict x) = false := (rfl)
@[simp] theorem isBo_tuple {x : List D} : isBo (.tuple x) = false := (rfl)
def isTu : D → Bool
  | .tuple _ => true
  | _ => false
@[simp] theorem isTu_none : isTu (.none) = false := (rfl)
@[simp] theorem isTu_bool {x : Bool} : isTu (.bool x) = false := (rfl)
@[simp] theorem isTu_int {x : Int} : isTu (.int x) = false := (rfl)
@[simp] theorem isTu_str {x : Str} : isTu (.str x) = false := (rfl)
@[simp] theorem isTu_list {x : List D} : isTu (.list x) = false := (rfl)
@[simp] theorem isTu_dict {x : List (D × D)} : isTu (.dict x) = false := (rfl)
@[simp] theorem isTu_tuple {x : List D} : isTu (.tuple x) = true := (rfl)
@[simp] theorem isi_int : ∀ d : D, isiD "int" d = some (.bool (isIB d))
  | .none => by first | rfl | decide +kernel
  | .bool _ => by first | rfl | decide +kernel
  | .int _ => by first | rfl | decide +kernel
  | .str _ => by first | rfl | decide +kernel
  | .list _ => by first | rfl | decide +kernel
  | .tuple _ => by first | rfl | decide +kernel
  | .dict _ => by first | rfl | decide +kernel
@[simp] theorem isi_bool : ∀ d : D, isiD "bool" d = some (.bool (isBo d))
  | .none => by first | rfl | decide +kernel
  | .bool _ => by first | rfl | decide +kernel
  | .int _ => by first | rfl | decide +kernel
  | .str _ => by first | rfl | decide +kernel
  | .list _ => by first | rfl | decide +kernel
  | .tuple _ => by first | rfl | decide +kernel
  | .dict _ => by first | rfl | decide +kernel
@[simp] theorem isi_tuple : ∀ d : D, isiD "tuple" d = some (.bool (isTu d))
  | .none => by first | rfl | decide +kernel
  | .bool _ => by first | rfl | decide +kernel
  | .int _ => by first | rfl | decide +kernel
  | .str _ => by first | rfl | decide +kernel
  | .list _ => by first | rfl | decide +kernel
  | .tuple _ => by first | rfl | decide +kernel
  | .dict _ => by first | rfl | decide +kernel
@[simp] theorem eqD_int {a b : Int} : eqD (.int a) (.int b) = some (.bool (a == b)) := (rfl)
@[simp] theorem neD_int {a b : Int} : neD (.int a) (.int b) = some (.bool (!(a == b))) := (rfl)
@[simp] theorem eqD_bool {a b : Bool} : eqD (.bool a) (.bool b) = some (.bool (a == b)) := (rfl)
@[simp] theorem neD_bool {a b : Bool} : neD (.bool a) (.bool b) = some (.bool (!(a == b))) := (rfl)
theorem eqD_str {a b : Str} (h : SeqAt.shaped (.str a) = true) (k : SeqAt.shaped (.str b) = true) : eqD (.str a) (.str b) = some (.bool (a == b)) := if_pos ⟨h, k⟩
theorem neD_str {a b : Str} (h : SeqAt.shaped (.str a) = true) (k : SeqAt.shaped (.str b) = true) : neD (.str a) (.str b) = some (.bool (!(a == b))) := if_pos ⟨h, k⟩
theorem modD_int {a b : Int} (h : 0 < b) : modD (.int a) (.int b) = some (.int (a % b)) := if_pos h
theorem fdivD_int {a b : Int} (h : 0 < b ∧ b < 1073741824) : fdivD (.int a) (.int b) = some (.int (a / b)) := if_pos h
/-! ### ints in a row -/
def iL (ns : List Int) : List D := ns.map .int
@[simp] theorem iL_len {ns : List Int} : (iL ns).length = ns.length := by unfold iL; rw [List.length_map]
@[simp] theorem iL_emp {ns : List Int} : (iL ns).isEmpty = ns.isEmpty := by unfold iL; cases ns <;> rfl
theorem iL_eq (ns : List Int) : iL ns = ns.map .int := rfl
theorem iL_app (a b : List Int) : iL (a ++ b) = iL a ++ iL b := by unfold iL; rw [List.map_append]
theorem lay_ints : ∀ ns : List Int, PyData.canLayAll0 (iL ns) = true
  | [] => rfl
  | n :: ns => by
    show (true && PyData.canLayAll0 (iL ns)) = true
    rw [lay_ints ns]; rfl
theorem depth_ints : ∀ ns : List Int, PyData.depthAll (iL ns) = 0
  | [] => rfl
  | n :: ns => by
    show max 0 (PyData.depthAll (iL ns)) = 0
    rw [depth_ints ns]; rfl
theorem shaped_li (ns : List Int) : SeqAt.shaped (.list (iL ns)) = true := by
  show (PyData.canLayAll0 (iL ns) && decide (PyData.depthAll (iL ns) + 1 ≤ 64)) = true
  rw [lay_ints, depth_ints]; rfl
theorem shaped_ti (ns : List Int) : SeqAt.shaped (.tuple (iL ns)) = true := by
  show (PyData.canLayAll0 (iL ns) && decide (PyData.depthAll (iL ns) + 1 ≤ 64)) = true
  rw [lay_ints, depth_ints]; rfl
theorem eqvAll_ints : ∀ ns ms : List Int, PyData.eqvAll (iL ns) (iL ms) = (ns == ms)
  | [], [] => rfl
  | [], _ :: _ => rfl
  | _ :: _, [] => rfl
  | n :: ns, m :: ms => by
    show ((n == m) && PyData.eqvAll (iL ns) (iL ms)) = ((n :: ns) == (m :: ms))
    rw [eqvAll_ints ns ms]; rfl
@[simp] theorem eqD_li {ns ms : List Int} : eqD (.list (iL ns)) (.list (iL ms)) = some (.bool (ns == ms)) := by
  unfold eqD
  rw [if_pos ⟨shaped_li ns, shaped_li ms⟩]
  show some (PyData.bool (PyData.eqvAll (iL ns) (iL ms))) = _
  rw [eqvAll_ints]
@[simp] theorem neD_li {ns ms : List Int} : neD (.list (iL ns)) (.list (iL ms)) = some (.bool (!(ns == ms))) := by
  unfold neD
  rw [if_pos ⟨shaped_li ns, shaped_li ms⟩]
  show some (PyData.bool (!PyData.eqvAll (iL ns) (iL ms))) = _
  rw [eqvAll_ints]
@[simp] theorem eqD_ti {ns ms : List Int} : eqD (.tuple (iL ns)) (.tuple (iL ms)) = some (.bool (ns == ms)) := by
  unfold eqD
  rw [if_pos ⟨shaped_ti ns, shaped_ti ms⟩]
  show some (PyData.bool (PyData.eqvAll (iL ns) (iL ms))) = _
  rw [eqvAll_ints]
@[simp] theorem neD_ti {ns ms : List Int} : neD (.tuple (iL ns)) (.tuple (iL ms)) = some (.bool (!(ns == ms))) := by
  unfold neD
  rw [if_pos ⟨shaped_ti ns, shaped_ti ms⟩]
  show some (PyData.bool (!PyData.eqvAll (iL ns) (iL ms))) = _
  rw [eqvAll_ints]
theorem memD_ints {v : Int} {ns : List Int} : memD (.int v) (iL ns) = decide (v ∈ ns) := by
  unfold memD
  rw [iL_eq, List.any_map, Bool.eq_iff_iff, List.any_eq_true, decide_eq_true_eq]
  constructor
  · rintro ⟨x, hx, e⟩
    have e' : (x == v) = true := e
    rw [← eq_of_beq e']; exact hx
  · intro h
    exact ⟨v, h, beq_self_eq_true v⟩
@[simp] theorem inD_ti {v : Int} {ns : List Int} : inD false (.int v) (.tuple (iL ns)) = some (.bool (decide (v ∈ ns))) := by
  unfold inD
  rw [if_pos ⟨rfl, shaped_ti ns⟩]
  show some (PyData.bool (memD (.int v) (iL ns))) = _
  rw [memD_ints]
@[simp] theorem ninD_ti {v : Int} {ns : List Int} : inD true (.int v) (.tuple (iL ns)) = some (.bool (!decide (v ∈ ns))) := by
  unfold inD
  rw [if_pos ⟨rfl, shaped_ti ns⟩]
  show some (PyData.bool (!memD (.int v) (iL ns))) = _
  rw [memD_ints]
@[simp] theorem inD_li {v : Int} {ns : List Int} : inD false (.int v) (.list (iL ns)) = some (.bool (decide (v ∈ ns))) := by
  unfold inD
  rw [if_pos ⟨rfl, shaped_li ns⟩]
  show some (PyData.bool (memD (.int v) (iL ns))) = _
  rw [memD_ints]
@[simp] theorem ninD_li {v : Int} {ns : List Int} : inD true (.int v) (.list (iL ns)) = some (.bool (!decide (v ∈ ns))) := by
  unfold inD
  rw [if_pos ⟨rfl, shaped_li ns⟩]
  show some (PyData.bool (!memD (.int v) (iL ns))) = _
  rw [memD_ints]
theorem int_range (lo : Int) (n : Nat) : rangeD lo n = iL ((List.range n).map fun i : Nat => lo + (i : Int)) := by
  unfold rangeD iL; rw [List.map_map]; rfl
/-- 0, .., n - 1 -/
def up (n : Int) : List Int := (List.range n.toNat).map fun i : Nat => (i : Int)
theorem range_up (n : Int) : rangeD 0 n.toNat = iL (up n) := by
  rw [int_range]; unfold up; simp
theorem mem_up {n v : Int} : v ∈ up n ↔ 0 ≤ v ∧ v < n := by
  unfold up
  rw [List.mem_map]
  constructor
  · rintro ⟨i, hi, rfl⟩
    rw [List.mem_range] at hi
    omega
  · rintro ⟨h1, h2⟩
    exact ⟨v.toNat, List.mem_range.mpr (by omega), by omega⟩
theorem up_len (n : Int) : (up n).length = n.toNat := by unfold up; simp
theorem up_sorted (n : Int) : (up n).Pairwise (· < ·) := by
  unfold up
  rw [List.pairwise_map]
  exact List.pairwise_lt_range.imp fun h => by exact_mod_cast h
theorem rng1_up {f : Rho → R D} {ρ : Rho} {j : Int} (hf : f ρ = .ok (.int j)) (hb : -1000000 ≤ j ∧ j ≤ 1000000) : rng1 f ρ = .ok (iL (up j)) := by
  rw [rng1_ok hf (by omega), range_up]
theorem szMax_eq : szMax = 8000000 := rfl
/-! ## comprehensions, loops over images -/
section
variable {α S : Type} {fi : Rho → R (List D)} {u : D → Rho → Option Rho} {t : Rho → R Bool} {e : Rho → R D} {vs : List Nat} {ρ : Rho}
theorem lcGo_map {xs : List α} {g f : α → D} {p : α → Bool} {r : α → Rho} (h : ∀ x ∈ xs, u (g x) ρ = some (r x) ∧ t (r x) = .ok (p x) ∧ (p x = true → e (r x) = .ok (f x))) : lcGo u t e ρ (xs.map g) = .ok ((xs.filter p).map f) := by
  induction xs with
  | nil => rfl
  | cons x xs ih =>
    obtain ⟨h1, h2, h3⟩ := h x List.mem_cons_self
    have ih := ih fun y hy => h y (List.mem_cons_of_mem _ hy)
    rw [List.map_cons]
    unfold lcGo
    rw [h1]
    simp only
    rw [h2]
    cases hp : p x with
    | true =>
      simp only
      rw [h3 hp, ih, List.filter_cons_of_pos hp]
      rfl
    | false =>
      simp only
      rw [ih, List.filter_cons_of_neg (by rw [hp]; decide)]
theorem lcF_map {xs : List α} {g f : α → D} {p : α → Bool} (r : α → Rho) (hi : fi ρ = .ok (xs.map g)) (hl : xs.length ≤ szMax) (h : ∀ x ∈ xs, u (g x) (wipeR ρ vs) = some (r x) ∧ t (r x) = .ok (p x) ∧ (p x = true → e (r x) = .ok (f x))) :
    lcF fi u t e vs ρ = .ok ((xs.filter p).map f) := by
  unfold lcF
  rw [hi]
  simp only [ok_bind]
  rw [List.length_map, chk_ok hl]
  exact lcGo_map h
/-- a loop that no turn leaves: a state is carried on -/
theorem forGo_fold {xs : List α} {g : α → D} {body : Rho → Out} {enc : S → Rho} {step : S → α → S} (I : S → Prop) : ∀ s : S, I s → (∀ s x, I s → x ∈ xs → I (step s x) ∧ ∃ ρ' ρ'', u (g x) (enc s) = some ρ' ∧ body ρ' = .nx ρ'' ∧ wipeR ρ'' vs = enc (step s x)) →
    forGo u body vs (enc s) (xs.map g) = .nx (enc (xs.foldl step s)) := by
  induction xs with
  | nil => intro s _ _; rfl
  | cons x xs ih =>
    intro s hs h
    obtain ⟨h0, ρ', ρ'', h1, h2, h3⟩ := h s x hs List.mem_cons_self
    rw [List.map_cons, List.foldl_cons]
    unfold forGo
    rw [h1]
    simp only
    rw [h2]
    simp only
    rw [h3]
    exact ih _ h0 fun s y hs hy => h s y hs (List.mem_cons_of_mem _ hy)
/-- .. that changes nothing -/
theorem forGo_same {xs : List α} {g : α → D} {body : Rho → Out} (h : ∀ x ∈ xs, ∃ ρ' ρ'', u (g x) ρ = some ρ' ∧ body ρ' = .nx ρ'' ∧ wipeR ρ'' vs = ρ) : forGo u body vs ρ (xs.map g) = .nx ρ :=
  forGo_fold (S := Unit) (enc := fun _ => ρ) (step := fun s _ => s) (fun _ => True) () trivial fun _ x _ hx => ⟨trivial, h x hx⟩
end
end PL

namespace PL
open PySem L2 FE
/-! ## edges -/
abbrev Ed := Int × Int
def eD (e : Ed) : D := .tuple [.int e.1, .int e.2]
def ltE (a b : Ed) : Bool := decide (a.1 < b.1) || (decide (a.1 = b.1) && decide (a.2 < b.2))
def gD (n : Int) (es : List Ed) : D := .tuple [.int n, .tuple (es.map eD)]
def iD (ns : List Int) : D := .tuple (iL ns)
theorem eD_i (e : Ed) : eD e = .tuple (iL [e.1, e.2]) := rfl
theorem cmp_int (i j : Int) : compare i j = if i < j then .lt else if i = j then .eq else .gt := by
  simp only [compare, compareOfLessAndEq]
theorem ord_eD (a b : Ed) : ordO (eD a) (eD b) = (compare a.1 b.1).then (compare a.2 b.2) := by
  unfold eD
  simp [ordO, ordL]
theorem ordOk_eD (a b : Ed) : ordOk (eD a) (eD b) = true := by
  unfold ordOk eD
  simp [od, odL, like, likeL, PyData.depth, PyData.depthAll]
theorem isGt_eD (a b : Ed) : isGt (ordO (eD a) (eD b)) = ltE b a := by
  rw [ord_eD, cmp_int, cmp_int]
  unfold ltE
  by_cases h1 : a.1 < b.1
  · have h2 : ¬ b.1 < a.1 := by omega
    have h3 : ¬ b.1 = a.1 := by omega
    simp [h1, h2, h3, isGt]
  · by_cases h2 : a.1 = b.1
    · by_cases h3 : a.2 < b.2
      · have h4 : ¬ b.2 < a.2 := by omega
        simp [h2, h3, h4, isGt]
      · by_cases h4 : a.2 = b.2
        · simp [h2, h4, isGt]
        · have h5 : b.2 < a.2 := by omega
          simp [h2, h3, h4, h5, isGt]
    · have h3 : b.1 < a.1 := by omega
      simp [h1, h2, h3, isGt]
theorem isLt_eD (a b : Ed) : isLt (ordO (eD a) (eD b)) = ltE a b := by
  rw [ord_eD, cmp_int, cmp_int]
  unfold ltE
  by_cases h1 : a.1 < b.1
  · simp [h1, isLt]
  · by_cases h2 : a.1 = b.1
    · by_cases h3 : a.2 < b.2
      · simp [h2, h3, isLt]
      · by_cases h4 : a.2 = b.2
        · simp [h2, h4, isLt]
        · simp [h2, h3, h4, isLt]
    · simp [h1, h2, isLt]
theorem gtA_eD (a b : Ed) : gtA (eD a) (eD b) = some (.bool (ltE b a)) := by
  unfold gtA
  rw [if_pos (ordOk_eD a b), isGt_eD]
theorem cut1 {α : Type} (xs : List α) : cutL xs (some 1) none = xs.drop 1 := by
  unfold cutL
  have h1 : HT.sIx xs.length xs.length none = xs.length := rfl
  have h2 : HT.sIx xs.length 0 (some 1) = min 1 xs.length := by
    simp [HT.sIx]
  rw [h1, h2]
  cases xs with
  | nil => rfl
  | cons x xs => 
    have : min 1 (x :: xs).length = 1 := by simp
    rw [this]
    simp
theorem zip_map {α β : Type} (f : α → D) (g : β → D) : ∀ (xs : List α) (ys : List β), zipD (xs.map f) (ys.map g) = (xs.zip ys).map fun p => .tuple [f p.1, g p.2]
  | [], _ => rfl
  | _ :: _, [] => rfl
  | x :: xs, y :: ys => by
    show PyData.tuple [f x, g y] :: zipD (xs.map f) (ys.map g) = _
    rw [zip_map f g xs ys]; rfl
/-- each next to its follower -/
def adj {α : Type} (xs : List α) : List (α × α) := xs.zip (xs.drop 1)
theorem zip_adj {α : Type} (f : α → D) (xs : List α) : zipD (xs.map f) (cutL (xs.map f) (some 1) none) = (adj xs).map fun p => .tuple [f p.1, f p.2] := by
  rw [cut1, ← List.map_drop, zip_map]; rfl
theorem adj_len {α : Type} (xs : List α) : (adj xs).length ≤ xs.length := by
  unfold adj; rw [List.length_zip]; exact Nat.min_le_left _ _
theorem adj_cons {α : Type} (x y : α) (xs : List α) : adj (x :: y :: xs) = (x, y) :: adj (y :: xs) := rfl
/-- a chain of neighbours -/
theorem adj_pairwise {α : Type} {r : α → α → Prop} (tr : ∀ a b c, r a b → r b c → r a c) : ∀ {xs : List α}, (∀ p ∈ adj xs, r p.1 p.2) ↔ xs.Pairwise r
  | [] => ⟨fun _ => List.Pairwise.nil, fun _ p hp => by cases hp⟩
  | [x] => ⟨fun _ => List.pairwise_singleton _ _, fun _ p hp => by cases hp⟩
  | x :: y :: xs => by
    rw [adj_cons]
    constructor
    · intro h
      have h1 : r x y := h _ List.mem_cons_self
      have h2 := (adj_pairwise tr (xs := y :: xs)).mp fun p hp => h p (List.mem_cons_of_mem _ hp)
      refine List.pairwise_cons.mpr ⟨fun z hz => ?_, h2⟩
      rcases List.mem_cons.mp hz with e | hz
      · rw [e]; exact h1
      · exact tr _ _ _ h1 ((List.pairwise_cons.mp h2).1 z hz)
    · intro h p hp
      obtain ⟨h1, h2⟩ := List.pairwise_cons.mp h
      rcases List.mem_cons.mp hp with e | hp
      · rw [e]; exact h1 y List.mem_cons_self
      · exact (adj_pairwise tr (xs := y :: xs)).mpr h2 p hp
/-- no more distinct ones than there are -/
theorem nodup_len {α : Type} [DecidableEq α] : ∀ (l m : List α), l.Nodup → (∀ x ∈ l, x ∈ m) → l.length ≤ m.length
  | [], _, _, _ => Nat.zero_le _
  | x :: l, m, hn, hs => by
    obtain ⟨a, b⟩ := List.nodup_cons.mp hn
    have hx := hs x List.mem_cons_self
    have ih := nodup_len l (m.erase x) b fun y hy => (List.mem_erase_of_ne fun e => a (by rw [← e]; exact hy)).mpr (hs y (List.mem_cons_of_mem _ hy))
    rw [List.length_erase_of_mem hx] at ih
    have := List.length_pos_of_mem hx
    simp only [List.length_cons]
    omega
/-- not above -/
def leE (a b : Ed) : Prop := a.1 < b.1 ∨ (a.1 = b.1 ∧ a.2 ≤ b.2)
theorem leE_iff {a b : Ed} : leE a b ↔ ltE b a = false := by
  unfold leE ltE
  rw [Bool.eq_false_iff, ne_eq, Bool.or_eq_true, Bool.and_eq_true, decide_eq_true_eq, decide_eq_true_eq, decide_eq_true_eq]
  omega
theorem leE_trans {a b c : Ed} (h1 : leE a b) (h2 : leE b c) : leE a c := by
  unfold leE at *; omega
/-- a graph as the text wants it -/
structure VG (n : Int) (es : List Ed) : Prop where
  n2 : 2 ≤ n
  n6 : n ≤ 6
  few : es.length ≤ 9
  ok : ∀ e ∈ es, 0 ≤ e.1 ∧ e.1 < e.2 ∧ e.2 < n
  srt : es.Pairwise leE
theorem len_le_sz {α : Type} {xs : List α} {k : Nat} (h : xs.length ≤ k) (hk : k ≤ 8000000) : xs.length ≤ szMax := Nat.le_trans h hk
def deg (es : List Ed) (v : Int) : Nat := (es.filter fun e => decide (v ∈ [e.1, e.2])).length
def lv (es : List Ed) (S : List Int) : Nat := (es.filter fun e => !(decide (e.1 ∈ S) == decide (e.2 ∈ S))).length
@[simp] theorem isTu_g {n : Int} {es : List Ed} : isTu (gD n es) = true := rfl
@[simp] theorem isTu_e {e : Ed} : isTu (eD e) = true := rfl
@[simp] theorem isTu_i {ns : List Int} : isTu (iD ns) = true := rfl
@[simp] theorem len_g {n : Int} {es : List Ed} : lenD (gD n es) = some (.int 2) := rfl
@[simp] theorem len_e {e : Ed} : lenD (eD e) = some (.int 2) := rfl
@[simp] theorem len_i {ns : List Int} : lenD (iD ns) = some (.int ns.length) := by unfold iD; simp
@[simp] theorem idx_g0 {n : Int} {es : List Ed} : idxD (gD n es) (.int 0) = some (.int n) := idx_at (n := 0) rfl
@[simp] theorem idx_g1 {n : Int} {es : List Ed} : idxD (gD n es) (.int 1) = some (.tuple (es.map eD)) := idx_at (n := 1) rfl
@[simp] theorem idx_e0 {e : Ed} : idxD (eD e) (.int 0) = some (.int e.1) := idx_at (n := 0) rfl
@[simp] theorem idx_e1 {e : Ed} : idxD (eD e) (.int 1) = some (.int e.2) := idx_at (n := 1) rfl
@[simp] theorem inD_e {v : Int} {e : Ed} : inD false (.int v) (eD e) = some (.bool (decide (v ∈ [e.1, e.2]))) := inD_ti (ns := [e.1, e.2])
@[simp] theorem inD_iD {v : Int} {ns : List Int} : inD false (.int v) (iD ns) = some (.bool (decide (v ∈ ns))) := inD_ti
@[simp] theorem ninD_iD {v : Int} {ns : List Int} : inD true (.int v) (iD ns) = some (.bool (!decide (v ∈ ns))) := ninD_ti
end PL

namespace PL
open PySem L2 FE
/-! ## loops, told turn by turn -/
section
variable {α S : Type} {u : D → Rho → Option Rho} {vs : List Nat} {body : Rho → Out} {g : α → D} {enc : S → Rho}
theorem forGo_from (I : Nat → S → Prop) : ∀ (xs : List α) (k : Nat) (s : S), I k s →
    (∀ j s x, I (k + j) s → xs[j]? = some x → ∃ s', I (k + j + 1) s' ∧ ∃ ρ' ρ'', u (g x) (enc s) = some ρ' ∧ body ρ' = .nx ρ'' ∧ wipeR ρ'' vs = enc s') →
    ∃ s', I (k + xs.length) s' ∧ forGo u body vs (enc s) (xs.map g) = .nx (enc s')
  | [], k, s, hs, _ => ⟨s, hs, rfl⟩
  | x :: xs, k, s, hs, h => by
    obtain ⟨s1, h0, ρ', ρ'', h1, h2, h3⟩ := h 0 s x hs rfl
    obtain ⟨s2, k0, k1⟩ := forGo_from I xs (k + 1) s1 h0 fun j s y hs hy => by
      have := h (j + 1) s y (by rw [show k + (j + 1) = k + 1 + j by omega]; exact hs) (by simpa using hy)
      rw [show k + (j + 1) + 1 = k + 1 + j + 1 by omega] at this
      exact this
    refine ⟨s2, by rw [List.length_cons, show k + (xs.length + 1) = k + 1 + xs.length by omega]; exact k0, ?_⟩
    rw [List.map_cons]
    unfold forGo
    rw [h1]
    simp only
    rw [h2]
    simp only
    rw [h3]
    exact k1
theorem forGo_run (I : Nat → S → Prop) (xs : List α) (s : S) (hs : I 0 s) (h : ∀ j s x, I j s → xs[j]? = some x → ∃ s', I (j + 1) s' ∧ ∃ ρ' ρ'', u (g x) (enc s) = some ρ' ∧ body ρ' = .nx ρ'' ∧ wipeR ρ'' vs = enc s') :
    ∃ s', I xs.length s' ∧ forGo u body vs (enc s) (xs.map g) = .nx (enc s') := by
  obtain ⟨s', h1, h2⟩ := forGo_from (u := u) (vs := vs) (body := body) (g := g) (enc := enc) I xs 0 s hs fun j s x hs hx => by
    rw [Nat.zero_add] at hs ⊢
    exact h j s x hs hx
  rw [Nat.zero_add] at h1
  exact ⟨s', h1, h2⟩
end
theorem pow18 : powD (.int 10) (.int 18) = some (.int 1000000000000000000) := by
  have h : (0 : Int) ≤ 18 ∧ (18 : Int) ≤ 1000000 ∧ (10 : Int).natAbs < 2 ^ 64 := by decide
  have e : powD (.int 10) (.int 18) = if (0 : Int) ≤ 18 ∧ (18 : Int) ≤ 1000000 ∧ (10 : Int).natAbs < 2 ^ 64 then some (.int ((10 : Int) ^ (18 : Int).toNat)) else none := rfl
  rw [e, if_pos h]
  rfl
/-! ## ints from a list -/
/-- the k-th, or 0 -/
def nth0 (ns : List Int) (k : Nat) : Int := ns.getD k 0

theorem idx_li {ns : List Int} {k : Int} (h0 : 0 ≤ k) (h1 : k < ns.length) : idxD (.list (iL ns)) (.int k) = some (.int (nth0 ns k.toNat)) := by
  have hk : k.toNat < ns.length := by omega
  show L2.atI (iL ns) k = _
  unfold L2.atI ixN
  rw [if_pos h0, if_pos (by rw [iL_len]; exact h1)]
  show (iL ns)[k.toNat]? = _
  unfold nth0
  rw [iL_eq, List.getElem?_map, List.getElem?_eq_getElem hk, List.getD_eq_getElem?_getD, List.getElem?_eq_getElem hk]
  rfl
theorem idx_ti {ns : List Int} {k : Int} (h0 : 0 ≤ k) (h1 : k < ns.length) : idxD (.tuple (iL ns)) (.int k) = some (.int (nth0 ns k.toNat)) := idx_li h0 h1
theorem nth_mem {ns : List Int} {k : Nat} (h : k < ns.length) : nth0 ns k ∈ ns := by
  unfold nth0
  rw [List.getD_eq_getElem?_getD, List.getElem?_eq_getElem h]
  exact List.getElem_mem h
theorem mulD_l {a b : Int} (h : -(2 ^ 64) < a ∧ a < 2 ^ 64) : mulD (.int a) (.int b) = some (.int (a * b)) := if_pos (Or.inl h)
theorem mulD_r {a b : Int} (h : -(2 ^ 64) < b ∧ b < 2 ^ 64) : mulD (.int a) (.int b) = some (.int (a * b)) := if_pos (Or.inr h)
theorem addD_li {a b : List Int} (h : a.length + b.length ≤ szMax) : addD (.list (iL a)) (.list (iL b)) = some (.list (iL (a ++ b))) := by
  show (if (iL a).length + (iL b).length ≤ szMax then some (PyData.list (iL a ++ iL b)) else none) = _
  rw [if_pos (by simpa using h)]; unfold iL; rw [List.map_append]
theorem addD_ti {a b : List Int} (h : a.length + b.length ≤ szMax) : addD (.tuple (iL a)) (.tuple (iL b)) = some (.tuple (iL (a ++ b))) := by
  show (if (iL a).length + (iL b).length ≤ szMax then some (PyData.tuple (iL a ++ iL b)) else none) = _
  rw [if_pos (by simpa using h)]; unfold iL; rw [List.map_append]
/-! ## sorting ints, edges -/
theorem isort_int (ns : List Int) : ∃ ms : List Int, isort (iL ns) = iL ms ∧ ms.Perm ns ∧ ms.Pairwise (· ≤ ·) := by
  have h : ∃ ms : List Int, isort (iL ns) = iL ms := by
    induction ns with
    | nil => exact ⟨[], rfl⟩
    | cons n ns ih =>
      obtain ⟨ms, e⟩ := ih
      obtain ⟨ks, e2⟩ := insD_ints n ms
      exact ⟨ks, by show insD (.int n) (isort (iL ns)) = _; rw [e, iL_eq, e2]; rfl⟩
  obtain ⟨ms, e⟩ := h
  have p := isort_perm (iL ns)
  rw [e] at p
  have inj : ∀ {a b : List Int}, (iL a).Perm (iL b) → a.Perm b := fun {a b} p => by
    have := p.map asInt
    rw [iL_eq, iL_eq, List.map_map, List.map_map] at this
    have id' : ∀ l : List Int, l.map (asInt ∘ PyData.int) = l := fun l => by
      induction l with
      | nil => rfl
      | cons x l ih => rw [List.map_cons, ih]; rfl
    rw [id', id'] at this
    exact this
  have s := isort_sorted (l := iL ns) (od_int_map ns)
  rw [e, iL_eq, List.pairwise_map] at s
  exact ⟨ms, e, inj p, s.imp fun h => le_leD.mp h⟩
theorem sortOk_ints (ns : List Int) : sortOk (iL ns) = true := by
  unfold sortOk
  rw [Bool.or_eq_true]
  left
  rw [List.all_eq_true]
  intro x hx
  obtain ⟨n, _, rfl⟩ := List.mem_map.mp hx
  rfl
theorem sortD_li {ns : List Int} : ∃ ms : List Int, sortD (.list (iL ns)) = some (.list (iL ms)) ∧ ms.Perm ns ∧ ms.Pairwise (· ≤ ·) := by
  obtain ⟨ms, e, h⟩ := isort_int ns
  refine ⟨ms, ?_, h⟩
  show (if sortOk (iL ns) = true then some (PyData.list (isort (iL ns))) else none) = _
  rw [if_pos (sortOk_ints ns), e]
theorem ints_iL : ∀ ns : List Int, ints? (iL ns) = some ns
  | [] => rfl
  | n :: ns => by
    show (ints? (iL ns)).map (n :: ·) = _
    rw [ints_iL ns]; rfl
theorem sortset_li {ns : List Int} (h : ns.length ≤ 60) : ∃ ms : List Int, sortsetD (.list (iL ns)) = some (.list (iL ms)) ∧ (∀ v, v ∈ ms ↔ v ∈ ns) ∧ ms.Pairwise (· < ·) := by
  obtain ⟨ms, e, p, s⟩ := isort_int (dd ns)
  refine ⟨ms, ?_, fun v => by rw [p.mem_iff, mem_dd], ?_⟩
  · unfold sortsetD seqInts
    simp only [ints_iL]
    rw [if_pos h]
    exact congrArg (fun z => some (PyData.list z)) e
  · have nd : ms.Nodup := p.nodup_iff.mpr (dd_nodup ns)
    exact (s.and nd).imp fun ⟨a, b⟩ => by omega
theorem ltE_insD (x : Ed) : ∀ es : List Ed, ∃ fs : List Ed, insD (eD x) (es.map eD) = fs.map eD
  | [] => ⟨[x], rfl⟩
  | e :: es => by
    rw [List.map_cons]
    unfold insD
    split
    · obtain ⟨fs, h⟩ := ltE_insD x es
      exact ⟨e :: fs, by rw [h]; rfl⟩
    · exact ⟨x :: e :: es, rfl⟩
theorem eD_inj {a b : Ed} (h : eD a = eD b) : a = b := by
  unfold eD at h
  injection h with h
  injection h with h1 h
  injection h with h2 _
  injection h1 with h1
  injection h2 with h2
  exact Prod.ext h1 h2
theorem od_eD (e : Ed) : od (eD e) = true := rfl
theorem isort_ed (es : List Ed) : ∃ fs : List Ed, isort (es.map eD) = fs.map eD ∧ fs.Perm es ∧ fs.Pairwise leE := by
  have h : ∃ fs : List Ed, isort (es.map eD) = fs.map eD := by
    induction es with
    | nil => exact ⟨[], rfl⟩
    | cons n ns ih =>
      obtain ⟨ms, e⟩ := ih
      obtain ⟨ks, e2⟩ := ltE_insD n ms
      exact ⟨ks, by show insD (eD n) (isort (ns.map eD)) = _; rw [e, e2]⟩
  obtain ⟨fs, e⟩ := h
  have p := isort_perm (es.map eD)
  rw [e] at p
  have un : ∀ l : List Ed, (l.map eD).map (fun d => match d with
      | .tuple [.int a, .int b] => ((a, b) : Ed)
      | _ => (0, 0)) = l := fun l => by
    induction l with
    | nil => rfl
    | cons x l ih => rw [List.map_cons, List.map_cons, ih]; rfl
  have p2 : fs.Perm es := by
    have := p.map (fun d => match d with
      | .tuple [.int a, .int b] => ((a, b) : Ed)
      | _ => (0, 0))
    rw [un, un] at this
    exact this
  have s := isort_sorted (l := es.map eD) fun y hy => by obtain ⟨z, _, rfl⟩ := List.mem_map.mp hy; rfl
  rw [e, List.pairwise_map] at s
  exact ⟨fs, e, p2, s.imp fun {a b} h => leE_iff.mpr (by rw [← isLt_eD]; exact h)⟩
theorem sortOk_ed (es : List Ed) : sortOk (es.map eD) = true := by
  unfold sortOk
  have h1 : (es.map eD).all hdI = true := by
    rw [List.all_eq_true]
    intro x hx
    obtain ⟨n, _, rfl⟩ := List.mem_map.mp hx
    rfl
  have h2 : ((es.map eD).all fun x => (es.map eD).all fun y => ordOk x y) = true := by
    rw [List.all_eq_true]
    intro x hx
    rw [List.all_eq_true]
    intro y hy
    obtain ⟨a, _, rfl⟩ := List.mem_map.mp hx
    obtain ⟨b, _, rfl⟩ := List.mem_map.mp hy
    exact ordOk_eD a b
  rw [h1, h2]; simp
theorem sortD_ed {es : List Ed} : ∃ fs : List Ed, sortD (.list (es.map eD)) = some (.list (fs.map eD)) ∧ fs.Perm es ∧ fs.Pairwise leE := by
  obtain ⟨fs, e, h⟩ := isort_ed es
  refine ⟨fs, ?_, h⟩
  show (if sortOk (es.map eD) = true then some (PyData.list (isort (es.map eD))) else none) = _
  rw [if_pos (sortOk_ed es), e]
/-- sorted is sorted already -/
theorem sorted_ints_same {ns ms : List Int} (p : ms.Perm ns) (h1 : ms.Pairwise (· ≤ ·)) (h2 : ns.Pairwise (· ≤ ·)) : ms = ns :=
  List.Perm.eq_of_pairwise (fun a b _ _ h1 h2 => Int.le_antisymm h1 h2) h1 h2 p
theorem cut_to {α : Type} (xs : List α) {k : Int} (h : 0 ≤ k) : cutL xs none (some k) = xs.take k.toNat := by
  unfold cutL
  have h1 : HT.sIx xs.length 0 none = 0 := rfl
  have h2 : HT.sIx xs.length xs.length (some k) = min k.toNat xs.length := by
    simp [HT.sIx]; omega
  rw [h1, h2, List.drop_zero, Nat.sub_zero, ← List.take_take, List.take_length]
end PL

namespace PL
open PySem L2 FE
/-! ## the same data -/
theorem eqv_same {d : D} (h : od d = true) : PyData.eqv d d = true := by
  rw [eqv_ord d d h h, ordO_refl]; rfl
theorem shaped_od {d : D} (h : od d = true) (k : d.depth ≤ 64) : SeqAt.shaped d = true := by
  unfold SeqAt.shaped
  rw [od_lay d h, decide_eq_true k]; rfl
theorem eqD_same {d : D} (h : od d = true) (k : d.depth ≤ 64) : eqD d d = some (.bool true) := by
  unfold eqD
  rw [if_pos ⟨shaped_od h k, shaped_od h k⟩, eqv_same h]
theorem neD_same {d : D} (h : od d = true) (k : d.depth ≤ 64) : neD d d = some (.bool false) := by
  unfold neD
  rw [if_pos ⟨shaped_od h k, shaped_od h k⟩, eqv_same h]; rfl
theorem odL_iL : ∀ ns : List Int, odL (iL ns) = true
  | [] => rfl
  | n :: ns => by
    show (true && odL (iL ns)) = true
    rw [odL_iL ns]; rfl
theorem od_iD (ns : List Int) : od (iD ns) = true := odL_iL ns
theorem depth_iD (ns : List Int) : (iD ns).depth = 1 := by
  show PyData.depthAll (iL ns) + 1 = 1
  rw [depth_ints]
theorem odL_iDs (Ls : List (List Int)) : odL (Ls.map iD) = true := odL_of fun x hx => by
  obtain ⟨l, _, rfl⟩ := List.mem_map.mp hx
  exact od_iD l
theorem depth_iDs (Ls : List (List Int)) : PyData.depthAll (Ls.map iD) ≤ 1 := depthAll_of fun x hx => by
  obtain ⟨l, _, rfl⟩ := List.mem_map.mp hx
  rw [depth_iD]; exact Nat.le_refl 1
theorem od_tt (Ls : List (List Int)) : od (.tuple (Ls.map iD)) = true := odL_iDs Ls
theorem depth_tt (Ls : List (List Int)) : (PyData.tuple (Ls.map iD)).depth ≤ 2 := by
  show PyData.depthAll (Ls.map iD) + 1 ≤ 2
  have := depth_iDs Ls
  omega
theorem like_iL : ∀ a b : List Int, likeL (iL a) (iL b) = true
  | [], b => by cases b <;> rfl
  | x :: a, [] => rfl
  | x :: a, y :: b => by
    show (true && likeL (iL a) (iL b)) = true
    rw [like_iL a b]; rfl
theorem ordOk_iD (a b : List Int) : ordOk (iD a) (iD b) = true := by
  unfold ordOk
  rw [od_iD, od_iD, depth_iD, depth_iD]
  have : like (iD a) (iD b) = true := like_iL a b
  rw [this]; rfl
/-! ## the least of rows -/
theorem isLt_iff {x y : D} (hx : od x = true) (hy : od y = true) : isLt (ordO x y) = false ↔ leD' y x := Iff.rfl
/-- the first of the least is least -/
theorem leastO_least : ∀ (x : D) (xs : List D), (∀ a ∈ x :: xs, od a = true) → ∀ y ∈ x :: xs, leD' (leastO x xs) y := by
  intro x xs
  unfold leastO
  induction xs generalizing x with
  | nil =>
    intro h y hy
    rw [List.mem_singleton.mp hy]
    exact (leD_total (h x List.mem_cons_self) (h x List.mem_cons_self)).elim id id
  | cons z zs ih =>
    intro h y hy
    rw [List.foldl_cons]
    have ox := h x (by simp)
    have oz := h z (by simp)
    by_cases c : isLt (ordO z x) = true
    · rw [if_pos c]
      have hz : ∀ a ∈ z :: zs, od a = true := fun a ha => h a (List.mem_cons_of_mem _ ha)
      rcases List.mem_cons.mp hy with e | hy
      · subst e
        have zx : leD' z y := by
          rcases leD_total oz ox with k | k
          · exact k
          · unfold leD' at k; rw [c] at k; cases k
        have := ih z hz z (by simp)
        refine leD_trans ?_ oz ox this zx
        have m := leastO_mem z zs
        exact hz _ m
      · exact ih z hz y hy
    · rw [if_neg c]
      have hx' : ∀ a ∈ x :: zs, od a = true := fun a ha => h a (by
        rcases List.mem_cons.mp ha with e | ha
        · rw [e]; simp
        · simp [ha])
      rcases List.mem_cons.mp hy with e | hy
      · rw [e]; exact ih x hx' x (by simp)
      · rcases List.mem_cons.mp hy with e | hy
        · subst e
          have xz : leD' x y := by unfold leD'; simpa using c
          have := ih x hx' x (by simp)
          refine leD_trans ?_ ox oz this xz
          exact hx' _ (leastO_mem x zs)
        · exact ih x hx' y (by simp [hy])
def keyD (es : List Ed) (S : List Int) : D := .tuple [.int (lv es S), .int S.length, iD S]
theorem od_key (es : List Ed) (S : List Int) : od (keyD es S) = true := by
  show (true && (true && (od (iD S) && true))) = true
  rw [od_iD]; rfl
theorem ordOk_key (es : List Ed) (S T : List Int) : ordOk (keyD es S) (keyD es T) = true := by
  unfold ordOk
  rw [od_key, od_key]
  have d : ∀ S, (keyD es S).depth ≤ 60 := fun S => by
    show max 0 (max 0 (max (iD S).depth 0)) + 1 ≤ 60
    rw [depth_iD]; decide
  have l : like (keyD es S) (keyD es T) = true := by
    show (true && (true && (like (iD S) (iD T) && true))) = true
    have : like (iD S) (iD T) = true := like_iL S T
    rw [this]; rfl
  rw [l, decide_eq_true (d S), decide_eq_true (d T)]; rfl
theorem iD_inj {a b : List Int} (h : iD a = iD b) : a = b := by
  unfold iD iL at h
  injection h with h
  have e : ∀ {a b : List Int}, a.map PyData.int = b.map PyData.int → a = b := by
    intro a
    induction a with
    | nil => intro b h; cases b with
      | nil => rfl
      | cons y b => cases h
    | cons x a ih => intro b h; cases b with
      | nil => cases h
      | cons y b =>
        rw [List.map_cons, List.map_cons] at h
        injection h with h1 h2
        injection h1 with h1
        rw [h1, ih h2]
  exact e h
/-- S is the least of A -/
def LeastIn (es : List Ed) (A : List (List Int)) (S : List Int) : Prop := S ∈ A ∧ ∀ T ∈ A, leD' (keyD es S) (keyD es T)
theorem LeastIn.unique {es : List Ed} {A : List (List Int)} {S T : List Int} (h : LeastIn es A S) (k : LeastIn es A T) : S = T := by
  have e := leD_anti (od_key es S) (od_key es T) (h.2 T k.1) (k.2 S h.1)
  unfold keyD at e
  injection e with e
  injection e with _ e
  injection e with _ e
  injection e with e _
  exact iD_inj e
theorem LeastIn.perm {es : List Ed} {A B : List (List Int)} {S : List Int} (h : LeastIn es A S) (p : A.Perm B) : LeastIn es B S := ⟨p.mem_iff.mp h.1, fun T hT => h.2 T (p.mem_iff.mpr hT)⟩
theorem least_ex (es : List Ed) {A : List (List Int)} (h : A ≠ []) : ∃ S, LeastIn es A S ∧ minAD (.list (A.map (keyD es))) = some (keyD es S) := by
  cases A with
  | nil => exact absurd rfl h
  | cons a A =>
    have m := leastO_mem (keyD es a) (A.map (keyD es))
    rw [← List.map_cons] at m
    obtain ⟨S, hS, e⟩ := List.mem_map.mp m
    refine ⟨S, ⟨hS, fun T hT => ?_⟩, ?_⟩
    · rw [e]
      refine leastO_least _ _ (fun x hx => ?_) _ (by rw [← List.map_cons]; exact List.mem_map.mpr ⟨T, hT, rfl⟩)
      rw [← List.map_cons] at hx
      obtain ⟨U, _, rfl⟩ := List.mem_map.mp hx
      exact od_key es U
    · rw [e, List.map_cons]
      refine if_pos ?_
      rw [List.all_eq_true]
      intro x hx
      rw [List.all_eq_true]
      intro y hy
      rw [← List.map_cons] at hx hy
      obtain ⟨U, _, rfl⟩ := List.mem_map.mp hx
      obtain ⟨V, _, rfl⟩ := List.mem_map.mp hy
      exact ordOk_key es U V
/-! ## sums -/
theorem sumAD_li {ns : List Int} : sumAD (.list (iL ns)) = some (.int ns.sum) := by
  unfold sumAD
  simp only [ints_iL]; rfl
theorem sumAD_ti {ns : List Int} : sumAD (.tuple (iL ns)) = some (.int ns.sum) := by
  unfold sumAD
  simp only [ints_iL]; rfl
theorem idx_map {f : Int → D} {xs : List Int} {k : Int} (h0 : 0 ≤ k) (h1 : k < xs.length) : idxD (.list (xs.map f)) (.int k) = some (f (nth0 xs k.toNat)) := by
  have hk : k.toNat < xs.length := by omega
  show L2.atI (xs.map f) k = _
  unfold L2.atI ixN
  rw [if_pos h0, if_pos (by rw [List.length_map]; exact h1)]
  show (xs.map f)[k.toNat]? = _
  unfold nth0
  rw [List.getElem?_map, List.getElem?_eq_getElem hk, List.getD_eq_getElem?_getD, List.getElem?_eq_getElem hk]
  rfl
end PL

namespace PL
open PySem L2 FE
/-! # the search for a largest family of rows with no number in common -/
/-- a path and the numbers of its edges -/
abbrev Row := List Int × List Int
def rowD (r : Row) : D := .tuple [iD r.1, iD r.2]
def tD (Ls : List (List Int)) : D := .tuple (Ls.map iD)
/-- no number of u is among the used -/
def disj (u used : List Int) : Bool := (u.filter fun x => decide (x ∈ used)).isEmpty
theorem disj_iff {u used : List Int} : disj u used = true ↔ ∀ x ∈ u, ¬ x ∈ used := by
  unfold disj
  rw [List.isEmpty_iff, List.filter_eq_nil_iff]
  simp
def goL (rec : List Row → List Int → List (List Int) → List (List Int) → List (List Int)) (used : List Int) (chosen : List (List Int)) : List Row → List (List Int) → List (List Int)
  | [], b => b
  | r :: rs, b => if chosen.length + (r :: rs).length ≤ b.length then b else if disj r.2 used = true then goL rec used chosen rs (rec rs (used ++ r.2) (chosen ++ [r.1]) b) else goL rec used chosen rs b
def packF : Nat → List Row → List Int → List (List Int) → List (List Int) → List (List Int)
  | 0, _, _, _, b => b
  | k + 1, rs, used, chosen, b => goL (packF k) used chosen rs (if b.length < chosen.length then chosen else b)
/-- rows that may be chosen together, none with a used number -/
def Free (used : List Int) (L : List Row) : Prop := (∀ r ∈ L, ∀ x ∈ r.2, ¬ x ∈ used) ∧ L.Pairwise fun r s => ∀ x ∈ r.2, ¬ x ∈ s.2
theorem Free.nil {used : List Int} : Free used [] := ⟨fun r h => by (cases h), List.Pairwise.nil⟩
theorem Free.cons {used : List Int} {r : Row} {L : List Row} : Free used (r :: L) ↔ (∀ x ∈ r.2, ¬ x ∈ used) ∧ Free (used ++ r.2) L := by
  unfold Free
  rw [List.pairwise_cons]
  constructor
  · rintro ⟨h1, h2, h3⟩
    refine ⟨h1 r List.mem_cons_self, fun s hs x hx hm => ?_, h3⟩
    rcases List.mem_append.mp hm with hm | hm
    · exact h1 s (List.mem_cons_of_mem _ hs) x hx hm
    · exact h2 s hs x hm hx
  · rintro ⟨h1, h2, h3⟩
    refine ⟨fun s hs x hx hm => ?_, fun s hs x hx hm => h2 s hs x hm (List.mem_append_right _ hx), h3⟩
    rcases List.mem_cons.mp hs with e | hs
    · subst e; exact h1 x hx hm
    · exact h2 s hs x hx (List.mem_append_left _ hm)
/-- what the search gives -/
structure Best (rs : List Row) (used : List Int) (chosen b0 b : List (List Int)) : Prop where
  ge : b0.length ≤ b.length
  all : ∀ L : List Row, L.Sublist rs → Free used L → chosen.length + L.length ≤ b.length
  is : b = b0 ∨ ∃ L : List Row, L.Sublist rs ∧ Free used L ∧ b = chosen ++ L.map (·.1)
theorem goL_best {rec : List Row → List Int → List (List Int) → List (List Int) → List (List Int)} {used : List Int} {chosen : List (List Int)} :
    ∀ (rs : List Row) (b : List (List Int)), chosen.length ≤ b.length → (∀ (r : Row) (rs' : List Row) (b' : List (List Int)), (r :: rs').Sublist rs → (∀ x ∈ r.2, ¬ x ∈ used) → Best rs' (used ++ r.2) (chosen ++ [r.1]) b' (rec rs' (used ++ r.2) (chosen ++ [r.1]) b')) → Best rs used chosen b (goL rec used chosen rs b)
  | [], b, hb, _ => ⟨Nat.le_refl _, fun L hL _ => by rw [List.sublist_nil.mp hL]; exact hb, Or.inl rfl⟩
  | r :: rs, b, hb, h => by
    unfold goL
    by_cases c : chosen.length + (r :: rs).length ≤ b.length
    · rw [if_pos c]
      exact ⟨Nat.le_refl _, fun L hL _ => by have := hL.length_le; omega, Or.inl rfl⟩
    · rw [if_neg c]
      have sub : ∀ {L : List Row}, L.Sublist rs → L.Sublist (r :: rs) := fun h => List.Sublist.cons r h
      by_cases d : disj r.2 used = true
      · rw [if_pos d]
        have hd := disj_iff.mp d
        have B1 := h r rs b (List.Sublist.refl _) hd
        have B2 := goL_best rs (rec rs (used ++ r.2) (chosen ++ [r.1]) b) (Nat.le_trans hb B1.ge) fun s rs' b' hs => h s rs' b' (sub hs)
        refine ⟨Nat.le_trans B1.ge B2.ge, fun L hL hF => ?_, ?_⟩
        · cases hL with
          | cons _ hL => exact B2.all L hL hF
          | cons_cons _ hL =>
            rename_i L'
            have := B1.all L' hL (Free.cons.mp hF).2
            have := B2.ge
            simp only [List.length_append, List.length_cons, List.length_nil] at *
            omega
        · rcases B2.is with e | ⟨L, l1, l2, l3⟩
          · rw [e]
            rcases B1.is with e | ⟨L, l1, l2, l3⟩
            · exact Or.inl e
            · exact Or.inr ⟨r :: L, List.Sublist.cons_cons r l1, Free.cons.mpr ⟨hd, l2⟩, by rw [l3]; simp⟩
          · exact Or.inr ⟨L, sub l1, l2, l3⟩
      · rw [if_neg d]
        have B2 := goL_best rs b hb fun s rs' b' hs => h s rs' b' (sub hs)
        refine ⟨B2.ge, fun L hL hF => ?_, ?_⟩
        · cases hL with
          | cons _ hL => exact B2.all L hL hF
          | cons_cons _ hL => exact absurd (disj_iff.mpr (Free.cons.mp hF).1) d
        · rcases B2.is with e | ⟨L, l1, l2, l3⟩
          · exact Or.inl e
          · exact Or.inr ⟨L, sub l1, l2, l3⟩
theorem packF_best : ∀ (k : Nat) (rs : List Row) (used : List Int) (chosen b : List (List Int)), (∀ L : List Row, L.Sublist rs → Free used L → L.length < k) → Best rs used chosen b (packF k rs used chosen b)
  | 0, rs, used, chosen, b, h => absurd (h [] (List.nil_sublist _) Free.nil) (Nat.lt_irrefl _)
  | k + 1, rs, used, chosen, b, h => by
    unfold packF
    have base : ∀ b1 : List (List Int), b1 = (if b.length < chosen.length then chosen else b) → b.length ≤ b1.length ∧ chosen.length ≤ b1.length := fun b1 e => by
      by_cases c : b.length < chosen.length
      · rw [if_pos c] at e; rw [e]; omega
      · rw [if_neg c] at e; rw [e]; omega
    obtain ⟨g1, g2⟩ := base _ rfl
    have B := goL_best (rec := packF k) (used := used) (chosen := chosen) rs (if b.length < chosen.length then chosen else b) g2 fun r rs' b' hs hd => packF_best k rs' (used ++ r.2) (chosen ++ [r.1]) b' fun L hL hF => by
      have := h (r :: L) ((List.Sublist.cons_cons r hL).trans hs) (Free.cons.mpr ⟨hd, hF⟩)
      simpa using this
    refine ⟨Nat.le_trans g1 B.ge, B.all, ?_⟩
    rcases B.is with e | e
    · by_cases c : b.length < chosen.length
      · rw [if_pos c] at e
        rw [if_pos c, e]
        exact Or.inr ⟨[], List.nil_sublist _, Free.nil, by simp⟩
      · rw [if_neg c] at e
        rw [if_neg c, e]
        exact Or.inl rfl
    · exact Or.inr e
theorem goL_len {rec : List Row → List Int → List (List Int) → List (List Int) → List (List Int)} {used : List Int} {chosen : List (List Int)} {M : Nat} (h : ∀ rs' u (p : List Int) b', b'.length ≤ M → (rec rs' u (chosen ++ [p]) b').length ≤ M) : ∀ (rs : List Row) (b : List (List Int)), b.length ≤ M → (goL rec used chosen rs b).length ≤ M
  | [], b, hb => hb
  | r :: rs, b, hb => by
    unfold goL
    split
    · exact hb
    · split
      · exact goL_len h rs _ (h _ _ _ _ hb)
      · exact goL_len h rs b hb
theorem packF_len : ∀ (k : Nat) (rs : List Row) (used : List Int) (chosen b : List (List Int)) (M : Nat), chosen.length + k ≤ M → b.length ≤ M → (packF k rs used chosen b).length ≤ M
  | 0, _, _, _, b, M, _, hb => hb
  | k + 1, rs, used, chosen, b, M, hc, hb => by
    unfold packF
    refine goL_len (fun rs' u p b' hb' => packF_len k rs' u (chosen ++ [p]) b' M (by simp; omega) hb') rs _ ?_
    split
    · omega
    · exact hb
/-- rows of a set stand, in some order, as a part of the list -/
theorem sub_of {α : Type} [DecidableEq α] : ∀ (l m : List α), m.Nodup → (∀ x ∈ m, x ∈ l) → ∃ k : List α, k.Sublist l ∧ k.Perm m
  | [], m, _, h => by
    cases m with
    | nil => exact ⟨[], List.Sublist.refl _, List.Perm.refl _⟩
    | cons x m => exact absurd (h x List.mem_cons_self) (by simp)
  | y :: l, m, hn, h => by
    by_cases c : y ∈ m
    · obtain ⟨k, k1, k2⟩ := sub_of l (m.erase y) (hn.erase y) fun x hx => by
        have hx' := (List.Nodup.mem_erase_iff hn).mp hx
        exact (List.mem_cons.mp (h x hx'.2)).resolve_left hx'.1
      exact ⟨y :: k, k1.cons_cons y, (k2.cons y).trans (List.perm_cons_erase c).symm⟩
    · obtain ⟨k, k1, k2⟩ := sub_of l m hn fun x hx => (List.mem_cons.mp (h x hx)).resolve_left fun e => c (by rw [← e]; exact hx)
      exact ⟨k, List.Sublist.cons y k1, k2⟩
end PL

namespace PL
open PySem L2 FE
/-! # the paths -/
def lastI (p : List Int) : Int := p.getLastD 0
/-- the rows that edge number i gives -/
def stepR (self : List Int → List Int → List Row) (ms path used : List Int) (q : Ed × Nat) : List Row :=
  if lastI path ∈ [q.1.1, q.1.2] ∧ ¬ (q.2 : Int) ∈ used then
    (if (q.1.1 + q.1.2 - lastI path) ∈ path then [] else if (q.1.1 + q.1.2 - lastI path) ∈ ms then [(path ++ [q.1.1 + q.1.2 - lastI path], used ++ [(q.2 : Int)])] else self (path ++ [q.1.1 + q.1.2 - lastI path]) (used ++ [(q.2 : Int)]))
  else []
def pathsF (es : List Ed) (ms : List Int) : Nat → List Int → List Int → List Row
  | 0, _, _ => []
  | k + 1, path, used => es.zipIdx.flatMap (stepR (pathsF es ms k) ms path used)
/-- a path so far -/
structure PathOk (n : Int) (path : List Int) : Prop where
  ne : path ≠ []
  nd : path.Nodup
  ok : ∀ v ∈ path, 0 ≤ v ∧ v < n
theorem PathOk.len {n : Int} {path : List Int} (h : PathOk n path) : path.length ≤ n.toNat := by
  have := nodup_len path (up n) h.nd fun v hv => mem_up.mpr (h.ok v hv)
  rwa [up_len] at this
theorem PathOk.snoc {n : Int} {path : List Int} {v : Int} (h : PathOk n path) (hv : 0 ≤ v ∧ v < n) (hn : ¬ v ∈ path) : PathOk n (path ++ [v]) := by
  refine ⟨by simp, ?_, fun w hw => ?_⟩
  · rw [List.nodup_append]
    exact ⟨h.nd, by simp, fun a ha b hb => by rw [List.mem_singleton.mp hb]; intro e; exact hn (by rw [← e]; exact ha)⟩
  · rcases List.mem_append.mp hw with hw | hw
    · exact h.ok w hw
    · rw [List.mem_singleton.mp hw]; exact hv
theorem lastI_mem {p : List Int} (h : p ≠ []) : lastI p ∈ p := by
  unfold lastI
  rw [List.getLastD_eq_getLast?, List.getLast?_eq_some_getLast h]
  exact List.getLast_mem h
/-- the other end of an edge -/
theorem other_end {n : Int} {es : List Ed} {e : Ed} {a : Int} (ok : ∀ e ∈ es, 0 ≤ e.1 ∧ e.1 < e.2 ∧ e.2 < n) (he : e ∈ es) (h : a ∈ [e.1, e.2]) : 0 ≤ e.1 + e.2 - a ∧ e.1 + e.2 - a < n ∧ ((a = e.1 ∧ e.1 + e.2 - a = e.2) ∨ (a = e.2 ∧ e.1 + e.2 - a = e.1)) := by
  obtain ⟨h1, h2, h3⟩ := ok e he
  rcases List.mem_cons.mp h with r | r
  · subst r; exact ⟨by omega, by omega, Or.inl ⟨rfl, by omega⟩⟩
  · rw [List.mem_singleton.mp r]; exact ⟨by omega, by omega, Or.inr ⟨rfl, by omega⟩⟩
theorem mem_zip {es : List Ed} {q : Ed × Nat} (h : q ∈ es.zipIdx) : es[q.2]? = some q.1 ∧ q.1 ∈ es := by
  have := List.mk_mem_zipIdx_iff_getElem?.mp (show (q.1, q.2) ∈ es.zipIdx from h)
  exact ⟨this, List.mem_of_getElem? this⟩
theorem flat_len {α β : Type} {f : α → List β} {B : Nat} : ∀ (l : List α), (∀ x ∈ l, (f x).length ≤ B) → (l.flatMap f).length ≤ l.length * B
  | [], _ => by simp
  | x :: l, h => by
    rw [List.flatMap_cons, List.length_append, List.length_cons, Nat.add_mul, Nat.one_mul]
    have h1 := h x List.mem_cons_self
    have h2 := flat_len l fun y hy => h y (List.mem_cons_of_mem _ hy)
    omega
theorem pathsF_len {n : Int} {es : List Ed} {ms : List Int} (ok : ∀ e ∈ es, 0 ≤ e.1 ∧ e.1 < e.2 ∧ e.2 < n) (h9 : es.length ≤ 10) : ∀ (k : Nat) (path used : List Int), PathOk n path → (pathsF es ms k path used).length ≤ 10 ^ (n.toNat + 1 - path.length)
  | 0, _, _, _ => Nat.zero_le _
  | k + 1, path, used, hp => by
    have hl := hp.len
    unfold pathsF
    have e : n.toNat + 1 - path.length = (n.toNat - path.length) + 1 := by omega
    have hB : ∀ q ∈ es.zipIdx, (stepR (pathsF es ms k) ms path used q).length ≤ 10 ^ (n.toNat - path.length) := fun q hq => by
      unfold stepR
      split
      · rename_i c
        obtain ⟨o1, o2, _⟩ := other_end ok (mem_zip hq).2 c.1
        split
        · exact Nat.zero_le _
        · rename_i nm
          split
          · exact Nat.pow_pos (by decide)
          · have := pathsF_len (ms := ms) ok h9 k (path ++ [q.1.1 + q.1.2 - lastI path]) (used ++ [(q.2 : Int)]) (hp.snoc ⟨o1, o2⟩ nm)
            rw [List.length_append, List.length_singleton, show n.toNat + 1 - (path.length + 1) = n.toNat - path.length by omega] at this
            exact this
      · exact Nat.zero_le _
    have := flat_len es.zipIdx hB
    rw [List.length_zipIdx] at this
    rw [e, Nat.pow_succ]
    calc _ ≤ es.length * 10 ^ (n.toNat - path.length) := this
      _ ≤ 10 * 10 ^ (n.toNat - path.length) := Nat.mul_le_mul_right _ h9
      _ = 10 ^ (n.toNat - path.length) * 10 := Nat.mul_comm _ _
theorem enum_ed : ∀ (es : List Ed) (k : Nat), enumD k (es.map eD) = (es.zipIdx k).map fun q => .tuple [.int (q.2 : Nat), eD q.1]
  | [], _ => rfl
  | e :: es, k => by
    rw [List.map_cons, List.zipIdx_cons, List.map_cons, ← enum_ed es (k + 1)]
    rfl
theorem idx_last {p : List Int} (h : p ≠ []) : idxD (iD p) (.int (-1)) = some (.int (lastI p)) := by
  have hl : 0 < p.length := List.length_pos_iff.mpr h
  show L2.atI (iL p) (-1) = _
  unfold L2.atI ixN
  rw [if_neg (by decide), if_pos (by rw [iL_len]; omega), iL_len]
  show (iL p)[(-1 + (p.length : Int)).toNat]? = _
  rw [iL_eq, List.getElem?_map, show (-1 + (p.length : Int)).toNat = p.length - 1 by omega]
  unfold lastI
  rw [List.getLastD_eq_getLast?, List.getLast?_eq_getElem?]
  have hk : p.length - 1 < p.length := by omega
  rw [List.getElem?_eq_getElem hk]
  rfl
theorem sum_ed {e : Ed} : sumAD (eD e) = some (.int (e.1 + e.2)) := by
  have := sumAD_ti (ns := [e.1, e.2])
  rw [show ([e.1, e.2] : List Int).sum = e.1 + e.2 by simp] at this
  exact this
end PL

namespace PL
open PySem L2 FE
/-! # all the paths -/
def everyF (es : List Ed) (ms : List Int) : List Row := ms.flatMap fun m => (pathsF es ms 8 [m] []).filter fun r => decide (m < lastI r.1)
/-- rows begin with their path so far, and have its numbers -/
structure RowOk (n : Int) (ne : Nat) (path used : List Int) (r : Row) : Prop where
  ok : PathOk n r.1
  pre : path <+: r.1
  upre : used <+: r.2
  more : r.2.length = used.length + (r.1.length - path.length)
  gt : path.length < r.1.length
  num : ∀ x ∈ r.2, x ∈ used ∨ (0 ≤ x ∧ x < ne)
theorem mem_stepR {self : List Int → List Int → List Row} {ms path used : List Int} {q : Ed × Nat} {r : Row} (h : r ∈ stepR self ms path used q) : lastI path ∈ [q.1.1, q.1.2] ∧ ¬ (q.2 : Int) ∈ used ∧ ¬ (q.1.1 + q.1.2 - lastI path) ∈ path ∧
    ((q.1.1 + q.1.2 - lastI path ∈ ms ∧ r = (path ++ [q.1.1 + q.1.2 - lastI path], used ++ [(q.2 : Int)])) ∨ (¬ q.1.1 + q.1.2 - lastI path ∈ ms ∧ r ∈ self (path ++ [q.1.1 + q.1.2 - lastI path]) (used ++ [(q.2 : Int)]))) := by
  unfold stepR at h
  split at h
  · rename_i c
    split at h
    · cases h
    · rename_i np
      split at h
      · rename_i m
        exact ⟨c.1, c.2, np, Or.inl ⟨m, List.mem_singleton.mp h⟩⟩
      · rename_i m
        exact ⟨c.1, c.2, np, Or.inr ⟨m, h⟩⟩
  · cases h
theorem pathsF_ok {n : Int} {es : List Ed} {ms : List Int} (ok : ∀ e ∈ es, 0 ≤ e.1 ∧ e.1 < e.2 ∧ e.2 < n) : ∀ (k : Nat) (path used : List Int) (r : Row), PathOk n path → r ∈ pathsF es ms k path used → RowOk n es.length path used r
  | 0, _, _, _, _, h => by cases h
  | k + 1, path, used, r, hp, h => by
    unfold pathsF at h
    obtain ⟨q, hq, h⟩ := List.mem_flatMap.mp h
    obtain ⟨hq1, hq2⟩ := mem_zip hq
    have hqn : q.2 < es.length := (List.getElem?_eq_some_iff.mp hq1).1
    obtain ⟨c1, c2, c3, h⟩ := mem_stepR h
    obtain ⟨o1, o2, _⟩ := other_end ok hq2 c1
    rcases h with ⟨_, e⟩ | ⟨_, h⟩
    · subst e
      exact ⟨hp.snoc ⟨o1, o2⟩ c3, List.prefix_append _ _, List.prefix_append _ _, by simp, by simp, fun x hx => (List.mem_append.mp hx).imp id fun z => by rw [List.mem_singleton.mp z]; omega⟩
    · have R := pathsF_ok ok k _ _ r (hp.snoc ⟨o1, o2⟩ c3) h
      have l1 := R.gt
      have l2 := R.more
      simp only [List.length_append, List.length_singleton] at l1 l2
      refine ⟨R.ok, (List.prefix_append _ _).trans R.pre, (List.prefix_append _ _).trans R.upre, by omega, by omega, fun x hx => ?_⟩
      rcases R.num x hx with z | z
      · exact (List.mem_append.mp z).imp id fun z => by rw [List.mem_singleton.mp z]; omega
      · exact Or.inr z
theorem od_row (r : Row) : od (rowD r) = true := by
  show (od (iD r.1) && (od (iD r.2) && true)) = true
  rw [od_iD, od_iD]; rfl
theorem ordOk_row (r s : Row) : ordOk (rowD r) (rowD s) = true := by
  unfold ordOk
  rw [od_row, od_row]
  have d : ∀ r : Row, (rowD r).depth ≤ 60 := fun r => by
    show max (iD r.1).depth (max (iD r.2).depth 0) + 1 ≤ 60
    rw [depth_iD, depth_iD]; decide
  have l : like (rowD r) (rowD s) = true := by
    show (like (iD r.1) (iD s.1) && (like (iD r.2) (iD s.2) && true)) = true
    have h1 : like (iD r.1) (iD s.1) = true := like_iL _ _
    have h2 : like (iD r.2) (iD s.2) = true := like_iL _ _
    rw [h1, h2]; rfl
  rw [l, decide_eq_true (d r), decide_eq_true (d s)]; rfl
theorem sort_rows (R : List Row) : ∃ S : List Row, S.Perm R ∧ sortD (.list (R.map rowD)) = some (.list (S.map rowD)) := by
  have p := isort_perm (R.map rowD)
  obtain ⟨S, s1, s2⟩ := perm_map_inv (out := []) p rfl
  refine ⟨S, s1, ?_⟩
  have ok : sortOk (R.map rowD) = true := by
    unfold sortOk
    have h1 : (R.map rowD).all hdT = true := by
      rw [List.all_eq_true]
      intro x hx
      obtain ⟨r, _, rfl⟩ := List.mem_map.mp hx
      rfl
    have h2 : ((R.map rowD).all fun x => (R.map rowD).all fun y => ordOk x y) = true := by
      rw [List.all_eq_true]
      intro x hx
      rw [List.all_eq_true]
      intro y hy
      obtain ⟨a, _, rfl⟩ := List.mem_map.mp hx
      obtain ⟨b, _, rfl⟩ := List.mem_map.mp hy
      exact ordOk_row a b
    rw [h1, h2]; simp
  show (if sortOk (R.map rowD) = true then some (PyData.list (isort (R.map rowD))) else none) = _
  rw [if_pos ok, s2]
/-- no more rows together than edges -/
theorem free_few {N : Nat} : ∀ (L : List Row) (used : List Int), Free used L → used.Nodup → (∀ x ∈ used, 0 ≤ x ∧ x < N) → (∀ r ∈ L, r.2 ≠ [] ∧ ∀ x ∈ r.2, 0 ≤ x ∧ x < N) → L.length + used.length ≤ N
  | [], used, _, nd, hu, _ => by
    have := nodup_len used (up N) nd fun v hv => mem_up.mpr (hu v hv)
    rw [up_len] at this
    simp; omega
  | r :: L, used, hF, nd, hu, hr => by
    obtain ⟨h1, h2⟩ := Free.cons.mp hF
    obtain ⟨x, hx⟩ := List.exists_mem_of_ne_nil _ (hr r List.mem_cons_self).1
    have hxu := h1 x hx
    have F' : Free (used ++ [x]) L := ⟨fun s hs y hy hm => by
      rcases List.mem_append.mp hm with hm | hm
      · exact h2.1 s hs y hy (List.mem_append_left _ hm)
      · rw [List.mem_singleton.mp hm] at hy
        exact h2.1 s hs x hy (List.mem_append_right _ hx), h2.2⟩
    have := free_few L (used ++ [x]) F' (by
      rw [List.nodup_append]
      exact ⟨nd, by simp, fun a ha b hb => by rw [List.mem_singleton.mp hb]; intro e; exact hxu (by rw [← e]; exact ha)⟩) (fun y hy => (List.mem_append.mp hy).elim (hu y) fun z => by rw [List.mem_singleton.mp z]; exact (hr r List.mem_cons_self).2 x hx) fun s hs => hr s (List.mem_cons_of_mem _ hs)
    simp only [List.length_append, List.length_cons, List.length_nil] at *
    omega
end PL

namespace PL
open PySem L2 FE
/-! # rows, told by their steps -/
def nrm (a b : Int) : Ed := if b < a then (b, a) else (a, b)
theorem nrm_comm (a b : Int) : nrm a b = nrm b a := by
  unfold nrm
  by_cases h : b < a
  · rw [if_pos h, if_neg (by omega)]
  · rw [if_neg h]
    by_cases h2 : a < b
    · rw [if_pos h2]
    · have : a = b := by omega
      rw [if_neg h2, this]
/-- from cur on: the vertices ext, by the edges nums; all but the last are no marks, the last is one -/
def ExtOk (es : List Ed) (ms : List Int) : Int → List Int → List Int → Prop
  | cur, [v], [i] => (0 ≤ i ∧ es[i.toNat]? = some (nrm cur v)) ∧ v ∈ ms
  | cur, v :: w :: ext, i :: nums => (0 ≤ i ∧ es[i.toNat]? = some (nrm cur v)) ∧ ¬ v ∈ ms ∧ ExtOk es ms v (w :: ext) nums
  | _, _, _ => False
theorem ext_cons {es : List Ed} {ms : List Int} {cur v i : Int} {ext nums : List Int} (h1 : 0 ≤ i ∧ es[i.toNat]? = some (nrm cur v)) (h2 : ¬ v ∈ ms) (h3 : ExtOk es ms v ext nums) : ExtOk es ms cur (v :: ext) (i :: nums) := by
  cases ext with
  | nil => cases nums <;> exact h3.elim
  | cons w ext => exact ⟨h1, h2, h3⟩
theorem nrm_of {n : Int} {es : List Ed} {e : Ed} {a : Int} (ok : ∀ e ∈ es, 0 ≤ e.1 ∧ e.1 < e.2 ∧ e.2 < n) (he : e ∈ es) (h : a ∈ [e.1, e.2]) : e = nrm a (e.1 + e.2 - a) := by
  obtain ⟨h1, h2, h3⟩ := ok e he
  obtain ⟨_, _, h⟩ := other_end ok he h
  unfold nrm
  rcases h with ⟨r1, r2⟩ | ⟨r1, r2⟩
  · rw [r2, r1, if_neg (by omega)]
  · rw [r2, r1, if_pos (by omega)]
theorem of_nrm {a v : Int} {e : Ed} (h : e = nrm a v) (ne : a ≠ v) : a ∈ [e.1, e.2] ∧ e.1 + e.2 - a = v := by
  unfold nrm at h
  by_cases c : v < a
  · rw [if_pos c] at h
    rw [h]; exact ⟨by simp, by show v + a - a = v; omega⟩
  · rw [if_neg c] at h
    rw [h]; exact ⟨by simp, by show a + v - a = v; omega⟩
theorem lastI_snoc (p : List Int) (v : Int) : lastI (p ++ [v]) = v := by
  unfold lastI
  simp
/-- what the rows are -/
theorem pathsF_ext {n : Int} {es : List Ed} {ms : List Int} (ok : ∀ e ∈ es, 0 ≤ e.1 ∧ e.1 < e.2 ∧ e.2 < n) : ∀ (k : Nat) (path used : List Int) (r : Row), PathOk n path → used.Nodup → r ∈ pathsF es ms k path used → ∃ ext nums, r = (path ++ ext, used ++ nums) ∧ ExtOk es ms (lastI path) ext nums ∧ (used ++ nums).Nodup
  | 0, _, _, _, _, _, h => by cases h
  | k + 1, path, used, r, hp, hu, h => by
    unfold pathsF at h
    obtain ⟨q, hq, h⟩ := List.mem_flatMap.mp h
    obtain ⟨hq1, hq2⟩ := mem_zip hq
    obtain ⟨c1, c2, c3, h⟩ := mem_stepR h
    obtain ⟨o1, o2, _⟩ := other_end ok hq2 c1
    have st : 0 ≤ (q.2 : Int) ∧ es[(q.2 : Int).toNat]? = some (nrm (lastI path) (q.1.1 + q.1.2 - lastI path)) := ⟨by omega, by rw [Int.toNat_natCast, hq1, ← nrm_of ok hq2 c1]⟩
    have nu : (used ++ [(q.2 : Int)]).Nodup := by
      rw [List.nodup_append]
      exact ⟨hu, by simp, fun a ha b hb => by rw [List.mem_singleton.mp hb]; intro e; exact c2 (by rw [← e]; exact ha)⟩
    rcases h with ⟨m, e⟩ | ⟨m, h⟩
    · exact ⟨[_], [_], e, ⟨st, m⟩, nu⟩
    · obtain ⟨ext, nums, e1, e2, e3⟩ := pathsF_ext ok k _ _ r (hp.snoc ⟨o1, o2⟩ c3) nu h
      rw [lastI_snoc] at e2
      exact ⟨_ :: ext, _ :: nums, by rw [e1]; simp, ext_cons st m e2, by simpa using e3⟩
/-- and all of them are found -/
theorem ext_pathsF {n : Int} {es : List Ed} {ms : List Int} (ok : ∀ e ∈ es, 0 ≤ e.1 ∧ e.1 < e.2 ∧ e.2 < n) : ∀ (ext nums : List Int) (k : Nat) (path used : List Int), path ≠ [] → (path ++ ext).Nodup → (used ++ nums).Nodup → ext.length ≤ k → ExtOk es ms (lastI path) ext nums → (path ++ ext, used ++ nums) ∈ pathsF es ms k path used
  | [], nums, _, _, _, _, _, _, _, h => by cases nums <;> exact h.elim
  | v :: ext, [], _, _, _, _, _, _, _, h => by cases ext <;> exact h.elim
  | v :: ext, i :: nums, 0, path, used, _, _, _, hk, _ => by simp at hk
  | v :: ext, i :: nums, k + 1, path, used, hp, hn, hu, hk, h => by
    have hst : 0 ≤ i ∧ es[i.toNat]? = some (nrm (lastI path) v) := by
      cases ext with
      | nil => cases nums with
        | nil => exact h.1
        | cons => exact h.elim
      | cons w ext => exact h.1
    have nv : ¬ v ∈ path := fun z => (List.nodup_append.mp hn).2.2 v z v List.mem_cons_self rfl
    have ni : ¬ i ∈ used := fun z => (List.nodup_append.mp hu).2.2 i z i List.mem_cons_self rfl
    have hlast := lastI_mem hp
    have ne : lastI path ≠ v := fun e => nv (by rw [← e]; exact hlast)
    have hmem : (nrm (lastI path) v, i.toNat) ∈ es.zipIdx := List.mk_mem_zipIdx_iff_getElem?.mpr hst.2
    obtain ⟨c1, c2⟩ := of_nrm (rfl : nrm (lastI path) v = nrm (lastI path) v) ne
    have hi : ((i.toNat : Nat) : Int) = i := by omega
    unfold pathsF
    refine List.mem_flatMap.mpr ⟨_, hmem, ?_⟩
    unfold stepR
    rw [if_pos ⟨c1, by show ¬ ((i.toNat : Nat) : Int) ∈ used; rw [hi]; exact ni⟩]
    show _ ∈ (if (nrm (lastI path) v).1 + (nrm (lastI path) v).2 - lastI path ∈ path then [] else _)
    rw [c2, if_neg nv]
    show _ ∈ (if v ∈ ms then [(path ++ [v], used ++ [((i.toNat : Nat) : Int)])] else pathsF es ms k (path ++ [v]) (used ++ [((i.toNat : Nat) : Int)]))
    rw [hi]
    cases ext with
    | nil => cases nums with
      | nil => rw [if_pos h.2]; simp
      | cons => exact h.elim
    | cons w ext =>
      rw [if_neg h.2.1]
      have := ext_pathsF ok (w :: ext) nums k (path ++ [v]) (used ++ [i]) (by simp) (by simpa using hn) (by simpa using hu) (by simpa using hk) (by rw [lastI_snoc]; exact h.2.2)
      simpa using this
end PL

namespace PL
open PySem L2 FE
/-! # systems, told by their edges -/
def stepsE : Int → List Int → List Ed
  | _, [] => []
  | cur, v :: ext => nrm cur v :: stepsE v ext
def steps : List Int → List Ed
  | [] => []
  | a :: ext => stepsE a ext
/-- all but the last are no marks, the last is one -/
def InnerOk (ms : List Int) : List Int → Prop
  | [] => False
  | [v] => v ∈ ms
  | v :: w :: ext => ¬ v ∈ ms ∧ InnerOk ms (w :: ext)
def edAt (es : List Ed) (i : Int) : Ed := es.getD i.toNat (0, 0)
theorem edAt_of {es : List Ed} {i : Int} {e : Ed} (h : es[i.toNat]? = some e) : edAt es i = e := by
  unfold edAt
  rw [List.getD_eq_getElem?_getD, h]; rfl
theorem ext_steps {es : List Ed} {ms : List Int} : ∀ (ext nums : List Int) (cur : Int), ExtOk es ms cur ext nums → InnerOk ms ext ∧ nums.map (edAt es) = stepsE cur ext ∧ (∀ i ∈ nums, 0 ≤ i ∧ i < es.length) ∧ nums.length = ext.length
  | [], nums, _, h => by cases nums <;> exact h.elim
  | v :: ext, [], _, h => by cases ext <;> exact h.elim
  | [v], [i], cur, h => by
    obtain ⟨⟨h1, h2⟩, h3⟩ := h
    have hi : i.toNat < es.length := (List.getElem?_eq_some_iff.mp h2).1
    refine ⟨h3, ?_, fun j hj => ?_, rfl⟩
    · show [edAt es i] = [nrm cur v]
      rw [edAt_of h2]
    · rw [List.mem_singleton.mp hj]; omega
  | [v], i :: j :: nums, _, h => h.elim
  | v :: w :: ext, i :: nums, cur, h => by
    obtain ⟨⟨h1, h2⟩, h3, h4⟩ := h
    obtain ⟨k1, k2, k3, k4⟩ := ext_steps (w :: ext) nums v h4
    have hi : i.toNat < es.length := (List.getElem?_eq_some_iff.mp h2).1
    refine ⟨⟨h3, k1⟩, ?_, fun j hj => ?_, by simp at k4; simp [k4]⟩
    · rw [List.map_cons, k2, edAt_of h2]; rfl
    · rcases List.mem_cons.mp hj with e | hj
      · rw [e]; omega
      · exact k3 j hj
theorem steps_ext {es : List Ed} {ms : List Int} : ∀ (ext nums : List Int) (cur : Int), InnerOk ms ext → nums.map (edAt es) = stepsE cur ext → (∀ i ∈ nums, 0 ≤ i ∧ i < es.length) → ExtOk es ms cur ext nums
  | [], _, _, h, _, _ => h.elim
  | v :: ext, [], cur, _, e, _ => by cases e
  | [v], [i], cur, h, e, hn => by
    have hi := hn i List.mem_cons_self
    have e' : edAt es i = nrm cur v := by injection e
    refine ⟨⟨hi.1, ?_⟩, h⟩
    unfold edAt at e'
    have hl : i.toNat < es.length := by omega
    rw [List.getD_eq_getElem?_getD, List.getElem?_eq_getElem hl] at e'
    rw [List.getElem?_eq_getElem hl, ← e']; rfl
  | [v], i :: j :: nums, cur, h, e, hn => by injection e with _ e; cases e
  | v :: w :: ext, i :: nums, cur, h, e, hn => by
    have hi := hn i List.mem_cons_self
    rw [List.map_cons] at e
    injection e with e1 e2
    refine ⟨⟨hi.1, ?_⟩, h.1, steps_ext (w :: ext) nums v h.2 e2 fun j hj => hn j (List.mem_cons_of_mem _ hj)⟩
    unfold edAt at e1
    have hl : i.toNat < es.length := by omega
    rw [List.getD_eq_getElem?_getD, List.getElem?_eq_getElem hl] at e1
    rw [List.getElem?_eq_getElem hl, ← e1]; rfl
/-- a path from a mark to a greater one -/
structure VPath (n : Int) (ms : List Int) (p : List Int) : Prop where
  ok : PathOk n p
  st : ∃ a ext, p = a :: ext ∧ a ∈ ms ∧ InnerOk ms ext ∧ a < lastI p
/-- paths that need no edge twice -/
structure VSys (n : Int) (es : List Ed) (ms : List Int) (F : List (List Int)) : Prop where
  path : ∀ p ∈ F, VPath n ms p
  fit : ∃ rest, (F.flatMap steps ++ rest).Perm es
theorem mem_everyF {n : Int} {es : List Ed} {ms : List Int} (ok : ∀ e ∈ es, 0 ≤ e.1 ∧ e.1 < e.2 ∧ e.2 < n) (hm : ∀ v ∈ ms, 0 ≤ v ∧ v < n) (h6 : n ≤ 6) {r : Row} : r ∈ everyF es ms ↔ VPath n ms r.1 ∧ r.2.Nodup ∧ r.2.map (edAt es) = steps r.1 ∧ ∀ i ∈ r.2, 0 ≤ i ∧ i < es.length := by
  constructor
  · intro h
    obtain ⟨m, hmm, h⟩ := List.mem_flatMap.mp h
    obtain ⟨h, hlt⟩ := List.mem_filter.mp h
    have mp : PathOk n [m] := ⟨by simp, by simp, fun v hv => by rw [List.mem_singleton.mp hv]; exact hm m hmm⟩
    obtain ⟨ext, nums, e1, e2, e3⟩ := pathsF_ext ok 8 [m] [] r mp List.nodup_nil h
    have R := pathsF_ok ok 8 [m] [] r mp h
    obtain ⟨k1, k2, k3, k4⟩ := ext_steps ext nums m e2
    have hr1 : r.1 = m :: ext := by rw [e1]; rfl
    have hr2 : r.2 = nums := by rw [e1]; rfl
    refine ⟨⟨R.ok, m, ext, hr1, hmm, k1, of_decide_eq_true hlt⟩, by rw [hr2]; simpa using e3, by rw [hr1, hr2]; exact k2, by rw [hr2]; exact k3⟩
  · rintro ⟨⟨P, a, ext, e, ha, hi, hlt⟩, nd, hs, hn⟩
    refine List.mem_flatMap.mpr ⟨a, ha, List.mem_filter.mpr ⟨?_, decide_eq_true hlt⟩⟩
    have hl := P.len
    rw [e] at hs hl
    have E := steps_ext (es := es) (ms := ms) ext r.2 a hi hs hn
    have := ext_pathsF (n := n) (es := es) (ms := ms) ok ext r.2 8 [a] [] (by simp) (by rw [← show r.1 = [a] ++ ext from e]; exact P.nd) (by simpa using nd) (by simp at hl; omega) E
    rw [List.nil_append, ← show r.1 = [a] ++ ext from e] at this
    exact this
/-- distinct places give a part of the edges -/
theorem part_of {es : List Ed} {U : List Int} (nd : U.Nodup) (h : ∀ i ∈ U, 0 ≤ i ∧ i < es.length) : ∃ rest, (U.map (edAt es) ++ rest).Perm es := by
  have hall : (up es.length).map (edAt es) = es := by
    unfold up
    rw [List.map_map]
    refine List.ext_getElem (by simp) fun i h1 h2 => ?_
    simp only [List.getElem_map, List.getElem_range, Function.comp]
    exact edAt_of (by simp [h2])
  have hp : (U ++ (up es.length).filter fun i => !decide (i ∈ U)).Perm (up es.length) := by
    refine (List.perm_ext_iff_of_nodup ?_ ((up_sorted _).imp fun z => Int.ne_of_lt z)).mpr fun x => ?_
    · rw [List.nodup_append]
      refine ⟨nd, ((up_sorted _).imp fun z => Int.ne_of_lt z).filter _, fun a ha b hb e => ?_⟩
      subst e
      have := (List.mem_filter.mp hb).2
      simp [ha] at this
    · rw [List.mem_append, List.mem_filter]
      constructor
      · rintro (z | z)
        · exact mem_up.mpr (h x z)
        · exact z.1
      · intro z
        by_cases c : x ∈ U
        · exact Or.inl c
        · exact Or.inr ⟨z, by simp [c]⟩
  have := hp.map (edAt es)
  rw [hall, List.map_append] at this
  exact ⟨_, this⟩
/-- a part of the edges stands at distinct places -/
theorem places_of {es xs rest : List Ed} (h : (xs ++ rest).Perm es) : ∃ U : List Int, U.Nodup ∧ (∀ i ∈ U, 0 ≤ i ∧ i < es.length) ∧ U.map (edAt es) = xs := by
  have e0 : es.zipIdx.map (·.1) = es := List.zipIdx_map_fst 0 es
  obtain ⟨Z, z1, z2⟩ := perm_map_inv (out := []) (f := fun q : Ed × Nat => q.1) h e0
  have zm : ∀ q ∈ Z, es[q.2]? = some q.1 := fun q hq => (mem_zip (z1.mem_iff.mp hq)).1
  have nd : (Z.map (·.2)).Nodup := by
    refine (z1.map (·.2)).nodup_iff.mpr ?_
    have : es.zipIdx.map (·.2) = List.range' 0 es.length := List.zipIdx_map_snd 0 es
    rw [this]
    exact List.nodup_range'
  refine ⟨(Z.take xs.length).map fun q => (q.2 : Int), ?_, fun i hi => ?_, ?_⟩
  · have : ((Z.map (·.2)).take xs.length).Nodup := nd.sublist (List.take_sublist _ _)
    rw [← List.map_take] at this
    rw [show (fun q : Ed × Nat => (q.2 : Int)) = (fun k : Nat => (k : Int)) ∘ (fun q : Ed × Nat => q.2) from rfl, ← List.map_map]
    exact List.Pairwise.map _ (fun a b h e => h (by exact_mod_cast e)) this
  · obtain ⟨q, hq, rfl⟩ := List.mem_map.mp hi
    have := (List.getElem?_eq_some_iff.mp (zm q (List.mem_of_mem_take hq))).1
    omega
  · rw [List.map_map]
    have e1 : (Z.take xs.length).map (edAt es ∘ fun q => (q.2 : Int)) = (Z.take xs.length).map (·.1) := List.map_congr_left fun q hq => edAt_of (by
      show es[((q.2 : Nat) : Int).toNat]? = some q.1
      rw [Int.toNat_natCast]; exact zm q (List.mem_of_mem_take hq))
    rw [e1, List.map_take, z2, List.take_left' rfl]
end PL

namespace PL
open PySem L2 FE
/-! # rows together are systems, and back -/
theorem free_flat : ∀ {L : List Row} {used : List Int}, (∀ r ∈ L, r.2.Nodup) → (Free used L → (L.flatMap (·.2)).Nodup ∧ ∀ x ∈ L.flatMap (·.2), ¬ x ∈ used)
  | [], used, _, _ => ⟨List.nodup_nil, fun x h => by cases h⟩
  | r :: L, used, nd, hF => by
    obtain ⟨h1, h2⟩ := Free.cons.mp hF
    obtain ⟨k1, k2⟩ := free_flat (L := L) (used := used ++ r.2) (fun s hs => nd s (List.mem_cons_of_mem _ hs)) h2
    rw [List.flatMap_cons]
    refine ⟨?_, fun x hx => ?_⟩
    · rw [List.nodup_append]
      exact ⟨nd r List.mem_cons_self, k1, fun a ha b hb e => k2 b hb (by rw [← e]; exact List.mem_append_right _ ha)⟩
    · rcases List.mem_append.mp hx with hx | hx
      · exact h1 x hx
      · exact fun z => k2 x hx (List.mem_append_left _ z)
theorem flat_free : ∀ {L : List Row} {used : List Int}, (L.flatMap (·.2)).Nodup → (∀ x ∈ L.flatMap (·.2), ¬ x ∈ used) → Free used L
  | [], used, _, _ => Free.nil
  | r :: L, used, nd, h => by
    rw [List.flatMap_cons] at nd h
    obtain ⟨n1, n2, n3⟩ := List.nodup_append.mp nd
    refine Free.cons.mpr ⟨fun x hx => h x (List.mem_append_left _ hx), flat_free n2 fun x hx hm => ?_⟩
    rcases List.mem_append.mp hm with hm | hm
    · exact h x (List.mem_append_right _ hx) hm
    · exact n3 x hm x hx rfl
section
variable {n : Int} {es : List Ed} {ms : List Int}
theorem sys_of_rows (ok : ∀ e ∈ es, 0 ≤ e.1 ∧ e.1 < e.2 ∧ e.2 < n) (hm : ∀ v ∈ ms, 0 ≤ v ∧ v < n) (h6 : n ≤ 6) {L : List Row} (hL : ∀ r ∈ L, r ∈ everyF es ms) (hF : Free [] L) : VSys n es ms (L.map (·.1)) := by
  have R : ∀ r ∈ L, VPath n ms r.1 ∧ r.2.Nodup ∧ r.2.map (edAt es) = steps r.1 ∧ ∀ i ∈ r.2, 0 ≤ i ∧ i < es.length := fun r hr => (mem_everyF ok hm h6).mp (hL r hr)
  refine ⟨fun p hp => ?_, ?_⟩
  · obtain ⟨r, hr, rfl⟩ := List.mem_map.mp hp
    exact (R r hr).1
  · obtain ⟨k1, _⟩ := free_flat (fun r hr => (R r hr).2.1) hF
    obtain ⟨rest, h⟩ := part_of (es := es) k1 fun i hi => by
      obtain ⟨r, hr, hi⟩ := List.mem_flatMap.mp hi
      exact (R r hr).2.2.2 i hi
    refine ⟨rest, ?_⟩
    have e : (L.map (·.1)).flatMap steps = (L.flatMap (·.2)).map (edAt es) := by
      rw [List.flatMap_map, List.map_flatMap]
      have : ∀ l : List Row, (∀ r ∈ l, r.2.map (edAt es) = steps r.1) → (l.flatMap fun r => steps r.1) = l.flatMap fun r => r.2.map (edAt es) := fun l hl => by
        induction l with
        | nil => rfl
        | cons r l ih => rw [List.flatMap_cons, List.flatMap_cons, hl r List.mem_cons_self, ih fun s hs => hl s (List.mem_cons_of_mem _ hs)]
      exact this L fun r hr => (R r hr).2.2.1
    rw [e]; exact h
theorem split_rows (ok : ∀ e ∈ es, 0 ≤ e.1 ∧ e.1 < e.2 ∧ e.2 < n) (hm : ∀ v ∈ ms, 0 ≤ v ∧ v < n) (h6 : n ≤ 6) : ∀ (F : List (List Int)) (U : List Int), (∀ p ∈ F, VPath n ms p) → U.Nodup → (∀ i ∈ U, 0 ≤ i ∧ i < es.length) → U.map (edAt es) = F.flatMap steps → ∃ L : List Row, L.map (·.1) = F ∧ L.flatMap (·.2) = U ∧ ∀ r ∈ L, r ∈ everyF es ms
  | [], U, _, _, _, e => by
    have : U = [] := by
      cases U with
      | nil => rfl
      | cons x U => cases e
    exact ⟨[], rfl, by rw [this]; rfl, fun r h => by cases h⟩
  | p :: F, U, hp, nd, hU, e => by
    rw [List.flatMap_cons] at e
    have eU : U = U.take (steps p).length ++ U.drop (steps p).length := (List.take_append_drop _ _).symm
    have e1 : (U.take (steps p).length).map (edAt es) = steps p := by rw [List.map_take, e, List.take_left' rfl]
    have e2 : (U.drop (steps p).length).map (edAt es) = F.flatMap steps := by rw [List.map_drop, e, List.drop_left' rfl]
    obtain ⟨L, l1, l2, l3⟩ := split_rows ok hm h6 F (U.drop (steps p).length) (fun q hq => hp q (List.mem_cons_of_mem _ hq)) (nd.sublist (List.drop_sublist _ _)) (fun i hi => hU i (List.mem_of_mem_drop hi)) e2
    refine ⟨(p, U.take (steps p).length) :: L, by rw [List.map_cons, l1], by rw [List.flatMap_cons, l2]; exact eU.symm, fun r hr => ?_⟩
    rcases List.mem_cons.mp hr with z | hr
    · rw [z]
      exact (mem_everyF ok hm h6).mpr ⟨hp p List.mem_cons_self, nd.sublist (List.take_sublist _ _), e1, fun i hi => hU i (List.mem_of_mem_take hi)⟩
    · exact l3 r hr
theorem rows_of_sys (ok : ∀ e ∈ es, 0 ≤ e.1 ∧ e.1 < e.2 ∧ e.2 < n) (hm : ∀ v ∈ ms, 0 ≤ v ∧ v < n) (h6 : n ≤ 6) {F : List (List Int)} (h : VSys n es ms F) : ∃ L : List Row, L.map (·.1) = F ∧ Free [] L ∧ ∀ r ∈ L, r ∈ everyF es ms := by
  obtain ⟨rest, hp⟩ := h.fit
  obtain ⟨U, u1, u2, u3⟩ := places_of hp
  obtain ⟨L, l1, l2, l3⟩ := split_rows ok hm h6 F U h.path u1 u2 u3
  exact ⟨L, l1, flat_free (by rw [l2]; exact u1) fun x _ z => (by cases z), l3⟩
theorem free_nodup {L : List Row} (h : Free [] L) (hne : ∀ r ∈ L, r.2 ≠ []) : L.Nodup := by
  refine List.Pairwise.imp_of_mem (fun {r s} hr hs hrs e => ?_) h.2
  subst e
  obtain ⟨x, hx⟩ := List.exists_mem_of_ne_nil _ (hne r hr)
  exact hrs x hx hx
theorem free_perm {L M : List Row} (p : L.Perm M) (h : Free [] L) : Free [] M :=
  ⟨fun r _ x _ z => (by cases z), (p.pairwise_iff fun {r s} k x hx hm => k x hm hx).mp h.2⟩
/-- what the search gives is a largest system -/
theorem best_sys (ok : ∀ e ∈ es, 0 ≤ e.1 ∧ e.1 < e.2 ∧ e.2 < n) (hm : ∀ v ∈ ms, 0 ≤ v ∧ v < n) (h6 : n ≤ 6) {S : List Row} {b : List (List Int)} (hS : S.Perm (everyF es ms)) (hne : ∀ r ∈ S, r.2 ≠ []) (B : Best S [] [] [] b) : VSys n es ms b ∧ ∀ F, VSys n es ms F → F.length ≤ b.length := by
  constructor
  · rcases B.is with e | ⟨L, l1, l2, l3⟩
    · rw [e]
      exact ⟨fun p hp => (by cases hp), es, by simp⟩
    · rw [l3, List.nil_append]
      exact sys_of_rows ok hm h6 (fun r hr => hS.mem_iff.mp (l1.mem hr)) l2
  · intro F hF
    obtain ⟨L, l1, l2, l3⟩ := rows_of_sys ok hm h6 hF
    have hin : ∀ r ∈ L, r ∈ S := fun r hr => hS.mem_iff.mpr (l3 r hr)
    obtain ⟨k, k1, k2⟩ := sub_of S L (free_nodup l2 fun r hr => hne r (hin r hr)) hin
    have := B.all k k1 (free_perm k2.symm l2)
    rw [k2.length_eq] at this
    rw [← l1, List.length_map]
    simpa using this
end
end PL

namespace PL
open PySem L2 FE
/-! # one edge more -/
section
variable {n : Int} {es es' : List Ed} {ms : List Int} {F : List (List Int)} {e : Ed}
theorem VSys.perm (h : VSys n es ms F) (p : es.Perm es') : VSys n es' ms F := ⟨h.path, h.fit.elim fun r hr => ⟨r, hr.trans p⟩⟩
theorem VSys.more (h : VSys n es ms F) : VSys n (e :: es) ms F := ⟨h.path, h.fit.elim fun r hr => ⟨e :: r, List.perm_middle.trans (hr.cons e)⟩⟩
theorem VSys.less (h : VSys n (e :: es) ms F) : ∃ F', VSys n es ms F' ∧ F.length ≤ F'.length + 1 ∧ ∀ p ∈ F', p ∈ F := by
  obtain ⟨rest, hr⟩ := h.fit
  have hm : e ∈ F.flatMap steps ++ rest := hr.mem_iff.mpr List.mem_cons_self
  by_cases c : e ∈ rest
  · refine ⟨F, ⟨h.path, rest.erase e, ?_⟩, by omega, fun p hp => hp⟩
    have h1 : (F.flatMap steps ++ rest).Perm (e :: (F.flatMap steps ++ rest.erase e)) := ((List.perm_cons_erase c).append_left _).trans List.perm_middle
    exact (h1.symm.trans hr).cons_inv
  · have hm' := (List.mem_append.mp hm).resolve_right c
    obtain ⟨p, hp, he⟩ := List.mem_flatMap.mp hm'
    refine ⟨F.erase p, ⟨fun q hq => h.path q (List.mem_of_mem_erase hq), (steps p).erase e ++ rest, ?_⟩, by rw [List.length_erase_of_mem hp]; omega, fun q hq => List.mem_of_mem_erase hq⟩
    have h1 : (F.flatMap steps).Perm (steps p ++ (F.erase p).flatMap steps) := by
      have := (List.perm_cons_erase hp).flatMap_right steps
      rwa [List.flatMap_cons] at this
    have h2 : (F.flatMap steps ++ rest).Perm (e :: ((F.erase p).flatMap steps ++ ((steps p).erase e ++ rest))) := by
      refine (h1.append_right rest).trans ?_
      refine (((List.perm_cons_erase he).append_right _).append_right rest).trans ?_
      show (e :: ((steps p).erase e ++ (F.erase p).flatMap steps ++ rest)).Perm _
      refine List.Perm.cons e ?_
      rw [← List.append_assoc]
      exact List.perm_append_comm.append_right rest
    exact (h2.symm.trans hr).cons_inv
theorem VSys.join {a b : Int} (h : VSys n es ms F) (hab : a < b) (ha : a ∈ ms) (hb : b ∈ ms) (h0 : 0 ≤ a) (hn : b < n) : VSys n ((a, b) :: es) ms ([a, b] :: F) := by
  refine ⟨fun p hp => ?_, h.fit.elim fun r hr => ⟨r, ?_⟩⟩
  · rcases List.mem_cons.mp hp with z | hp
    · rw [z]
      exact ⟨⟨by simp, by simp; omega, fun v hv => by simp at hv; omega⟩, a, [b], rfl, ha, hb, by show a < lastI [a, b]; exact hab⟩
    · exact h.path p hp
  · have e1 : steps [a, b] = [(a, b)] := by
      show [nrm a b] = _
      unfold nrm; rw [if_neg (by omega)]
    rw [List.flatMap_cons, e1]
    exact hr.cons (a, b)
/-! # cuts -/
def lvs (S : List Int) (e : Ed) : Bool := !(decide (e.1 ∈ S) == decide (e.2 ∈ S))
theorem lv_count (es : List Ed) (S : List Int) : lv es S = es.countP (lvs S) := by
  rw [List.countP_eq_length_filter]; rfl
theorem lv_perm {S : List Int} (p : es.Perm es') : lv es S = lv es' S := by rw [lv_count, lv_count, p.countP_eq]
theorem lv_cons {S : List Int} : lv (e :: es) S = lv es S + (if lvs S e = true then 1 else 0) := by rw [lv_count, lv_count, List.countP_cons]
theorem lvs_nrm {S : List Int} {a b : Int} : lvs S (nrm a b) = !(decide (a ∈ S) == decide (b ∈ S)) := by
  unfold lvs nrm
  by_cases h : b < a
  · rw [if_pos h]
    show (!(decide (b ∈ S) == decide (a ∈ S))) = _
    by_cases h1 : a ∈ S <;> by_cases h2 : b ∈ S <;> simp [h1, h2]
  · rw [if_neg h]
/-- who goes from inside to outside crosses -/
theorem cross {S : List Int} : ∀ (ext : List Int) (cur : Int) (z : Int), (cur :: ext).getLast? = some z → (decide (cur ∈ S) == decide (z ∈ S)) = false → 1 ≤ (stepsE cur ext).countP (lvs S)
  | [], cur, z, h, hc => by
    have : cur = z := by simpa using h
    rw [this] at hc; simp at hc
  | v :: ext, cur, z, h, hc => by
    rw [stepsE, List.countP_cons, lvs_nrm]
    by_cases c : (decide (cur ∈ S) == decide (v ∈ S)) = true
    · have ih := cross (S := S) ext v z (by simpa using h) (by
        have e1 : decide (cur ∈ S) = decide (v ∈ S) := eq_of_beq c
        rw [← e1]; exact hc)
      omega
    · have c' : (decide (cur ∈ S) == decide (v ∈ S)) = false := by simpa using c
      rw [c']; simp
theorem lastI_get {p : List Int} (h : p ≠ []) : p.getLast? = some (lastI p) := by
  unfold lastI
  rw [List.getLastD_eq_getLast?, List.getLast?_eq_some_getLast h]; rfl
/-- m is an end of p -/
def isEnd (m : Int) (p : List Int) : Bool := decide (p.head? = some m) || decide (lastI p = m)
theorem inner_last {ms : List Int} : ∀ {ext : List Int} (a : Int), InnerOk ms ext → lastI (a :: ext) ∈ ms
  | [], _, h => h.elim
  | [v], a, h => h
  | v :: w :: ext, a, h => by
    have := inner_last (ext := w :: ext) v h.2
    have e : lastI (a :: v :: w :: ext) = lastI (v :: w :: ext) := by
      unfold lastI
      simp [List.getLastD_eq_getLast?]
    rw [e]; exact this
theorem end_cross {S : List Int} {m : Int} {p : List Int} (hp : VPath n ms p) (hm : m ∈ S) (ho : ∀ v ∈ ms, v ≠ m → ¬ v ∈ S) (he : isEnd m p = true) : 1 ≤ (steps p).countP (lvs S) := by
  obtain ⟨a, ext, e, ha, hi, hlt⟩ := hp.st
  have hb := inner_last a hi
  rw [← e] at hb
  have hl := lastI_get hp.ok.ne
  have hs : steps p = stepsE a ext := by rw [e]; rfl
  rw [hs]
  refine cross ext a (lastI p) (by rw [← e]; exact hl) ?_
  unfold isEnd at he
  rw [e] at he
  simp only [List.head?_cons, Option.some.injEq, Bool.or_eq_true, decide_eq_true_eq] at he
  rw [← e] at he
  rcases he with z | z
  · subst z
    have h2 := ho _ hb (by omega)
    simp [hm, h2]
  · have h2 := ho _ ha (by omega)
    rw [z]; simp [hm, h2]
theorem count_flat {α β : Type} (q : β → Bool) (f : α → List β) : ∀ l : List α, (l.flatMap f).countP q = (l.map fun x => (f x).countP q).sum
  | [] => rfl
  | x :: l => by rw [List.flatMap_cons, List.countP_append, List.map_cons, List.sum_cons, count_flat q f l]
theorem count_le_sum {α : Type} (q : α → Bool) (f : α → Nat) : ∀ l : List α, (∀ x ∈ l, q x = true → 1 ≤ f x) → l.countP q ≤ (l.map f).sum
  | [], _ => Nat.le_refl _
  | x :: l, h => by
    rw [List.countP_cons, List.map_cons, List.sum_cons]
    have ih := count_le_sum q f l fun y hy => h y (List.mem_cons_of_mem _ hy)
    by_cases c : q x = true
    · have := h x List.mem_cons_self c
      rw [if_pos c]; omega
    · rw [if_neg c]; omega
/-- the paths that end at m are no more than the edges that leave a set around m -/
theorem ends_le {S : List Int} {m : Int} (h : VSys n es ms F) (hm : m ∈ S) (ho : ∀ v ∈ ms, v ≠ m → ¬ v ∈ S) : F.countP (isEnd m) ≤ lv es S := by
  obtain ⟨rest, hr⟩ := h.fit
  rw [← lv_perm hr, lv_count, List.countP_append, count_flat]
  have := count_le_sum (isEnd m) (fun p => (steps p).countP (lvs S)) F fun p hp he => end_cross (h.path p hp) hm ho he
  omega
theorem two_ends {p : List Int} (hp : VPath n ms p) (hn : ms.Nodup) : (ms.countP fun m => isEnd m p) = 2 := by
  obtain ⟨a, ext, e, ha, hi, hlt⟩ := hp.st
  have hb := inner_last a hi
  rw [← e] at hb
  have h1 : (ms.filter fun m => isEnd m p).Perm [a, lastI p] := by
    refine (List.perm_ext_iff_of_nodup (hn.filter _) (by simp; omega)).mpr fun x => ?_
    rw [List.mem_filter]
    unfold isEnd
    rw [e]
    simp only [List.head?_cons, Option.some.injEq, Bool.or_eq_true, decide_eq_true_eq, List.mem_cons, List.not_mem_nil, or_false]
    rw [← e]
    constructor
    · rintro ⟨_, z | z⟩
      · exact Or.inl z.symm
      · exact Or.inr z.symm
    · rintro (z | z)
      · rw [z]; exact ⟨ha, Or.inl rfl⟩
      · rw [z]; exact ⟨hb, Or.inr rfl⟩
  rw [List.countP_eq_length_filter, h1.length_eq]; rfl
theorem sum_swap {α β : Type} (q : α → β → Bool) (A : List α) : ∀ (B : List β), (A.map fun a => B.countP (q a)).sum = (B.map fun b => A.countP fun a => q a b).sum
  | [] => by
    induction A with
    | nil => rfl
    | cons a A ih => simpa using ih
  | b :: B => by
    rw [List.map_cons, List.sum_cons, ← sum_swap q A B]
    induction A with
    | nil => rfl
    | cons a A ih =>
      rw [List.map_cons, List.sum_cons, List.map_cons, List.sum_cons, List.countP_cons, List.countP_cons, ih]
      by_cases c : q a b = true
      · rw [if_pos c]; omega
      · rw [if_neg c]; omega
/-- a system has at most half as many paths as edges leave sets around the marks -/
theorem sys_le {S : Int → List Int} (h : VSys n es ms F) (hn : ms.Nodup) (hS : ∀ m ∈ ms, m ∈ S m ∧ ∀ v ∈ ms, v ≠ m → ¬ v ∈ S m) : 2 * F.length ≤ (ms.map fun m => lv es (S m)).sum := by
  have h1 : (ms.map fun m => F.countP (isEnd m)).sum ≤ (ms.map fun m => lv es (S m)).sum := by
    have : ∀ l : List Int, (∀ m ∈ l, F.countP (isEnd m) ≤ lv es (S m)) → (l.map fun m => F.countP (isEnd m)).sum ≤ (l.map fun m => lv es (S m)).sum := fun l hl => by
      induction l with
      | nil => exact Nat.le_refl _
      | cons m l ih =>
        rw [List.map_cons, List.sum_cons, List.map_cons, List.sum_cons]
        have := hl m List.mem_cons_self
        have := ih fun x hx => hl x (List.mem_cons_of_mem _ hx)
        omega
    exact this ms fun m hm => ends_le h (hS m hm).1 (hS m hm).2
  rw [sum_swap (fun m p => isEnd m p) ms F] at h1
  have h2 : (F.map fun p => ms.countP fun m => isEnd m p).sum = 2 * F.length := by
    have : ∀ l : List (List Int), (∀ p ∈ l, VPath n ms p) → (l.map fun p => ms.countP fun m => isEnd m p).sum = 2 * l.length := fun l hl => by
      induction l with
      | nil => rfl
      | cons p l ih =>
        rw [List.map_cons, List.sum_cons, two_ends (hl p List.mem_cons_self) hn, ih fun x hx => hl x (List.mem_cons_of_mem _ hx), List.length_cons]
        omega
    exact this F h.path
  omega
end
end PL

namespace PL
open PySem L2 FE
section
variable {i j n k : Nat} {ρ : Rho} {P P' : ObD} {ds : List D} {f f0 f1 : Rho → R D} {fA : Rho → R (List D)} {g h : Rho → Out} {neg : Bool} {fN gN : Rho → R ObD} {fm : Rho → R (D × Rho)} {sem : List D → R D} {semR : ObD → List D → R D} {semE : ObD → ObD ⊕ D → R D} {semM : ObD → List D → R (D × ObD)} {semD : ObD → R ObD} {sel : ObD → D}
@[simp] theorem obAt_ap : obAt i ρ = (match ρ[i]? with
  | some (some (.ob P)) => some P
  | some (some (.rd P)) => some P
  | _ => none) := (rfl)
@[simp] theorem fldF_ap : fldF i sel ρ = (match obAt i ρ with
  | some P => .ok (sel P)
  | none => .bad) := (rfl)
@[simp] theorem fldG_ap : fldG i ρ = (match obAt i ρ with
  | some P => if P.nd = true then .ok P.g else .bad
  | none => .bad) := (rfl)
@[simp] theorem gvG_ap : gvG i ρ = (match ρ[i]? with
  | some (some (.gr d)) => .ok d
  | _ => .bad) := (rfl)
@[simp] theorem methF_ap : methF i n semR fA ρ = (match obAt i ρ with
  | some P => (fA ρ >>= fun ds => if ds.length + 1 = n then semR P ds else .bad)
  | none => .bad) := (rfl)
@[simp] theorem methXF_ap : methXF i n semM fA ρ = (match obAt i ρ with
  | some P => (fA ρ >>= fun ds => if ds.length + 1 = n then (match semM P ds with
      | .exc e => .exc e
      | _ => .bad) else .bad)
  | none => .bad) := (rfl)
@[simp] theorem mutOF_ap : mutOF i n semM fA ρ = (match ρ[i]? with
  | some (some (.ob P)) => (fA ρ >>= fun ds => if ds.length + 1 = n then (match semM P ds with
      | .ok (d, P') => .ok (d, ρ.set i (some (.ob P')))
      | .exc e => .exc e
      | .bad => .bad) else .bad)
  | _ => .bad) := (rfl)
@[simp] theorem lenOF_ap : lenOF i semR ρ = (match obAt i ρ with
  | some P => (match semR P [] with
    | .ok (.int n) => if 0 ≤ n ∧ n < 2 ^ 62 then .ok (.int n) else .bad
    | _ => .bad)
  | none => .bad) := (rfl)
@[simp] theorem strOF_ap : strOF i semR ρ = (match obAt i ρ with
  | some P => (match semR P [] with
    | .ok (.str n) => .ok (.str n)
    | _ => .bad)
  | none => .bad) := (rfl)
@[simp] theorem eqR_ok {b : Bool} : eqR neg (.ok (.bool b)) = .ok (.bool (b != neg)) := (rfl)
@[simp] theorem eqOOF_ap : eqOOF neg i j semE ρ = if i = j then .bad else (match obAt i ρ, obAt j ρ with
  | some P, some P2 => eqR neg (semE P (.inl P2))
  | _, _ => .bad) := (rfl)
@[simp] theorem eqODF_ap : eqODF neg i semE f ρ = (match obAt i ρ with
  | some P => (f ρ >>= fun d => if tsD d = true then eqR neg (semE P (.inr d)) else .bad)
  | none => .bad) := (rfl)
@[simp] theorem eqONF_ap : eqONF neg i semE fN ρ = (match obAt i ρ with
  | some P => (fN ρ >>= fun P2 => eqR neg (semE P (.inl P2)))
  | none => .bad) := (rfl)
@[simp] theorem isPF_ap : isPF i ρ = (match obAt i ρ with
  | some _ => .ok (.bool true)
  | none => (match gv i ρ with
    | .ok d => if tsD d = true then .ok (.bool false) else .bad
    | _ => .bad)) := (rfl)
@[simp] theorem callPGF_ap : callPGF n sem f0 fA ρ = (f0 ρ >>= fun d => fA ρ >>= fun ds => if (d :: ds).length = n then sem (d :: ds) else .bad) := (rfl)
@[simp] theorem mkF_ap {nd : Bool} : mkF nd sem f0 f1 ρ = (f0 ρ >>= fun g => f1 ρ >>= fun m => sem [g, m] >>= fun _ => .ok ⟨g, m, .tuple [], .int 0, nd⟩) := (rfl)
@[simp] theorem setOF_ap : setOF i fN ρ = (fN ρ).out fun P => .nx (ρ.set i (some (.ob P))) := (rfl)
@[simp] theorem dropOF_ap : dropOF fN ρ = (fN ρ).out fun _ => .nx ρ := (rfl)
@[simp] theorem parOF_ap : parOF i j fN gN ρ = (fN ρ).out fun P => (gN ρ).out fun P2 => .nx ((ρ.set i (some (.ob P))).set j (some (.ob P2))) := (rfl)
@[simp] theorem exprMF_ap : exprMF fm ρ = (fm ρ).out fun x => .nx x.2 := (rfl)
@[simp] theorem cmpMF_ap {gd : D → D → Option D} : cmpMF gd fm f ρ = (fm ρ >>= fun x => f x.2 >>= fun y => R.of (gd x.1 y) >>= fun r => R.of (bl? r) >>= fun b => .ok (b, x.2)) := (rfl)
@[simp] theorem ifMF_ap {c : Rho → R (Bool × Rho)} : ifMF c g h ρ = (c ρ).out fun x => if x.1 = true then g x.2 else h x.2 := (rfl)
@[simp] theorem dupF_ap : dupF i semD ρ = (match obAt i ρ with
  | some P => semD P
  | none => .bad) := (rfl)
@[simp] theorem aliasF_ap {c : Nat} : aliasF i c semD ρ = (match ρ[i]? with
  | some (some (.ob P)) => (match semD P with
    | .ok P' => .nx ((ρ.set c (some (.ob P))).set i (some (.ob P')))
    | _ => .bad)
  | _ => .bad) := (rfl)
@[simp] theorem storeF_ap {u : ObD → D → ObD} : storeF i u f ρ = (match ρ[i]? with
  | some (some (.ob P)) => (f ρ).out fun d => .nx (ρ.set i (some (.ob (u P d))))
  | _ => .bad) := (rfl)
@[simp] theorem seqNF_ap {hn : Rho → R ObD} : seqNF g hn ρ = (match g ρ with
  | .nx ρ' => hn ρ'
  | .exc e => .exc e
  | _ => .bad) := (rfl)
@[simp] theorem retNF_ap : retNF i ρ = (match ρ[i]? with
  | some (some (.ob P)) => .ok P
  | _ => .bad) := (rfl)
theorem bodyR_ap : bodyR n g P ds = resO (g (startR n P ds)) := (rfl)
theorem bodyE_ap {o : ObD ⊕ D} : bodyE n g P o = resO (g (startE n P o)) := (rfl)
@[simp] theorem strD_int {z : Int} : strD (.int z) = if z.natAbs.log2 < 1920 then some (.str (toString z)) else none := (rfl)
@[simp] theorem strD_str {z : Str} : strD (.str z) = some (.str z) := (rfl)
@[simp] theorem joinF_ap {x : Str} : joinF x f ρ = (f ρ >>= fun y => R.of (joinD (.str x) y)) := (rfl)
@[simp] theorem fjF_ap {gs : Rho → R (List Str)} : fjF f gs ρ = (f ρ >>= fun d => R.of (fmtS d) >>= fun y => gs ρ >>= fun ys => .ok (y :: ys)) := (rfl)
@[simp] theorem fjC_ap {x : Str} {gs : Rho → R (List Str)} : fjC x gs ρ = (gs ρ >>= fun ys => .ok (x :: ys)) := (rfl)
@[simp] theorem joinedF_ap {gs : Rho → R (List Str)} : joinedF gs ρ = (gs ρ >>= fun ys => chk (catS ys).length >>= fun _ => .ok (.str (catS ys))) := (rfl)
end
end PL

namespace GT
open PL
/-! # cuts: sets told by truths -/
abbrev Vs := Int → Bool
def outE (X : Vs) (e : Ed) : Bool := X e.1 != X e.2
def cut (es : List Ed) (X : Vs) : Nat := es.countP (outE X)
def atv (v : Int) (e : Ed) : Bool := decide (e.1 = v) || decide (e.2 = v)
def oth (v : Int) (e : Ed) : Int := if e.1 = v then e.2 else e.1
def dg (es : List Ed) (v : Int) : Nat := es.countP (atv v)
def hh (es : List Ed) (v : Int) (X : Vs) : Nat := es.countP fun e => atv v e && outE X e
def b01 (b : Bool) : Nat := if b = true then 1 else 0
@[simp] theorem b01_t : b01 true = 1 := (rfl)
@[simp] theorem b01_f : b01 false = 0 := (rfl)
section
variable {es es' : List Ed} {e : Ed} {X Y : Vs} {v : Int}
theorem cnt_cons (p : Ed → Bool) : (e :: es).countP p = es.countP p + b01 (p e) := by rw [List.countP_cons]; rfl
theorem cut_cons : cut (e :: es) X = cut es X + b01 (outE X e) := cnt_cons _
theorem dg_cons : dg (e :: es) v = dg es v + b01 (atv v e) := cnt_cons _
theorem cut_perm (p : es.Perm es') : cut es X = cut es' X := p.countP_eq _
theorem dg_perm (p : es.Perm es') : dg es v = dg es' v := p.countP_eq _
theorem cut_congr : ∀ {es : List Ed}, (∀ e ∈ es, X e.1 = Y e.1 ∧ X e.2 = Y e.2) → cut es X = cut es Y
  | [], _ => rfl
  | e :: es, h => by
    rw [cut_cons, cut_cons, cut_congr fun d hd => h d (List.mem_cons_of_mem _ hd)]
    unfold outE
    rw [(h e List.mem_cons_self).1, (h e List.mem_cons_self).2]
/-- four counts, edge by edge -/
theorem cnt4 (p q r s : Ed → Bool) : ∀ {es : List Ed}, (∀ e ∈ es, b01 (p e) + b01 (q e) ≤ b01 (r e) + b01 (s e)) → es.countP p + es.countP q ≤ es.countP r + es.countP s
  | [], _ => Nat.le_refl _
  | e :: es, h => by
    rw [cnt_cons, cnt_cons, cnt_cons, cnt_cons]
    have := cnt4 p q r s fun d hd => h d (List.mem_cons_of_mem _ hd)
    have := h e List.mem_cons_self
    omega
def orS (X Y : Vs) : Vs := fun z => X z || Y z
def anS (X Y : Vs) : Vs := fun z => X z && Y z
def miS (X Y : Vs) : Vs := fun z => X z && !Y z
def noS (X : Vs) : Vs := fun z => !X z
theorem cut_no : cut es (noS X) = cut es X := by
  unfold cut
  refine List.countP_congr fun e _ => ?_
  unfold outE noS
  cases X e.1 <;> cases X e.2 <;> simp
theorem cut_sub : cut es (orS X Y) + cut es (anS X Y) ≤ cut es X + cut es Y := cnt4 _ _ _ _ fun e _ => by
  unfold outE orS anS
  cases X e.1 <;> cases X e.2 <;> cases Y e.1 <;> cases Y e.2 <;> decide
theorem cut_posi : cut es (miS X Y) + cut es (miS Y X) ≤ cut es X + cut es Y := cnt4 _ _ _ _ fun e _ => by
  unfold outE miS
  cases X e.1 <;> cases X e.2 <;> cases Y e.1 <;> cases Y e.2 <;> decide
/-- .. and an edge from what is common to what is in none counts twice -/
theorem cut_posi2 (he : e ∈ es) (h1 : X e.1 = Y e.1) (h2 : X e.2 = Y e.2) (h : X e.1 ≠ X e.2) : cut es (miS X Y) + cut es (miS Y X) + 2 ≤ cut es X + cut es Y := by
  have p := List.perm_cons_erase he
  rw [cut_perm p, cut_perm (X := miS Y X) p, cut_perm (X := X) p, cut_perm (X := Y) p, cut_cons, cut_cons, cut_cons, cut_cons]
  have := cut_posi (es := es.erase e) (X := X) (Y := Y)
  have : b01 (outE (miS X Y) e) + b01 (outE (miS Y X) e) + 2 ≤ b01 (outE X e) + b01 (outE Y e) := by
    unfold outE miS
    rw [← h1, ← h2]
    cases a : X e.1 <;> cases b : X e.2 <;> first | decide | (rw [a, b] at h; exact absurd rfl h)
  omega
/-- v goes to the other side -/
def mvS (X : Vs) (v : Int) : Vs := fun z => if z = v then !X z else X z
theorem cut_mv : ∀ {es : List Ed}, (∀ e ∈ es, e.1 ≠ e.2) → cut es (mvS X v) + 2 * hh es v X = cut es X + dg es v
  | [], _ => rfl
  | e :: es, h => by
    have ih := cut_mv fun d hd => h d (List.mem_cons_of_mem _ hd)
    have ne := h e List.mem_cons_self
    unfold hh at ih ⊢
    rw [cut_cons, cut_cons, dg_cons, cnt_cons]
    have : b01 (outE (mvS X v) e) + 2 * b01 (atv v e && outE X e) = b01 (outE X e) + b01 (atv v e) := by
      unfold outE mvS atv
      by_cases h1 : e.1 = v
      · have h2 : ¬ e.2 = v := fun z => ne (by rw [h1, z])
        rw [if_pos h1, if_neg h2, decide_eq_true h1]
        cases X e.1 <;> cases X e.2 <;> rfl
      · rw [if_neg h1, decide_eq_false h1]
        by_cases h2 : e.2 = v
        · rw [if_pos h2, decide_eq_true h2]
          cases X e.1 <;> cases X e.2 <;> rfl
        · rw [if_neg h2, decide_eq_false h2]
          cases X e.1 <;> cases X e.2 <;> rfl
    omega
theorem hh_le : hh es v X ≤ dg es v := by
  unfold hh dg
  refine List.countP_mono_left fun e _ h => ?_
  exact (Bool.and_eq_true_iff.mp h).1
/-- of the edges at v at most half leave a set that can't be bettered by v's move -/
theorem half (ok : ∀ e ∈ es, e.1 ≠ e.2) (h : cut es X ≤ cut es (mvS X v)) : 2 * hh es v X ≤ dg es v := by
  have := cut_mv (X := X) (v := v) ok
  omega
/-! ## parity -/
/-- X without the vertices of l -/
def wo (X : Vs) (l : List Int) : Vs := fun z => X z && !decide (z ∈ l)
theorem par_wo (ok : ∀ e ∈ es, e.1 ≠ e.2) : ∀ (l : List Int), (∀ v ∈ l, dg es v % 2 = 0) → cut es (wo X l) % 2 = cut es X % 2
  | [], _ => by
    have : cut es (wo X []) = cut es X := cut_congr fun e _ => by simp [wo]
    rw [this]
  | v :: l, h => by
    have ih := par_wo ok l fun w hw => h w (List.mem_cons_of_mem _ hw)
    have hv := h v List.mem_cons_self
    by_cases c : wo X l v = true
    · have e1 : cut es (wo X (v :: l)) = cut es (mvS (wo X l) v) := by
        refine cut_congr fun e _ => ?_
        have : ∀ z, wo X (v :: l) z = mvS (wo X l) v z := fun z => by
          unfold mvS
          by_cases zv : z = v
          · rw [if_pos zv, zv, c]; simp [wo]
          · rw [if_neg zv]; simp [wo, zv]
        exact ⟨this _, this _⟩
      have := cut_mv (X := wo X l) (v := v) ok
      rw [e1]; omega
    · have e1 : cut es (wo X (v :: l)) = cut es (wo X l) := by
        refine cut_congr fun e _ => ?_
        have : ∀ z, wo X (v :: l) z = wo X l z := fun z => by
          by_cases zv : z = v
          · have c' : wo X l v = false := by simpa using c
            rw [zv, c']; simp [wo]
          · simp [wo, zv]
        exact ⟨this _, this _⟩
      rw [e1]; exact ih
/-- a set around t: t, no other mark -/
def tS (ms : List Int) (t : Int) (X : Vs) : Prop := X t = true ∧ ∀ s ∈ ms, s ≠ t → X s = false
/-- edges between 0 and n, no loops -/
def EOk (n : Int) (es : List Ed) : Prop := ∀ e ∈ es, 0 ≤ e.1 ∧ e.1 < e.2 ∧ e.2 < n
theorem EOk.ne {n : Int} (ok : EOk n es) : ∀ e ∈ es, e.1 ≠ e.2 := fun e he => by have := ok e he; omega
/-- the vertices that are no marks are even -/
def Even (n : Int) (es : List Ed) (ms : List Int) : Prop := ∀ v, 0 ≤ v → v < n → ¬ v ∈ ms → dg es v % 2 = 0
theorem par {n : Int} {ms : List Int} {t : Int} (ht : t ∈ ms) (ok : EOk n es) (ev : Even n es ms) (hX : tS ms t X) (hY : tS ms t Y) : cut es X % 2 = cut es Y % 2 := by
  have key : ∀ Z, tS ms t Z → cut es Z % 2 = cut es (fun z => decide (z = t)) % 2 := fun Z hZ => by
    have h := par_wo (X := Z) ok.ne ((up n).filter fun v => !decide (v ∈ ms)) fun v hv => by
      obtain ⟨h1, h2⟩ := List.mem_filter.mp hv
      have := mem_up.mp h1
      exact ev v this.1 this.2 (by simpa using h2)
    rw [← h]
    have : cut es (wo Z ((up n).filter fun v => !decide (v ∈ ms))) = cut es (fun z => decide (z = t)) := by
      refine cut_congr fun e he => ?_
      have q : ∀ z, 0 ≤ z → z < n → wo Z ((up n).filter fun v => !decide (v ∈ ms)) z = decide (z = t) := fun z z1 z2 => by
        unfold wo
        by_cases hz : z ∈ ms
        · have : ¬ z ∈ (up n).filter fun v => !decide (v ∈ ms) := fun q => by
            have := (List.mem_filter.mp q).2
            simp [hz] at this
          rw [decide_eq_false this]
          by_cases c : z = t
          · rw [c, hZ.1]; simp
          · rw [hZ.2 z hz c, decide_eq_false c]; rfl
        · have : z ∈ (up n).filter fun v => !decide (v ∈ ms) := List.mem_filter.mpr ⟨mem_up.mpr ⟨z1, z2⟩, by simp [hz]⟩
          rw [decide_eq_true this, decide_eq_false (fun c => hz (by rw [c]; exact ht))]
          simp
      have := ok e he
      exact ⟨q _ (by omega) (by omega), q _ (by omega) (by omega)⟩
    rw [this]
  rw [key X hX, key Y hY]
end
end GT

namespace GT
open PL
/-! # walks -/
theorem steps_cc (a b : Int) (l : List Int) : steps (a :: b :: l) = nrm a b :: steps (b :: l) := rfl
theorem steps_one (a : Int) : steps [a] = [] := rfl
theorem steps_app (c : Int) (w : List Int) : ∀ u : List Int, steps (u ++ c :: w) = steps (u ++ [c]) ++ steps (c :: w)
  | [] => rfl
  | [a] => rfl
  | a :: b :: u => by
    show nrm a b :: steps ((b :: u) ++ c :: w) = nrm a b :: (steps ((b :: u) ++ [c]) ++ steps (c :: w))
    rw [steps_app c w (b :: u)]
theorem steps_rev : ∀ p : List Int, (steps p.reverse).Perm (steps p)
  | [] => List.Perm.refl _
  | [a] => List.Perm.refl _
  | a :: b :: l => by
    have e : (a :: b :: l).reverse = l.reverse ++ b :: [a] := by simp
    rw [e, steps_app, steps_cc, steps_cc, steps_one, nrm_comm b a]
    have ih := steps_rev (b :: l)
    rw [List.reverse_cons] at ih
    exact (ih.append_right _).trans List.perm_append_comm
/-- a walk between different marks -/
structure Wk (n : Int) (ms : List Int) (p : List Int) : Prop where
  ok : ∀ v ∈ p, 0 ≤ v ∧ v < n
  st : ∃ a b, p.head? = some a ∧ p.getLast? = some b ∧ a ∈ ms ∧ b ∈ ms ∧ a ≠ b
theorem head_app {u : List Int} {c : Int} {w z : List Int} {a : Int} (h : (u ++ c :: w).head? = some a) : (u ++ c :: z).head? = some a := by
  cases u <;> simpa using h
theorem last_app {u v w : List Int} {c b : Int} (h : (u ++ c :: w).getLast? = some b) : (v ++ c :: w).getLast? = some b := by
  simpa [List.getLast?_append, List.getLast?_cons] using h
theorem dup_split : ∀ {p : List Int}, ¬ p.Nodup → ∃ u c w z, p = u ++ c :: (w ++ c :: z)
  | [], h => absurd List.nodup_nil h
  | x :: l, h => by
    by_cases c : x ∈ l
    · obtain ⟨w, z, e⟩ := List.append_of_mem c
      exact ⟨[], x, w, z, by rw [e]; rfl⟩
    · have : ¬ l.Nodup := fun z => h (List.nodup_cons.mpr ⟨c, z⟩)
      obtain ⟨u, c, w, z, e⟩ := dup_split this
      exact ⟨x :: u, c, w, z, by rw [e]; rfl⟩
theorem inner_of {ms : List Int} : ∀ {ext : List Int} {b : Int}, ext.getLast? = some b → b ∈ ms → (∀ u c w, ext = u ++ c :: w → w ≠ [] → ¬ c ∈ ms) → InnerOk ms ext
  | [], b, h, _, _ => by cases h
  | [v], b, h, hb, _ => by
    have : v = b := by simpa using h
    show v ∈ ms
    rw [this]; exact hb
  | v :: w :: l, b, h, hb, hi => by
    refine ⟨hi [] v (w :: l) rfl (by simp), inner_of (b := b) (by simpa using h) hb fun u c z e hz => hi (v :: u) c z (by rw [e]; rfl) hz⟩
/-- a path within a walk -/
theorem short {n : Int} {ms : List Int} : ∀ (k : Nat) (p : List Int), p.length ≤ k → Wk n ms p → ∃ p', VPath n ms p' ∧ ∃ r, (steps p' ++ r).Perm (steps p)
  | 0, p, hk, h => by
    obtain ⟨a, b, h1, _⟩ := h.st
    have : p = [] := List.eq_nil_of_length_eq_zero (by omega)
    rw [this] at h1; cases h1
  | k + 1, p, hk, h => by
    obtain ⟨a, b, h1, h2, ha, hb, hab⟩ := h.st
    by_cases nd : p.Nodup
    · by_cases hi : ∃ u c w, p = u ++ c :: w ∧ u ≠ [] ∧ w ≠ [] ∧ c ∈ ms
      · obtain ⟨u, c, w, e, hu, hw, hc⟩ := hi
        have hac : a ≠ c := fun z => by
          rw [e] at h1 nd
          cases u with
          | nil => exact hu rfl
          | cons x u =>
            have : x = a := by simpa using h1
            exact (List.nodup_append.mp nd).2.2 x List.mem_cons_self c List.mem_cons_self (by rw [this, z])
        obtain ⟨p', k1, r, k2⟩ := short k (u ++ [c]) (by
          have := List.length_pos_iff.mpr hw
          rw [e] at hk; simp at hk ⊢; omega) ⟨fun v hv => h.ok v (by rw [e]; simp at hv ⊢; grind), a, c, by rw [e] at h1; exact head_app h1, by simp, ha, hc, hac⟩
        refine ⟨p', k1, r ++ steps (c :: w), ?_⟩
        rw [e, steps_app, ← List.append_assoc]
        exact k2.append_right _
      · have hi' : ∀ u c w, p = u ++ c :: w → u ≠ [] → w ≠ [] → ¬ c ∈ ms := fun u c w e hu hw hc => hi ⟨u, c, w, e, hu, hw, hc⟩
        have mk : ∀ q : List Int, ∀ x y : Int, q.Nodup → (∀ v ∈ q, 0 ≤ v ∧ v < n) → q.head? = some x → q.getLast? = some y → x ∈ ms → y ∈ ms → x < y → (∀ u c w, q = u ++ c :: w → u ≠ [] → w ≠ [] → ¬ c ∈ ms) → VPath n ms q := fun q x y qn qo q1 q2 hx hy hxy qi => by
          cases q with
          | nil => cases q1
          | cons x' ext =>
            have ex : x' = x := by simpa using q1
            subst ex
            have hl : lastI (x' :: ext) = y := by
              have := lastI_get (p := x' :: ext) (by simp)
              rw [q2] at this; exact (Option.some.inj this).symm
            refine ⟨⟨by simp, qn, qo⟩, x', ext, rfl, hx, inner_of (b := y) ?_ hy fun u c w e hw => qi (x' :: u) c w (by rw [e]; rfl) (by simp) hw, by rw [hl]; exact hxy⟩
            cases ext with
            | nil =>
              have : x' = y := by simpa using q2
              omega
            | cons z ext => simpa using q2
        rcases Int.lt_or_gt_of_ne hab with hlt | hlt
        · exact ⟨p, mk p a b nd h.ok h1 h2 ha hb hlt hi', [], by simp⟩
        · refine ⟨p.reverse, mk p.reverse b a ((List.reverse_perm p).nodup_iff.mpr nd) (fun v hv => h.ok v (List.mem_reverse.mp hv)) (by rw [List.head?_reverse]; exact h2) (by rw [List.getLast?_reverse]; exact h1) hb ha hlt fun u c w e hu hw => hi' w.reverse c u.reverse (by
            have := congrArg List.reverse e
            rw [List.reverse_reverse] at this
            rw [this]; simp) (by simpa using hw) (by simpa using hu), [], by simpa using steps_rev p⟩
    · obtain ⟨u, c, w, z, e⟩ := dup_split nd
      obtain ⟨p', k1, r, k2⟩ := short k (u ++ c :: z) (by rw [e] at hk; simp at hk ⊢; omega) ⟨fun v hv => h.ok v (by rw [e]; simp at hv ⊢; grind), a, b, by rw [e] at h1; exact head_app h1, by
        rw [e, show u ++ c :: (w ++ c :: z) = (u ++ c :: w) ++ c :: z by simp] at h2
        exact last_app h2, ha, hb, hab⟩
      refine ⟨p', k1, r ++ steps (c :: w ++ [c]), ?_⟩
      have e1 : steps p = steps (u ++ [c]) ++ (steps (c :: w ++ [c]) ++ steps (c :: z)) := by
        rw [e, steps_app]
        congr 1
        exact steps_app c z (c :: w)
      have e2 : steps (u ++ c :: z) = steps (u ++ [c]) ++ steps (c :: z) := steps_app c z u
      rw [e1, ← List.append_assoc]
      rw [e2] at k2
      refine (k2.append_right _).trans ?_
      rw [List.append_assoc]
      exact List.perm_append_comm.append_left _
/-- walks that need no edge twice -/
structure WSys (n : Int) (es : List Ed) (ms : List Int) (F : List (List Int)) : Prop where
  path : ∀ p ∈ F, Wk n ms p
  fit : ∃ rest, (F.flatMap steps ++ rest).Perm es
section
variable {n : Int} {es es' : List Ed} {ms : List Int} {F : List (List Int)}
theorem VPath.wk {p : List Int} (h : VPath n ms p) : Wk n ms p := by
  obtain ⟨a, ext, e, ha, hi, hlt⟩ := h.st
  have hb := inner_last a hi
  rw [← e] at hb
  exact ⟨h.ok.ok, a, lastI p, by rw [e]; rfl, lastI_get h.ok.ne, ha, hb, by omega⟩
theorem VSys.ws (h : VSys n es ms F) : WSys n es ms F := ⟨fun p hp => VPath.wk (h.path p hp), h.fit⟩
theorem shorts : ∀ F : List (List Int), (∀ p ∈ F, Wk n ms p) → ∃ F' : List (List Int), F'.length = F.length ∧ (∀ p ∈ F', VPath n ms p) ∧ ∃ r, (F'.flatMap steps ++ r).Perm (F.flatMap steps)
  | [], _ => ⟨[], rfl, fun p h => (by cases h), [], by simp⟩
  | p :: F, h => by
    obtain ⟨F', k1, k2, r, k3⟩ := shorts F fun q hq => h q (List.mem_cons_of_mem _ hq)
    obtain ⟨p', j1, s, j2⟩ := short p.length p (Nat.le_refl _) (h p List.mem_cons_self)
    refine ⟨p' :: F', by simp [k1], fun q hq => ?_, s ++ r, ?_⟩
    · rcases List.mem_cons.mp hq with e | hq
      · rw [e]; exact j1
      · exact k2 q hq
    · rw [List.flatMap_cons, List.flatMap_cons]
      refine List.Perm.trans ?_ (j2.append k3)
      rw [List.append_assoc, List.append_assoc]
      refine List.Perm.append_left _ ?_
      rw [← List.append_assoc, ← List.append_assoc]
      exact List.perm_append_comm.append_right _
/-- walks hold paths -/
theorem WSys.vs (h : WSys n es ms F) : ∃ F', VSys n es ms F' ∧ F'.length = F.length := by
  obtain ⟨F', k1, k2, r, k3⟩ := shorts F h.path
  obtain ⟨rest, hr⟩ := h.fit
  exact ⟨F', ⟨k2, r ++ rest, by rw [← List.append_assoc]; exact (k3.append_right _).trans hr⟩, k1⟩
theorem WSys.perm (h : WSys n es ms F) (p : es.Perm es') : WSys n es' ms F := ⟨h.path, h.fit.elim fun r hr => ⟨r, hr.trans p⟩⟩
theorem WSys.more (h : WSys n es ms F) (R : List Ed) : WSys n (R ++ es) ms F := ⟨h.path, h.fit.elim fun r hr => ⟨R ++ r, by
  rw [← List.append_assoc]
  refine (List.perm_append_comm.append_right r).trans ?_
  rw [List.append_assoc]
  exact hr.append_left R⟩⟩
theorem WSys.nil : WSys n es ms [] := ⟨fun p h => (by cases h), es, by simp⟩
/-- where a walk takes a step -/
theorem step_at {e : Ed} : ∀ {p : List Int}, e ∈ steps p → ∃ u x y w, p = u ++ x :: y :: w ∧ nrm x y = e
  | [], h => by cases h
  | [a], h => by cases h
  | a :: b :: l, h => by
    rw [steps_cc] at h
    rcases List.mem_cons.mp h with z | z
    · exact ⟨[], a, b, l, rfl, z.symm⟩
    · obtain ⟨u, x, y, w, e1, e2⟩ := step_at z
      exact ⟨a :: u, x, y, w, by rw [e1]; rfl, e2⟩
theorem nrm_eq {x y a b : Int} (h : nrm x y = nrm a b) : (x = a ∧ y = b) ∨ (x = b ∧ y = a) := by
  unfold nrm at h
  by_cases c : y < x <;> by_cases d : b < a
  · rw [if_pos c, if_pos d] at h; injection h with h1 h2; omega
  · rw [if_pos c, if_neg d] at h; injection h with h1 h2; omega
  · rw [if_neg c, if_pos d] at h; injection h with h1 h2; omega
  · rw [if_neg c, if_neg d] at h; injection h with h1 h2; omega
/-- an edge x y may be walked by way of v -/
theorem WSys.lift {x y v : Int} {R : List Ed} (h : WSys n (nrm x y :: R) ms F) (hv : 0 ≤ v ∧ v < n) : ∃ F', WSys n (nrm v x :: nrm v y :: R) ms F' ∧ F'.length = F.length := by
  obtain ⟨rest, hr⟩ := h.fit
  have hm : nrm x y ∈ F.flatMap steps ++ rest := hr.mem_iff.mpr List.mem_cons_self
  by_cases c : nrm x y ∈ rest
  · refine ⟨F, ⟨h.path, nrm v x :: nrm v y :: rest.erase (nrm x y), ?_⟩, rfl⟩
    have h1 : (F.flatMap steps ++ rest).Perm (nrm x y :: (F.flatMap steps ++ rest.erase (nrm x y))) := ((List.perm_cons_erase c).append_left _).trans List.perm_middle
    have h2 := (h1.symm.trans hr).cons_inv
    exact List.perm_middle.trans ((List.perm_middle.trans (h2.cons _)).cons _)
  · have hm' := (List.mem_append.mp hm).resolve_right c
    obtain ⟨p, hp, he⟩ := List.mem_flatMap.mp hm'
    obtain ⟨u, x', y', w, e1, e2⟩ := step_at he
    have W := h.path p hp
    have wk : Wk n ms (u ++ x' :: v :: y' :: w) := by
      obtain ⟨a, b, h1, h2, ha, hb, hab⟩ := W.st
      refine ⟨fun z hz => ?_, a, b, by rw [e1] at h1; exact head_app h1, ?_, ha, hb, hab⟩
      · have : z ∈ p ∨ z = v := by rw [e1]; simp at hz ⊢; grind
        rcases this with q | q
        · exact W.ok z q
        · rw [q]; exact hv
      · rw [e1, show u ++ x' :: y' :: w = (u ++ [x']) ++ y' :: w by simp] at h2
        rw [show u ++ x' :: v :: y' :: w = (u ++ [x', v]) ++ y' :: w by simp]
        exact last_app h2
    have s1 : steps p = steps (u ++ [x']) ++ nrm x y :: steps (y' :: w) := by rw [e1, steps_app, steps_cc, e2]
    have s2 : steps (u ++ x' :: v :: y' :: w) = steps (u ++ [x']) ++ nrm v x' :: nrm v y' :: steps (y' :: w) := by rw [steps_app, steps_cc, steps_cc, nrm_comm x' v]
    have s3 : (nrm v x' :: nrm v y' :: R).Perm (nrm v x :: nrm v y :: R) := by
      rcases nrm_eq e2 with ⟨q1, q2⟩ | ⟨q1, q2⟩
      · rw [q1, q2]
      · rw [q1, q2]; exact List.Perm.swap _ _ _
    refine ⟨(u ++ x' :: v :: y' :: w) :: F.erase p, ⟨fun q hq => ?_, rest, ?_⟩, ?_⟩
    · rcases List.mem_cons.mp hq with z | hq
      · rw [z]; exact wk
      · exact h.path q (List.mem_of_mem_erase hq)
    · refine List.Perm.trans ?_ s3
      have h1 : (F.flatMap steps).Perm (steps p ++ (F.erase p).flatMap steps) := by
        have := (List.perm_cons_erase hp).flatMap_right steps
        rwa [List.flatMap_cons] at this
      have h2 : (nrm x y :: (steps (u ++ [x']) ++ steps (y' :: w) ++ (F.erase p).flatMap steps ++ rest)).Perm (nrm x y :: R) := by
        refine List.Perm.trans ?_ ((h1.append_right rest).symm.trans hr)
        rw [s1]
        simp only [List.append_assoc, List.cons_append]
        exact List.perm_middle.symm
      have h3 := h2.cons_inv
      rw [List.flatMap_cons, s2]
      simp only [List.append_assoc, List.cons_append] at h3 ⊢
      exact List.perm_middle.trans ((List.perm_middle.trans (h3.cons _)).cons _)
    · rw [List.length_cons, List.length_erase_of_mem hp]
      have := List.length_pos_of_mem hp
      omega
end
end GT

namespace GT
open PL
/-! # splitting off: Lovász and Cherkassky -/
section
variable {n : Int} {es : List Ed} {ms : List Int} {v x : Int} {lam : Int → Nat}
theorem max_of {α : Type} (P : α → Prop) (f : α → Nat) (B : Nat) (hB : ∀ a, P a → f a ≤ B) : ∀ (k : Nat) (a : α), P a → B - f a ≤ k → ∃ c, P c ∧ ∀ d, P d → f d ≤ f c
  | 0, a, ha, hk => ⟨a, ha, fun d hd => by have := hB d hd; have := hB a ha; omega⟩
  | k + 1, a, ha, hk => by
    by_cases c : ∃ d, P d ∧ f a < f d
    · obtain ⟨d, hd, h⟩ := c
      exact max_of P f B hB k d hd (by have := hB d hd; omega)
    · exact ⟨a, ha, fun d hd => by
        by_cases z : f d ≤ f a
        · exact z
        · exact absurd ⟨d, hd, by omega⟩ c⟩
theorem min_of {α : Type} (P : α → Prop) (f : α → Nat) : ∀ (k : Nat) (a : α), P a → f a ≤ k → ∃ c, P c ∧ ∀ d, P d → f c ≤ f d
  | 0, a, ha, hk => ⟨a, ha, fun d hd => by omega⟩
  | k + 1, a, ha, hk => by
    by_cases c : ∃ d, P d ∧ f d < f a
    · obtain ⟨d, hd, h⟩ := c
      exact min_of P f k d hd (by omega)
    · exact ⟨a, ha, fun d hd => by
        by_cases z : f a ≤ f d
        · exact z
        · exact absurd ⟨d, hd, by omega⟩ c⟩
theorem out_or {C D : Vs} {e : Ed} (hC : C v = false) (hD : D v = false) (ha : atv v e = true) (h : outE C e = true ∨ outE D e = true) : outE (orS C D) e = true := by
  unfold outE orS at *
  unfold atv at ha
  rcases Bool.or_eq_true_iff.mp ha with z | z
  · have z := of_decide_eq_true z
    rw [z] at h ⊢
    rw [hC, hD] at *
    revert h
    cases C e.2 <;> cases D e.2 <;> decide
  · have z := of_decide_eq_true z
    rw [z] at h ⊢
    rw [hC, hD] at *
    revert h
    cases C e.1 <;> cases D e.1 <;> decide
/-- one set covers what a family that unites covers -/
theorem cover (P : Vs → Prop) (un : ∀ C D, P C → P D → P (orS C D)) (hv : ∀ C, P C → C v = false) (hf : ∀ C, P C → 2 * hh es v C ≤ dg es v) :
    ∃ C : Vs, 2 * hh es v C ≤ dg es v ∧ ∀ D, P D → ∀ e ∈ es, atv v e = true → outE D e = true → outE C e = true := by
  by_cases ex : ∃ C, P C
  · obtain ⟨C0, h0⟩ := ex
    obtain ⟨C, hC, hmax⟩ := max_of P (hh es v) (dg es v) (fun C hC => by have := hf C hC; omega) _ C0 h0 (Nat.le_refl _)
    refine ⟨C, hf C hC, fun D hD e he ha ho => ?_⟩
    by_cases c : outE C e = true
    · exact c
    · exfalso
      have h1 := hmax _ (un C D hC hD)
      have p := List.perm_cons_erase he
      unfold hh at h1
      rw [p.countP_eq, p.countP_eq (fun e => atv v e && outE C e), cnt_cons, cnt_cons] at h1
      have h2 : (es.erase e).countP (fun e => atv v e && outE C e) ≤ (es.erase e).countP (fun e => atv v e && outE (orS C D) e) := List.countP_mono_left fun d _ hd => by
        obtain ⟨k1, k2⟩ := Bool.and_eq_true_iff.mp hd
        rw [k1, out_or (hv C hC) (hv D hD) k1 (Or.inl k2)]; rfl
      rw [ha, out_or (hv C hC) (hv D hD) ha (Or.inr ho), show outE C e = false by simpa using c] at h1
      simp at h1
      omega
  · refine ⟨fun _ => false, ?_, fun D hD => absurd ⟨D, hD⟩ ex⟩
    have : hh es v (fun _ => false) = 0 := by
      unfold hh
      rw [List.countP_eq_zero]
      intro e _ h
      have := (Bool.and_eq_true_iff.mp h).2
      simp [outE] at this
    omega
theorem nrm_ends (a b : Int) : ((nrm a b).1 = a ∧ (nrm a b).2 = b) ∨ ((nrm a b).1 = b ∧ (nrm a b).2 = a) := by
  unfold nrm
  by_cases h : b < a
  · rw [if_pos h]; exact Or.inr ⟨rfl, rfl⟩
  · rw [if_neg h]; exact Or.inl ⟨rfl, rfl⟩
theorem out_nrm {X : Vs} {a b : Int} : outE X (nrm a b) = (X a != X b) := by
  unfold outE
  rcases nrm_ends a b with ⟨h1, h2⟩ | ⟨h1, h2⟩
  · rw [h1, h2]
  · rw [h1, h2]; cases X a <;> cases X b <;> rfl
theorem atv_nrm {a b : Int} : atv v (nrm a b) = (decide (a = v) || decide (b = v)) := by
  unfold atv
  rcases nrm_ends a b with ⟨h1, h2⟩ | ⟨h1, h2⟩
  · rw [h1, h2]
  · rw [h1, h2, Bool.or_comm]
/-- an edge at v -/
theorem at_nrm (ok : EOk n es) {e : Ed} (he : e ∈ es) (ha : atv v e = true) : e = nrm v (oth v e) ∧ oth v e ≠ v ∧ 0 ≤ oth v e ∧ oth v e < n := by
  have := ok e he
  unfold atv at ha
  unfold oth nrm
  by_cases c : e.1 = v
  · rw [if_pos c, if_neg (by omega), ← c]
    exact ⟨rfl, by omega, by omega, by omega⟩
  · have : e.2 = v := by simpa [c] using ha
    rw [if_neg c, if_pos (by omega), ← this]
    exact ⟨rfl, by omega, by omega, by omega⟩
/-- the fewest edges that leave sets around t are lam t -/
def Lam (es : List Ed) (ms : List Int) (lam : Int → Nat) : Prop := ∀ t ∈ ms, (∃ X, tS ms t X ∧ cut es X = lam t) ∧ ∀ X, tS ms t X → lam t ≤ cut es X
theorem tS_mv {t : Int} {X : Vs} (ht : t ∈ ms) (hv : ¬ v ∈ ms) (h : tS ms t X) : tS ms t (mvS X v) := by
  have ne : ∀ s ∈ ms, s ≠ v := fun s hs z => hv (by rw [← z]; exact hs)
  refine ⟨?_, fun s hs hst => ?_⟩
  · unfold mvS; rw [if_neg (ne t ht)]; exact h.1
  · unfold mvS; rw [if_neg (ne s hs)]; exact h.2 s hs hst
def TA (es : List Ed) (ms : List Int) (lam : Int → Nat) (v x : Int) (C : Vs) : Prop := ∃ t ∈ ms, tS ms t C ∧ cut es C = lam t ∧ C v = false ∧ C x = true
def TB (es : List Ed) (ms : List Int) (lam : Int → Nat) (v x : Int) (C : Vs) : Prop := ∃ t ∈ ms, tS ms t (noS C) ∧ cut es C = lam t ∧ C v = false ∧ C x = true
/-- tight sets of different marks: no edge from what they share to the outside -/
theorem apart2 (L : Lam es ms lam) {s t : Int} {X Y : Vs} (hs : s ∈ ms) (ht : t ∈ ms) (ne : s ≠ t) (hX : tS ms s X) (hY : tS ms t Y) (cX : cut es X = lam s) (cY : cut es Y = lam t) (he : nrm v x ∈ es) (h1 : X v = Y v) (h2 : X x = Y x) (h3 : X v ≠ X x) : False := by
  have k1 : tS ms s (miS X Y) := ⟨by unfold miS; rw [hX.1, hY.2 s hs ne]; rfl, fun r hr hrs => by unfold miS; rw [hX.2 r hr hrs]; rfl⟩
  have k2 : tS ms t (miS Y X) := ⟨by unfold miS; rw [hY.1, hX.2 t ht ne.symm]; rfl, fun r hr hrs => by unfold miS; rw [hY.2 r hr hrs]; rfl⟩
  have l1 := (L s hs).2 _ k1
  have l2 := (L t ht).2 _ k2
  have : cut es (miS X Y) + cut es (miS Y X) + 2 ≤ cut es X + cut es Y := by
    rcases nrm_ends v x with ⟨q1, q2⟩ | ⟨q1, q2⟩
    · exact cut_posi2 he (by rw [q1]; exact h1) (by rw [q2]; exact h2) (by rw [q1, q2]; exact h3)
    · exact cut_posi2 he (by rw [q1]; exact h2) (by rw [q2]; exact h1) (by rw [q1, q2]; exact h3.symm)
  omega
theorem ta_or (L : Lam es ms lam) (he : nrm v x ∈ es) {C D : Vs} (hC : TA es ms lam v x C) (hD : TA es ms lam v x D) : TA es ms lam v x (orS C D) := by
  obtain ⟨s, hs, c1, c2, c3, c4⟩ := hC
  obtain ⟨t, ht, d1, d2, d3, d4⟩ := hD
  by_cases ne : s = t
  · subst ne
    have k1 : tS ms s (orS C D) := ⟨by unfold orS; rw [c1.1]; rfl, fun r hr hrs => by unfold orS; rw [c1.2 r hr hrs, d1.2 r hr hrs]; rfl⟩
    have k2 : tS ms s (anS C D) := ⟨by unfold anS; rw [c1.1, d1.1]; rfl, fun r hr hrs => by unfold anS; rw [c1.2 r hr hrs]; rfl⟩
    have l1 := (L s hs).2 _ k1
    have l2 := (L s hs).2 _ k2
    have := cut_sub (es := es) (X := C) (Y := D)
    exact ⟨s, hs, k1, by omega, by unfold orS; rw [c3, d3]; rfl, by unfold orS; rw [c4]; rfl⟩
  · exact (apart2 L hs ht ne c1 d1 c2 d2 he (by rw [c3, d3]) (by rw [c4, d4]) (by rw [c3, c4]; decide)).elim
theorem no_or (C D : Vs) : noS (orS C D) = anS (noS C) (noS D) := by
  funext z
  simp only [noS, orS, anS]
  cases C z <;> cases D z <;> rfl
theorem no_an (C D : Vs) : noS (anS C D) = orS (noS C) (noS D) := by
  funext z
  simp only [noS, orS, anS]
  cases C z <;> cases D z <;> rfl
theorem tb_or (L : Lam es ms lam) (he : nrm v x ∈ es) {C D : Vs} (hC : TB es ms lam v x C) (hD : TB es ms lam v x D) : TB es ms lam v x (orS C D) := by
  obtain ⟨s, hs, c1, c2, c3, c4⟩ := hC
  obtain ⟨t, ht, d1, d2, d3, d4⟩ := hD
  rw [← cut_no] at c2 d2
  by_cases ne : s = t
  · subst ne
    have k1 : tS ms s (orS (noS C) (noS D)) := ⟨by unfold orS; rw [c1.1]; rfl, fun r hr hrs => by unfold orS; rw [c1.2 r hr hrs, d1.2 r hr hrs]; rfl⟩
    have k2 : tS ms s (anS (noS C) (noS D)) := ⟨by unfold anS; rw [c1.1, d1.1]; rfl, fun r hr hrs => by unfold anS; rw [c1.2 r hr hrs]; rfl⟩
    have l1 := (L s hs).2 _ k1
    have l2 := (L s hs).2 _ k2
    have := cut_sub (es := es) (X := noS C) (Y := noS D)
    exact ⟨s, hs, by rw [no_or]; exact k2, by rw [← cut_no, no_or]; omega, by unfold orS; rw [c3, d3]; rfl, by unfold orS; rw [c4]; rfl⟩
  · exact (apart2 L hs ht ne c1 d1 c2 d2 he (by unfold noS; rw [c3, d3]) (by unfold noS; rw [c4, d4]) (by unfold noS; rw [c3, c4]; decide)).elim
theorem mv_no (X : Vs) (v : Int) : mvS (noS X) v = noS (mvS X v) := by
  funext z
  simp only [mvS, noS]
  by_cases c : z = v
  · rw [if_pos c, if_pos c]
  · rw [if_neg c, if_neg c]
/-- some second edge at v can be split off with the first -/
theorem good (L : Lam es ms lam) (ok : EOk n es) (ev : Even n es ms) (hv : 0 ≤ v ∧ v < n) (hvm : ¬ v ∈ ms) (he : nrm v x ∈ es) :
    ∃ y R, es.Perm (nrm v x :: nrm v y :: R) ∧ y ≠ v ∧ (0 ≤ y ∧ y < n) ∧ ∀ t ∈ ms, ∀ X, tS ms t X → X v ≠ X x → X x = X y → lam t + 2 ≤ cut es X := by
  refine Classical.byContradiction fun no => ?_
  have bad : ∀ y R, es.Perm (nrm v x :: nrm v y :: R) → y ≠ v → (0 ≤ y ∧ y < n) → ∃ C, (TA es ms lam v x C ∨ TB es ms lam v x C) ∧ C y = true := fun y R p hy hyn => by
    refine Classical.byContradiction fun nb => no ⟨y, R, p, hy, hyn, fun t ht X hX h1 h2 => ?_⟩
    have l := (L t ht).2 X hX
    obtain ⟨Z, z1, z2⟩ := (L t ht).1
    have pr := par ht ok ev hX z1
    by_cases c : cut es X = lam t
    · exfalso
      cases q : X v with
      | false =>
        have qx : X x = true := by cases r : X x <;> simp_all
        exact nb ⟨X, Or.inl ⟨t, ht, hX, c, q, qx⟩, by rw [← h2]; exact qx⟩
      | true =>
        have qx : X x = false := by cases r : X x <;> simp_all
        refine nb ⟨noS X, Or.inr ⟨t, ht, ?_, by rw [cut_no]; exact c, by unfold noS; rw [q]; rfl, by unfold noS; rw [qx]; rfl⟩, by unfold noS; rw [← h2, qx]; rfl⟩
        have : noS (noS X) = X := by funext z; unfold noS; cases X z <;> rfl
        rw [this]; exact hX
    · omega
  obtain ⟨CA, a1, a2⟩ := cover (es := es) (v := v) (TA es ms lam v x) (fun C D => ta_or L he) (fun C ⟨_, _, _, _, h, _⟩ => h) fun C ⟨t, ht, c1, c2, _, _⟩ => half ok.ne (by rw [c2]; exact (L t ht).2 _ (tS_mv ht hvm c1))
  obtain ⟨CB, b1, b2⟩ := cover (es := es) (v := v) (TB es ms lam v x) (fun C D => tb_or L he) (fun C ⟨_, _, _, _, h, _⟩ => h) fun C ⟨t, ht, c1, c2, _, _⟩ => half ok.ne (by
    rw [c2, ← cut_no (X := mvS C v), ← mv_no]; exact (L t ht).2 _ (tS_mv ht hvm c1))
  have p0 := List.perm_cons_erase he
  have hat : atv v (nrm v x) = true := by rw [atv_nrm]; simp
  have hd : dg es v = dg (es.erase (nrm v x)) v + 1 := by rw [dg_perm p0, dg_cons, hat]; rfl
  have hA : hh es v CA = hh (es.erase (nrm v x)) v CA + b01 (outE CA (nrm v x)) := by
    unfold hh; rw [p0.countP_eq, cnt_cons, hat]; rfl
  have hB : hh es v CB = hh (es.erase (nrm v x)) v CB + b01 (outE CB (nrm v x)) := by
    unfold hh; rw [p0.countP_eq, cnt_cons, hat]; rfl
  have each : ∀ e ∈ es.erase (nrm v x), atv v e = true → ∃ C, (TA es ms lam v x C ∨ TB es ms lam v x C) ∧ outE C e = true := fun e hm ha => by
    have hme := List.mem_of_mem_erase hm
    obtain ⟨e1, e2, e3⟩ := at_nrm ok hme ha
    obtain ⟨C, c1, c2⟩ := bad (oth v e) ((es.erase (nrm v x)).erase e) (by
      rw [← e1]; exact p0.trans ((List.perm_cons_erase hm).cons _)) e2 e3
    refine ⟨C, c1, ?_⟩
    have cv : C v = false := by
      rcases c1 with ⟨_, _, _, _, h, _⟩ | ⟨_, _, _, _, h, _⟩ <;> exact h
    rw [e1, out_nrm, cv, c2]; rfl
  have sum : dg (es.erase (nrm v x)) v ≤ hh (es.erase (nrm v x)) v CA + hh (es.erase (nrm v x)) v CB := by
    have := cnt4 (atv v) (fun _ => false) (fun e => atv v e && outE CA e) (fun e => atv v e && outE CB e) (es := es.erase (nrm v x)) fun e hm => by
      by_cases ha : atv v e = true
      · obtain ⟨C, c1, c2⟩ := each e hm ha
        have hme := List.mem_of_mem_erase hm
        rcases c1 with c1 | c1
        · rw [ha, a2 C c1 e hme ha c2]; simp
        · rw [ha, b2 C c1 e hme ha c2]; simp
      · have : atv v e = false := by simpa using ha
        rw [this]; simp
    exact Nat.le_trans (Nat.le_add_right _ _) this
  have oA : (∃ C, TA es ms lam v x C) → outE CA (nrm v x) = true := fun ⟨C, hC⟩ => a2 C hC _ he hat (by
    obtain ⟨_, _, _, _, h1, h2⟩ := hC
    rw [out_nrm, h1, h2]; rfl)
  have oB : (∃ C, TB es ms lam v x C) → outE CB (nrm v x) = true := fun ⟨C, hC⟩ => b2 C hC _ he hat (by
    obtain ⟨_, _, _, _, h1, h2⟩ := hC
    rw [out_nrm, h1, h2]; rfl)
  have evv := ev v hv.1 hv.2 hvm
  have one : 1 ≤ dg (es.erase (nrm v x)) v := by omega
  by_cases qa : ∃ C, TA es ms lam v x C
  · by_cases qb : ∃ C, TB es ms lam v x C
    · rw [oA qa] at hA
      rw [oB qb] at hB
      simp at hA hB
      omega
    · have : dg (es.erase (nrm v x)) v ≤ hh (es.erase (nrm v x)) v CA := List.countP_mono_left fun e hm ha => by
        obtain ⟨C, c1, c2⟩ := each e hm ha
        rw [ha, a2 C (c1.resolve_right fun z => qb ⟨C, z⟩) e (List.mem_of_mem_erase hm) ha c2]; rfl
      rw [oA qa] at hA
      simp at hA
      omega
  · have : dg (es.erase (nrm v x)) v ≤ hh (es.erase (nrm v x)) v CB := List.countP_mono_left fun e hm ha => by
      obtain ⟨C, c1, c2⟩ := each e hm ha
      rw [ha, b2 C (c1.resolve_left fun z => qa ⟨C, z⟩) e (List.mem_of_mem_erase hm) ha c2]; rfl
    have h1 : 1 ≤ (es.erase (nrm v x)).countP (atv v) := one
    obtain ⟨e, hm, ha⟩ := List.countP_pos_iff.mp h1
    obtain ⟨C, c1, _⟩ := each e hm ha
    rw [oB ⟨C, c1.resolve_left fun z => qa ⟨C, z⟩⟩] at hB
    simp at hB
    omega
end
end GT

namespace GT
open PL
/-! # the theorem of Lovász and Cherkassky; Menger's -/
section
variable {n : Int} {es : List Ed} {ms : List Int} {v x : Int} {lam : Int → Nat}
theorem sum_le (f g : Int → Nat) : ∀ (l : List Int), (∀ m ∈ l, f m ≤ g m) → (l.map f).sum ≤ (l.map g).sum
  | [], _ => Nat.le_refl _
  | a :: l, h => by
    rw [List.map_cons, List.sum_cons, List.map_cons, List.sum_cons]
    have := h a List.mem_cons_self
    have := sum_le f g l fun m hm => h m (List.mem_cons_of_mem _ hm)
    omega
theorem lam_of (es : List Ed) (nd : ms.Nodup) : ∃ lam, Lam es ms lam := by
  have h : ∀ t : Int, ∃ k : Nat, t ∈ ms → (∃ X, tS ms t X ∧ cut es X = k) ∧ ∀ X, tS ms t X → k ≤ cut es X := fun t => by
    have h0 : tS ms t (fun z => decide (z = t)) := ⟨by simp, fun s _ ne => by simp [ne]⟩
    obtain ⟨c, c1, c2⟩ := min_of (tS ms t) (cut es) _ _ h0 (Nat.le_refl _)
    exact ⟨cut es c, fun _ => ⟨⟨c, c1, rfl⟩, c2⟩⟩
  exact ⟨fun t => Classical.choose (h t), fun t ht => Classical.choose_spec (h t) ht⟩
theorem eok_nrm {R : List Ed} {y : Int} (ok : EOk n R) (hx : 0 ≤ x ∧ x < n) (hy : 0 ≤ y ∧ y < n) (ne : x ≠ y) : EOk n (nrm x y :: R) := fun e he => by
  rcases List.mem_cons.mp he with z | he
  · rw [z]
    unfold nrm
    by_cases c : y < x
    · rw [if_pos c]; exact ⟨hy.1, c, hx.2⟩
    · rw [if_neg c]; exact ⟨hx.1, by show x < y; omega, hy.2⟩
  · exact ok e he
theorem steps_ed {e : Ed} (h : e.1 < e.2) : steps [e.1, e.2] = [e] := by
  show [nrm e.1 e.2] = [e]
  unfold nrm
  rw [if_neg (by omega)]
/-- where no edge has an unmarked end, each edge is a path -/
theorem all_marks (ok : EOk n es) (nd : ms.Nodup) (h : ∀ e ∈ es, e.1 ∈ ms ∧ e.2 ∈ ms) : WSys n es ms (es.map fun e => [e.1, e.2]) ∧ (ms.map (dg es)).sum = 2 * es.length := by
  refine ⟨⟨fun p hp => ?_, [], ?_⟩, ?_⟩
  · obtain ⟨e, he, rfl⟩ := List.mem_map.mp hp
    have := ok e he
    exact ⟨fun v hv => by simp at hv; omega, e.1, e.2, rfl, rfl, (h e he).1, (h e he).2, by omega⟩
  · rw [List.append_nil, List.flatMap_map]
    have : ∀ l : List Ed, (∀ e ∈ l, e.1 < e.2) → (l.flatMap fun e => steps [e.1, e.2]) = l := fun l => by
      induction l with
      | nil => intro _; rfl
      | cons e l ih =>
        intro hl
        rw [List.flatMap_cons, steps_ed (hl e List.mem_cons_self), ih fun d hd => hl d (List.mem_cons_of_mem _ hd)]; rfl
    rw [this es fun e he => (ok e he).2.1]
  · have e1 := sum_swap (fun (t : Int) (e : Ed) => atv t e) ms es
    have e2 : (ms.map fun t => es.countP fun e => atv t e) = ms.map (dg es) := rfl
    rw [e2] at e1
    rw [e1]
    have : ∀ l : List Ed, (∀ e ∈ l, e ∈ es) → (l.map fun e => ms.countP fun t => atv t e).sum = 2 * l.length := fun l => by
      induction l with
      | nil => intro _; rfl
      | cons e l ih =>
        intro hl
        have he := hl e List.mem_cons_self
        have hlt := ok e he
        have h2 : (ms.countP fun t => atv t e) = 2 := by
          have p : (ms.filter fun t => atv t e).Perm [e.1, e.2] := by
            refine (List.perm_ext_iff_of_nodup (nd.filter _) (by simp; omega)).mpr fun z => ?_
            rw [List.mem_filter]
            unfold atv
            simp only [Bool.or_eq_true, decide_eq_true_eq, List.mem_cons, List.not_mem_nil, or_false]
            constructor
            · rintro ⟨_, q | q⟩
              · exact Or.inl q.symm
              · exact Or.inr q.symm
            · rintro (q | q)
              · rw [q]; exact ⟨(h e he).1, Or.inl rfl⟩
              · rw [q]; exact ⟨(h e he).2, Or.inr rfl⟩
          rw [List.countP_eq_length_filter, p.length_eq]; rfl
        rw [List.map_cons, List.sum_cons, ih fun d hd => hl d (List.mem_cons_of_mem _ hd), h2, List.length_cons]
        omega
    exact this es fun e he => he
theorem cut_one (ok : EOk n es) (t : Int) : cut es (fun z => decide (z = t)) = dg es t := by
  unfold cut dg
  refine List.countP_congr fun e he => ?_
  have := ok e he
  unfold outE atv
  by_cases a : e.1 = t <;> by_cases b : e.2 = t <;> simp [a, b] <;> omega
/-- Lovász, Cherkassky: with even unmarked vertices there are half as many paths as the fewest edges around the marks, added up -/
theorem lc : ∀ (k : Nat) (es : List Ed), es.length ≤ k → EOk n es → Even n es ms → ms.Nodup → ∀ lam : Int → Nat, (∀ t ∈ ms, ∀ X, tS ms t X → lam t ≤ cut es X) → ∃ F, WSys n es ms F ∧ (ms.map lam).sum ≤ 2 * F.length := by
  intro k
  induction k with
  | zero =>
    intro es hk ok ev nd lam hl
    have e0 : es = [] := List.eq_nil_of_length_eq_zero (by omega)
    subst e0
    refine ⟨[], WSys.nil, ?_⟩
    have := sum_le lam (fun _ => 0) ms fun t ht => hl t ht (fun z => decide (z = t)) ⟨by simp, fun s _ ne => by simp [ne]⟩
    have z : ∀ l : List Int, (l.map fun _ => 0).sum = 0 := fun l => by
      induction l with
      | nil => rfl
      | cons a l ih => rw [List.map_cons, List.sum_cons, ih]
    rw [z] at this
    omega
  | succ k ih =>
    intro es hk ok ev nd lam hl
    obtain ⟨mu, L⟩ := lam_of es nd
    have h1 : (ms.map lam).sum ≤ (ms.map mu).sum := sum_le _ _ ms fun t ht => by
      obtain ⟨X, x1, x2⟩ := (L t ht).1
      rw [← x2]; exact hl t ht X x1
    by_cases hin : ∃ e ∈ es, ∃ v, atv v e = true ∧ ¬ v ∈ ms
    · obtain ⟨e, he, v, ha, hvm⟩ := hin
      obtain ⟨e1, e2, e3⟩ := at_nrm ok he ha
      have hv : 0 ≤ v ∧ v < n := by
        have := ok e he
        unfold atv at ha
        rcases Bool.or_eq_true_iff.mp ha with z | z <;> have z := of_decide_eq_true z <;> omega
      rw [e1] at he
      obtain ⟨y, R, p, hy, hyn, hb⟩ := good L ok ev hv hvm he
      have okR : EOk n R := fun d hd => ok d (p.mem_iff.mpr (List.mem_cons_of_mem _ (List.mem_cons_of_mem _ hd)))
      have lenR : es.length = R.length + 2 := by rw [p.length_eq]; rfl
      have cutR : ∀ X, cut es X = cut R X + b01 (X v != X y) + b01 (X v != X (oth v e)) := fun X => by
        rw [cut_perm p, cut_cons, cut_cons, out_nrm, out_nrm]
      have dgR : ∀ w, dg es w = dg R w + b01 (decide (v = w) || decide (y = w)) + b01 (decide (v = w) || decide (oth v e = w)) := fun w => by
        rw [dg_perm p, dg_cons, dg_cons, atv_nrm, atv_nrm]
      by_cases hxy : oth v e = y
      · obtain ⟨F, f1, f2⟩ := ih R (by omega) okR (fun w w1 w2 wm => by
          have := ev w w1 w2 wm
          rw [dgR w, hxy] at this
          omega) nd mu fun t ht X hX => by
            have b := hb t ht X hX
            have l := (L t ht).2 X hX
            have c := cutR X
            rw [hxy] at b c
            by_cases q : X v = X y
            · rw [q] at c; simp at c; omega
            · have := b q rfl
              have : b01 (X v != X y) ≤ 1 := by cases (X v != X y) <;> decide
              omega
        exact ⟨F, (WSys.more f1 [nrm v (oth v e), nrm v y]).perm p.symm, by omega⟩
      · obtain ⟨F, f1, f2⟩ := ih (nrm (oth v e) y :: R) (by rw [List.length_cons]; omega) (eok_nrm okR e3 hyn hxy) (fun w w1 w2 wm => by
          have h := ev w w1 w2 wm
          rw [dgR w] at h
          rw [dg_cons, atv_nrm]
          revert h
          by_cases q1 : v = w
          · subst q1
            simp [hy, e2]; omega
          · by_cases q2 : y = w <;> by_cases q3 : oth v e = w <;> simp [q1, q2, q3] <;> omega) nd mu fun t ht X hX => by
            have b := hb t ht X hX
            have l := (L t ht).2 X hX
            have c := cutR X
            rw [cut_cons, out_nrm]
            revert b c
            cases X v <;> cases X y <;> cases X (oth v e) <;> simp <;> omega
        obtain ⟨F', g1, g2⟩ := f1.lift hv
        exact ⟨F', g1.perm p.symm, by omega⟩
    · have hm : ∀ e ∈ es, e.1 ∈ ms ∧ e.2 ∈ ms := fun e he => ⟨Classical.byContradiction fun z => hin ⟨e, he, e.1, by unfold atv; simp, z⟩, Classical.byContradiction fun z => hin ⟨e, he, e.2, by unfold atv; simp, z⟩⟩
      obtain ⟨w1, w2⟩ := all_marks ok nd hm
      refine ⟨_, w1, ?_⟩
      have : (ms.map lam).sum ≤ (ms.map (dg es)).sum := sum_le _ _ ms fun t ht => by
        rw [← cut_one ok]
        exact hl t ht _ ⟨by simp, fun s _ ne => by simp [ne]⟩
      rw [List.length_map]; omega
/-- Menger: for two marks there are as many paths as the fewest edges around one of them -/
theorem menger {a b : Int} (hab : a ≠ b) : ∀ (k : Nat) (es : List Ed), es.length ≤ k → EOk n es → ∀ l : Nat, (∀ X, tS [a, b] a X → l ≤ cut es X) → ∃ F, WSys n es [a, b] F ∧ l ≤ F.length := by
  intro k
  induction k with
  | zero =>
    intro es hk ok l hl
    have e0 : es = [] := List.eq_nil_of_length_eq_zero (by omega)
    subst e0
    exact ⟨[], WSys.nil, hl (fun z => decide (z = a)) ⟨by simp, fun s _ ne => by simp [ne]⟩⟩
  | succ k ih =>
    intro es hk ok l hl
    by_cases hc : ∃ e ∈ es, ∀ X, tS [a, b] a X → l ≤ cut (es.erase e) X
    · obtain ⟨e, he, h⟩ := hc
      have p := List.perm_cons_erase he
      obtain ⟨F, f1, f2⟩ := ih (es.erase e) (by rw [List.length_erase_of_mem he]; omega) (fun d hd => ok d (List.mem_of_mem_erase hd)) l h
      exact ⟨F, (f1.more [e]).perm p.symm, f2⟩
    · -- every edge leaves a tight set: the unmarked vertices are even
      have tight : ∀ e ∈ es, ∃ X, tS [a, b] a X ∧ cut es X = l ∧ outE X e = true := fun e he => Classical.byContradiction fun no => hc ⟨e, he, fun X hX => by
        have p := List.perm_cons_erase he
        have h1 := hl X hX
        have h2 : cut es X = cut (es.erase e) X + b01 (outE X e) := by rw [cut_perm p, cut_cons]
        cases q : outE X e with
        | false => rw [q] at h2; simp at h2; omega
        | true =>
          rw [q] at h2; simp at h2
          by_cases z : cut es X = l
          · exact absurd ⟨X, hX, z, q⟩ no
          · omega⟩
      have ev : Even n es [a, b] := fun v hv1 hv2 hvm => by
        let PA : Vs → Prop := fun C => tS [a, b] a C ∧ cut es C = l ∧ C v = false
        let PB : Vs → Prop := fun C => tS [a, b] a (noS C) ∧ cut es C = l ∧ C v = false
        have ham : a ∈ [a, b] := by simp
        have or_t : ∀ C D, tS [a, b] a C → tS [a, b] a D → tS [a, b] a (orS C D) := fun C D c d => ⟨by unfold orS; rw [c.1]; rfl, fun r hr hrs => by unfold orS; rw [c.2 r hr hrs, d.2 r hr hrs]; rfl⟩
        have an_t : ∀ C D, tS [a, b] a C → tS [a, b] a D → tS [a, b] a (anS C D) := fun C D c d => ⟨by unfold anS; rw [c.1, d.1]; rfl, fun r hr hrs => by unfold anS; rw [c.2 r hr hrs]; rfl⟩
        have both : ∀ C D, tS [a, b] a C → tS [a, b] a D → cut es C = l → cut es D = l → cut es (orS C D) = l ∧ cut es (anS C D) = l := fun C D c d c2 d2 => by
          have := hl _ (or_t C D c d)
          have := hl _ (an_t C D c d)
          have := cut_sub (es := es) (X := C) (Y := D)
          omega
        obtain ⟨CA, a1, a2⟩ := cover (es := es) (v := v) PA (fun C D ⟨c1, c2, c3⟩ ⟨d1, d2, d3⟩ => ⟨or_t C D c1 d1, (both C D c1 d1 c2 d2).1, by unfold orS; rw [c3, d3]; rfl⟩) (fun C h => h.2.2) fun C ⟨c1, c2, _⟩ => half ok.ne (by rw [c2]; exact hl _ (tS_mv ham hvm c1))
        obtain ⟨CB, b1, b2⟩ := cover (es := es) (v := v) PB (fun C D ⟨c1, c2, c3⟩ ⟨d1, d2, d3⟩ => ⟨by rw [no_or]; exact an_t _ _ c1 d1, by
          rw [← cut_no, no_or]
          exact (both _ _ c1 d1 (by rw [cut_no]; exact c2) (by rw [cut_no]; exact d2)).2, by unfold orS; rw [c3, d3]; rfl⟩) (fun C h => h.2.2) fun C ⟨c1, c2, _⟩ => half ok.ne (by
          rw [c2, ← cut_no (X := mvS C v), ← mv_no]; exact hl _ (tS_mv ham hvm c1))
        have sum : dg es v ≤ hh es v CA + hh es v CB := by
          have := cnt4 (atv v) (fun _ => false) (fun e => atv v e && outE CA e) (fun e => atv v e && outE CB e) (es := es) fun e he => by
            by_cases ha : atv v e = true
            · obtain ⟨X, x1, x2, x3⟩ := tight e he
              cases q : X v with
              | false => rw [ha, a2 X ⟨x1, x2, q⟩ e he ha x3]; simp
              | true =>
                have : outE (noS X) e = true := by
                  unfold outE noS at *
                  revert x3
                  cases X e.1 <;> cases X e.2 <;> decide
                rw [ha, b2 (noS X) ⟨by
                  have : noS (noS X) = X := by funext z; simp only [noS]; cases X z <;> rfl
                  rw [this]; exact x1, by rw [cut_no]; exact x2, by unfold noS; rw [q]; rfl⟩ e he ha this]; simp
            · have : atv v e = false := by simpa using ha
              rw [this]; simp
          exact Nat.le_trans (Nat.le_add_right _ _) this
        omega
      have nd : [a, b].Nodup := by simp; exact hab
      obtain ⟨F, f1, f2⟩ := lc (n := n) (ms := [a, b]) es.length es (Nat.le_refl _) ok ev nd (fun _ => l) fun t ht X hX => by
        have ht' : t = a ∨ t = b := by simpa using ht
        rcases ht' with z | z
        · rw [z] at hX; exact hl X hX
        · rw [z] at hX
          rw [← cut_no]
          refine hl _ ⟨by unfold noS; rw [hX.2 a (by simp) hab]; rfl, fun s hs ne => ?_⟩
          have : s = b := by
            have : s = a ∨ s = b := by simpa using hs
            exact this.resolve_left ne
          rw [this]; unfold noS; rw [hX.1]; rfl
      refine ⟨F, f1, ?_⟩
      simp at f2
      omega
end
end GT

namespace MP
open PySem L2 FE
def top (i : Nat) : Stmt := PySem.Challenge.pw_markedpaths_k10_text.main.body.getD i (.Pass ⟨0, 0, 0, 0⟩)
structure Txt (K : PySem.W.Frag) (mg : Str → Option Value) (ca : CA) : Prop where
  b_bool : mg "bool" = none
  c_DIGITS : ∃ t, mg "DIGITS" = some (.str "0123456789" t)
  c_MAX_EDGES : ∃ t, mg "MAX_EDGES" = some (.int 9 t)
  c_MAX_VERTICES : ∃ t, mg "MAX_VERTICES" = some (.int 6 t)
  b_enumerate : mg "enumerate" = none
  b_int : mg "int" = none
  b_isinstance : mg "isinstance" = none
  b_len : mg "len" = none
  ln : LineTxt K mg ca "MarkError" "ParseError"
  b_max : mg "max" = none
  b_min : mg "min" = none
  nol : ∀ k, k < 9 → PySem.W.findIn K (.ref (ca k)) "line" = some none
  b_range : mg "range" = none
  b_set : mg "set" = none
  b_sorted : mg "sorted" = none
  b_str : mg "str" = none
  b_tuple : mg "tuple" = none
  b_zip : mg "zip" = none
  e_InvalidGraph : ExcTxt K mg "InvalidGraph" (ca 0)
  e_InvalidMarks : ExcTxt K mg "InvalidMarks" (ca 1)
  k_InvalidGraph : ClsTxt K mg ca "InvalidGraph" 0
  k_MarkError : ClsTxt K mg ca "MarkError" 8
  k_ParseError : ClsTxt K mg ca "ParseError" 7
  x_exc : ∀ k, k < 9 → ExcC K (ca k)
section
variable {P : Program} {w : World} {K : PySem.W.Frag} {mg : Str → Option Value} {base : Heap} {ca : CA}
abbrev s__law_cell : Stmt := top 21
theorem sc__law_cell : FnScope ["_law_script", "_law_k"] ["_law_script", "_law_k"] (defScope s__law_cell) := ⟨rfl, rfl, rfl, by decide +kernel, rfl, by decide +kernel, by decide +kernel⟩
def g__law_cell : Rho → Out := (seqS (ifS (asB (op2 ltD (gv 1) (fn1 lenD (gv 0)))) (retF (op2 idxD (gv 0) (gv 1))) Out.nx) (retF (kI 0)))
def sem__law_cell : List D → R D := bodySem 2 g__law_cell
theorem ok__law_cell (T : Txt K mg ca) (d : DefE K mg "_law_cell" s__law_cell ["_law_script", "_law_k"])  : Ok P w K mg base ca 2 "_law_cell" ["_law_script", "_law_k"] sem__law_cell := by
  refine Ok.mk d sc__law_cell rfl fun cdv A outer s H E f hr => ?_
  have tk := takes_of (X := cxOf (L2.CX P w) P w K mg base ["_law_script", "_law_k"] "_law_cell" (defScope s__law_cell) f cdv A outer s H E) rfl rfl rfl rfl
  have hp := passes_of (X := cxOf (L2.CX P w) P w K mg base ["_law_script", "_law_k"] "_law_cell" (defScope s__law_cell) f cdv A outer s H E) rfl
  exact (fss_cons (fs_if (ft_lt (fb_fe (fe_var (pv 1))) (fb_fe (fe_len rfl T.b_len (fb_fe (fe_var (pv 0)))))) (fss_one (fs_ret (fe_ix (fb_fe (fe_var (pv 0))) (fb_fe (fe_var (pv 1)))))) fss_nil)
    (fss_one (fs_ret fe_int)))
abbrev s__law_row : Stmt := top 22
theorem sc__law_row : FnScope ["_law_script", "_law_at", "_law_cell_here", "_law_found", "_law_time"] ["_law_script", "_law_at"] (defScope s__law_row) := ⟨rfl, rfl, rfl, by decide +kernel, rfl, by decide +kernel, by decide +kernel⟩
def g__law_row : Rho → Out := (seqS (setF 2 (callF 2 sem__law_cell (aC (gv 0) (aC (gv 1) aN)))) (seqS (setL 3 (lstF aN)) (seqS (forF (rng1 (kI 60)) (tg1 4) (ifS (asB (op2 ltD (callF 2 sem__law_cell (aC (gv 0) (aC (gv 1) aN))) (op2 powD (kI 10) (kI 18)))) (seqS (setF 2 (op2 modD (op2 addD (op2 addD (op2 addD (op2 mulD (gv 2) (kI 48271)) (op2 mulD (kI 131) (gv 4))) (kI 7)) (callF 2 sem__law_cell (aC (gv 0) (aC (op2 modD (op2 addD (op2 addD (gv 1) (kI 1)) (gv 4)) (kI 20)) aN)))) (kI 2147483647))) (mutF 3 appM (op2 modD (op2 fdivD (gv 2) (kI 11)) (kI 1000)))) (seqS (mutF 3 appM (op2 modD (gv 2) (kI 1000))) (setF 2 (op2 fdivD (gv 2) (kI 1000))))) [4]) (retF (go 3)))))
def sem__law_row : List D → R D := bodySem 5 g__law_row
theorem ok__law_row (T : Txt K mg ca) (d : DefE K mg "_law_row" s__law_row ["_law_script", "_law_at"]) (h__law_cell : Ok P w K mg base ca 2 "_law_cell" ["_law_script", "_law_k"] sem__law_cell) : Ok P w K mg base ca 3 "_law_row" ["_law_script", "_law_at"] sem__law_row := by
  refine Ok.mk d sc__law_row rfl fun cdv A outer s H E f hr => ?_
  have tk := takes_of (X := cxOf (L2.CX P w) P w K mg base ["_law_script", "_law_at", "_law_cell_here", "_law_found", "_law_time"] "_law_row" (defScope s__law_row) f cdv A outer s H E) rfl rfl rfl rfl
  have hp := passes_of (X := cxOf (L2.CX P w) P w K mg base ["_law_script", "_law_at", "_law_cell_here", "_law_found", "_law_time"] "_law_row" (defScope s__law_row) f cdv A outer s H E) rfl
  exact (fss_cons (fs_set (i := 2) sc__law_row.nd rfl (by first | exact Or.inl rfl | exact Or.inr rfl) (fe_callO tk h__law_cell hr (by decide) rfl (fa_cons (fe_var (pv 0)) (fa_cons (fe_var (pv 1)) fa_nil))))
    (fss_cons (fs_setL (i := 3) sc__law_row.nd rfl (by first | exact Or.inl rfl | exact Or.inr rfl) (fl_lst fa_nil))
    (fss_cons (fs_for [4] hp rfl (fi_range1 rfl T.b_range fe_int) ⟨(pg_name (i := 4) sc__law_row.nd rfl (by first | exact Or.inl rfl | exact Or.inr rfl)), (gok1 (i := 4))⟩ (fss_one (fs_if (ft_lt (fb_fe (fe_callO tk h__law_cell hr (by decide) rfl (fa_cons (fe_var (pv 0)) (fa_cons (fe_var (pv 1)) fa_nil)))) (fb_fe (fe_pow (fb_fe fe_int) (fb_fe fe_int)))) (fss_cons (fs_set (i := 2) sc__law_row.nd rfl (by first | exact Or.inl rfl | exact Or.inr rfl) (fe_mod (fb_fe (fe_add (fb_fe (fe_add (fb_fe (fe_add (fb_fe (fe_mul (fb_fe (fe_var (pv 2))) (fb_fe fe_int))) (fb_fe (fe_mul (fb_fe fe_int) (fb_fe (fe_var (pv 4))))))) (fb_fe fe_int))) (fb_fe (fe_callO tk h__law_cell hr (by decide) rfl (fa_cons (fe_var (pv 0)) (fa_cons (fe_mod (fb_fe (fe_add (fb_fe (fe_add (fb_fe (fe_var (pv 1))) (fb_fe fe_int))) (fb_fe (fe_var (pv 4))))) (fb_fe fe_int)) fa_nil)))))) (fb_fe fe_int)))
    (fss_one (fs_app (pv 3) (fe_mod (fb_fe (fe_fdiv (fb_fe (fe_var (pv 2))) (fb_fe fe_int))) (fb_fe fe_int))))) (fss_cons (fs_app (pv 3) (fe_mod (fb_fe (fe_var (pv 2))) (fb_fe fe_int)))
    (fss_one (fs_set (i := 2) sc__law_row.nd rfl (by first | exact Or.inl rfl | exact Or.inr rfl) (fe_fdiv (fb_fe (fe_var (pv 2))) (fb_fe fe_int))))))))
    (fss_one (fs_retO (pv 3))))))
abbrev s__law_graph : Stmt := top 23
theorem sc__law_graph : FnScope ["_law_script", "_law_at", "_law_most", "_law_draws", "_law_vertices", "_law_edges", "_law_time", "_law_row_here", "_law_step"] ["_law_script", "_law_at", "_law_most"] (defScope s__law_graph) := ⟨rfl, rfl, rfl, by decide +kernel, rfl, by decide +kernel, by decide +kernel⟩
def g__law_graph : Rho → Out := (seqS (setF 3 (callF 2 sem__law_row (aC (gv 0) (aC (gv 1) aN)))) (seqS (setF 4 (op2 addD (kI 2) (op2 modD (op2 idxD (gv 3) (kI 0)) (kI 5)))) (seqS (setL 5 (lstF aN)) (seqS (forF (rng1 (op2 modD (op2 idxD (gv 3) (kI 1)) (kI 5))) (tg1 6) (seqS (setF 7 (lE (lcF (rng1 (op2 addD (kI 3) (op2 modD (op2 idxD (gv 3) (op2 addD (kI 30) (gv 6))) (kI 2)))) (tg1 8) tT (op2 modD (op2 idxD (gv 3) (op2 addD (op2 addD (kI 2) (op2 mulD (kI 5) (gv 6))) (gv 8))) (gv 4)) [8]))) (seqS (ifS (asB (op2 eqD (op2 modD (op2 idxD (gv 3) (kI 40)) (kI 3)) (kI 0))) (setF 7 (sliceF (gv 7) nP (someP (kI 1)))) Out.nx) (seqS (setF 7 (op2 addD (gv 7) (ifE (asB (op2 eqD (fn1 lenD (gv 7)) (kI 1))) (lE (lstF (aC (op2 modD (op2 idxD (gv 3) (kI 50)) (gv 4)) aN))) (sliceF (gv 7) nP (someP (kI 1)))))) (forF (rng2 (kI 1) (fn1 lenD (gv 7))) (tg1 8) (ifS (asB (op2 neD (op2 idxD (gv 7) (gv 8)) (op2 idxD (gv 7) (op2 subD (gv 8) (kI 1))))) (mutF 5 appM (tupF (aC (op2 min2D (op2 idxD (gv 7) (gv 8)) (op2 idxD (gv 7) (op2 subD (gv 8) (kI 1)))) (aC (op2 max2D (op2 idxD (gv 7) (gv 8)) (op2 idxD (gv 7) (op2 subD (gv 8) (kI 1)))) aN)))) Out.nx) [8])))) [6, 7, 8]) (retF (tupF (aC (gv 4) (aC (fn1 tupleD (fn1 sortD (sliceF (go 5) nP (someP (gv 2))))) aN))))))))
def sem__law_graph : List D → R D := bodySem 9 g__law_graph
theorem ok__law_graph (T : Txt K mg ca) (d : DefE K mg "_law_graph" s__law_graph ["_law_script", "_law_at", "_law_most"]) (h__law_row : Ok P w K mg base ca 3 "_law_row" ["_law_script", "_law_at"] sem__law_row) : Ok P w K mg base ca 4 "_law_graph" ["_law_script", "_law_at", "_law_most"] sem__law_graph := by
  refine Ok.mk d sc__law_graph rfl fun cdv A outer s H E f hr => ?_
  have tk := takes_of (X := cxOf (L2.CX P w) P w K mg base ["_law_script", "_law_at", "_law_most", "_law_draws", "_law_vertices", "_law_edges", "_law_time", "_law_row_here", "_law_step"] "_law_graph" (defScope s__law_graph) f cdv A outer s H E) rfl rfl rfl rfl
  have hp := passes_of (X := cxOf (L2.CX P w) P w K mg base ["_law_script", "_law_at", "_law_most", "_law_draws", "_law_vertices", "_law_edges", "_law_time", "_law_row_here", "_law_step"] "_law_graph" (defScope s__law_graph) f cdv A outer s H E) rfl
  exact (fss_cons (fs_set (i := 3) sc__law_graph.nd rfl (by first | exact Or.inl rfl | exact Or.inr rfl) (fe_callO tk h__law_row hr (by decide) rfl (fa_cons (fe_var (pv 0)) (fa_cons (fe_var (pv 1)) fa_nil))))
    (fss_cons (fs_set (i := 4) sc__law_graph.nd rfl (by first | exact Or.inl rfl | exact Or.inr rfl) (fe_add (fb_fe fe_int) (fb_fe (fe_mod (fb_fe (fe_ix (fb_fe (fe_var (pv 3))) (fb_fe fe_int))) (fb_fe fe_int)))))
    (fss_cons (fs_setL (i := 5) sc__law_graph.nd rfl (by first | exact Or.inl rfl | exact Or.inr rfl) (fl_lst fa_nil))
    (fss_cons (fs_for [6, 7, 8] hp rfl (fi_range1 rfl T.b_range (fe_mod (fb_fe (fe_ix (fb_fe (fe_var (pv 3))) (fb_fe fe_int))) (fb_fe fe_int))) ⟨(pg_name (i := 6) sc__law_graph.nd rfl (by first | exact Or.inl rfl | exact Or.inr rfl)), (gok1 (i := 6))⟩ (fss_cons (fs_setLc (i := 7) (own := [("_law_step", 8)]) rfl sc__law_graph.nd rfl rfl (sw_true rfl rfl rfl (by decide +kernel)) (fib_of (fi_range1 rfl T.b_range (fe_add (fb_fe fe_int) (fb_fe (fe_mod (fb_fe (fe_ix (fb_fe (fe_var (pv 3))) (fb_fe (fe_add (fb_fe fe_int) (fb_fe (fe_var (pv 6))))))) (fb_fe fe_int)))))) (blkOk_by (N := ["_law_script", "_law_at", "_law_most", "_law_draws", "_law_vertices", "_law_edges", "_law_time", "_law_row_here", "_law_step"]) (sc := defScope s__law_graph) (by decide +kernel)) (fun _ _ _ _ _ => (pg_name (i := 8) sc__law_graph.nd rfl (by first | exact Or.inl rfl | exact Or.inr rfl))) (gok1 (i := 8)) (fun _ _ _ _ _ => by exact pts_tt) (fun _ _ _ _ _ => by exact (fe_mod (fb_fe (fe_ix (fb_fe (fe_var (pv 3))) (fb_fe (fe_add (fb_fe (fe_add (fb_fe fe_int) (fb_fe (fe_mul (fb_fe fe_int) (fb_fe (fe_var (pv 6))))))) (fb_fe (fe_var (pv 8))))))) (fb_fe (fe_var (pv 4))))) (by decide))
    (fss_cons (fs_if (ft_eq hr (fb_fe (fe_mod (fb_fe (fe_ix (fb_fe (fe_var (pv 3))) (fb_fe fe_int))) (fb_fe fe_int))) (fb_fe fe_int)) (fss_one (fs_set (i := 7) sc__law_graph.nd rfl (by first | exact Or.inl rfl | exact Or.inr rfl) (fe_slice (fb_fe (fe_var (pv 7))) fo_none (fo_some fe_int)))) fss_nil)
    (fss_cons (fs_set (i := 7) sc__law_graph.nd rfl (by first | exact Or.inl rfl | exact Or.inr rfl) (fe_add (fb_fe (fe_var (pv 7))) (fb_fe (fe_if (ft_eq hr (fb_fe (fe_len rfl T.b_len (fb_fe (fe_var (pv 7))))) (fb_fe fe_int)) (fe_fl (fl_lst (fa_cons (fe_mod (fb_fe (fe_ix (fb_fe (fe_var (pv 3))) (fb_fe fe_int))) (fb_fe (fe_var (pv 4)))) fa_nil))) (fe_slice (fb_fe (fe_var (pv 7))) fo_none (fo_some fe_int))))))
    (fss_one (fs_for [8] hp rfl (fi_range2 rfl T.b_range fe_int (fe_len rfl T.b_len (fb_fe (fe_var (pv 7))))) ⟨(pg_name (i := 8) sc__law_graph.nd rfl (by first | exact Or.inl rfl | exact Or.inr rfl)), (gok1 (i := 8))⟩ (fss_one (fs_if (ft_ne hr (fb_fe (fe_ix (fb_fe (fe_var (pv 7))) (fb_fe (fe_var (pv 8))))) (fb_fe (fe_ix (fb_fe (fe_var (pv 7))) (fb_fe (fe_sub (fb_fe (fe_var (pv 8))) (fb_fe fe_int)))))) (fss_one (fs_app (pv 5) (fe_tup (fa_cons (fe_min2 rfl rfl T.b_min (fb_fe (fe_ix (fb_fe (fe_var (pv 7))) (fb_fe (fe_var (pv 8))))) (fb_fe (fe_ix (fb_fe (fe_var (pv 7))) (fb_fe (fe_sub (fb_fe (fe_var (pv 8))) (fb_fe fe_int)))))) (fa_cons (fe_max2 rfl rfl T.b_max (fb_fe (fe_ix (fb_fe (fe_var (pv 7))) (fb_fe (fe_var (pv 8))))) (fb_fe (fe_ix (fb_fe (fe_var (pv 7))) (fb_fe (fe_sub (fb_fe (fe_var (pv 8))) (fb_fe fe_int)))))) fa_nil))))) fss_nil))))))))
    (fss_one (fs_ret (fe_tup (fa_cons (fe_var (pv 4)) (fa_cons (fe_tuple rfl T.b_tuple (fb_fe (fe_sorted hr rfl T.b_sorted (fb_fe (fe_slice (fb_own (pv 5)) fo_none (fo_some (fe_var (pv 2)))))))) fa_nil)))))))))
abbrev s__law_degree : Stmt := top 25
theorem sc__law_degree : FnScope ["_law_graph_here", "_law_vertex", "_law_edge"] ["_law_graph_here", "_law_vertex"] (defScope s__law_degree) := ⟨rfl, rfl, rfl, by decide +kernel, rfl, by decide +kernel, by decide +kernel⟩
def g__law_degree : Rho → Out := (retF (fn1 lenD (lE (lcF (seqF (op2 idxD (gv 0) (kI 1))) (tg1 2) (asB (op2 (inD false) (gv 1) (gv 2))) (gv 2) [2]))))
def sem__law_degree : List D → R D := bodySem 3 g__law_degree
theorem ok__law_degree (T : Txt K mg ca) (d : DefE K mg "_law_degree" s__law_degree ["_law_graph_here", "_law_vertex"])  : Ok P w K mg base ca 2 "_law_degree" ["_law_graph_here", "_law_vertex"] sem__law_degree := by
  refine Ok.mk d sc__law_degree rfl fun cdv A outer s H E f hr => ?_
  have tk := takes_of (X := cxOf (L2.CX P w) P w K mg base ["_law_graph_here", "_law_vertex", "_law_edge"] "_law_degree" (defScope s__law_degree) f cdv A outer s H E) rfl rfl rfl rfl
  have hp := passes_of (X := cxOf (L2.CX P w) P w K mg base ["_law_graph_here", "_law_vertex", "_law_edge"] "_law_degree" (defScope s__law_degree) f cdv A outer s H E) rfl
  exact (fss_one (fs_ret (fe_len rfl T.b_len (fb_fl (fl_lc (own := [("_law_edge", 2)]) rfl sc__law_degree.nd (fib_seq (fb_fe (fe_ix (fb_fe (fe_var (pv 0))) (fb_fe fe_int)))) (blkOk_by (N := ["_law_graph_here", "_law_vertex", "_law_edge"]) (sc := defScope s__law_degree) (by decide +kernel)) (fun _ _ _ _ _ => (pg_name (i := 2) sc__law_degree.nd rfl (by first | exact Or.inl rfl | exact Or.inr rfl))) (gok1 (i := 2)) (fun _ _ _ _ _ => by exact (pts_1 (ft_in hr (fb_fe (fe_var (pv 1))) (fb_fe (fe_var (pv 2)))))) (fun _ _ _ _ _ => by exact (fe_var (pv 2))) (by decide))))))
abbrev s__law_marks : Stmt := top 24
theorem sc__law_marks : FnScope ["_law_script", "_law_at", "_law_graph_here", "_law_draws", "_law_found", "_law_vertex"] ["_law_script", "_law_at", "_law_graph_here"] (defScope s__law_marks) := ⟨rfl, rfl, rfl, by decide +kernel, rfl, by decide +kernel, by decide +kernel⟩
def g__law_marks : Rho → Out := (seqS (setF 3 (callF 2 sem__law_row (aC (gv 0) (aC (gv 1) aN)))) (seqS (setF 4 (lE (lcF (rng1 (op2 idxD (gv 2) (kI 0))) (tg1 5) (asB (op2 eqD (op2 modD (op2 idxD (gv 3) (gv 5)) (kI 3)) (kI 0))) (gv 5) [5]))) (seqS (ifS (asB (op2 gtD (op2 modD (op2 idxD (gv 3) (kI 10)) (kI 4)) (kI 0))) (setF 4 (op2 addD (gv 4) (lE (lcF (rng1 (op2 idxD (gv 2) (kI 0))) (tg1 5) (asB (op2 eqD (op2 modD (callF 2 sem__law_degree (aC (gv 2) (aC (gv 5) aN))) (kI 2)) (kI 1))) (gv 5) [5])))) Out.nx) (seqS (setF 4 (fn1 sortsetD (gv 4))) (seqS (forF (rng1 (op2 idxD (gv 2) (kI 0))) (tg1 5) (ifS (andT (asB (op2 ltD (fn1 lenD (gv 4)) (kI 2))) (asB (op2 (inD true) (gv 5) (gv 4)))) (setF 4 (fn1 sortD (op2 addD (gv 4) (lE (lstF (aC (gv 5) aN)))))) Out.nx) [5]) (retF (fn1 tupleD (gv 4))))))))
def sem__law_marks : List D → R D := bodySem 6 g__law_marks
theorem ok__law_marks (T : Txt K mg ca) (d : DefE K mg "_law_marks" s__law_marks ["_law_script", "_law_at", "_law_graph_here"]) (h__law_row : Ok P w K mg base ca 3 "_law_row" ["_law_script", "_law_at"] sem__law_row) (h__law_degree : Ok P w K mg base ca 2 "_law_degree" ["_law_graph_here", "_law_vertex"] sem__law_degree) : Ok P w K mg base ca 4 "_law_marks" ["_law_script", "_law_at", "_law_graph_here"] sem__law_marks := by
  refine Ok.mk d sc__law_marks rfl fun cdv A outer s H E f hr => ?_
  have tk := takes_of (X := cxOf (L2.CX P w) P w K mg base ["_law_script", "_law_at", "_law_graph_here", "_law_draws", "_law_found", "_law_vertex"] "_law_marks" (defScope s__law_marks) f cdv A outer s H E) rfl rfl rfl rfl
  have hp := passes_of (X := cxOf (L2.CX P w) P w K mg base ["_law_script", "_law_at", "_law_graph_here", "_law_draws", "_law_found", "_law_vertex"] "_law_marks" (defScope s__law_marks) f cdv A outer s H E) rfl
  exact (fss_cons (fs_set (i := 3) sc__law_marks.nd rfl (by first | exact Or.inl rfl | exact Or.inr rfl) (fe_callO tk h__law_row hr (by decide) rfl (fa_cons (fe_var (pv 0)) (fa_cons (fe_var (pv 1)) fa_nil))))
    (fss_cons (fs_setLc (i := 4) (own := [("_law_vertex", 5)]) rfl sc__law_marks.nd rfl rfl (sw_true rfl rfl rfl (by decide +kernel)) (fib_of (fi_range1 rfl T.b_range (fe_ix (fb_fe (fe_var (pv 2))) (fb_fe fe_int)))) (blkOk_by (N := ["_law_script", "_law_at", "_law_graph_here", "_law_draws", "_law_found", "_law_vertex"]) (sc := defScope s__law_marks) (by decide +kernel)) (fun _ _ _ _ _ => (pg_name (i := 5) sc__law_marks.nd rfl (by first | exact Or.inl rfl | exact Or.inr rfl))) (gok1 (i := 5)) (fun _ _ _ _ _ => by exact (pts_1 (ft_eq hr (fb_fe (fe_mod (fb_fe (fe_ix (fb_fe (fe_var (pv 3))) (fb_fe (fe_var (pv 5))))) (fb_fe fe_int))) (fb_fe fe_int)))) (fun _ _ _ _ _ => by exact (fe_var (pv 5))) (by decide))
    (fss_cons (fs_if (ft_gt (fb_fe (fe_mod (fb_fe (fe_ix (fb_fe (fe_var (pv 3))) (fb_fe fe_int))) (fb_fe fe_int))) (fb_fe fe_int)) (fss_one (fs_set (i := 4) sc__law_marks.nd rfl (by first | exact Or.inl rfl | exact Or.inr rfl) (fe_add (fb_fe (fe_var (pv 4))) (fb_fl (fl_lc (own := [("_law_vertex", 5)]) rfl sc__law_marks.nd (fib_of (fi_range1 rfl T.b_range (fe_ix (fb_fe (fe_var (pv 2))) (fb_fe fe_int)))) (blkOk_by (N := ["_law_script", "_law_at", "_law_graph_here", "_law_draws", "_law_found", "_law_vertex"]) (sc := defScope s__law_marks) (by decide +kernel)) (fun _ _ _ _ _ => (pg_name (i := 5) sc__law_marks.nd rfl (by first | exact Or.inl rfl | exact Or.inr rfl))) (gok1 (i := 5)) (fun _ _ _ _ _ => by exact (pts_1 (ft_eq hr (fb_fe (fe_mod (fb_fe (fe_callO takes0 h__law_degree hr (by decide) rfl (fa_cons (fe_var (pv 2)) (fa_cons (fe_var (pv 5)) fa_nil)))) (fb_fe fe_int))) (fb_fe fe_int)))) (fun _ _ _ _ _ => by exact (fe_var (pv 5))) (by decide)))))) fss_nil)
    (fss_cons (fs_set (i := 4) sc__law_marks.nd rfl (by first | exact Or.inl rfl | exact Or.inr rfl) (fe_sortset rfl rfl T.b_sorted rfl T.b_set (fb_fe (fe_var (pv 4)))))
    (fss_cons (fs_for [5] hp rfl (fi_range1 rfl T.b_range (fe_ix (fb_fe (fe_var (pv 2))) (fb_fe fe_int))) ⟨(pg_name (i := 5) sc__law_marks.nd rfl (by first | exact Or.inl rfl | exact Or.inr rfl)), (gok1 (i := 5))⟩ (fss_one (fs_if (ft_w (fw_and (ft_lt (fb_fe (fe_len rfl T.b_len (fb_fe (fe_var (pv 4))))) (fb_fe fe_int)) (fw_and1 (ft_nin hr (fb_fe (fe_var (pv 5))) (fb_fe (fe_var (pv 4))))))) (fss_one (fs_set (i := 4) sc__law_marks.nd rfl (by first | exact Or.inl rfl | exact Or.inr rfl) (fe_sorted hr rfl T.b_sorted (fb_fe (fe_add (fb_fe (fe_var (pv 4))) (fb_fl (fl_lst (fa_cons (fe_var (pv 5)) fa_nil)))))))) fss_nil)))
    (fss_one (fs_ret (fe_tuple rfl T.b_tuple (fb_fe (fe_var (pv 4)))))))))))
abbrev s_in_range : Stmt := top 8
theorem sc_in_range : FnScope ["value", "low", "high"] ["value", "low", "high"] (defScope s_in_range) := ⟨rfl, rfl, rfl, by decide +kernel, rfl, by decide +kernel, by decide +kernel⟩
def g_in_range : Rho → Out := (retF (andV (fn1 (isiD "int") (gv 0)) (andV (notV (fn1 (isiD "bool") (gv 0))) (chain leD leD (gv 1) (gv 0) (gv 2)))))
def sem_in_range : List D → R D := bodySem 3 g_in_range
theorem ok_in_range (T : Txt K mg ca) (d : DefE K mg "in_range" s_in_range ["value", "low", "high"])  : Ok P w K mg base ca 2 "in_range" ["value", "low", "high"] sem_in_range := by
  refine Ok.mk d sc_in_range rfl fun cdv A outer s H E f hr => ?_
  have tk := takes_of (X := cxOf (L2.CX P w) P w K mg base ["value", "low", "high"] "in_range" (defScope s_in_range) f cdv A outer s H E) rfl rfl rfl rfl
  have hp := passes_of (X := cxOf (L2.CX P w) P w K mg base ["value", "low", "high"] "in_range" (defScope s_in_range) f cdv A outer s H E) rfl
  exact (fss_one (fs_ret (fe_and (fe_isi (T := "int") rfl T.b_isinstance (fb_fe (fe_var (pv 0))) rfl T.b_int (by decide +kernel)) (fe_and (fe_not (fb_fe (fe_isi (T := "bool") rfl T.b_isinstance (fb_fe (fe_var (pv 0))) rfl T.b_bool (by decide +kernel)))) (fe_one (fe_lele (fb_fe (fe_var (pv 1))) (fb_fe (fe_var (pv 0))) (fb_fe (fe_var (pv 2)))))))))
abbrev s_is_edge : Stmt := top 9
theorem sc_is_edge : FnScope ["vertices", "value"] ["vertices", "value"] (defScope s_is_edge) := ⟨rfl, rfl, rfl, by decide +kernel, rfl, by decide +kernel, by decide +kernel⟩
def g_is_edge : Rho → Out := (seqS (ifS (orT (notT (tru (fn1 (isiD "tuple") (gv 1)))) (orT (asB (op2 neD (fn1 lenD (gv 1)) (kI 2))) (notT (tru (callF 3 sem_in_range (aC (op2 idxD (gv 1) (kI 0)) (aC (kI 0) (aC (op2 subD (gv 0) (kI 1)) aN)))))))) (retF (kB false)) Out.nx) (retF (callF 3 sem_in_range (aC (op2 idxD (gv 1) (kI 1)) (aC (op2 addD (op2 idxD (gv 1) (kI 0)) (kI 1)) (aC (op2 subD (gv 0) (kI 1)) aN))))))
def sem_is_edge : List D → R D := bodySem 2 g_is_edge
theorem ok_is_edge (T : Txt K mg ca) (d : DefE K mg "is_edge" s_is_edge ["vertices", "value"]) (h_in_range : Ok P w K mg base ca 2 "in_range" ["value", "low", "high"] sem_in_range) : Ok P w K mg base ca 3 "is_edge" ["vertices", "value"] sem_is_edge := by
  refine Ok.mk d sc_is_edge rfl fun cdv A outer s H E f hr => ?_
  have tk := takes_of (X := cxOf (L2.CX P w) P w K mg base ["vertices", "value"] "is_edge" (defScope s_is_edge) f cdv A outer s H E) rfl rfl rfl rfl
  have hp := passes_of (X := cxOf (L2.CX P w) P w K mg base ["vertices", "value"] "is_edge" (defScope s_is_edge) f cdv A outer s H E) rfl
  exact (fss_cons (fs_if (ft_w (fw_or (ft_not (ft_tru (fb_fe (fe_isi (T := "tuple") rfl T.b_isinstance (fb_fe (fe_var (pv 1))) rfl T.b_tuple (by decide +kernel))))) (fw_or (ft_ne hr (fb_fe (fe_len rfl T.b_len (fb_fe (fe_var (pv 1))))) (fb_fe fe_int)) (fw_or1 (ft_not (ft_tru (fb_fe (fe_callO tk h_in_range hr (by decide) rfl (fa_cons (fe_ix (fb_fe (fe_var (pv 1))) (fb_fe fe_int)) (fa_cons fe_int (fa_cons (fe_sub (fb_fe (fe_var (pv 0))) (fb_fe fe_int)) fa_nil))))))))))) (fss_one (fs_ret fe_bl)) fss_nil)
    (fss_one (fs_ret (fe_callO tk h_in_range hr (by decide) rfl (fa_cons (fe_ix (fb_fe (fe_var (pv 1))) (fb_fe fe_int)) (fa_cons (fe_add (fb_fe (fe_ix (fb_fe (fe_var (pv 1))) (fb_fe fe_int))) (fb_fe fe_int)) (fa_cons (fe_sub (fb_fe (fe_var (pv 0))) (fb_fe fe_int)) fa_nil)))))))
abbrev s_is_graph : Stmt := top 10
theorem sc_is_graph : FnScope ["value", "edge", "following"] ["value"] (defScope s_is_graph) := ⟨rfl, rfl, rfl, by decide +kernel, rfl, by decide +kernel, by decide +kernel⟩
def g_is_graph : Rho → Out := (seqS (ifS (orT (notT (tru (fn1 (isiD "tuple") (gv 0)))) (orT (asB (op2 neD (fn1 lenD (gv 0)) (kI 2))) (notT (tru (callF 3 sem_in_range (aC (op2 idxD (gv 0) (kI 0)) (aC (kI 2) (aC (kI 6) aN)))))))) (retF (kB false)) Out.nx) (seqS (ifS (orT (notT (tru (fn1 (isiD "tuple") (op2 idxD (gv 0) (kI 1))))) (asB (op2 gtD (fn1 lenD (op2 idxD (gv 0) (kI 1))) (kI 9)))) (retF (kB false)) Out.nx) (seqS (ifS (tru (lE (lcF (seqF (op2 idxD (gv 0) (kI 1))) (tg1 1) (notT (tru (callF 2 sem_is_edge (aC (op2 idxD (gv 0) (kI 0)) (aC (gv 1) aN))))) (gv 1) [1]))) (retF (kB false)) Out.nx) (retF (notV (lE (lcF (zipF (op2 idxD (gv 0) (kI 1)) (sliceF (op2 idxD (gv 0) (kI 1)) (someP (kI 1)) nP)) (tg2 1 2) (asB (op2 gtA (gv 1) (gv 2))) (kI 1) [1, 2])))))))
def sem_is_graph : List D → R D := bodySem 3 g_is_graph
theorem ok_is_graph (T : Txt K mg ca) (d : DefE K mg "is_graph" s_is_graph ["value"]) (h_in_range : Ok P w K mg base ca 2 "in_range" ["value", "low", "high"] sem_in_range) (h_is_edge : Ok P w K mg base ca 3 "is_edge" ["vertices", "value"] sem_is_edge) : Ok P w K mg base ca 4 "is_graph" ["value"] sem_is_graph := by
  refine Ok.mk d sc_is_graph rfl fun cdv A outer s H E f hr => ?_
  have tk := takes_of (X := cxOf (L2.CX P w) P w K mg base ["value", "edge", "following"] "is_graph" (defScope s_is_graph) f cdv A outer s H E) rfl rfl rfl rfl
  have hp := passes_of (X := cxOf (L2.CX P w) P w K mg base ["value", "edge", "following"] "is_graph" (defScope s_is_graph) f cdv A outer s H E) rfl
  exact (fss_cons (fs_if (ft_w (fw_or (ft_not (ft_tru (fb_fe (fe_isi (T := "tuple") rfl T.b_isinstance (fb_fe (fe_var (pv 0))) rfl T.b_tuple (by decide +kernel))))) (fw_or (ft_ne hr (fb_fe (fe_len rfl T.b_len (fb_fe (fe_var (pv 0))))) (fb_fe fe_int)) (fw_or1 (ft_not (ft_tru (fb_fe (fe_callO tk h_in_range hr (by decide) rfl (fa_cons (fe_ix (fb_fe (fe_var (pv 0))) (fb_fe fe_int)) (fa_cons fe_int (fa_cons (fe_gint rfl T.c_MAX_VERTICES) fa_nil))))))))))) (fss_one (fs_ret fe_bl)) fss_nil)
    (fss_cons (fs_if (ft_w (fw_or (ft_not (ft_tru (fb_fe (fe_isi (T := "tuple") rfl T.b_isinstance (fb_fe (fe_ix (fb_fe (fe_var (pv 0))) (fb_fe fe_int))) rfl T.b_tuple (by decide +kernel))))) (fw_or1 (ft_gt (fb_fe (fe_len rfl T.b_len (fb_fe (fe_ix (fb_fe (fe_var (pv 0))) (fb_fe fe_int))))) (fb_fe (fe_gint rfl T.c_MAX_EDGES)))))) (fss_one (fs_ret fe_bl)) fss_nil)
    (fss_cons (fs_if (ft_tru (fb_fl (fl_lc (own := [("edge", 1)]) rfl sc_is_graph.nd (fib_seq (fb_fe (fe_ix (fb_fe (fe_var (pv 0))) (fb_fe fe_int)))) (blkOk_by (N := ["value", "edge", "following"]) (sc := defScope s_is_graph) (by decide +kernel)) (fun _ _ _ _ _ => (pg_name (i := 1) sc_is_graph.nd rfl (by first | exact Or.inl rfl | exact Or.inr rfl))) (gok1 (i := 1)) (fun _ _ _ _ _ => by exact (pts_1 (ft_not (ft_tru (fb_fe (fe_callO takes0 h_is_edge hr (by decide) rfl (fa_cons (fe_ix (fb_fe (fe_var (pv 0))) (fb_fe fe_int)) (fa_cons (fe_var (pv 1)) fa_nil)))))))) (fun _ _ _ _ _ => by exact (fe_var (pv 1))) (by decide)))) (fss_one (fs_ret fe_bl)) fss_nil)
    (fss_one (fs_ret (fe_not (fb_fl (fl_lc (own := [("edge", 1), ("following", 2)]) rfl sc_is_graph.nd (fib_of (fi_zip rfl T.b_zip (fe_ix (fb_fe (fe_var (pv 0))) (fb_fe fe_int)) (fe_slice (fb_fe (fe_ix (fb_fe (fe_var (pv 0))) (fb_fe fe_int))) (fo_some fe_int) fo_none))) (blkOk_by (N := ["value", "edge", "following"]) (sc := defScope s_is_graph) (by decide +kernel)) (fun _ _ _ _ _ => (pg_tup rfl (pgs_cons (pg_name (i := 1) sc_is_graph.nd rfl (by first | exact Or.inl rfl | exact Or.inr rfl)) (pgs_cons (pg_name (i := 2) sc_is_graph.nd rfl (by first | exact Or.inl rfl | exact Or.inr rfl)) pgs_nil)))) (gok2 (i := 1) (j := 2)) (fun _ _ _ _ _ => by exact (pts_1 (ft_gtA hr (fb_fe (fe_var (pv 1))) (fb_fe (fe_var (pv 2)))))) (fun _ _ _ _ _ => by exact fe_int) (by decide)))))))))
abbrev s_check_graph : Stmt := top 11
theorem sc_check_graph : FnScope ["graph"] ["graph"] (defScope s_check_graph) := ⟨rfl, rfl, rfl, by decide +kernel, rfl, by decide +kernel, by decide +kernel⟩
def g_check_graph : Rho → Out := (ifS (notT (tru (callF 1 sem_is_graph (aC (gv 0) aN)))) (raiseF 0) Out.nx)
def sem_check_graph : List D → R D := bodySem 1 g_check_graph
theorem ok_check_graph (T : Txt K mg ca) (d : DefE K mg "check_graph" s_check_graph ["graph"]) (h_is_graph : Ok P w K mg base ca 4 "is_graph" ["value"] sem_is_graph) : Ok P w K mg base ca 5 "check_graph" ["graph"] sem_check_graph := by
  refine Ok.mk d sc_check_graph rfl fun cdv A outer s H E f hr => ?_
  have tk := takes_of (X := cxOf (L2.CX P w) P w K mg base ["graph"] "check_graph" (defScope s_check_graph) f cdv A outer s H E) rfl rfl rfl rfl
  have hp := passes_of (X := cxOf (L2.CX P w) P w K mg base ["graph"] "check_graph" (defScope s_check_graph) f cdv A outer s H E) rfl
  exact (fss_one (fs_if (ft_not (ft_tru (fb_fe (fe_callO tk h_is_graph hr (by decide) rfl (fa_cons (fe_var (pv 0)) fa_nil))))) (fss_one (fs_raise (k := 0) rfl tk T.e_InvalidGraph rfl)) fss_nil))
abbrev s_is_rising : Stmt := top 12
theorem sc_is_rising : FnScope ["value", "count", "one", "other"] ["value", "count"] (defScope s_is_rising) := ⟨rfl, rfl, rfl, by decide +kernel, rfl, by decide +kernel, by decide +kernel⟩
def g_is_rising : Rho → Out := (seqS (ifS (orT (notT (tru (fn1 (isiD "tuple") (gv 0)))) (tru (lE (lcF (seqF (gv 0)) (tg1 2) (notT (tru (callF 3 sem_in_range (aC (gv 2) (aC (kI 0) (aC (op2 subD (gv 1) (kI 1)) aN)))))) (gv 2) [2])))) (retF (kB false)) Out.nx) (retF (notV (lE (lcF (zipF (gv 0) (sliceF (gv 0) (someP (kI 1)) nP)) (tg2 2 3) (asB (op2 geD (gv 2) (gv 3))) (kI 1) [2, 3])))))
def sem_is_rising : List D → R D := bodySem 4 g_is_rising
theorem ok_is_rising (T : Txt K mg ca) (d : DefE K mg "is_rising" s_is_rising ["value", "count"]) (h_in_range : Ok P w K mg base ca 2 "in_range" ["value", "low", "high"] sem_in_range) : Ok P w K mg base ca 3 "is_rising" ["value", "count"] sem_is_rising := by
  refine Ok.mk d sc_is_rising rfl fun cdv A outer s H E f hr => ?_
  have tk := takes_of (X := cxOf (L2.CX P w) P w K mg base ["value", "count", "one", "other"] "is_rising" (defScope s_is_rising) f cdv A outer s H E) rfl rfl rfl rfl
  have hp := passes_of (X := cxOf (L2.CX P w) P w K mg base ["value", "count", "one", "other"] "is_rising" (defScope s_is_rising) f cdv A outer s H E) rfl
  exact (fss_cons (fs_if (ft_w (fw_or (ft_not (ft_tru (fb_fe (fe_isi (T := "tuple") rfl T.b_isinstance (fb_fe (fe_var (pv 0))) rfl T.b_tuple (by decide +kernel))))) (fw_or1 (ft_tru (fb_fl (fl_lc (own := [("one", 2)]) rfl sc_is_rising.nd (fib_seq (fb_fe (fe_var (pv 0)))) (blkOk_by (N := ["value", "count", "one", "other"]) (sc := defScope s_is_rising) (by decide +kernel)) (fun _ _ _ _ _ => (pg_name (i := 2) sc_is_rising.nd rfl (by first | exact Or.inl rfl | exact Or.inr rfl))) (gok1 (i := 2)) (fun _ _ _ _ _ => by exact (pts_1 (ft_not (ft_tru (fb_fe (fe_callO takes0 h_in_range hr (by decide) rfl (fa_cons (fe_var (pv 2)) (fa_cons fe_int (fa_cons (fe_sub (fb_fe (fe_var (pv 1))) (fb_fe fe_int)) fa_nil))))))))) (fun _ _ _ _ _ => by exact (fe_var (pv 2))) (by decide))))))) (fss_one (fs_ret fe_bl)) fss_nil)
    (fss_one (fs_ret (fe_not (fb_fl (fl_lc (own := [("one", 2), ("other", 3)]) rfl sc_is_rising.nd (fib_of (fi_zip rfl T.b_zip (fe_var (pv 0)) (fe_slice (fb_fe (fe_var (pv 0))) (fo_some fe_int) fo_none))) (blkOk_by (N := ["value", "count", "one", "other"]) (sc := defScope s_is_rising) (by decide +kernel)) (fun _ _ _ _ _ => (pg_tup rfl (pgs_cons (pg_name (i := 2) sc_is_rising.nd rfl (by first | exact Or.inl rfl | exact Or.inr rfl)) (pgs_cons (pg_name (i := 3) sc_is_rising.nd rfl (by first | exact Or.inl rfl | exact Or.inr rfl)) pgs_nil)))) (gok2 (i := 2) (j := 3)) (fun _ _ _ _ _ => by exact (pts_1 (ft_ge (fb_fe (fe_var (pv 2))) (fb_fe (fe_var (pv 3)))))) (fun _ _ _ _ _ => by exact fe_int) (by decide)))))))
abbrev s_are_marks : Stmt := top 13
theorem sc_are_marks : FnScope ["graph", "value"] ["graph", "value"] (defScope s_are_marks) := ⟨rfl, rfl, rfl, by decide +kernel, rfl, by decide +kernel, by decide +kernel⟩
def g_are_marks : Rho → Out := (retF (andV (callF 2 sem_is_rising (aC (gv 1) (aC (op2 idxD (gv 0) (kI 0)) aN))) (op2 geD (fn1 lenD (gv 1)) (kI 2))))
def sem_are_marks : List D → R D := bodySem 2 g_are_marks
theorem ok_are_marks (T : Txt K mg ca) (d : DefE K mg "are_marks" s_are_marks ["graph", "value"]) (h_is_rising : Ok P w K mg base ca 3 "is_rising" ["value", "count"] sem_is_rising) : Ok P w K mg base ca 4 "are_marks" ["graph", "value"] sem_are_marks := by
  refine Ok.mk d sc_are_marks rfl fun cdv A outer s H E f hr => ?_
  have tk := takes_of (X := cxOf (L2.CX P w) P w K mg base ["graph", "value"] "are_marks" (defScope s_are_marks) f cdv A outer s H E) rfl rfl rfl rfl
  have hp := passes_of (X := cxOf (L2.CX P w) P w K mg base ["graph", "value"] "are_marks" (defScope s_are_marks) f cdv A outer s H E) rfl
  exact (fss_one (fs_ret (fe_and (fe_callO tk h_is_rising hr (by decide) rfl (fa_cons (fe_var (pv 1)) (fa_cons (fe_ix (fb_fe (fe_var (pv 0))) (fb_fe fe_int)) fa_nil))) (fe_one (fe_ge (fb_fe (fe_len rfl T.b_len (fb_fe (fe_var (pv 1))))) (fb_fe fe_int))))))
abbrev s_check_marks : Stmt := top 14
theorem sc_check_marks : FnScope ["graph", "marks"] ["graph", "marks"] (defScope s_check_marks) := ⟨rfl, rfl, rfl, by decide +kernel, rfl, by decide +kernel, by decide +kernel⟩
def g_check_marks : Rho → Out := (seqS (dropF (callF 1 sem_check_graph (aC (gv 0) aN))) (ifS (notT (tru (callF 2 sem_are_marks (aC (gv 0) (aC (gv 1) aN))))) (raiseF 1) Out.nx))
def sem_check_marks : List D → R D := bodySem 2 g_check_marks
theorem ok_check_marks (T : Txt K mg ca) (d : DefE K mg "check_marks" s_check_marks ["graph", "marks"]) (h_check_graph : Ok P w K mg base ca 5 "check_graph" ["graph"] sem_check_graph) (h_are_marks : Ok P w K mg base ca 4 "are_marks" ["graph", "value"] sem_are_marks) : Ok P w K mg base ca 6 "check_marks" ["graph", "marks"] sem_check_marks := by
  refine Ok.mk d sc_check_marks rfl fun cdv A outer s H E f hr => ?_
  have tk := takes_of (X := cxOf (L2.CX P w) P w K mg base ["graph", "marks"] "check_marks" (defScope s_check_marks) f cdv A outer s H E) rfl rfl rfl rfl
  have hp := passes_of (X := cxOf (L2.CX P w) P w K mg base ["graph", "marks"] "check_marks" (defScope s_check_marks) f cdv A outer s H E) rfl
  exact (fss_cons (fs_expr (fe_callO tk h_check_graph hr (by decide) rfl (fa_cons (fe_var (pv 0)) fa_nil)))
    (fss_one (fs_if (ft_not (ft_tru (fb_fe (fe_callO tk h_are_marks hr (by decide) rfl (fa_cons (fe_var (pv 0)) (fa_cons (fe_var (pv 1)) fa_nil)))))) (fss_one (fs_raise (k := 1) rfl tk T.e_InvalidMarks rfl)) fss_nil)))
abbrev s_text_of : Stmt := top 17
theorem sc_text_of : FnScope ["graph", "marks", "names", "mark", "one", "other"] ["graph", "marks"] (defScope s_text_of) := ⟨rfl, rfl, rfl, by decide +kernel, rfl, by decide +kernel, by decide +kernel⟩
def g_text_of : Rho → Out := (seqS (setF 2 (joinF "" (lE (lcF (seqF (gv 1)) (tg1 3) tT (fn1 strD (gv 3)) [3])))) (retF (joinF " " (op2 addD (lE (lstF (aC (joinedF (fjF (op2 idxD (gv 0) (kI 0)) (fjC "/" (fjF (gv 2) (fun _ => .ok []))))) aN))) (lE (lcF (seqF (op2 idxD (gv 0) (kI 1))) (tg2 4 5) tT (joinedF (fjF (gv 4) (fjC "-" (fjF (gv 5) (fun _ => .ok []))))) [4, 5]))))))
def sem_text_of : List D → R D := bodySem 6 g_text_of
theorem ok_text_of (T : Txt K mg ca) (d : DefE K mg "text_of" s_text_of ["graph", "marks"])  : Ok P w K mg base ca 2 "text_of" ["graph", "marks"] sem_text_of := by
  refine Ok.mk d sc_text_of rfl fun cdv A outer s H E f hr => ?_
  have tk := takes_of (X := cxOf (L2.CX P w) P w K mg base ["graph", "marks", "names", "mark", "one", "other"] "text_of" (defScope s_text_of) f cdv A outer s H E) rfl rfl rfl rfl
  have hp := passes_of (X := cxOf (L2.CX P w) P w K mg base ["graph", "marks", "names", "mark", "one", "other"] "text_of" (defScope s_text_of) f cdv A outer s H E) rfl
  exact (fss_cons (fs_set (i := 2) sc_text_of.nd rfl (by first | exact Or.inl rfl | exact Or.inr rfl) (fe_join (fb_fl (fl_lc (own := [("mark", 3)]) rfl sc_text_of.nd (fib_seq (fb_fe (fe_var (pv 1)))) (blkOk_by (N := ["graph", "marks", "names", "mark", "one", "other"]) (sc := defScope s_text_of) (by decide +kernel)) (fun _ _ _ _ _ => (pg_name (i := 3) sc_text_of.nd rfl (by first | exact Or.inl rfl | exact Or.inr rfl))) (gok1 (i := 3)) (fun _ _ _ _ _ => by exact pts_tt) (fun _ _ _ _ _ => by exact (fe_str1 rfl T.b_str (fb_fe (fe_var (pv 3))))) (by decide)))))
    (fss_one (fs_ret (fe_join (fb_fe (fe_add (fb_fl (fl_lst (fa_cons (fe_joined (fj_fmt (fe_ix (fb_fe (fe_var (pv 0))) (fb_fe fe_int)) (fj_const (fj_fmt (fe_var (pv 2)) fj_nil nx_nil) (nx_fmt nx_gv nx_nil)) (nx_const (nx_fmt nx_gv nx_nil)))) fa_nil))) (fb_fl (fl_lc (own := [("one", 4), ("other", 5)]) rfl sc_text_of.nd (fib_seq (fb_fe (fe_ix (fb_fe (fe_var (pv 0))) (fb_fe fe_int)))) (blkOk_by (N := ["graph", "marks", "names", "mark", "one", "other"]) (sc := defScope s_text_of) (by decide +kernel)) (fun _ _ _ _ _ => (pg_tup rfl (pgs_cons (pg_name (i := 4) sc_text_of.nd rfl (by first | exact Or.inl rfl | exact Or.inr rfl)) (pgs_cons (pg_name (i := 5) sc_text_of.nd rfl (by first | exact Or.inl rfl | exact Or.inr rfl)) pgs_nil)))) (gok2 (i := 4) (j := 5)) (fun _ _ _ _ _ => by exact pts_tt) (fun _ _ _ _ _ => by exact (fe_joined (fj_fmt (fe_var (pv 4)) (fj_const (fj_fmt (fe_var (pv 5)) fj_nil nx_nil) (nx_fmt nx_gv nx_nil)) (nx_const (nx_fmt nx_gv nx_nil))))) (by decide)))))))))
abbrev s_format_graph : Stmt := top 18
theorem sc_format_graph : FnScope ["graph", "marks"] ["graph", "marks"] (defScope s_format_graph) := ⟨rfl, rfl, rfl, by decide +kernel, rfl, by decide +kernel, by decide +kernel⟩
def g_format_graph : Rho → Out := (seqS (dropF (callF 2 sem_check_marks (aC (gv 0) (aC (gv 1) aN)))) (retF (callF 2 sem_text_of (aC (gv 0) (aC (gv 1) aN)))))
def sem_format_graph : List D → R D := bodySem 2 g_format_graph
theorem ok_format_graph (T : Txt K mg ca) (d : DefE K mg "format_graph" s_format_graph ["graph", "marks"]) (h_check_marks : Ok P w K mg base ca 6 "check_marks" ["graph", "marks"] sem_check_marks) (h_text_of : Ok P w K mg base ca 2 "text_of" ["graph", "marks"] sem_text_of) : Ok P w K mg base ca 7 "format_graph" ["graph", "marks"] sem_format_graph := by
  refine Ok.mk d sc_format_graph rfl fun cdv A outer s H E f hr => ?_
  have tk := takes_of (X := cxOf (L2.CX P w) P w K mg base ["graph", "marks"] "format_graph" (defScope s_format_graph) f cdv A outer s H E) rfl rfl rfl rfl
  have hp := passes_of (X := cxOf (L2.CX P w) P w K mg base ["graph", "marks"] "format_graph" (defScope s_format_graph) f cdv A outer s H E) rfl
  exact (fss_cons (fs_expr (fe_callO tk h_check_marks hr (by decide) rfl (fa_cons (fe_var (pv 0)) (fa_cons (fe_var (pv 1)) fa_nil))))
    (fss_one (fs_ret (fe_callO tk h_text_of hr (by decide) rfl (fa_cons (fe_var (pv 0)) (fa_cons (fe_var (pv 1)) fa_nil))))))
abbrev s_L___init__ : Stmt := inClass (top 2) 0
theorem sc_L___init__ : FnScope ["self", "line"] ["self", "line"] (defScope s_L___init__) := ⟨rfl, rfl, rfl, by decide +kernel, rfl, by decide +kernel, by decide +kernel⟩
theorem ok_L___init__ (T : Txt K mg ca) {f : Addr} {fd : FuncData} (fi : PySem.W.findIn K (.ref (ca 7)) "__init__" = some (some (.ref f))) (F : Fun K "__init__" "ParseError.__init__" s_L___init__ f fd) (hfn : PySem.W.isFn K (.ref f) = true) (hb : Binds K fd ["self", "line"] []) : OkLn P w K mg base ca 2 := OkLn.mk fi F hfn hb sc_L___init__ rfl fun cdv A outer s H E hr => by
  exact ln_body T.ln rfl rfl (pv 0) (pv 0) (pv 1)
abbrev s_parse_graph : Stmt := top 19
theorem sc_parse_graph : FnScope ["text", "tokens", "first", "sign", "edges", "number", "token", "graph", "marks"] ["text"] (defScope s_parse_graph) := ⟨rfl, rfl, rfl, by decide +kernel, rfl, by decide +kernel, by decide +kernel⟩
def g_parse_graph : Rho → Out := (seqS (ifS (notT (tru (fn1 (isiD "str") (gv 0)))) (raiseL kN) Out.nx) (seqS (setF 1 (fn1 (splitD " ") (gv 0))) (seqS (setF 2 (op2 idxD (gv 1) (kI 0))) (seqS (ifS (orT (asB (op2 ltD (fn1 lenD (gv 2)) (kI 2))) (orT (asB (op2 neD (op2 idxD (gv 2) (kI 1)) (kS "/"))) (tru (lE (lcF (signF (op2 addD (sliceSF (gv 2) nP (someP (kI 1))) (sliceSF (gv 2) (someP (kI 2)) nP))) (tg1 3) (asB (op2 (inSD true) (gv 3) (kS "0123456789"))) (gv 3) [3]))))) (raiseL (kI 0)) Out.nx) (seqS (setL 4 (lstF aN)) (seqS (forF (enumF (sliceF (gv 1) (someP (kI 1)) nP)) (tg2 5 6) (seqS (ifS (orT (asB (op2 neD (fn1 lenD (gv 6)) (kI 3))) (orT (asB (op2 neD (op2 idxD (gv 6) (kI 1)) (kS "-"))) (orT (asB (op2 (inSD true) (op2 idxD (gv 6) (kI 0)) (kS "0123456789"))) (asB (op2 (inSD true) (op2 idxD (gv 6) (kI 2)) (kS "0123456789")))))) (raiseL (op2 addD (gv 5) (kI 1))) Out.nx) (mutF 4 appM (tupF (aC (fn1 (sidxD "0123456789") (op2 idxD (gv 6) (kI 0))) (aC (fn1 (sidxD "0123456789") (op2 idxD (gv 6) (kI 2))) aN))))) [5, 6]) (seqS (setF 7 (tupF (aC (fn1 (sidxD "0123456789") (op2 idxD (gv 2) (kI 0))) (aC (fn1 tupleD (go 4)) aN)))) (seqS (setF 8 (fn1 tupleD (lE (lcF (signF (sliceSF (gv 2) (someP (kI 2)) nP)) (tg1 3) tT (fn1 (sidxD "0123456789") (gv 3)) [3])))) (seqS (ifS (orT (notT (tru (callF 1 sem_is_graph (aC (gv 7) aN)))) (notT (tru (callF 2 sem_are_marks (aC (gv 7) (aC (gv 8) aN)))))) (raiseL kN) Out.nx) (retF (tupF (aC (gv 7) (aC (gv 8) aN)))))))))))))
def sem_parse_graph : List D → R D := bodySem 9 g_parse_graph
theorem ok_parse_graph (T : Txt K mg ca) (d : DefE K mg "parse_graph" s_parse_graph ["text"]) (h_L___init__ : OkLn P w K mg base ca 2) (h_is_graph : Ok P w K mg base ca 4 "is_graph" ["value"] sem_is_graph) (h_are_marks : Ok P w K mg base ca 4 "are_marks" ["graph", "value"] sem_are_marks) : Ok P w K mg base ca 5 "parse_graph" ["text"] sem_parse_graph := by
  refine Ok.mk d sc_parse_graph rfl fun cdv A outer s H E f hr => ?_
  have tk := takes_of (X := cxOf (L2.CX P w) P w K mg base ["text", "tokens", "first", "sign", "edges", "number", "token", "graph", "marks"] "parse_graph" (defScope s_parse_graph) f cdv A outer s H E) rfl rfl rfl rfl
  have hp := passes_of (X := cxOf (L2.CX P w) P w K mg base ["text", "tokens", "first", "sign", "edges", "number", "token", "graph", "marks"] "parse_graph" (defScope s_parse_graph) f cdv A outer s H E) rfl
  exact (fss_cons (fs_if (ft_not (ft_tru (fb_fe (fe_isi (T := "str") rfl T.b_isinstance (fb_fe (fe_var (pv 0))) rfl T.b_str (by decide +kernel))))) (fss_one (fs_raiseL rfl tk T.ln h_L___init__ hr (by decide) rfl fe_non)) fss_nil)
    (fss_cons (fs_set (i := 1) sc_parse_graph.nd rfl (by first | exact Or.inl rfl | exact Or.inr rfl) (fe_split (fe_var (pv 0))))
    (fss_cons (fs_set (i := 2) sc_parse_graph.nd rfl (by first | exact Or.inl rfl | exact Or.inr rfl) (fe_ix (fb_fe (fe_var (pv 1))) (fb_fe fe_int)))
    (fss_cons (fs_if (ft_w (fw_or (ft_lt (fb_fe (fe_len rfl T.b_len (fb_fe (fe_var (pv 2))))) (fb_fe fe_int)) (fw_or (ft_ne hr (fb_fe (fe_ix (fb_fe (fe_var (pv 2))) (fb_fe fe_int))) (fb_fe fe_str)) (fw_or1 (ft_tru (fb_fl (fl_lc (own := [("sign", 3)]) rfl sc_parse_graph.nd (fib_str (fe_add (fb_fe (fe_sliceS (fe_var (pv 2)) fo_none (fo_some fe_int))) (fb_fe (fe_sliceS (fe_var (pv 2)) (fo_some fe_int) fo_none)))) (blkOk_by (N := ["text", "tokens", "first", "sign", "edges", "number", "token", "graph", "marks"]) (sc := defScope s_parse_graph) (by decide +kernel)) (fun _ _ _ _ _ => (pg_name (i := 3) sc_parse_graph.nd rfl (by first | exact Or.inl rfl | exact Or.inr rfl))) (gok1 (i := 3)) (fun _ _ _ _ _ => by exact (pts_1 (ft_ninS (fb_fe (fe_var (pv 3))) (fb_fe (fe_gstr rfl T.c_DIGITS))))) (fun _ _ _ _ _ => by exact (fe_var (pv 3))) (by decide)))))))) (fss_one (fs_raiseL rfl tk T.ln h_L___init__ hr (by decide) rfl fe_int)) fss_nil)
    (fss_cons (fs_setL (i := 4) sc_parse_graph.nd rfl (by first | exact Or.inl rfl | exact Or.inr rfl) (fl_lst fa_nil))
    (fss_cons (fs_for [5, 6] hp rfl (fi_enum rfl T.b_enumerate (fe_slice (fb_fe (fe_var (pv 1))) (fo_some fe_int) fo_none)) ⟨(pg_tup rfl (pgs_cons (pg_name (i := 5) sc_parse_graph.nd rfl (by first | exact Or.inl rfl | exact Or.inr rfl)) (pgs_cons (pg_name (i := 6) sc_parse_graph.nd rfl (by first | exact Or.inl rfl | exact Or.inr rfl)) pgs_nil))), (gok2 (i := 5) (j := 6))⟩ (fss_cons (fs_if (ft_w (fw_or (ft_ne hr (fb_fe (fe_len rfl T.b_len (fb_fe (fe_var (pv 6))))) (fb_fe fe_int)) (fw_or (ft_ne hr (fb_fe (fe_ix (fb_fe (fe_var (pv 6))) (fb_fe fe_int))) (fb_fe fe_str)) (fw_or (ft_ninS (fb_fe (fe_ix (fb_fe (fe_var (pv 6))) (fb_fe fe_int))) (fb_fe (fe_gstr rfl T.c_DIGITS))) (fw_or1 (ft_ninS (fb_fe (fe_ix (fb_fe (fe_var (pv 6))) (fb_fe fe_int))) (fb_fe (fe_gstr rfl T.c_DIGITS)))))))) (fss_one (fs_raiseL rfl tk T.ln h_L___init__ hr (by decide) rfl (fe_add (fb_fe (fe_var (pv 5))) (fb_fe fe_int)))) fss_nil)
    (fss_one (fs_app (pv 4) (fe_tup (fa_cons (fe_sindex rfl T.c_DIGITS (fe_ix (fb_fe (fe_var (pv 6))) (fb_fe fe_int))) (fa_cons (fe_sindex rfl T.c_DIGITS (fe_ix (fb_fe (fe_var (pv 6))) (fb_fe fe_int))) fa_nil)))))))
    (fss_cons (fs_set (i := 7) sc_parse_graph.nd rfl (by first | exact Or.inl rfl | exact Or.inr rfl) (fe_tup (fa_cons (fe_sindex rfl T.c_DIGITS (fe_ix (fb_fe (fe_var (pv 2))) (fb_fe fe_int))) (fa_cons (fe_tuple rfl T.b_tuple (fb_own (pv 4))) fa_nil))))
    (fss_cons (fs_set (i := 8) sc_parse_graph.nd rfl (by first | exact Or.inl rfl | exact Or.inr rfl) (fe_tuple rfl T.b_tuple (fb_fl (fl_lc (own := [("sign", 3)]) rfl sc_parse_graph.nd (fib_str (fe_sliceS (fe_var (pv 2)) (fo_some fe_int) fo_none)) (blkOk_by (N := ["text", "tokens", "first", "sign", "edges", "number", "token", "graph", "marks"]) (sc := defScope s_parse_graph) (by decide +kernel)) (fun _ _ _ _ _ => (pg_name (i := 3) sc_parse_graph.nd rfl (by first | exact Or.inl rfl | exact Or.inr rfl))) (gok1 (i := 3)) (fun _ _ _ _ _ => by exact pts_tt) (fun _ _ _ _ _ => by exact (fe_sindex rfl T.c_DIGITS (fe_var (pv 3)))) (by decide)))))
    (fss_cons (fs_if (ft_w (fw_or (ft_not (ft_tru (fb_fe (fe_callO tk h_is_graph hr (by decide) rfl (fa_cons (fe_var (pv 7)) fa_nil))))) (fw_or1 (ft_not (ft_tru (fb_fe (fe_callO tk h_are_marks hr (by decide) rfl (fa_cons (fe_var (pv 7)) (fa_cons (fe_var (pv 8)) fa_nil))))))))) (fss_one (fs_raiseL rfl tk T.ln h_L___init__ hr (by decide) rfl fe_non)) fss_nil)
    (fss_one (fs_ret (fe_tup (fa_cons (fe_var (pv 7)) (fa_cons (fe_var (pv 8)) fa_nil))))))))))))))
abbrev s__law_parse : Stmt := top 26
theorem sc__law_parse : FnScope ["_law_text", "e"] ["_law_text"] (defScope s__law_parse) := ⟨rfl, rfl, rfl, by decide +kernel, rfl, by decide +kernel, by decide +kernel⟩
def h__law_parse_0 (k : Nat) (a : Addr) (d : Option Addr) : Rho → Out := (retF (ifE (andT (tru (isEL 1 a d (mOf 8 k))) (notT (tru (isEL 1 a d (mOf 0 k))))) (lE (lstF (aC (kS "line") (aC (lnF 1 a d) aN)))) (lE (lstF (aC (kS "other") aN)))))
theorem h__law_parse_0_c (k : Nat) (a : Addr) (d : Option Addr) (l : Option D) (hl : l.isSome = d.isSome) : h__law_parse_0 k a d (mkL 2 1 a d l) = h__law_parse_0 k 0 (dOf l) (mkL 2 1 0 (dOf l) l) := by
  have e1 := fun b : Bool => isEL_mkL (n := 2) (i := 1) (a := a) (b := b) (by decide) hl
  have e2 := fun b : Bool => isEL_mkL (n := 2) (i := 1) (a := 0) (b := b) (by decide) (dOf_same l)
  have e3 := lnF_mkL (n := 2) (i := 1) (a := a) (by decide) hl
  have e4 := lnF_mkL (n := 2) (i := 1) (a := 0) (by decide) (dOf_same l)
  simp only [h__law_parse_0, retF, ifE, andT, notT, tru, kS, kI, kB, kN, lE, lstF, aC, aN, e1, e2, e3, e4]
def g__law_parse : Rho → Out := (tryL 2 1 7 (retF (callF 1 sem_parse_graph (aC (gv 0) aN))) h__law_parse_0)
def sem__law_parse : List D → R D := bodySem 2 g__law_parse
theorem ok__law_parse (T : Txt K mg ca) (d : DefE K mg "_law_parse" s__law_parse ["_law_text"]) (h_parse_graph : Ok P w K mg base ca 5 "parse_graph" ["text"] sem_parse_graph) : Ok P w K mg base ca 6 "_law_parse" ["_law_text"] sem__law_parse := by
  refine Ok.mk d sc__law_parse rfl fun cdv A outer s H E f hr => ?_
  have tk := takes_of (X := cxOf (L2.CX P w) P w K mg base ["_law_text", "e"] "_law_parse" (defScope s__law_parse) f cdv A outer s H E) rfl rfl rfl rfl
  have hp := passes_of (X := cxOf (L2.CX P w) P w K mg base ["_law_text", "e"] "_law_parse" (defScope s__law_parse) f cdv A outer s H E) rfl
  exact (fss_one (fs_tryL (i := 1) (c := 7) (g := (retF (callF 1 sem_parse_graph (aC (gv 0) aN)))) (h := h__law_parse_0) rfl rfl sc__law_parse.nd rfl rfl rfl T.k_ParseError rfl tk (fun W' pn xe tk => (fss_one (fs_ret (fe_callO tk h_parse_graph hr (by decide) rfl (fa_cons (fe_var (pv 0)) fa_nil)))))
    (fun k a d oe pn hk hz hf => (fss_one (fs_ret (fe_if (ft_w (fw_and (ft_tru (fb_fe (fe_isEL (T.x_exc k hk) T.k_MarkError hk hz hf rfl T.b_isinstance rfl (pv 1)))) (fw_and1 (ft_not (ft_tru (fb_fe (fe_isEL (T.x_exc k hk) T.k_InvalidGraph hk hz hf rfl T.b_isinstance rfl (pv 1)))))))) (fe_fl (fl_lst (fa_cons fe_str (fa_cons (fe_line (T.x_exc k hk) (T.nol k hk) hz hf (pv 1)) fa_nil)))) (fe_fl (fl_lst (fa_cons fe_str fa_nil))))))) h__law_parse_0_c))
abbrev s_law : Stmt := top 27
theorem sc_law : FnScope ["_law_script", "_law_draws", "_law_graph_here", "_law_marks_here", "_law_tokens", "_law_mark", "_law_one", "_law_other", "_law_text", "_law_spot", "_law_new", "_law_edited", "_law_found", "_law_at", "_law_wrong"] ["_law_script"] (defScope s_law) := ⟨rfl, rfl, rfl, by decide +kernel, rfl, by decide +kernel, by decide +kernel⟩
def g_law : Rho → Out := (seqS (setF 1 (callF 2 sem__law_row (aC (gv 0) (aC (kI 4) aN)))) (seqS (setF 2 (callF 3 sem__law_graph (aC (gv 0) (aC (kI 2) (aC (kI 9) aN))))) (seqS (setF 3 (callF 3 sem__law_marks (aC (gv 0) (aC (kI 3) (aC (gv 2) aN))))) (seqS (setF 4 (lE (lstF (aC (op2 addD (op2 addD (fn1 strD (op2 idxD (gv 2) (kI 0))) (kS "/")) (joinF "" (lE (lcF (seqF (gv 3)) (tg1 5) tT (fn1 strD (gv 5)) [5])))) aN)))) (seqS (setF 4 (op2 addD (gv 4) (lE (lcF (seqF (op2 idxD (gv 2) (kI 1))) (tg2 6 7) tT (op2 addD (op2 addD (fn1 strD (gv 6)) (kS "-")) (fn1 strD (gv 7))) [6, 7])))) (seqS (setF 8 (joinF " " (gv 4))) (seqS (ifS (orT (asB (op2 neD (callF 2 sem_format_graph (aC (gv 2) (aC (gv 3) aN))) (gv 8))) (asB (op2 neD (callF 1 sem__law_parse (aC (gv 8) aN)) (tupF (aC (gv 2) (aC (gv 3) aN)))))) (retF (kB false)) Out.nx) (seqS (setF 9 (op2 modD (op2 idxD (gv 1) (kI 0)) (op2 addD (fn1 lenD (gv 8)) (kI 1)))) (seqS (setF 10 (op2 idxD (lE (lstF (aC (kS "0") (aC (kS " ") (aC (kS "1") (aC (kS "/") (aC (kS "-") (aC (kS " 0-1") aN)))))))) (op2 modD (op2 idxD (gv 1) (kI 1)) (kI 6)))) (seqS (setF 11 (op2 idxD (lE (lstF (aC (op2 addD (sliceSF (gv 8) nP (someP (gv 9))) (sliceSF (gv 8) (someP (op2 addD (gv 9) (kI 1))) nP)) (aC (op2 addD (op2 addD (sliceSF (gv 8) nP (someP (gv 9))) (gv 10)) (sliceSF (gv 8) (someP (gv 9)) nP)) (aC (op2 addD (gv 8) (kS " ")) (aC (op2 addD (kS " ") (gv 8)) aN)))))) (op2 modD (op2 idxD (gv 1) (kI 2)) (kI 4)))) (seqS (setF 12 (callF 1 sem__law_parse (aC (gv 11) aN))) (seqS (ifS (orT (asB (op2 eqD (op2 idxD (gv 12) (kI 0)) (kS "other"))) (andT (asB (op2 neD (op2 idxD (gv 12) (kI 0)) (kS "line"))) (asB (op2 neD (callF 2 sem_format_graph (aC (op2 idxD (gv 12) (kI 0)) (aC (op2 idxD (gv 12) (kI 1)) aN))) (gv 11))))) (retF (kB false)) Out.nx) (seqS (setF 13 (op2 addD (kI 1) (op2 modD (op2 idxD (gv 1) (kI 3)) (fn1 lenD (gv 4))))) (seqS (setF 14 (op2 idxD (lE (lstF (aC (kS "") (aC (kS "0>1") (aC (kS "0-") (aC (kS "0-12") (aC (kS "a-1") (aC (kS "01") aN)))))))) (op2 modD (op2 idxD (gv 1) (kI 4)) (kI 6)))) (seqS (ifS (asB (op2 neD (callF 1 sem__law_parse (aC (joinF " " (op2 addD (op2 addD (sliceF (gv 4) nP (someP (gv 13))) (lE (lstF (aC (gv 14) (aC (kS "y") aN))))) (sliceF (gv 4) (someP (gv 13)) nP))) aN)) (lE (lstF (aC (kS "line") (aC (gv 13) aN)))))) (retF (kB false)) Out.nx) (seqS (setF 14 (op2 idxD (lE (lstF (aC (kS "") (aC (kS "3") (aC (kS "/01") (aC (kS "33/01") (aC (kS "x/01") (aC (kS "3-01") (aC (kS "3/0x") aN))))))))) (op2 modD (op2 idxD (gv 1) (kI 5)) (kI 7)))) (seqS (ifS (asB (op2 neD (callF 1 sem__law_parse (aC (joinF " " (op2 addD (lE (lstF (aC (gv 14) aN))) (sliceF (gv 4) (someP (kI 1)) nP))) aN)) (lE (lstF (aC (kS "line") (aC (kI 0) aN)))))) (retF (kB false)) Out.nx) (seqS (ifS (asB (op2 neD (lE (lcF (seqF (tupF (aC (kS "2/0") (aC (kS "2/10") (aC (kS "2/01 1-0") aN))))) (tg1 6) tT (callF 1 sem__law_parse (aC (gv 6) aN)) [6])) (op2 repD (lE (lstF (aC (lE (lstF (aC (kS "line") (aC kN aN)))) aN))) (kI 3)))) (retF (kB false)) Out.nx) (retF (op2 eqD (callF 1 sem__law_parse (aC (op2 idxD (lE (lstF (aC kN (aC (kI 7) (aC (gv 4) (aC (gv 2) aN)))))) (op2 modD (op2 idxD (gv 1) (kI 6)) (kI 4))) aN)) (lE (lstF (aC (kS "line") (aC kN aN))))))))))))))))))))))))
def sem_law : List D → R D := bodySem 15 g_law
theorem okl_law (T : Txt K mg ca) {f : Addr} {fd : FuncData} (F : Fun K "law" "law" s_law f fd) (h__law_row : Ok P w K mg base ca 3 "_law_row" ["_law_script", "_law_at"] sem__law_row) (h__law_graph : Ok P w K mg base ca 4 "_law_graph" ["_law_script", "_law_at", "_law_most"] sem__law_graph) (h__law_marks : Ok P w K mg base ca 4 "_law_marks" ["_law_script", "_law_at", "_law_graph_here"] sem__law_marks) (h_format_graph : Ok P w K mg base ca 7 "format_graph" ["graph", "marks"] sem_format_graph) (h__law_parse : Ok P w K mg base ca 6 "_law_parse" ["_law_text"] sem__law_parse) : FnOk P w K mg base (L2.CX P w) 8 f fd ["_law_script"] (spSem K ca [("_law_script" : Str)].length sem_law) := by
  refine fn_ok F sc_law rfl fun cdv A outer s H E hr => ?_
  have tk := takes_of (X := cxOf (L2.CX P w) P w K mg base ["_law_script", "_law_draws", "_law_graph_here", "_law_marks_here", "_law_tokens", "_law_mark", "_law_one", "_law_other", "_law_text", "_law_spot", "_law_new", "_law_edited", "_law_found", "_law_at", "_law_wrong"] "law" (defScope s_law) f cdv A outer s H E) rfl rfl rfl rfl
  have hp := passes_of (X := cxOf (L2.CX P w) P w K mg base ["_law_script", "_law_draws", "_law_graph_here", "_law_marks_here", "_law_tokens", "_law_mark", "_law_one", "_law_other", "_law_text", "_law_spot", "_law_new", "_law_edited", "_law_found", "_law_at", "_law_wrong"] "law" (defScope s_law) f cdv A outer s H E) rfl
  exact (fss_cons (fs_set (i := 1) sc_law.nd rfl (by first | exact Or.inl rfl | exact Or.inr rfl) (fe_callO tk h__law_row hr (by decide) rfl (fa_cons (fe_var (pv 0)) (fa_cons fe_int fa_nil))))
    (fss_cons (fs_set (i := 2) sc_law.nd rfl (by first | exact Or.inl rfl | exact Or.inr rfl) (fe_callO tk h__law_graph hr (by decide) rfl (fa_cons (fe_var (pv 0)) (fa_cons fe_int (fa_cons fe_int fa_nil)))))
    (fss_cons (fs_set (i := 3) sc_law.nd rfl (by first | exact Or.inl rfl | exact Or.inr rfl) (fe_callO tk h__law_marks hr (by decide) rfl (fa_cons (fe_var (pv 0)) (fa_cons fe_int (fa_cons (fe_var (pv 2)) fa_nil)))))
    (fss_cons (fs_set (i := 4) sc_law.nd rfl (by first | exact Or.inl rfl | exact Or.inr rfl) (fe_fl (fl_lst (fa_cons (fe_add (fb_fe (fe_add (fb_fe (fe_str1 rfl T.b_str (fb_fe (fe_ix (fb_fe (fe_var (pv 2))) (fb_fe fe_int))))) (fb_fe fe_str))) (fb_fe (fe_join (fb_fl (fl_lc (own := [("_law_mark", 5)]) rfl sc_law.nd (fib_seq (fb_fe (fe_var (pv 3)))) (blkOk_by (N := ["_law_script", "_law_draws", "_law_graph_here", "_law_marks_here", "_law_tokens", "_law_mark", "_law_one", "_law_other", "_law_text", "_law_spot", "_law_new", "_law_edited", "_law_found", "_law_at", "_law_wrong"]) (sc := defScope s_law) (by decide +kernel)) (fun _ _ _ _ _ => (pg_name (i := 5) sc_law.nd rfl (by first | exact Or.inl rfl | exact Or.inr rfl))) (gok1 (i := 5)) (fun _ _ _ _ _ => by exact pts_tt) (fun _ _ _ _ _ => by exact (fe_str1 rfl T.b_str (fb_fe (fe_var (pv 5))))) (by decide)))))) fa_nil))))
    (fss_cons (fs_set (i := 4) sc_law.nd rfl (by first | exact Or.inl rfl | exact Or.inr rfl) (fe_add (fb_fe (fe_var (pv 4))) (fb_fl (fl_lc (own := [("_law_one", 6), ("_law_other", 7)]) rfl sc_law.nd (fib_seq (fb_fe (fe_ix (fb_fe (fe_var (pv 2))) (fb_fe fe_int)))) (blkOk_by (N := ["_law_script", "_law_draws", "_law_graph_here", "_law_marks_here", "_law_tokens", "_law_mark", "_law_one", "_law_other", "_law_text", "_law_spot", "_law_new", "_law_edited", "_law_found", "_law_at", "_law_wrong"]) (sc := defScope s_law) (by decide +kernel)) (fun _ _ _ _ _ => (pg_tup rfl (pgs_cons (pg_name (i := 6) sc_law.nd rfl (by first | exact Or.inl rfl | exact Or.inr rfl)) (pgs_cons (pg_name (i := 7) sc_law.nd rfl (by first | exact Or.inl rfl | exact Or.inr rfl)) pgs_nil)))) (gok2 (i := 6) (j := 7)) (fun _ _ _ _ _ => by exact pts_tt) (fun _ _ _ _ _ => by exact (fe_add (fb_fe (fe_add (fb_fe (fe_str1 rfl T.b_str (fb_fe (fe_var (pv 6))))) (fb_fe fe_str))) (fb_fe (fe_str1 rfl T.b_str (fb_fe (fe_var (pv 7))))))) (by decide)))))
    (fss_cons (fs_set (i := 8) sc_law.nd rfl (by first | exact Or.inl rfl | exact Or.inr rfl) (fe_join (fb_fe (fe_var (pv 4)))))
    (fss_cons (fs_if (ft_w (fw_or (ft_ne hr (fb_fe (fe_callO tk h_format_graph hr (by decide) rfl (fa_cons (fe_var (pv 2)) (fa_cons (fe_var (pv 3)) fa_nil)))) (fb_fe (fe_var (pv 8)))) (fw_or1 (ft_ne hr (fb_fe (fe_callO tk h__law_parse hr (by decide) rfl (fa_cons (fe_var (pv 8)) fa_nil))) (fb_fe (fe_tup (fa_cons (fe_var (pv 2)) (fa_cons (fe_var (pv 3)) fa_nil)))))))) (fss_one (fs_ret fe_bl)) fss_nil)
    (fss_cons (fs_set (i := 9) sc_law.nd rfl (by first | exact Or.inl rfl | exact Or.inr rfl) (fe_mod (fb_fe (fe_ix (fb_fe (fe_var (pv 1))) (fb_fe fe_int))) (fb_fe (fe_add (fb_fe (fe_len rfl T.b_len (fb_fe (fe_var (pv 8))))) (fb_fe fe_int)))))
    (fss_cons (fs_set (i := 10) sc_law.nd rfl (by first | exact Or.inl rfl | exact Or.inr rfl) (fe_ix (fb_fl (fl_lst (fa_cons fe_str (fa_cons fe_str (fa_cons fe_str (fa_cons fe_str (fa_cons fe_str (fa_cons fe_str fa_nil)))))))) (fb_fe (fe_mod (fb_fe (fe_ix (fb_fe (fe_var (pv 1))) (fb_fe fe_int))) (fb_fe fe_int)))))
    (fss_cons (fs_set (i := 11) sc_law.nd rfl (by first | exact Or.inl rfl | exact Or.inr rfl) (fe_ix (fb_fl (fl_lst (fa_cons (fe_add (fb_fe (fe_sliceS (fe_var (pv 8)) fo_none (fo_some (fe_var (pv 9))))) (fb_fe (fe_sliceS (fe_var (pv 8)) (fo_some (fe_add (fb_fe (fe_var (pv 9))) (fb_fe fe_int))) fo_none))) (fa_cons (fe_add (fb_fe (fe_add (fb_fe (fe_sliceS (fe_var (pv 8)) fo_none (fo_some (fe_var (pv 9))))) (fb_fe (fe_var (pv 10))))) (fb_fe (fe_sliceS (fe_var (pv 8)) (fo_some (fe_var (pv 9))) fo_none))) (fa_cons (fe_add (fb_fe (fe_var (pv 8))) (fb_fe fe_str)) (fa_cons (fe_add (fb_fe fe_str) (fb_fe (fe_var (pv 8)))) fa_nil)))))) (fb_fe (fe_mod (fb_fe (fe_ix (fb_fe (fe_var (pv 1))) (fb_fe fe_int))) (fb_fe fe_int)))))
    (fss_cons (fs_set (i := 12) sc_law.nd rfl (by first | exact Or.inl rfl | exact Or.inr rfl) (fe_callO tk h__law_parse hr (by decide) rfl (fa_cons (fe_var (pv 11)) fa_nil)))
    (fss_cons (fs_if (ft_w (fw_or (ft_eq hr (fb_fe (fe_ix (fb_fe (fe_var (pv 12))) (fb_fe fe_int))) (fb_fe fe_str)) (fw_or1 (ft_w (fw_and (ft_ne hr (fb_fe (fe_ix (fb_fe (fe_var (pv 12))) (fb_fe fe_int))) (fb_fe fe_str)) (fw_and1 (ft_ne hr (fb_fe (fe_callO tk h_format_graph hr (by decide) rfl (fa_cons (fe_ix (fb_fe (fe_var (pv 12))) (fb_fe fe_int)) (fa_cons (fe_ix (fb_fe (fe_var (pv 12))) (fb_fe fe_int)) fa_nil)))) (fb_fe (fe_var (pv 11)))))))))) (fss_one (fs_ret fe_bl)) fss_nil)
    (fss_cons (fs_set (i := 13) sc_law.nd rfl (by first | exact Or.inl rfl | exact Or.inr rfl) (fe_add (fb_fe fe_int) (fb_fe (fe_mod (fb_fe (fe_ix (fb_fe (fe_var (pv 1))) (fb_fe fe_int))) (fb_fe (fe_len rfl T.b_len (fb_fe (fe_var (pv 4)))))))))
    (fss_cons (fs_set (i := 14) sc_law.nd rfl (by first | exact Or.inl rfl | exact Or.inr rfl) (fe_ix (fb_fl (fl_lst (fa_cons fe_str (fa_cons fe_str (fa_cons fe_str (fa_cons fe_str (fa_cons fe_str (fa_cons fe_str fa_nil)))))))) (fb_fe (fe_mod (fb_fe (fe_ix (fb_fe (fe_var (pv 1))) (fb_fe fe_int))) (fb_fe fe_int)))))
    (fss_cons (fs_if (ft_ne hr (fb_fe (fe_callO tk h__law_parse hr (by decide) rfl (fa_cons (fe_join (fb_fe (fe_add (fb_fe (fe_add (fb_fe (fe_slice (fb_fe (fe_var (pv 4))) fo_none (fo_some (fe_var (pv 13))))) (fb_fl (fl_lst (fa_cons (fe_var (pv 14)) (fa_cons fe_str fa_nil)))))) (fb_fe (fe_slice (fb_fe (fe_var (pv 4))) (fo_some (fe_var (pv 13))) fo_none))))) fa_nil))) (fb_fl (fl_lst (fa_cons fe_str (fa_cons (fe_var (pv 13)) fa_nil))))) (fss_one (fs_ret fe_bl)) fss_nil)
    (fss_cons (fs_set (i := 14) sc_law.nd rfl (by first | exact Or.inl rfl | exact Or.inr rfl) (fe_ix (fb_fl (fl_lst (fa_cons fe_str (fa_cons fe_str (fa_cons fe_str (fa_cons fe_str (fa_cons fe_str (fa_cons fe_str (fa_cons fe_str fa_nil))))))))) (fb_fe (fe_mod (fb_fe (fe_ix (fb_fe (fe_var (pv 1))) (fb_fe fe_int))) (fb_fe fe_int)))))
    (fss_cons (fs_if (ft_ne hr (fb_fe (fe_callO tk h__law_parse hr (by decide) rfl (fa_cons (fe_join (fb_fe (fe_add (fb_fl (fl_lst (fa_cons (fe_var (pv 14)) fa_nil))) (fb_fe (fe_slice (fb_fe (fe_var (pv 4))) (fo_some fe_int) fo_none))))) fa_nil))) (fb_fl (fl_lst (fa_cons fe_str (fa_cons fe_int fa_nil))))) (fss_one (fs_ret fe_bl)) fss_nil)
    (fss_cons (fs_if (ft_ne hr (fb_fl (fl_lc (own := [("_law_one", 6)]) rfl sc_law.nd (fib_seq (fb_fe (fe_tup (fa_cons fe_str (fa_cons fe_str (fa_cons fe_str fa_nil)))))) (blkOk_by (N := ["_law_script", "_law_draws", "_law_graph_here", "_law_marks_here", "_law_tokens", "_law_mark", "_law_one", "_law_other", "_law_text", "_law_spot", "_law_new", "_law_edited", "_law_found", "_law_at", "_law_wrong"]) (sc := defScope s_law) (by decide +kernel)) (fun _ _ _ _ _ => (pg_name (i := 6) sc_law.nd rfl (by first | exact Or.inl rfl | exact Or.inr rfl))) (gok1 (i := 6)) (fun _ _ _ _ _ => by exact pts_tt) (fun _ _ _ _ _ => by exact (fe_callO takes0 h__law_parse hr (by decide) rfl (fa_cons (fe_var (pv 6)) fa_nil))) (by decide))) (fb_fe (fe_rep (fl_lst (fa_cons (fe_fl (fl_lst (fa_cons fe_str (fa_cons fe_non fa_nil)))) fa_nil)) fe_int))) (fss_one (fs_ret fe_bl)) fss_nil)
    (fss_one (fs_ret (fe_eq hr (fb_fe (fe_callO tk h__law_parse hr (by decide) rfl (fa_cons (fe_ix (fb_fl (fl_lst (fa_cons fe_non (fa_cons fe_int (fa_cons (fe_var (pv 4)) (fa_cons (fe_var (pv 2)) fa_nil)))))) (fb_fe (fe_mod (fb_fe (fe_ix (fb_fe (fe_var (pv 1))) (fb_fe fe_int))) (fb_fe fe_int)))) fa_nil))) (fb_fl (fl_lst (fa_cons fe_str (fa_cons fe_non fa_nil)))))))))))))))))))))))))
end
end MP

namespace MP
open PySem L2 FE PL
/-! ## graphs: the tests -/
def inR : D → Int → Int → Bool
  | .int i, lo, hi => decide (lo ≤ i) && decide (i ≤ hi)
  | _, _, _ => false
theorem inR_int {i lo hi : Int} : inR (.int i) lo hi = decide (lo ≤ i ∧ i ≤ hi) := by simp [inR]
theorem sp_in_range (v : D) (lo hi : Int) : sem_in_range [v, .int lo, .int hi] = .ok (.bool (inR v lo hi)) := by
  unfold sem_in_range g_in_range
  cases v <;> simp [inR, start0]
  split <;> simp_all <;> omega
/-- what a pair in the second part of a graph must be -/
def edgeD (n : Int) : D → Bool
  | .tuple [x, y] => inR x 0 (n - 1) && inR y (asInt x + 1) (n - 1)
  | _ => false
theorem edgeD_eD {n : Int} {e : Ed} : edgeD n (eD e) = decide (0 ≤ e.1 ∧ e.1 < e.2 ∧ e.2 < n) := by
  show (inR (.int e.1) 0 (n - 1) && inR (.int e.2) (e.1 + 1) (n - 1)) = _
  rw [inR_int, inR_int, Bool.eq_iff_iff, Bool.and_eq_true, decide_eq_true_eq, decide_eq_true_eq, decide_eq_true_eq]
  omega
theorem edgeD_of {n : Int} {d : D} (h : edgeD n d = true) : ∃ e : Ed, d = eD e := by
  unfold edgeD at h
  split at h
  · rename_i x y
    obtain ⟨h1, h2⟩ := Bool.and_eq_true_iff.mp h
    cases x <;> try (cases h1; done)
    cases y <;> try (cases h2; done)
    exact ⟨(_, _), rfl⟩
  · cases h
theorem sp_is_edge (n : Int) (v : D) : sem_is_edge [.int n, v] = .ok (.bool (edgeD n v)) := by
  unfold sem_is_edge g_is_edge
  cases v with
  | tuple ds =>
    match ds with
    | [] => simp [edgeD, start0]
    | [x] => simp [edgeD, start0]
    | [x, y] =>
      have e1 : idxD (.tuple [x, y]) (.int 0) = some x := idx_at (n := 0) rfl
      have e2 : idxD (.tuple [x, y]) (.int 1) = some y := idx_at (n := 1) rfl
      cases hx : inR x 0 (n - 1) with
      | false => simp [edgeD, start0, e1, e2, sp_in_range, hx]
      | true =>
        cases x <;> try (cases hx; done)
        simp [edgeD, start0, e1, e2, sp_in_range, hx, asInt]
    | x :: y :: z :: r =>
      have : ¬ (((r.length : Nat) : Int) + 1 + 1 + 1 = 2) := by omega
      simp [edgeD, start0, this]
  | _ => simp [edgeD, start0]
theorem edges_of {n : Int} : ∀ {ds : List D}, (∀ d ∈ ds, edgeD n d = true) → ∃ es : List Ed, ds = es.map eD
  | [], _ => ⟨[], rfl⟩
  | d :: ds, h => by
    obtain ⟨e, h1⟩ := edgeD_of (h d List.mem_cons_self)
    obtain ⟨es, h2⟩ := edges_of fun x hx => h x (List.mem_cons_of_mem _ hx)
    exact ⟨e :: es, by rw [h1, h2]; rfl⟩
/-- what a value must be to be a graph -/
def graphD : D → Prop
  | .tuple [.int n, .tuple ds] => ∃ es, ds = es.map eD ∧ VG n es
  | _ => False
noncomputable def isG (v : D) : Bool := @decide (graphD v) (Classical.propDecidable _)
theorem isG_true {v : D} (h : graphD v) : isG v = true := by unfold isG; simp [h]
theorem isG_false {v : D} (h : ¬ graphD v) : isG v = false := by unfold isG; simp [h]
theorem graphD_gD {n : Int} {es : List Ed} : graphD (gD n es) ↔ VG n es := by
  constructor
  · rintro ⟨es', h1, h2⟩
    have inj : ∀ {a b : List Ed}, a.map eD = b.map eD → a = b := by
      intro a
      induction a with
      | nil => intro b h; cases b with
        | nil => rfl
        | cons y b => cases h
      | cons x a ih => intro b h; cases b with
        | nil => cases h
        | cons y b =>
          rw [List.map_cons, List.map_cons] at h
          injection h with h1 h2
          rw [ih h2]
          unfold eD at h1
          injection h1 with h1
          injection h1 with h1 h3
          injection h3 with h3 _
          injection h1 with h1
          injection h3 with h3
          rw [Prod.ext h1 h3]
    rw [inj h1]; exact h2
  · intro h; exact ⟨es, rfl, h⟩
theorem sp_is_graph_ok {n : Int} {es : List Ed} (g : VG n es) : sem_is_graph [gD n es] = .ok (.bool true) := by
  unfold sem_is_graph g_is_graph
  have e0 : ∀ ds, (gD n es) = .tuple ds → ds.length = 2 := fun ds h => by unfold gD at h; injection h with h; rw [← h]; rfl
  have h1 : lcF (seqF (op2 idxD (gv 0) (kI 1))) (tg1 1) (notT (tru (callF 2 sem_is_edge (aC (op2 idxD (gv 0) (kI 0)) (aC (gv 1) aN))))) (gv 1) [1] [some (.sh (gD n es)), none, none] = .ok [] := by
    rw [lcF_map (α := Ed) (xs := es) (g := eD) (p := fun _ => false) (f := eD) (fun e => [some (.sh (gD n es)), some (.sh (eD e)), none]) (by simp) (len_le_sz g.few (by decide)) fun e he => ⟨by simp, by
      simp [sp_is_edge, edgeD_eD, g.ok e he], fun z => by cases z⟩]
    simp
  have h2 : lcF (zipF (op2 idxD (gv 0) (kI 1)) (sliceF (op2 idxD (gv 0) (kI 1)) (someP (kI 1)) nP)) (tg2 1 2) (asB (op2 gtA (gv 1) (gv 2))) (kI 1) [1, 2] [some (.sh (gD n es)), none, none] = .ok [] := by
    rw [lcF_map (α := Ed × Ed) (xs := adj es) (g := fun p => .tuple [eD p.1, eD p.2]) (p := fun _ => false) (f := fun _ => .int 1) (fun p => [some (.sh (gD n es)), some (.sh (eD p.1)), some (.sh (eD p.2))])
      ((zipF_tup (xs := es.map eD) (ys := cutL (es.map eD) (some 1) none) (by simp) (by simp)).trans (by rw [zip_adj])) (len_le_sz (Nat.le_trans (adj_len es) g.few) (by decide)) fun p hp => ⟨by simp, by
        have := (adj_pairwise (r := leE) fun a b c => leE_trans).mpr g.srt p hp
        simp [gtA_eD, leE_iff.mp this], fun z => by cases z⟩]
    simp
  have g1 := g.n2
  have g2 := g.n6
  have g3 := g.few
  have g4 : ¬ (9 < (es.length : Int)) := by omega
  simp [start0, h1, h2, sp_in_range, inR_int, g1, g2, g4]
end MP


namespace MP
open PySem L2 FE PL
theorem sp_check_graph_ok {n : Int} {es : List Ed} (g : VG n es) : sem_check_graph [gD n es] = .ok .none := by
  unfold sem_check_graph g_check_graph
  simp [start0, sp_is_graph_ok g]
/-! ## rising rows of vertices -/
def Ris (c : Int) (ns : List Int) : Prop := (∀ v ∈ ns, 0 ≤ v ∧ v < c) ∧ ns.Pairwise (· < ·)
theorem ris_first {c : Int} {ds : List D} (hl : ds.length ≤ 8000000) (v : D) : lcF (seqF (gv 0)) (tg1 2) (notT (tru (callF 3 sem_in_range (aC (gv 2) (aC (kI 0) (aC (op2 subD (gv 1) (kI 1)) aN)))))) (gv 2) [2] [some (.sh (.tuple ds)), some (.sh (.int c)), none, none] = .ok (ds.filter fun d => !inR d 0 (c - 1)) := by
  rw [lcF_map (α := D) (xs := ds) (g := id) (p := fun d => !inR d 0 (c - 1)) (f := id) (fun d => [some (.sh (.tuple ds)), some (.sh (.int c)), some (.sh d), none]) (by simp) hl fun d hd => ⟨by simp, by simp [sp_in_range], fun _ => by simp⟩]
  rw [List.map_id]
theorem sp_is_rising_not {v : D} {c : Int} (h : isTu v = false) : sem_is_rising [v, .int c] = .ok (.bool false) := by
  unfold sem_is_rising g_is_rising
  simp [start0, h]
theorem sp_is_rising_out {ds : List D} {c : Int} (hl : ds.length ≤ 8000000) {d : D} (hd : d ∈ ds) (h : inR d 0 (c - 1) = false) : sem_is_rising [.tuple ds, .int c] = .ok (.bool false) := by
  unfold sem_is_rising g_is_rising
  have h1 := ris_first (c := c) hl .none
  have h2 : (ds.filter fun d => !inR d 0 (c - 1)).isEmpty = false := by
    cases q : ds.filter fun d => !inR d 0 (c - 1) with
    | nil => exact absurd (List.filter_eq_nil_iff.mp q d hd) (by rw [h]; simp)
    | cons x xs => rfl
  simp [start0, h1, h2]
theorem sp_is_rising_in {ns : List Int} {c : Int} (hl : ns.length ≤ 8000000) (h : ∀ v ∈ ns, 0 ≤ v ∧ v < c) : sem_is_rising [iD ns, .int c] = .ok (.bool (decide (ns.Pairwise (· < ·)))) := by
  unfold sem_is_rising g_is_rising
  have h1 := ris_first (c := c) (ds := iL ns) (by rw [iL_len]; exact hl) .none
  have h2 : (iL ns).filter (fun d => !inR d 0 (c - 1)) = [] := List.filter_eq_nil_iff.mpr fun d hd => by
    obtain ⟨v, hv, rfl⟩ := List.mem_map.mp hd
    rw [inR_int]
    have := h v hv
    simp; omega
  rw [h2] at h1
  have h3 : lcF (zipF (gv 0) (sliceF (gv 0) (someP (kI 1)) nP)) (tg2 2 3) (asB (op2 geD (gv 2) (gv 3))) (kI 1) [2, 3] [some (.sh (iD ns)), some (.sh (.int c)), none, none] = .ok (((adj ns).filter fun p => decide (p.2 ≤ p.1)).map fun _ => .int 1) :=
    lcF_map (α := Int × Int) (xs := adj ns) (g := fun p => .tuple [.int p.1, .int p.2]) (p := fun p => decide (p.2 ≤ p.1)) (f := fun _ => .int 1) (fun p => [some (.sh (iD ns)), some (.sh (.int c)), some (.sh (.int p.1)), some (.sh (.int p.2))])
      ((zipF_tup (xs := iL ns) (ys := cutL (iL ns) (some 1) none) (by simp [iD]) (by simp [iD])).trans (by rw [iL_eq, zip_adj])) (len_le_sz (Nat.le_trans (adj_len ns) hl) (Nat.le_refl _)) fun p hp => ⟨by simp, by simp, fun _ => by simp⟩
  have h4 : (!(((adj ns).filter fun p => decide (p.2 ≤ p.1)).map fun _ => PyData.int 1).isEmpty) = !decide (ns.Pairwise (· < ·)) := by
    rw [List.isEmpty_map]
    have hp := adj_pairwise (r := fun a b : Int => a < b) (fun a b c => Int.lt_trans) (xs := ns)
    by_cases q : ns.Pairwise (· < ·)
    · have : (adj ns).filter (fun p => decide (p.2 ≤ p.1)) = [] := List.filter_eq_nil_iff.mpr fun p hp' => by
        have := hp.mpr q p hp'
        simp; omega
      rw [this]; simp [q]
    · have : (adj ns).filter (fun p => decide (p.2 ≤ p.1)) ≠ [] := fun z => q (hp.mp fun p hp' => by
        have := List.filter_eq_nil_iff.mp z p hp'
        simp at this; omega)
      simp [q, this]
  have h1' : lcF (seqF (gv 0)) (tg1 2) (notT (tru (callF 3 sem_in_range (aC (gv 2) (aC (kI 0) (aC (op2 subD (gv 1) (kI 1)) aN)))))) (gv 2) [2] [some (.sh (iD ns)), some (.sh (.int c)), none, none] = .ok [] := h1
  simp [start0, h1', h3]
  simpa using h4
theorem sp_is_rising_ok {ns : List Int} {c : Int} (hl : ns.length ≤ 8000000) (h : Ris c ns) : sem_is_rising [iD ns, .int c] = .ok (.bool true) := by
  rw [sp_is_rising_in hl h.1]; simp [h.2]
theorem ris_len {c : Int} {ns : List Int} (h : Ris c ns) (hc : c ≤ 6) : ns.length ≤ 6 := by
  have h1 : ns.Nodup := h.2.imp fun z => Int.ne_of_lt z
  have h2 : ns ⊆ up c := fun v hv => mem_up.mpr (h.1 v hv)
  have h3 : ns.length ≤ (up c).length := nodup_len _ _ h1 h2
  rw [up_len] at h3
  omega
/-- marks of a graph -/
structure VM (n : Int) (ms : List Int) : Prop where
  ris : Ris n ms
  two : 2 ≤ ms.length
theorem sp_are_marks_ok {n : Int} {es : List Ed} {ms : List Int} (g : VG n es) (m : VM n ms) : sem_are_marks [gD n es, iD ms] = .ok (.bool true) := by
  unfold sem_are_marks g_are_marks
  have := m.two
  have h6 := ris_len m.ris g.n6
  simp [start0, sp_is_rising_ok (by omega) m.ris]
  omega
theorem sp_check_marks_ok {n : Int} {es : List Ed} {ms : List Int} (g : VG n es) (m : VM n ms) : sem_check_marks [gD n es, iD ms] = .ok .none := by
  unfold sem_check_marks g_check_marks
  simp [start0, sp_check_graph_ok g, sp_are_marks_ok g m]
/-! ## degrees, edges that leave -/
theorem deg_lc {n : Int} {es : List Ed} {v : Int} (hl : es.length ≤ 8000000) : lcF (seqF (op2 idxD (gv 0) (kI 1))) (tg1 2) (asB (op2 (inD false) (gv 1) (gv 2))) (gv 2) [2] [some (.sh (gD n es)), some (.sh (.int v)), none] = .ok ((es.filter fun e => decide (v ∈ [e.1, e.2])).map eD) :=
  lcF_map (α := Ed) (xs := es) (g := eD) (p := fun e => decide (v ∈ [e.1, e.2])) (f := eD) (fun e => [some (.sh (gD n es)), some (.sh (.int v)), some (.sh (eD e))]) (by simp) hl fun e he => ⟨by simp, by simp, fun _ => by simp⟩
theorem sp__law_degree {n : Int} {es : List Ed} {v : Int} (hl : es.length ≤ 8000000) : sem__law_degree [gD n es, .int v] = .ok (.int (deg es v)) := by
  unfold sem__law_degree g__law_degree
  have := deg_lc (n := n) (v := v) hl
  simp [start0, this, deg]
theorem lv_lc {n : Int} {es : List Ed} {S : List Int} (hl : es.length ≤ 8000000) : lcF (seqF (op2 idxD (gv 0) (kI 1))) (tg1 2) (asB (op2 neD (op2 (inD false) (op2 idxD (gv 2) (kI 0)) (gv 1)) (op2 (inD false) (op2 idxD (gv 2) (kI 1)) (gv 1)))) (gv 2) [2] [some (.sh (gD n es)), some (.sh (iD S)), none] = .ok ((es.filter fun e => !(decide (e.1 ∈ S) == decide (e.2 ∈ S))).map eD) :=
  lcF_map (α := Ed) (xs := es) (g := eD) (p := fun e => !(decide (e.1 ∈ S) == decide (e.2 ∈ S))) (f := eD) (fun e => [some (.sh (gD n es)), some (.sh (iD S)), some (.sh (eD e))]) (by simp) hl fun e he => ⟨by simp, by simp, fun _ => by simp⟩
end MP


namespace MP
open PySem L2 FE PL
/-! ## the law's draws -/
theorem sp__law_cell {ns : List Int} {k : Int} (h : 0 ≤ k) : sem__law_cell [.list (iL ns), .int k] = .ok (.int (nth0 ns k.toNat)) := by
  unfold sem__law_cell g__law_cell
  by_cases hk : k < (ns.length : Int)
  · simp [start0, hk, idx_li h hk]
  · have e : nth0 ns k.toNat = 0 := by
      unfold nth0
      rw [List.getD_eq_getElem?_getD, List.getElem?_eq_none (by omega)]; rfl
    rw [e]
    simp [start0, hk]
def Draws (ds : List Int) : Prop := ds.length = 60 ∧ ∀ d ∈ ds, 0 ≤ d ∧ d < 1000
theorem mod_ok (a : Int) {b : Int} (h : 0 < b) : modD (.int a) (.int b) = some (.int (a % b)) := modD_int h
theorem sp__law_row {ns : List Int} {k : Int} (h : 0 ≤ k) : ∃ ds : List Int, Draws ds ∧ sem__law_row [.list (iL ns), .int k] = .ok (.list (iL ds)) := by
  unfold sem__law_row g__law_row
  let enc : Int × List Int → Rho := fun s => [some (.sh (.list (iL ns))), some (.sh (.int k)), some (.sh (.int s.1)), some (.ow (iL s.2)), none]
  let body : Rho → Out := (ifS (asB (op2 ltD (callF 2 sem__law_cell (aC (gv 0) (aC (gv 1) aN))) (op2 powD (kI 10) (kI 18)))) (seqS (setF 2 (op2 modD (op2 addD (op2 addD (op2 addD (op2 mulD (gv 2) (kI 48271)) (op2 mulD (kI 131) (gv 4))) (kI 7)) (callF 2 sem__law_cell (aC (gv 0) (aC (op2 modD (op2 addD (op2 addD (gv 1) (kI 1)) (gv 4)) (kI 20)) aN)))) (kI 2147483647))) (mutF 3 appM (op2 modD (op2 fdivD (gv 2) (kI 11)) (kI 1000)))) (seqS (mutF 3 appM (op2 modD (gv 2) (kI 1000))) (setF 2 (op2 fdivD (gv 2) (kI 1000)))))
  have app : ∀ (l : List Int) (x : Int), l.length < 8000000 → appM (iL l) (.int x) = some (iL (l ++ [x])) := fun l x hl => by
    unfold appM
    rw [if_pos (by rw [iL_len]; exact hl)]
    unfold iL; rw [List.map_append]; rfl
  obtain ⟨s', h1, h2⟩ := forGo_run (u := tg1 4) (vs := [4]) (body := body) (g := PyData.int) (enc := enc) (fun j s => s.2.length = j ∧ ∀ d ∈ s.2, 0 ≤ d ∧ d < 1000) (up 60) (nth0 ns k.toNat, []) ⟨rfl, fun d hd => by cases hd⟩ fun j s x ⟨hl, hr⟩ hx => by
    obtain ⟨c, l⟩ := s
    have hj : j < 60 := by
      have := (List.getElem?_eq_some_iff.mp hx).1
      rw [up_len] at this; exact this
    have hl' : l.length < 8000000 := by have : l.length = j := hl; omega
    have hx0 : 0 ≤ x := (mem_up.mp (List.mem_of_getElem? hx)).1
    have hp := pow18
    have step : ∀ y : Int, (l ++ [y % 1000]).length = j + 1 ∧ ∀ d ∈ l ++ [y % 1000], 0 ≤ d ∧ d < 1000 := fun y => ⟨by rw [List.length_append, hl]; rfl, fun d hd => by
      rcases List.mem_append.mp hd with hd | hd
      · exact hr d hd
      · rw [List.mem_singleton.mp hd]; omega⟩
    by_cases hc : nth0 ns k.toNat < 1000000000000000000
    · refine ⟨((c * 48271 + 131 * x + 7 + nth0 ns ((k + 1 + x) % 20).toNat) % 2147483647, l ++ [(c * 48271 + 131 * x + 7 + nth0 ns ((k + 1 + x) % 20).toNat) % 2147483647 / 11 % 1000]), step _, _, (enc ((c * 48271 + 131 * x + 7 + nth0 ns ((k + 1 + x) % 20).toNat) % 2147483647, l ++ [(c * 48271 + 131 * x + 7 + nth0 ns ((k + 1 + x) % 20).toNat) % 2147483647 / 11 % 1000])).set 4 (some (.sh (.int x))), rfl, ?_, rfl⟩
      simp only [body, enc, ifS_ap, asB_ap, op2_ap, callF_ap, aC_ap, gv_ap, aN_ap, kI_ap]
      simp [sp__law_cell h, hp, hc, mulD_r, mulD_l, modD_int, fdivD_int, sp__law_cell (k := (k + 1 + x) % 20) (ns := ns) (by omega), app _ _ hl']
    · refine ⟨(c / 1000, l ++ [c % 1000]), step _, _, (enc (c / 1000, l ++ [c % 1000])).set 4 (some (.sh (.int x))), rfl, ?_, rfl⟩
      simp only [body, enc, ifS_ap, asB_ap, op2_ap, callF_ap, aC_ap, gv_ap, aN_ap, kI_ap]
      simp [sp__law_cell h, hp, hc, modD_int, fdivD_int, app _ _ hl']
  refine ⟨s'.2, ⟨by rw [h1.1, up_len]; rfl, h1.2⟩, ?_⟩
  have hr : ∀ ρ, rng1 (kI 60) ρ = .ok (iL (up 60)) := fun ρ => rng1_up rfl (by decide)
  have h2' : forGo (tg1 4) body [4] [some (.sh (.list (iL ns))), some (.sh (.int k)), some (.sh (.int (nth0 ns k.toNat))), some (.ow []), none] (iL (up 60)) = .nx (enc s') := h2
  simp [start0, sp__law_cell h, hr]
  simp only [body] at h2'
  rw [h2']
  simp [enc]
end MP


namespace MP
open PySem L2 FE PL
theorem Draws.at {ds : List Int} (h : Draws ds) {k : Int} (h0 : 0 ≤ k) (h1 : k < 60) : idxD (.list (iL ds)) (.int k) = some (.int (nth0 ds k.toNat)) ∧ 0 ≤ nth0 ds k.toNat ∧ nth0 ds k.toNat < 1000 := by
  have hl := h.1
  exact ⟨idx_li h0 (by omega), h.2 _ (nth_mem (by omega))⟩
/-- a row of vertices on which edges are laid -/
def InV (N : Int) (r : List Int) : Prop := ∀ v ∈ r, 0 ≤ v ∧ v < N
def OkE (N : Int) (es : List Ed) : Prop := ∀ e ∈ es, 0 ≤ e.1 ∧ e.1 < e.2 ∧ e.2 < N
theorem app_ed {es : List Ed} {e : Ed} (h : es.length < 8000000) : appM (es.map eD) (eD e) = some ((es ++ [e]).map eD) := by
  unfold appM
  rw [if_pos (by rw [List.length_map]; exact h), List.map_append]
  rfl
def lgInner : Rho → Out := (ifS (asB (op2 neD (op2 idxD (gv 7) (gv 8)) (op2 idxD (gv 7) (op2 subD (gv 8) (kI 1))))) (mutF 5 appM (tupF (aC (op2 min2D (op2 idxD (gv 7) (gv 8)) (op2 idxD (gv 7) (op2 subD (gv 8) (kI 1)))) (aC (op2 max2D (op2 idxD (gv 7) (gv 8)) (op2 idxD (gv 7) (op2 subD (gv 8) (kI 1)))) aN)))) Out.nx)
theorem lg_inner0 {N : Int} {a b c d e tm : Option SV} {es : List Ed} {r : List Int} (hr : InV N r) (he : OkE N es) (h1 : 1 ≤ r.length) (h5 : r.length ≤ 5) (hl : es.length ≤ 100) :
    ∃ fs, OkE N fs ∧ fs.length ≤ es.length + 4 ∧ forGo (tg1 8) lgInner [8] [a, b, c, d, e, some (.ow (es.map eD)), tm, some (.sh (.list (iL r))), none] (((List.range (r.length - 1)).map fun i : Nat => 1 + (i : Int)).map PyData.int) = .nx [a, b, c, d, e, some (.ow (fs.map eD)), tm, some (.sh (.list (iL r))), none] := by
  let enc : List Ed → Rho := fun fs => [a, b, c, d, e, some (.ow (fs.map eD)), tm, some (.sh (.list (iL r))), none]
  obtain ⟨fs, ⟨k1, k2⟩, k3⟩ := forGo_run (u := tg1 8) (vs := [8]) (body := lgInner) (g := PyData.int) (enc := enc) (fun j fs => OkE N fs ∧ fs.length ≤ es.length + j) ((List.range (r.length - 1)).map fun i : Nat => 1 + (i : Int)) es ⟨he, Nat.le_refl _⟩ fun j fs x ⟨ho, hz⟩ hx => by
    have hj : j < r.length - 1 := by
      have := (List.getElem?_eq_some_iff.mp hx).1
      simpa using this
    have hx' : x = 1 + (j : Int) := by
      rw [List.getElem?_map, List.getElem?_range hj] at hx
      exact (Option.some.inj hx).symm
    subst hx'
    have i1 : idxD (.list (iL r)) (.int (1 + (j : Int))) = some (.int (nth0 r (j + 1))) := by
      rw [idx_li (by omega) (by omega), show (1 + (j : Int)).toNat = j + 1 by omega]
    have i2 : idxD (.list (iL r)) (.int (1 + (j : Int) - 1)) = some (.int (nth0 r j)) := by
      rw [idx_li (by omega) (by omega), show (1 + (j : Int) - 1).toNat = j by omega]
    have v1 := hr _ (nth_mem (ns := r) (k := j + 1) (by omega))
    have v2 := hr _ (nth_mem (ns := r) (k := j) (by omega))
    generalize nth0 r (j + 1) = p at i1 v1
    generalize nth0 r j = q at i2 v2
    by_cases hpq : p = q
    · refine ⟨fs, ⟨ho, by omega⟩, _, (enc fs).set 8 (some (.sh (.int (1 + (j : Int))))), rfl, ?_, rfl⟩
      unfold lgInner
      simp [enc, i1, i2, hpq]
    · refine ⟨fs ++ [(if q < p then q else p, if q > p then q else p)], ⟨fun z hz' => ?_, ?_⟩, _, (enc (fs ++ [(if q < p then q else p, if q > p then q else p)])).set 8 (some (.sh (.int (1 + (j : Int))))), rfl, ?_, rfl⟩
      · rcases List.mem_append.mp hz' with hz' | hz'
        · exact ho z hz'
        · rw [List.mem_singleton.mp hz']
          by_cases g1 : q < p
          · have g2 : ¬ q > p := by omega
            simp [g1, g2]; omega
          · have g2 : q > p := by omega
            simp [g1, g2]; omega
      · rw [List.length_append, List.length_singleton]; omega
      · unfold lgInner
        have ap := app_ed (es := fs) (e := (if q < p then q else p, if q > p then q else p)) (by omega)
        have e1 : eD (if q < p then q else p, if q > p then q else p) = .tuple [.int (if q < p then q else p), .int (if q > p then q else p)] := rfl
        rw [e1] at ap
        simp [enc, i1, i2, hpq, ap]
  exact ⟨fs, k1, by simp at k2; omega, k3⟩
theorem rng_len {f : Rho → R D} {ρ : Rho} {r : List Int} (hf : f ρ = .ok (.list (iL r))) (h1 : 1 ≤ r.length) (h5 : r.length ≤ 5) : rng2 (kI 1) (fn1 lenD f) ρ = .ok (((List.range (r.length - 1)).map fun i : Nat => 1 + (i : Int)).map PyData.int) := by
  have hlen : ((r.length : Int) - 1).toNat = r.length - 1 := by omega
  have c1 : (-(2 ^ 62) : Int) ≤ 1 ∧ (1 : Int) < 2 ^ 62 ∧ (-(2 ^ 62) : Int) ≤ r.length ∧ (r.length : Int) < 2 ^ 62 := by omega
  have hl : fn1 lenD f ρ = .ok (.int r.length) := by rw [fn1_ap, hf]; simp
  rw [rng2_ok (i := 1) (j := r.length) rfl hl c1, hlen, int_range]; rfl
theorem lg_inner {N : Int} {a b c d e tm : Option SV} {es : List Ed} {r : List Int} (hr : InV N r) (he : OkE N es) (h1 : 1 ≤ r.length) (h5 : r.length ≤ 5) (hl : es.length ≤ 100) :
    ∃ fs, OkE N fs ∧ fs.length ≤ es.length + 4 ∧ forF (rng2 (kI 1) (fn1 lenD (gv 7))) (tg1 8) lgInner [8] [a, b, c, d, e, some (.ow (es.map eD)), tm, some (.sh (.list (iL r))), none] = .nx [a, b, c, d, e, some (.ow (fs.map eD)), tm, some (.sh (.list (iL r))), none] := by
  obtain ⟨fs, f1, f2, f3⟩ := lg_inner0 (a := a) (b := b) (c := c) (d := d) (e := e) (tm := tm) hr he h1 h5 hl
  refine ⟨fs, f1, f2, ?_⟩
  rw [forF_ap, rng_len (r := r) (by simp) h1 h5]
  exact f3
def lgRow : Rho → R (List D) := lcF (rng1 (op2 addD (kI 3) (op2 modD (op2 idxD (gv 3) (op2 addD (kI 30) (gv 6))) (kI 2)))) (tg1 8) tT (op2 modD (op2 idxD (gv 3) (op2 addD (op2 addD (kI 2) (op2 mulD (kI 5) (gv 6))) (gv 8))) (gv 4)) [8]
theorem lg_row {N : Int} {a b c e z : Option SV} {ds : List Int} {t : Int} (hd : Draws ds) (hN : 0 < N) (h0 : 0 ≤ t) (h1 : t < 5) :
    ∃ r, InV N r ∧ 3 ≤ r.length ∧ r.length ≤ 4 ∧ lgRow [a, b, c, some (.sh (.list (iL ds))), some (.sh (.int N)), e, some (.sh (.int t)), z, none] = .ok (iL r) := by
  obtain ⟨i1, i2, i3⟩ := hd.at (k := 30 + t) (by omega) (by omega)
  have hm : (0 : Int) < 2 := by decide
  generalize hq : nth0 ds (30 + t).toNat % 2 = q
  have q2 : 0 ≤ q ∧ q < 2 := by omega
  refine ⟨(up (3 + q)).map fun s => nth0 ds (2 + 5 * t + s).toNat % N, fun v hv => ?_, by rw [List.length_map, up_len]; omega, by rw [List.length_map, up_len]; omega, ?_⟩
  · obtain ⟨s, _, rfl⟩ := List.mem_map.mp hv
    exact ⟨Int.emod_nonneg _ (by omega), Int.emod_lt_of_pos _ hN⟩
  · unfold lgRow
    rw [lcF_map (α := Int) (xs := up (3 + q)) (g := PyData.int) (p := fun _ => true) (f := fun s => .int (nth0 ds (2 + 5 * t + s).toNat % N)) (fun s => [a, b, c, some (.sh (.list (iL ds))), some (.sh (.int N)), e, some (.sh (.int t)), z, some (.sh (.int s))]) ?_ (by rw [up_len]; show _ ≤ 8000000; omega) fun s hs => ⟨by simp, by simp, fun _ => ?_⟩]
    · have ft : ∀ l : List Int, l.filter (fun _ => true) = l := fun l => List.filter_eq_self.mpr fun _ _ => rfl
      rw [ft]; unfold iL; rw [List.map_map]; rfl
    · exact rng1_up (by simp [i1, modD_int hm, hq]) (by omega)
    · obtain ⟨s0, s1⟩ := mem_up.mp hs
      obtain ⟨j1, _⟩ := hd.at (k := 2 + 5 * t + s) (by omega) (by omega)
      simp [mulD_l, j1, modD_int hN]
def lgBody : Rho → Out := (seqS (setF 7 (lE lgRow)) (seqS (ifS (asB (op2 eqD (op2 modD (op2 idxD (gv 3) (kI 40)) (kI 3)) (kI 0))) (setF 7 (sliceF (gv 7) nP (someP (kI 1)))) Out.nx) (seqS (setF 7 (op2 addD (gv 7) (ifE (asB (op2 eqD (fn1 lenD (gv 7)) (kI 1))) (lE (lstF (aC (op2 modD (op2 idxD (gv 3) (kI 50)) (gv 4)) aN))) (sliceF (gv 7) nP (someP (kI 1)))))) (forF (rng2 (kI 1) (fn1 lenD (gv 7))) (tg1 8) lgInner [8]))))
theorem cut1to {r : List Int} : cutL (iL r) none (some 1) = iL (r.take 1) := by
  rw [cut_to _ (by decide)]
  unfold iL; rw [← List.map_take]; rfl
theorem lg_body {N : Int} {a b c z : Option SV} {ds : List Int} {t : Int} {es : List Ed} (hd : Draws ds) (hN : 0 < N) (h0 : 0 ≤ t) (h1 : t < 5) (he : OkE N es) (hl : es.length ≤ 100) :
    ∃ fs r, OkE N fs ∧ fs.length ≤ es.length + 4 ∧ lgBody [a, b, c, some (.sh (.list (iL ds))), some (.sh (.int N)), some (.ow (es.map eD)), some (.sh (.int t)), z, none] = .nx [a, b, c, some (.sh (.list (iL ds))), some (.sh (.int N)), some (.ow (fs.map eD)), some (.sh (.int t)), some (.sh (.list (iL r))), none] := by
  obtain ⟨r0, v0, l0, l0', e0⟩ := lg_row (a := a) (b := b) (c := c) (e := some (.ow (es.map eD))) (z := z) hd hN h0 h1
  obtain ⟨i1, i2, i3⟩ := hd.at (k := 40) (by omega) (by omega)
  obtain ⟨j1, j2, j3⟩ := hd.at (k := 50) (by omega) (by omega)
  have m3 : (0 : Int) < 3 := by decide
  generalize nth0 ds (40 : Int).toNat = d40 at i1 i2 i3
  generalize nth0 ds (50 : Int).toNat = d50 at j1 j2 j3
  have v1 : ∀ l : Nat, InV N (r0.take l) := fun l v hv => v0 v (List.mem_of_mem_take hv)
  by_cases c40 : d40 % 3 = 0
  · obtain ⟨x, hx⟩ : ∃ x, r0.take 1 = [x] := by
      cases r0 with
      | nil => simp at l0
      | cons y ys => exact ⟨y, rfl⟩
    have hv : InV N ([x] ++ [d50 % N]) := fun v hv => by
      rcases List.mem_append.mp hv with hv | hv
      · exact v1 1 v (by rw [hx]; exact hv)
      · rw [List.mem_singleton.mp hv]; exact ⟨Int.emod_nonneg _ (by omega), Int.emod_lt_of_pos _ hN⟩
    obtain ⟨fs, f1, f2, f3⟩ := lg_inner (a := a) (b := b) (c := c) (d := some (.sh (.list (iL ds)))) (e := some (.sh (.int N))) (tm := some (.sh (.int t))) hv he (by simp) (by simp) hl
    refine ⟨fs, [x] ++ [d50 % N], f1, f2, ?_⟩
    unfold lgBody
    have ad : addD (.list (iL [x])) (.list [.int (d50 % N)]) = some (.list (iL ([x] ++ [d50 % N]))) := addD_li (a := [x]) (b := [d50 % N]) (show ([x] : List Int).length + [d50 % N].length ≤ szMax by rw [szMax_eq]; simp)
    simp [-forF_ap, e0, i1, j1, modD_int m3, c40, cut1to, hx, modD_int hN, ad] at f3 ⊢
    exact f3
  · obtain ⟨x, hx⟩ : ∃ x, r0.take 1 = [x] := by
      cases r0 with
      | nil => simp at l0
      | cons y ys => exact ⟨y, rfl⟩
    have hv : InV N (r0 ++ [x]) := fun v hv => by
      rcases List.mem_append.mp hv with hv | hv
      · exact v0 v hv
      · exact v1 1 v (by rw [hx]; exact hv)
    obtain ⟨fs, f1, f2, f3⟩ := lg_inner (a := a) (b := b) (c := c) (d := some (.sh (.list (iL ds)))) (e := some (.sh (.int N))) (tm := some (.sh (.int t))) hv he (by simp) (by simp; omega) hl
    refine ⟨fs, r0 ++ [x], f1, f2, ?_⟩
    unfold lgBody
    have ad : addD (.list (iL r0)) (.list (iL [x])) = some (.list (iL (r0 ++ [x]))) := addD_li (a := r0) (b := [x]) (show r0.length + [x].length ≤ szMax by rw [szMax_eq]; simp; omega)
    have n1 : ¬ ((r0.length : Int) = 1) := by omega
    simp [-forF_ap, e0, i1, j1, modD_int m3, c40, cut1to, hx, n1, ad] at f3 ⊢
    exact f3
end MP


namespace MP
open PySem L2 FE PL
theorem sp__law_graph {ns : List Int} {k m : Int} (hk : 0 ≤ k) (h0 : 0 ≤ m) (h9 : m ≤ 9) : ∃ n es, VG n es ∧ es.length ≤ m.toNat ∧ sem__law_graph [.list (iL ns), .int k, .int m] = .ok (gD n es) := by
  obtain ⟨ds, hd, er⟩ := sp__law_row (ns := ns) hk
  obtain ⟨i1, i2, i3⟩ := hd.at (k := 0) (by omega) (by omega)
  obtain ⟨j1, j2, j3⟩ := hd.at (k := 1) (by omega) (by omega)
  have m5 : (0 : Int) < 5 := by decide
  generalize nth0 ds (0 : Int).toNat = d0 at i1 i2 i3
  generalize nth0 ds (1 : Int).toNat = d1 at j1 j2 j3
  have hN : 2 ≤ 2 + d0 % 5 ∧ 2 + d0 % 5 ≤ 6 := by omega
  generalize hNN : 2 + d0 % 5 = N at hN
  let enc : List Ed × Option SV → Rho := fun s => [some (.sh (.list (iL ns))), some (.sh (.int k)), some (.sh (.int m)), some (.sh (.list (iL ds))), some (.sh (.int N)), some (.ow (s.1.map eD)), none, none, none]
  obtain ⟨s', ⟨k1, k2⟩, k3⟩ := forGo_run (u := tg1 6) (vs := [6, 7, 8]) (body := lgBody) (g := PyData.int) (enc := enc) (fun j s => OkE N s.1 ∧ s.1.length ≤ 4 * j) (up (d1 % 5)) ([], none) ⟨fun e he => (by cases he), Nat.le_refl _⟩ fun j s t ⟨ho, hz⟩ ht => by
    obtain ⟨t0, t1⟩ := mem_up.mp (List.mem_of_getElem? ht)
    have hj : j < (up (d1 % 5)).length := (List.getElem?_eq_some_iff.mp ht).1
    rw [up_len] at hj
    obtain ⟨fs, r, f1, f2, f3⟩ := lg_body (N := N) (a := some (.sh (.list (iL ns)))) (b := some (.sh (.int k))) (c := some (.sh (.int m))) (z := none) (t := t) hd (by omega) t0 (by omega) ho (by omega)
    exact ⟨(fs, none), ⟨f1, by show fs.length ≤ _; omega⟩, _, _, rfl, f3, rfl⟩
  rw [up_len] at k2
  obtain ⟨es, e1, e2, e3⟩ := sortD_ed (es := s'.1.take m.toNat)
  refine ⟨N, es, ⟨hN.1, hN.2, ?_, fun e he => k1 e (List.mem_of_mem_take (e2.mem_iff.mp he)), e3⟩, ?_, ?_⟩
  · rw [e2.length_eq, List.length_take]; omega
  · rw [e2.length_eq, List.length_take]; omega
  · unfold sem__law_graph g__law_graph
    have hr : rng1 (op2 modD (op2 idxD (gv 3) (kI 1)) (kI 5)) [some (.sh (.list (iL ns))), some (.sh (.int k)), some (.sh (.int m)), some (.sh (.list (iL ds))), some (.sh (.int N)), some (.ow []), none, none, none] = .ok (iL (up (d1 % 5))) := rng1_up (by simp [j1, modD_int m5]) (by omega)
    have hf : forF (rng1 (op2 modD (op2 idxD (gv 3) (kI 1)) (kI 5))) (tg1 6) lgBody [6, 7, 8] [some (.sh (.list (iL ns))), some (.sh (.int k)), some (.sh (.int m)), some (.sh (.list (iL ds))), some (.sh (.int N)), some (.ow []), none, none, none] = .nx (enc s') := by
      rw [forF_ap, hr]
      exact k3
    unfold lgBody lgRow lgInner at hf
    have c1 : cutL (s'.1.map eD) none (some m) = (s'.1.map eD).take m.toNat := cut_to _ h0
    rw [List.map_take] at e1
    simp [-forF_ap, start0, er, i1, modD_int m5, hNN, hf, enc, c1, e1]
    rfl
/-! ## the law's marks -/
theorem sp__law_marks {ns : List Int} {k n : Int} {es : List Ed} (hk : 0 ≤ k) (g : VG n es) : ∃ ms, VM n ms ∧ sem__law_marks [.list (iL ns), .int k, gD n es] = .ok (iD ms) := by
  obtain ⟨ds, hd, er⟩ := sp__law_row (ns := ns) hk
  obtain ⟨i1, i2, i3⟩ := hd.at (k := 10) (by omega) (by omega)
  have m4 : (0 : Int) < 4 := by decide
  have m3 : (0 : Int) < 3 := by decide
  have m2 : (0 : Int) < 2 := by decide
  generalize nth0 ds (10 : Int).toNat = d10 at i1 i2 i3
  have hn := g.n6
  have hn2 := g.n2
  have hes := g.few
  let f0 := (up n).filter fun v => nth0 ds v.toNat % 3 == 0
  let f1 := (up n).filter fun v => ((deg es v : Nat) : Int) % 2 == 1
  let A : List (Option SV) := [some (.sh (.list (iL ns))), some (.sh (.int k)), some (.sh (gD n es)), some (.sh (.list (iL ds)))]
  have lc0 : lcF (rng1 (op2 idxD (gv 2) (kI 0))) (tg1 5) (asB (op2 eqD (op2 modD (op2 idxD (gv 3) (gv 5)) (kI 3)) (kI 0))) (gv 5) [5] [some (.sh (.list (iL ns))), some (.sh (.int k)), some (.sh (gD n es)), some (.sh (.list (iL ds))), none, none] = .ok (iL f0) :=
    lcF_map (α := Int) (xs := up n) (g := PyData.int) (p := fun v => nth0 ds v.toNat % 3 == 0) (f := PyData.int) (fun v => [some (.sh (.list (iL ns))), some (.sh (.int k)), some (.sh (gD n es)), some (.sh (.list (iL ds))), none, some (.sh (.int v))]) (rng1_up (by simp) (by omega)) (by rw [up_len]; show _ ≤ 8000000; omega) fun v hv => by
      obtain ⟨v0, v1⟩ := mem_up.mp hv
      obtain ⟨q1, _⟩ := hd.at (k := v) v0 (by omega)
      exact ⟨by simp, by simp [q1, modD_int m3], fun _ => by simp⟩
  have lc1 : lcF (rng1 (op2 idxD (gv 2) (kI 0))) (tg1 5) (asB (op2 eqD (op2 modD (callF 2 sem__law_degree (aC (gv 2) (aC (gv 5) aN))) (kI 2)) (kI 1))) (gv 5) [5] [some (.sh (.list (iL ns))), some (.sh (.int k)), some (.sh (gD n es)), some (.sh (.list (iL ds))), some (.sh (.list (iL f0))), none] = .ok (iL f1) :=
    lcF_map (α := Int) (xs := up n) (g := PyData.int) (p := fun v => ((deg es v : Nat) : Int) % 2 == 1) (f := PyData.int) (fun v => [some (.sh (.list (iL ns))), some (.sh (.int k)), some (.sh (gD n es)), some (.sh (.list (iL ds))), some (.sh (.list (iL f0))), some (.sh (.int v))]) (rng1_up (by simp) (by omega)) (by rw [up_len]; show _ ≤ 8000000; omega) fun v hv => by
      exact ⟨by simp, by simp [sp__law_degree (n := n) (v := v) (es := es) (by omega), modD_int m2], fun _ => by simp⟩
  have l0 : f0.length ≤ 6 := by
    have := List.length_filter_le (fun v => nth0 ds v.toNat % 3 == 0) (up n)
    rw [up_len] at this
    show (List.filter _ _).length ≤ 6; omega
  have l1 : f1.length ≤ 6 := by
    have := List.length_filter_le (fun v => ((deg es v : Nat) : Int) % 2 == 1) (up n)
    rw [up_len] at this
    show (List.filter _ _).length ≤ 6; omega
  have sub0 : ∀ v ∈ f0, 0 ≤ v ∧ v < n := fun v hv => mem_up.mp (List.mem_filter.mp hv).1
  have sub1 : ∀ v ∈ f1, 0 ≤ v ∧ v < n := fun v hv => mem_up.mp (List.mem_filter.mp hv).1
  -- the loop that fills up to two
  have fill : ∀ f : List Int, Ris n f → ∃ ms, VM n ms ∧ forF (rng1 (op2 idxD (gv 2) (kI 0))) (tg1 5) (ifS (andT (asB (op2 ltD (fn1 lenD (gv 4)) (kI 2))) (asB (op2 (inD true) (gv 5) (gv 4)))) (setF 4 (fn1 sortD (op2 addD (gv 4) (lE (lstF (aC (gv 5) aN)))))) Out.nx) [5]
      [some (.sh (.list (iL ns))), some (.sh (.int k)), some (.sh (gD n es)), some (.sh (.list (iL ds))), some (.sh (.list (iL f))), none] = .nx [some (.sh (.list (iL ns))), some (.sh (.int k)), some (.sh (gD n es)), some (.sh (.list (iL ds))), some (.sh (.list (iL ms))), none] := fun f hf => by
    let enc : List Int → Rho := fun f => [some (.sh (.list (iL ns))), some (.sh (.int k)), some (.sh (gD n es)), some (.sh (.list (iL ds))), some (.sh (.list (iL f))), none]
    obtain ⟨ms, ⟨q1, q2⟩, q3⟩ := forGo_run (u := tg1 5) (vs := [5]) (body := ifS (andT (asB (op2 ltD (fn1 lenD (gv 4)) (kI 2))) (asB (op2 (inD true) (gv 5) (gv 4)))) (setF 4 (fn1 sortD (op2 addD (gv 4) (lE (lstF (aC (gv 5) aN)))))) Out.nx) (g := PyData.int) (enc := enc)
      (fun j s => Ris n s ∧ (2 ≤ s.length ∨ ∀ v : Int, 0 ≤ v → v < j → v ∈ s)) (up n) f ⟨hf, Or.inr fun v v0 v1 => by omega⟩ fun j s v ⟨hs, hz⟩ hv => by
        obtain ⟨v0, v1⟩ := mem_up.mp (List.mem_of_getElem? hv)
        have hvj : v = (j : Int) := by
          unfold up at hv
          have hj : j < n.toNat := by
            have := (List.getElem?_eq_some_iff.mp hv).1
            simpa using this
          rw [List.getElem?_map, List.getElem?_range hj] at hv
          exact (Option.some.inj hv).symm
        by_cases c2 : s.length < 2
        · by_cases cm : v ∈ s
          · refine ⟨s, ⟨hs, Or.inr fun w w0 w1 => ?_⟩, _, (enc s).set 5 (some (.sh (.int v))), rfl, ?_, rfl⟩
            · by_cases e : w = v
              · rw [e]; exact cm
              · exact hz.elim (fun z => by omega) fun z => z w w0 (by omega)
            · have c2' : ((s.length : Int) < 2) := by omega
              simp [enc, c2', cm]
          · have ad : addD (.list (iL s)) (.list [.int v]) = some (.list (iL (s ++ [v]))) := addD_li (a := s) (b := [v]) (by rw [szMax_eq]; simp; omega)
            obtain ⟨t, t1, t2, t3⟩ := sortD_li (ns := s ++ [v])
            have nd : t.Nodup := t2.nodup_iff.mpr (by
              rw [List.nodup_append]
              exact ⟨hs.2.imp fun z => Int.ne_of_lt z, by simp, fun a ha b hb => by rw [List.mem_singleton.mp hb]; intro e; exact cm (by rw [← e]; exact ha)⟩)
            have tm : ∀ w, w ∈ t ↔ w ∈ s ∨ w = v := fun w => by rw [t2.mem_iff, List.mem_append, List.mem_singleton]
            refine ⟨t, ⟨⟨fun w hw => ?_, (t3.and nd).imp fun ⟨a, b⟩ => by omega⟩, ?_⟩, _, (enc t).set 5 (some (.sh (.int v))), rfl, ?_, rfl⟩
            · rcases (tm w).mp hw with h | h
              · exact hs.1 w h
              · rw [h]; exact ⟨v0, v1⟩
            · refine Or.inr fun w w0 w1 => (tm w).mpr ?_
              by_cases e : w = v
              · exact Or.inr e
              · exact Or.inl (hz.elim (fun z => by omega) fun z => z w w0 (by omega))
            · have c2' : ((s.length : Int) < 2) := by omega
              simp [enc, c2', cm, ad, t1]
        · refine ⟨s, ⟨hs, Or.inl (by omega)⟩, _, (enc s).set 5 (some (.sh (.int v))), rfl, ?_, rfl⟩
          have c2' : ¬ ((s.length : Int) < 2) := by omega
          simp [enc, c2']
    refine ⟨ms, ⟨q1, ?_⟩, ?_⟩
    · rcases q2 with q2 | q2
      · exact q2
      · rw [up_len] at q2
        exact nodup_len [0, 1] ms (by decide) fun x hx => q2 x (by simp at hx; omega) (by simp at hx; omega)
    · rw [forF_ap, rng1_up (j := n) (by simp) (by omega)]
      exact q3
  have fin : ∀ f : List Int, f.length ≤ 60 → (∀ v ∈ f, 0 ≤ v ∧ v < n) → ∃ t ms, VM n ms ∧ sortsetD (.list (iL f)) = some (.list (iL t)) ∧ forF (rng1 (op2 idxD (gv 2) (kI 0))) (tg1 5) (ifS (andT (asB (op2 ltD (fn1 lenD (gv 4)) (kI 2))) (asB (op2 (inD true) (gv 5) (gv 4)))) (setF 4 (fn1 sortD (op2 addD (gv 4) (lE (lstF (aC (gv 5) aN)))))) Out.nx) [5]
      [some (.sh (.list (iL ns))), some (.sh (.int k)), some (.sh (gD n es)), some (.sh (.list (iL ds))), some (.sh (.list (iL t))), none] = .nx [some (.sh (.list (iL ns))), some (.sh (.int k)), some (.sh (gD n es)), some (.sh (.list (iL ds))), some (.sh (.list (iL ms))), none] := fun f hl hin => by
    obtain ⟨t, t1, t2, t3⟩ := sortset_li hl
    obtain ⟨ms, m1, m2⟩ := fill t ⟨fun v hv => hin v ((t2 v).mp hv), t3⟩
    exact ⟨t, ms, m1, t1, m2⟩
  unfold sem__law_marks g__law_marks
  by_cases c : d10 % 4 = 0
  · obtain ⟨t, ms, h1, h2, h3⟩ := fin f0 (by omega) sub0
    refine ⟨ms, h1, ?_⟩
    simp [-forF_ap, start0, er, lc0, i1, modD_int m4, c, h2, h3]
    rfl
  · obtain ⟨t, ms, h1, h2, h3⟩ := fin (f0 ++ f1) (by rw [List.length_append]; omega) fun v hv => (List.mem_append.mp hv).elim (sub0 v) (sub1 v)
    refine ⟨ms, h1, ?_⟩
    have cpos : 0 < d10 % 4 := by omega
    have ad := addD_li (a := f0) (b := f1) (by rw [szMax_eq]; omega)
    simp [-forF_ap, start0, er, lc0, lc1, i1, modD_int m4, cpos, ad, h2, h3]
    rfl
end MP


namespace MP
open PySem L2 FE PL
theorem up_few {n : Int} (h : n ≤ 6) : (up n).length ≤ 8000000 := by rw [up_len]; omega
theorem fr_len {n : Int} {p : Int → Bool} (h : n ≤ 6) : ((up n).filter p).length ≤ 8000000 := Nat.le_trans (List.length_filter_le _ _) (up_few h)
/-! ## the two sides of a set -/
theorem lv_other {n : Int} {es : List Ed} {S T : List Int} (g : VG n es) (h : ∀ v, 0 ≤ v → v < n → (v ∈ T ↔ ¬ v ∈ S)) : lv es T = lv es S := by
  unfold lv
  congr 1
  refine List.filter_congr fun e he => ?_
  obtain ⟨a, b, c⟩ := g.ok e he
  have h1 := h e.1 a (by omega)
  have h2 := h e.2 (by omega) c
  by_cases q1 : e.1 ∈ S <;> by_cases q2 : e.2 ∈ S <;> simp [h1, h2, q1, q2]
theorem ris_filter {n : Int} (p : Int → Bool) : Ris n ((up n).filter p) := ⟨fun v hv => mem_up.mp (List.mem_filter.mp hv).1, (up_sorted n).filter p⟩
/-! ## what is told -/
theorem try_exc {n i c k : Nat} {g : Rho → Out} {h : Nat → Addr → Rho → Out} {ρ : Rho} {d : D} (h1 : g ρ = .exc ⟨k, none⟩) (h2 : k < 9) (h3 : mOf c k = true) (h4 : h k 0 (mk n i 0) = .ret d) : tryF n i c g h ρ = .ret d := by
  unfold tryF
  rw [h1]
  simp only
  rw [if_pos h2, if_pos h3, h4]
end MP


namespace MP
open PySem L2 FE PL
def odds (n : Int) (es : List Ed) (ms : List Int) : List Int := ((up n).filter fun v => !decide (v ∈ ms)).filter fun v => ((deg es v : Nat) : Int) % 2 == 1
end MP


namespace MP
open PySem L2 FE PL
/-! ## the sets around a mark -/
def around (ms : List Int) (m : Int) (vs : List Int) : List (List Int) := vs.foldl (fun f v => if v = m then f.map (· ++ [v]) else if v ∈ ms then f else f ++ f.map (· ++ [v])) [[]]
/-- what is told of the rows so far -/
structure Ard (ms : List Int) (m : Int) (vs : List Int) (f : List (List Int)) : Prop where
  len : f.length ≤ 2 ^ vs.length
  small : ∀ S ∈ f, S.length ≤ vs.length
  mem : ∀ S ∈ f, ∀ v ∈ S, v ∈ vs
  has : m ∈ vs → ∀ S ∈ f, m ∈ S
  ne : f ≠ []
theorem around_snoc (ms : List Int) (m : Int) (vs : List Int) (v : Int) : around ms m (vs ++ [v]) = if v = m then (around ms m vs).map (· ++ [v]) else if v ∈ ms then around ms m vs else around ms m vs ++ (around ms m vs).map (· ++ [v]) := by
  unfold around; rw [List.foldl_append]; rfl
theorem ard_snoc {ms : List Int} {m v : Int} {vs : List Int} (h : Ard ms m vs (around ms m vs)) : Ard ms m (vs ++ [v]) (around ms m (vs ++ [v])) := by
  rw [around_snoc]
  have app : ∀ S ∈ (around ms m vs).map (· ++ [v]), S.length ≤ (vs ++ [v]).length ∧ (∀ x ∈ S, x ∈ vs ++ [v]) ∧ v ∈ S ∧ ∃ T ∈ around ms m vs, S = T ++ [v] := fun S hS => by
    obtain ⟨T, hT, rfl⟩ := List.mem_map.mp hS
    refine ⟨by rw [List.length_append, List.length_append]; have := h.small T hT; simp; omega, fun x hx => ?_, by simp, T, hT, rfl⟩
    rcases List.mem_append.mp hx with hx | hx
    · exact List.mem_append_left _ (h.mem T hT x hx)
    · exact List.mem_append_right _ hx
  have pw : 2 ^ (vs ++ [v]).length = 2 ^ vs.length * 2 := by rw [List.length_append]; rfl
  have old : ∀ S ∈ around ms m vs, S.length ≤ (vs ++ [v]).length ∧ (∀ x ∈ S, x ∈ vs ++ [v]) := fun S hS => ⟨by rw [List.length_append]; have := h.small S hS; simp; omega, fun x hx => List.mem_append_left _ (h.mem S hS x hx)⟩
  have hl := h.len
  by_cases c : v = m
  · rw [if_pos c]
    exact ⟨by rw [pw, List.length_map]; omega, fun S hS => (app S hS).1, fun S hS => (app S hS).2.1, fun _ S hS => c ▸ (app S hS).2.2.1, by simpa using h.ne⟩
  · rw [if_neg c]
    by_cases c2 : v ∈ ms
    · rw [if_pos c2]
      exact ⟨by rw [pw]; omega, fun S hS => (old S hS).1, fun S hS => (old S hS).2, fun hm S hS => h.has ((List.mem_append.mp hm).elim id fun z => absurd (List.mem_singleton.mp z).symm c) S hS, h.ne⟩
    · rw [if_neg c2]
      refine ⟨by rw [pw, List.length_append, List.length_map]; omega, fun S hS => ?_, fun S hS => ?_, fun hm S hS => ?_, by simp [h.ne]⟩
      · rcases List.mem_append.mp hS with hS | hS
        · exact (old S hS).1
        · exact (app S hS).1
      · rcases List.mem_append.mp hS with hS | hS
        · exact (old S hS).2
        · exact (app S hS).2.1
      · have hm' : m ∈ vs := (List.mem_append.mp hm).elim id fun z => absurd (List.mem_singleton.mp z).symm c
        rcases List.mem_append.mp hS with hS | hS
        · exact h.has hm' S hS
        · obtain ⟨_, _, _, T, hT, e⟩ := app S hS
          rw [e]; exact List.mem_append_left _ (h.has hm' T hT)
theorem ard_all (ms : List Int) (m : Int) : ∀ vs : List Int, Ard ms m vs (around ms m vs) := by
  intro vs
  have : ∀ k, Ard ms m (vs.take k) (around ms m (vs.take k)) := by
    intro k
    induction k with
    | zero =>
      have e : around ms m (vs.take 0) = [[]] := by rw [List.take_zero]; rfl
      rw [e]
      refine ⟨by simp, fun S hS => ?_, fun S hS v hv => ?_, fun h => ?_, by simp⟩
      · rw [List.mem_singleton.mp hS]; simp
      · rw [List.mem_singleton.mp hS] at hv; cases hv
      · rw [List.take_zero] at h; cases h
    | succ k ih =>
      by_cases hk : k < vs.length
      · rw [List.take_succ, List.getElem?_eq_getElem hk]
        exact ard_snoc ih
      · rw [List.take_of_length_le (by omega)] at ih ⊢
        exact ih
  have h := this vs.length
  rw [List.take_length] at h
  exact h
def arBody : Rho → Out := (ifS (asB (op2 eqD (gv 4) (gv 2))) (setF 3 (lE (lcF (seqF (gv 3)) (tg1 5) tT (op2 addD (gv 5) (tupF (aC (gv 4) aN))) [5]))) (ifS (asB (op2 (inD true) (gv 4) (gv 1))) (setF 3 (op2 addD (gv 3) (lE (lcF (seqF (gv 3)) (tg1 5) tT (op2 addD (gv 5) (tupF (aC (gv 4) aN))) [5])))) Out.nx))
theorem flt_true {α : Type} (l : List α) : l.filter (fun _ => true) = l := List.filter_eq_self.mpr fun _ _ => rfl
theorem addD_ti1 {a : List Int} {v : Int} (h : a.length ≤ 6) : addD (iD a) (.tuple [.int v]) = some (iD (a ++ [v])) := addD_ti (a := a) (b := [v]) (by rw [szMax_eq]; simp; omega)
theorem ar_lc {g m x : Option SV} {f : List (List Int)} {v : Int} {ms : List Int} (hs : ∀ S ∈ f, S.length ≤ 6) (hl : f.length ≤ 1000) : lcF (seqF (gv 3)) (tg1 5) tT (op2 addD (gv 5) (tupF (aC (gv 4) aN))) [5] [g, x, m, some (.sh (.list (f.map iD))), some (.sh (.int v)), none] = .ok ((f.map (· ++ [v])).map iD) := by
  rw [lcF_map (α := List Int) (xs := f) (g := iD) (p := fun _ => true) (f := fun S => iD (S ++ [v])) (fun S => [g, x, m, some (.sh (.list (f.map iD))), some (.sh (.int v)), some (.sh (iD S))]) (by simp) (len_le_sz hl (by decide)) fun S hS => ⟨by simp, by simp, fun _ => by simp [addD_ti1 (hs S hS)]⟩]
  rw [flt_true, List.map_map]; rfl
theorem addD_rows {a b : List (List Int)} (h : a.length + b.length ≤ 2000) : addD (.list (a.map iD)) (.list (b.map iD)) = some (.list ((a ++ b).map iD)) := by
  show (if (a.map iD).length + (b.map iD).length ≤ szMax then some (PyData.list (a.map iD ++ b.map iD)) else none) = _
  rw [if_pos (by rw [List.length_map, List.length_map, szMax_eq]; omega), List.map_append]
theorem pow_small {k : Nat} (h : k ≤ 6) : 2 ^ k ≤ 64 := by
  have : k = 0 ∨ k = 1 ∨ k = 2 ∨ k = 3 ∨ k = 4 ∨ k = 5 ∨ k = 6 := by omega
  rcases this with e | e | e | e | e | e | e <;> rw [e] <;> decide
theorem up_take {n : Int} {j : Nat} {x : Int} (h : (up n)[j]? = some x) : (up n).take (j + 1) = (up n).take j ++ [x] := by
  rw [List.take_succ, h]; rfl
theorem ar_loop {n : Int} {es : List Ed} {ms : List Int} {m : Int} (g : VG n es) : forF (rng1 (op2 idxD (gv 0) (kI 0))) (tg1 4) arBody [4] [some (.sh (gD n es)), some (.sh (iD ms)), some (.sh (.int m)), some (.sh (.list [iD []])), none, none] =
    .nx [some (.sh (gD n es)), some (.sh (iD ms)), some (.sh (.int m)), some (.sh (.list ((around ms m (up n)).map iD))), none, none] := by
  have hn := g.n6
  have hn2 := g.n2
  rw [forF_ap, rng1_up (j := n) (by simp) (by omega)]
  obtain ⟨s', h1, h2⟩ := forGo_run (u := tg1 4) (vs := [4]) (body := arBody) (g := PyData.int) (S := List (List Int)) (enc := fun f => [some (.sh (gD n es)), some (.sh (iD ms)), some (.sh (.int m)), some (.sh (.list (f.map iD))), none, none])
    (fun j f => f = around ms m ((up n).take j)) (up n) [[]] rfl fun j f v hf hv => by
      have hj : j < (up n).length := (List.getElem?_eq_some_iff.mp hv).1
      rw [up_len] at hj
      have A := ard_all ms m ((up n).take j)
      rw [← hf] at A
      have tl : ((up n).take j).length ≤ 6 := by rw [List.length_take, up_len]; omega
      have sm : ∀ S ∈ f, S.length ≤ 6 := fun S hS => Nat.le_trans (A.small S hS) tl
      have ln : f.length ≤ 64 := Nat.le_trans A.len (pow_small tl)
      have lc := ar_lc (g := some (.sh (gD n es))) (x := some (.sh (iD ms))) (m := some (.sh (.int m))) (v := v) (ms := ms) sm (by omega)
      refine ⟨around ms m ((up n).take (j + 1)), rfl, _, [some (.sh (gD n es)), some (.sh (iD ms)), some (.sh (.int m)), some (.sh (.list ((around ms m ((up n).take (j + 1))).map iD))), some (.sh (.int v)), none], rfl, ?_, rfl⟩
      rw [up_take hv, around_snoc, ← hf]
      unfold arBody
      by_cases c : v = m
      · simp [c]
        rw [c] at lc
        simp [lc]
      · by_cases c2 : v ∈ ms
        · simp [c, c2]
        · have ad := addD_rows (a := f) (b := f.map (· ++ [v])) (by rw [List.length_map]; omega)
          simp [c, c2, lc, -List.map_map]
          rw [ad]; simp
  have e : (up n).take (up n).length = up n := List.take_length
  rw [e] at h1
  subst h1
  exact h2
theorem row_hd {n : Int} {ms : List Int} {m : Int} (hm : 0 ≤ m ∧ m < n) : ∀ S ∈ around ms m (up n), S ≠ [] := fun S hS e => by
  have := (ard_all ms m (up n)).has (mem_up.mpr hm) S hS
  rw [e] at this; cases this
/-! ## the least of them -/
theorem ar_ne {n : Int} {ms : List Int} {m : Int} : around ms m (up n) ≠ [] := (ard_all ms m (up n)).ne
theorem leastS_ex (n : Int) (es : List Ed) (ms : List Int) (m : Int) : ∃ S, LeastIn es (around ms m (up n)) S := (least_ex es ar_ne).elim fun S h => ⟨S, h.1⟩
noncomputable def leastS (n : Int) (es : List Ed) (ms : List Int) (m : Int) : List Int := Classical.choose (leastS_ex n es ms m)
theorem leastS_spec (n : Int) (es : List Ed) (ms : List Int) (m : Int) : LeastIn es (around ms m (up n)) (leastS n es ms m) := Classical.choose_spec (leastS_ex n es ms m)
theorem idx_key {es : List Ed} {S : List Int} : idxD (keyD es S) (.int 2) = some (iD S) := idx_at (n := 2) rfl
theorem ar_few {n : Int} {ms : List Int} {m : Int} (hn : n ≤ 6) : (around ms m (up n)).length ≤ 64 := by
  have := (ard_all ms m (up n)).len
  rw [up_len] at this
  exact Nat.le_trans this (pow_small (by omega))
theorem isD_none {d : D} : isD d .none = some (.bool (isNo d)) := by cases d <;> rfl
theorem ltA_key {es : List Ed} {S T : List Int} : ltA (keyD es S) (keyD es T) = some (.bool (isLt (ordO (keyD es S) (keyD es T)))) := if_pos (ordOk_key es S T)
end MP


namespace MP
open PySem L2 FE PL
/-! ## the sets of all the marks, the bound -/
noncomputable def leasts (n : Int) (es : List Ed) (ms : List Int) : List (List Int) := ms.map (leastS n es ms)
theorem marks_in {n : Int} {ms : List Int} (m : VM n ms) : ∀ v ∈ ms, 0 ≤ v ∧ v < n := m.ris.1
theorem marks_few {n : Int} {ms : List Int} {es : List Ed} (g : VG n es) (m : VM n ms) : ms.length ≤ 6 := ris_len m.ris g.n6
theorem leasts_len {n : Int} {es : List Ed} {ms : List Int} : (leasts n es ms).length = ms.length := by unfold leasts; rw [List.length_map]
def sumLv (es : List Ed) (Ls : List (List Int)) : Int := (Ls.map fun S => (lv es S : Int)).sum
/-- what is no mark -/
def notMark (ms : List Int) (v : D) : Prop := isBo v = true ∨ inD true v (iD ms) = some (.bool true)
theorem nin_of {ms : List Int} {v : D} (h : SeqAt.shaped v = true) (k : ∀ i ∈ ms, PyData.eqv (.int i) v = false) : inD true v (iD ms) = some (.bool true) := by
  unfold inD
  rw [if_pos ⟨h, shaped_ti ms⟩]
  have : memD v (iL ms) = false := by
    unfold memD
    rw [iL_eq, List.any_map, List.any_eq_false]
    intro i hi
    show ¬ (PyData.eqv (.int i) v = true)
    rw [k i hi]; decide
  show some (PyData.bool (!memD v (iL ms))) = _
  rw [this]; rfl
end MP


namespace MP
open PySem L2 FE PL
theorem eqD_od {x y : D} (hx : od x = true) (hy : od y = true) (dx : x.depth ≤ 64) (dy : y.depth ≤ 64) : ∃ b, eqD x y = some (.bool b) ∧ neD x y = some (.bool !b) ∧ (b = true ↔ x = y) := by
  refine ⟨PyData.eqv x y, if_pos ⟨shaped_od hx dx, shaped_od hy dy⟩, if_pos ⟨shaped_od hx dx, shaped_od hy dy⟩, ?_⟩
  rw [eqv_ord x y hx hy]
  constructor
  · intro h
    exact ordO_eq x y hx hy (eq_of_beq h)
  · rintro rfl
    rw [ordO_refl]; rfl
/-! ## the text of a graph with marks -/
def numS (i : Int) : Str := (toString i : Str)
theorem dig {i : Int} (h : 0 ≤ i ∧ i ≤ 9) : i.natAbs.log2 < 1920 ∧ (numS i).length = 1 := by
  have : i = 0 ∨ i = 1 ∨ i = 2 ∨ i = 3 ∨ i = 4 ∨ i = 5 ∨ i = 6 ∨ i = 7 ∨ i = 8 ∨ i = 9 := by omega
  rcases this with rfl | rfl | rfl | rfl | rfl | rfl | rfl | rfl | rfl | rfl <;> exact ⟨by decide, by decide +kernel⟩
theorem strD_dig {i : Int} (h : 0 ≤ i ∧ i ≤ 9) : strD (.int i) = some (.str (numS i)) := if_pos (dig h).1
theorem fmt_dig {i : Int} (h : 0 ≤ i ∧ i ≤ 9) : fmtS (.int i) = some (numS i) := if_pos (dig h).1
theorem txts_map {α : Type} (f : α → Str) : ∀ l : List α, txts? (l.map fun x => .str (f x)) = some (l.map f)
  | [] => rfl
  | a :: l => by
    show (txts? (l.map fun x => PyData.str (f x))).map (f a :: ·) = _
    rw [txts_map f l]; rfl
theorem joinD_map {α : Type} {a : Str} (f : α → Str) (l : List α) {c : Nat} (h : ∀ x ∈ l, (f x).length ≤ c) (hb : l.length * c + l.length * a.length ≤ 8000000) : joinD (.str a) (.list (l.map fun x => .str (f x))) = some (.str (Txt.join a (l.map f))) := by
  have hs : ((l.map f).map (fun y : Str => y.length)).sum ≤ l.length * c := by
    clear hb
    induction l with
    | nil => simp
    | cons x l ih =>
      have h1 := h x List.mem_cons_self
      have h2 := ih fun y hy => h y (List.mem_cons_of_mem _ hy)
      simp only [List.map_cons, List.sum_cons, List.length_cons] at h2 ⊢
      rw [Nat.add_mul]
      omega
  show (match txts? (l.map fun x => PyData.str (f x)) with
    | some ys => if (ys.map (fun y : Str => y.length)).sum + ys.length * a.length ≤ szMax then some (PyData.str (Txt.join a ys)) else none
    | none => none) = _
  rw [txts_map]
  show (if ((l.map f).map (fun y : Str => y.length)).sum + (l.map f).length * a.length ≤ szMax then _ else _) = _
  rw [if_pos (by rw [List.length_map, szMax_eq]; omega)]
def namesS (ms : List Int) : Str := Txt.join "" (ms.map numS)
def headS (n : Int) (ms : List Int) : Str := catS [numS n, "/", namesS ms]
def edS (e : Ed) : Str := catS [numS e.1, "-", numS e.2]
def txtS (n : Int) (es : List Ed) (ms : List Int) : Str := Txt.join " " (headS n ms :: es.map edS)
theorem joinL_len (S : List Nat) : ∀ ps : List (List Nat), (TL.joinL S ps).length ≤ (ps.map (fun y => y.length)).sum + ps.length * S.length
  | [] => by simp [TL.joinL]
  | [p] => by simp [TL.joinL]
  | p :: q :: ps => by
    have ih := joinL_len S (q :: ps)
    show (p ++ (S ++ TL.joinL S (q :: ps))).length ≤ _
    simp only [List.length_append, List.map_cons, List.sum_cons, List.length_cons] at ih ⊢
    rw [Nat.add_mul]
    omega
theorem join_len {a : Str} {l : List Str} {c : Nat} (h : ∀ x ∈ l, x.length ≤ c) : (Txt.join a l).length ≤ l.length * c + l.length * a.length := by
  rw [TL.join_eq, TL.len_tl, TL.tl_join]
  have h1 := joinL_len (TL.tl a) (l.map TL.tl)
  rw [List.length_map, ← TL.len_tl] at h1
  have h2 : ((l.map TL.tl).map (fun y => y.length)).sum ≤ l.length * c := by
    clear h1
    induction l with
    | nil => simp
    | cons x l ih =>
      have h1 := h x List.mem_cons_self
      have h2 := ih fun y hy => h y (List.mem_cons_of_mem _ hy)
      rw [TL.len_tl] at h1
      simp only [List.map_cons, List.sum_cons, List.length_cons] at h2 ⊢
      rw [Nat.add_mul]
      omega
  omega
theorem ed_len {e : Ed} (h1 : 0 ≤ e.1 ∧ e.1 ≤ 9) (h2 : 0 ≤ e.2 ∧ e.2 ≤ 9) : (edS e).length = 3 := by
  unfold edS
  simp only [catS, str_len, (dig h1).2, (dig h2).2]
  decide +kernel
theorem names_len {ms : List Int} (h : ∀ m ∈ ms, 0 ≤ m ∧ m ≤ 9) : (namesS ms).length ≤ ms.length := by
  have := join_len (a := "") (l := ms.map numS) (c := 1) fun x hx => by
    obtain ⟨m, hm, rfl⟩ := List.mem_map.mp hx
    rw [(dig (h m hm)).2]; exact Nat.le_refl _
  rw [List.length_map] at this
  have z : ("" : Str).length = 0 := by decide +kernel
  rw [z] at this
  unfold namesS
  omega
theorem head_len {n : Int} {ms : List Int} (hn : 0 ≤ n ∧ n ≤ 9) (h : ∀ m ∈ ms, 0 ≤ m ∧ m ≤ 9) : (headS n ms).length ≤ 2 + ms.length := by
  have := names_len h
  unfold headS
  have z : ("/" : Str).length = 1 := by decide +kernel
  have z0 : Str.empty.length = 0 := rfl
  simp only [catS, str_len, (dig hn).2, z, z0]
  omega
theorem sp_text_of {n : Int} {es : List Ed} {ms : List Int} (g : VG n es) (vm : VM n ms) : sem_text_of [gD n es, iD ms] = .ok (.str (txtS n es ms)) := by
  have n2 := g.n2
  have n6 := g.n6
  have hn : 0 ≤ n ∧ n ≤ 9 := by omega
  have hm : ∀ m ∈ ms, 0 ≤ m ∧ m ≤ 9 := fun m hm => by have := marks_in vm m hm; omega
  have h6 := marks_few g vm
  have hf := g.few
  have l1 : lcF (seqF (gv 1)) (tg1 3) tT (fn1 strD (gv 3)) [3] [some (.sh (gD n es)), some (.sh (iD ms)), none, none, none, none] = .ok (ms.map fun m => .str (numS m)) := by
    have := lcF_map (fi := seqF (gv 1)) (u := tg1 3) (t := tT) (e := fn1 strD (gv 3)) (vs := [3]) (ρ := [some (.sh (gD n es)), some (.sh (iD ms)), none, none, none, none])
      (α := Int) (xs := ms) (g := PyData.int) (p := fun _ => true) (f := fun m => .str (numS m)) (fun m => [some (.sh (gD n es)), some (.sh (iD ms)), none, some (.sh (.int m)), none, none]) (by simp [iD]; rfl) (by rw [szMax_eq]; omega) fun m hmm => ⟨rfl, by simp, fun _ => by rw [fn1_ap, gv_ap]; simp [strD_dig (hm m hmm), -strD_int]⟩
    rw [this, List.filter_eq_self.mpr fun _ _ => rfl]
  have j1 : joinD (.str "") (.list (ms.map fun m => .str (numS m))) = some (.str (namesS ms)) := joinD_map (c := 1) numS ms (fun m hmm => by rw [(dig (hm m hmm)).2]; exact Nat.le_refl _) (by
    have z : ("" : Str).length = 0 := by decide +kernel
    rw [z]; omega)
  have nl := names_len hm
  have hl := head_len hn hm
  have f1 : fmtS (.str (namesS ms)) = some (namesS ms) := if_pos (by rw [szMax_eq]; omega)
  have f0 := fmt_dig hn
  have ch : chk (catS [numS n, "/", namesS ms]).length = .ok () := chk_ok (by
    show (headS n ms).length ≤ szMax
    rw [szMax_eq]; omega)
  have l2 : lcF (seqF (op2 idxD (gv 0) (kI 1))) (tg2 4 5) tT (joinedF (fjF (gv 4) (fjC "-" (fjF (gv 5) (fun _ => .ok []))))) [4, 5] [some (.sh (gD n es)), some (.sh (iD ms)), some (.sh (.str (namesS ms))), none, none, none] = .ok (es.map fun e => .str (edS e)) := by
    have := lcF_map (fi := seqF (op2 idxD (gv 0) (kI 1))) (u := tg2 4 5) (t := tT) (e := joinedF (fjF (gv 4) (fjC "-" (fjF (gv 5) (fun _ => .ok []))))) (vs := [4, 5]) (ρ := [some (.sh (gD n es)), some (.sh (iD ms)), some (.sh (.str (namesS ms))), none, none, none])
      (α := Ed) (xs := es) (g := eD) (p := fun _ => true) (f := fun e => .str (edS e)) (fun e => [some (.sh (gD n es)), some (.sh (iD ms)), some (.sh (.str (namesS ms))), none, some (.sh (.int e.1)), some (.sh (.int e.2))]) (by simp [idx_g1]) (by rw [szMax_eq]; omega) fun e he => ⟨rfl, by simp, fun _ => by
        have o := g.ok e he
        have a := fmt_dig (i := e.1) (by omega)
        have b := fmt_dig (i := e.2) (by omega)
        have c : chk (catS [numS e.1, "-", numS e.2]).length = .ok () := chk_ok (by
          show (edS e).length ≤ szMax
          rw [ed_len (by omega) (by omega), szMax_eq]; decide)
        simp [a, b, c]
        rfl⟩
    rw [this, List.filter_eq_self.mpr fun _ _ => rfl]
  have ad : addD (.list [.str (headS n ms)]) (.list (es.map fun e => .str (edS e))) = some (.list (.str (headS n ms) :: es.map fun e => .str (edS e))) := by
    show (if 1 + (es.map fun e => PyData.str (edS e)).length ≤ szMax then _ else _) = _
    rw [if_pos (by rw [List.length_map, szMax_eq]; omega)]
    rfl
  have j2 : joinD (.str " ") (.list (.str (headS n ms) :: es.map fun e => .str (edS e))) = some (.str (txtS n es ms)) := by
    have := joinD_map (c := 8) (a := " ") (fun x : Str => x) (headS n ms :: es.map edS) (fun x hx => by
      rcases List.mem_cons.mp hx with rfl | hx
      · omega
      · obtain ⟨e, he, rfl⟩ := List.mem_map.mp hx
        have o := g.ok e he
        rw [ed_len (by omega) (by omega)]; decide) (by
      have z : (" " : Str).length = 1 := by decide +kernel
      rw [z]; simp; omega)
    rw [List.map_id', List.map_cons, List.map_map] at this
    exact this
  unfold sem_text_of g_text_of
  have ed : (PyData.str (catS [numS n, "/", namesS ms])) = .str (headS n ms) := rfl
  simp [start0, l1, j1, idx_g0, f0, f1, ch, ed, l2, ad, j2]
end MP


namespace MP
open PySem L2 FE PL
/-! ## texts by their signs -/
def tx (a : List Nat) : Str := ⟨a.toArray⟩
theorem tl_tx (a : List Nat) : TL.tl (tx a) = a := rfl
theorem tx_tl (x : Str) : tx (TL.tl x) = x := SX.S_tl x
theorem tx_len (a : List Nat) : (tx a).length = a.length := SX.S_len a
theorem tx_beq (a b : List Nat) : (tx a == tx b) = (a == b) := SX.S_beq a b
theorem tx_cat (a b : List Nat) : tx a ++ tx b = tx (a ++ b) := SX.S_cat a b
theorem szM : szMax = 8000000 := szMax_eq
theorem at_nat {α : Type} {a : List α} {k : Nat} : L2.atI a (k : Int) = a[k]? := by
  unfold L2.atI L2.ixN
  rw [if_pos (by omega)]
  by_cases h : k < a.length
  · rw [if_pos (by omega)]; simp
  · rw [if_neg (by omega)]; simp [List.getElem?_eq_none (show a.length ≤ k by omega)]
theorem idx_tx {a : List Nat} {k c : Nat} (h : a.length ≤ 8000000) (hc : a[k]? = some c) : idxD (.str (tx a)) (.int (k : Int)) = some (.str (tx [c])) := by
  show (if (tx a).length ≤ szMax then (L2.atI (tx a).cps.toList (k : Int)).map fun c => PyData.str ⟨#[c]⟩ else none) = _
  rw [if_pos (by rw [tx_len, szM]; exact h)]
  show (L2.atI a (k : Int)).map _ = _
  rw [at_nat, hc]; rfl
theorem cut_tx (a : List Nat) (lo hi : Option Int) : cutS (tx a) lo hi = tx (cutL a lo hi) := by
  unfold cutS cutL
  rw [tx_len]; rfl
theorem sl_tx {a : List Nat} {lo hi : Option Int} (h : a.length ≤ 8000000) : sliceSD (.str (tx a)) lo hi = some (.str (tx (cutL a lo hi))) := by
  rw [← cut_tx]
  exact if_pos (by rw [tx_len, szM]; exact h)
theorem add_tx {a b : List Nat} (h : a.length + b.length ≤ 8000000) : addD (.str (tx a)) (.str (tx b)) = some (.str (tx (a ++ b))) := by
  rw [← tx_cat]
  exact if_pos (by rw [tx_len, tx_len, szM]; exact h)
theorem sg_tx (a : List Nat) : signsOf (.str (tx a)) = some (a.map fun c => .str (tx [c])) := rfl
theorem len_tx {a : List Nat} (h : a.length ≤ 8000000) : lenD (.str (tx a)) = some (.int a.length) := by
  show (if (tx a).length ≤ szMax then some (PyData.int (tx a).length) else none) = _
  rw [if_pos (by rw [tx_len, szM]; exact h), tx_len]
/-- the tokens of a text -/
def tkn (a : List Nat) : List (List Nat) := TL.spl [32] 0 [] a
theorem blank : (" " : Str) = tx [32] := rfl
theorem spl_tx {a : List Nat} (h : a.length ≤ 7999998) : splitD " " (.str (tx a)) = some (.list ((tkn a).map fun p => .str (tx p))) := by
  have e : Txt.split (tx a) (tx [32]) = (tkn a).map tx := SX.split_S (by simp) (by decide)
  rw [blank]
  show (if ((tx [32]).length == 0) = false ∧ (tx a).length + 2 ≤ szMax then some (PyData.list ((Txt.split (tx a) (tx [32])).map .str)) else none) = _
  rw [if_pos ⟨by rw [tx_len]; rfl, by rw [tx_len, szM]; omega⟩, e, List.map_map]
  rfl
theorem pre_one {c : Nat} {r : List Nat} : TL.pre [32] (c :: r) = (c == 32) := by
  unfold TL.pre
  simp
theorem spl_ne : ∀ (a acc : List Nat), TL.spl [32] 0 acc a ≠ []
  | [], acc => by rw [TL.spl_nil]; simp
  | c :: r, acc => by
    by_cases h : c = 32
    · rw [TL.spl_hit (by rw [pre_one, h]; rfl)]; simp
    · rw [TL.spl_miss (by rw [pre_one]; simpa using h)]; exact spl_ne r _
theorem joinL_cons {p : List Nat} {q : List (List Nat)} (h : q ≠ []) : TL.joinL [32] (p :: q) = p ++ (32 :: TL.joinL [32] q) := by
  cases q with
  | nil => exact absurd rfl h
  | cons x q => rfl
theorem join_spl : ∀ (a acc : List Nat), TL.joinL [32] (TL.spl [32] 0 acc a) = acc ++ a
  | [], acc => by rw [TL.spl_nil]; simp [TL.joinL]
  | c :: r, acc => by
    by_cases h : c = 32
    · subst h
      rw [TL.spl_hit (by rw [pre_one]; rfl)]
      show TL.joinL [32] (acc :: TL.spl [32] 0 [] r) = _
      rw [joinL_cons (spl_ne r [])]
      have := join_spl r []
      rw [List.nil_append] at this
      show acc ++ (32 :: TL.joinL [32] (TL.spl [32] 0 [] r)) = _
      rw [this]
    · rw [TL.spl_miss (by rw [pre_one]; simpa using h), join_spl r (acc ++ [c])]
      simp
theorem join_tkn (a : List Nat) : TL.joinL [32] (tkn a) = a := join_spl a []
theorem tkn_join {ps : List (List Nat)} (hne : ps ≠ []) (h : ∀ p ∈ ps, 32 ∉ p) : tkn (TL.joinL [32] ps) = ps := SX.spl_join hne h
theorem tkn_ne (a : List Nat) : tkn a ≠ [] := spl_ne a []
/-- signs and lengths of tokens -/
theorem tkn_mem {a p : List Nat} (hp : p ∈ tkn a) : (∀ c ∈ p, c ∈ a) ∧ p.length ≤ a.length := by
  have h : ∀ (ps : List (List Nat)), p ∈ ps → (∀ c ∈ p, c ∈ TL.joinL [32] ps) ∧ p.length ≤ (TL.joinL [32] ps).length := by
    intro ps
    induction ps with
    | nil => intro h; cases h
    | cons q ps ih =>
      intro h
      by_cases z : ps = []
      · subst z
        rw [List.mem_singleton] at h
        subst h
        exact ⟨fun c hc => hc, Nat.le_refl _⟩
      · rw [joinL_cons z]
        rcases List.mem_cons.mp h with rfl | h
        · exact ⟨fun c hc => List.mem_append_left _ hc, by rw [List.length_append]; omega⟩
        · obtain ⟨h1, h2⟩ := ih h
          exact ⟨fun c hc => List.mem_append_right _ (List.mem_cons_of_mem _ (h1 c hc)), by rw [List.length_append, List.length_cons]; omega⟩
  have := h (tkn a) hp
  rwa [join_tkn] at this
theorem tkn_len (a : List Nat) : (tkn a).length ≤ a.length + 1 := by
  have h : ∀ (a acc : List Nat), (TL.spl [32] 0 acc a).length ≤ a.length + 1 := by
    intro a
    induction a with
    | nil => intro acc; rw [TL.spl_nil]; simp
    | cons c r ih =>
      intro acc
      by_cases h : c = 32
      · rw [TL.spl_hit (by rw [pre_one, h]; rfl), List.length_cons, List.length_cons]
        have := ih []
        exact Nat.succ_le_succ this
      · rw [TL.spl_miss (by rw [pre_one]; simpa using h), List.length_cons]
        exact Nat.le_trans (ih _) (by omega)
  exact h a []
/-- signs that a machine has -/
def okS (a : List Nat) : Prop := ∀ c ∈ a, c < 1114112
theorem sOk {a : List Nat} (h : okS a) : PyData.strOk (tx a) = true := by
  unfold PyData.strOk
  rw [Array.all_eq_true']
  intro c hc
  exact decide_eq_true (h c (by simpa [tx] using hc))
theorem shT {a : List Nat} (h : okS a) : SeqAt.shaped (.str (tx a)) = true := by
  show (PyData.strOk (tx a) && decide (0 ≤ 64)) = true
  rw [sOk h]; rfl
theorem ne_tx {a b : List Nat} (ha : okS a) (hb : okS b) : neD (.str (tx a)) (.str (tx b)) = some (.bool (!(a == b))) := by
  rw [neD_str (shT ha) (shT hb), tx_beq]
theorem eq_tx {a b : List Nat} (ha : okS a) (hb : okS b) : eqD (.str (tx a)) (.str (tx b)) = some (.bool (a == b)) := by
  rw [eqD_str (shT ha) (shT hb), tx_beq]
def digs : List Nat := [48, 49, 50, 51, 52, 53, 54, 55, 56, 57]
def dg (c : Nat) : Bool := decide (c ∈ digs)
theorem digs_tx : ("0123456789" : Str) = tx digs := rfl
theorem has_dig (c : Nat) : hasS (tx [c]) "0123456789" = dg c := by
  rw [digs_tx]
  exact SX.in_one digs c
theorem dg_iff {c : Nat} : dg c = true ↔ 48 ≤ c ∧ c ≤ 57 := by
  unfold dg digs
  simp
  omega
theorem idx_dig {c : Nat} (h : dg c = true) : sidxD "0123456789" (.str (tx [c])) = some (.int ((c : Int) - 48)) := by
  obtain ⟨h1, h2⟩ := dg_iff.mp h
  have : c = 48 ∨ c = 49 ∨ c = 50 ∨ c = 51 ∨ c = 52 ∨ c = 53 ∨ c = 54 ∨ c = 55 ∨ c = 56 ∨ c = 57 := by omega
  have e : ∀ n : Nat, n < 10 → Builtin.Str.occurrences (tx digs) (tx [48 + n]) 0 (tx digs).length 1 = [n] := by decide +kernel
  have z : c = 48 + (c - 48) := by omega
  rw [digs_tx]
  show (match Builtin.Str.occurrences (tx digs) (tx [c]) 0 (tx digs).length 1 with
    | i :: _ => some (PyData.int (i : Nat))
    | [] => none) = _
  have e' := e (c - 48) (by omega)
  rw [← z] at e'
  rw [e']
  show some (PyData.int ((c - 48 : Nat) : Int)) = _
  congr 2
  omega
end MP


namespace MP
open PySem L2 FE PL
theorem cut_from {α : Type} (xs : List α) (k : Nat) : cutL xs (some (k : Int)) none = xs.drop k := by
  unfold cutL
  have e2 : HT.sIx xs.length xs.length none = xs.length := rfl
  by_cases h : k ≤ xs.length
  · have e1 : HT.sIx xs.length 0 (some (k : Int)) = k := by simp only [HT.sIx]; split <;> omega
    rw [e1, e2, List.take_of_length_le (by rw [List.length_drop]; omega)]
  · have e1 : HT.sIx xs.length 0 (some (k : Int)) = xs.length := by simp only [HT.sIx]; split <;> omega
    rw [e1, e2, List.drop_length, List.drop_of_length_le (by omega)]
    simp
theorem raiseL_ap {f : Rho → R D} {ρ : Rho} : raiseL f ρ = (f ρ).out fun d => .exc ⟨7, some d⟩ := (rfl)
theorem inS_ap {neg : Bool} {i j : Str} : inSD neg (.str i) (.str j) = some (.bool (if neg then !hasS i j else hasS i j)) := (rfl)
theorem sliceSF_ap {f : Rho → R D} {l u : Rho → R (Option Int)} {ρ : Rho} : sliceSF f l u ρ = (f ρ >>= fun d => l ρ >>= fun a => u ρ >>= fun b => R.of (sliceSD d a b)) := (rfl)
theorem signF_ap {f : Rho → R D} {ρ : Rho} : signF f ρ = (f ρ >>= fun d => R.of (signsOf d)) := (rfl)
/-! ## the parts of a text -/
def headOk : List Nat → Bool
  | c0 :: c1 :: r => (c1 == 47) && (c0 :: r).all dg
  | _ => false
def tokOk : List Nat → Bool
  | [a, b, c] => (b == 45) && dg a && dg c
  | _ => false
def vl (c : Nat) : Int := (c : Int) - 48
def edOf (t : List Nat) : Ed := (vl (t.getD 0 0), vl (t.getD 2 0))
def headC : Rho → R Bool := (orT (asB (op2 ltD (fn1 lenD (gv 2)) (kI 2))) (orT (asB (op2 neD (op2 idxD (gv 2) (kI 1)) (kS "/"))) (tru (lE (lcF (signF (op2 addD (sliceSF (gv 2) nP (someP (kI 1))) (sliceSF (gv 2) (someP (kI 2)) nP))) (tg1 3) (asB (op2 (inSD true) (gv 3) (kS "0123456789"))) (gv 3) [3])))))
theorem slash : ("/" : Str) = tx [47] := rfl
theorem dash : ("-" : Str) = tx [45] := rfl
theorem ok1 {c : Nat} (h : c < 1114112) : okS [c] := fun x hx => by rw [List.mem_singleton.mp hx]; exact h
theorem head_at {x0 x1 x4 x5 x6 x7 x8 : Option SV} {f : List Nat} (h : okS f) (hl : f.length ≤ 1000000) : headC [x0, x1, some (.sh (.str (tx f))), none, x4, x5, x6, x7, x8] = .ok (!headOk f) := by
  have ln := len_tx (a := f) (by omega)
  unfold headC
  match f, h, hl, ln with
  | [], _, _, ln => simp [ln, headOk]
  | [c], _, _, ln => simp [ln, headOk]
  | c0 :: c1 :: r, h, hl, ln =>
    have i1 : idxD (.str (tx (c0 :: c1 :: r))) (.int 1) = some (.str (tx [c1])) := idx_tx (k := 1) (by omega) rfl
    have n1 := ne_tx (a := [c1]) (b := [47]) (ok1 (h c1 (by simp))) (ok1 (by decide))
    have lt : ¬ ((r.length : Int) + 1 + 1 < 2) := by omega
    cases hc : (c1 == 47) with
    | false => 
      have : ([c1] == [47]) = false := by simpa using hc
      rw [this] at n1
      simp [ln, lt, i1, slash, n1, headOk, hc]
    | true =>
      have : ([c1] == [47]) = true := by simpa using hc
      rw [this] at n1
      have s1 := sl_tx (a := c0 :: c1 :: r) (lo := none) (hi := some 1) (by omega)
      have s2 := sl_tx (a := c0 :: c1 :: r) (lo := some 2) (hi := none) (by omega)
      rw [cut_to _ (by decide)] at s1
      rw [show (2 : Int) = ((2 : Nat) : Int) from rfl, cut_from] at s2
      have ad : addD (.str (tx [c0])) (.str (tx r)) = some (.str (tx (c0 :: r))) := add_tx (a := [c0]) (b := r) (by simp at hl ⊢; omega)
      have s1' : sliceSD (.str (tx (c0 :: c1 :: r))) none (some 1) = some (.str (tx [c0])) := s1
      have s2' : sliceSD (.str (tx (c0 :: c1 :: r))) (some 2) none = some (.str (tx r)) := s2
      have lc : lcF (signF (op2 addD (sliceSF (gv 2) nP (someP (kI 1))) (sliceSF (gv 2) (someP (kI 2)) nP))) (tg1 3) (asB (op2 (inSD true) (gv 3) (kS "0123456789"))) (gv 3) [3] [x0, x1, some (.sh (.str (tx (c0 :: c1 :: r)))), none, x4, x5, x6, x7, x8] = .ok (((c0 :: r).filter fun c => !dg c).map fun c => .str (tx [c])) :=
        lcF_map (α := Nat) (xs := c0 :: r) (g := fun c => .str (tx [c])) (p := fun c => !dg c) (f := fun c => .str (tx [c])) (fun c => [x0, x1, some (.sh (.str (tx (c0 :: c1 :: r)))), some (.sh (.str (tx [c]))), x4, x5, x6, x7, x8])
          (by simp [signF_ap, sliceSF_ap, s1', s2', ad, sg_tx]) (by rw [szM]; simp at hl ⊢; omega) fun c hc => ⟨by simp, by simp [inS_ap, has_dig], fun _ => by simp⟩
      have em : (((c0 :: r).filter fun c => !dg c).map fun c => (PyData.str (tx [c]) : D)).isEmpty = (c0 :: r).all dg := by
        rw [List.isEmpty_map]
        cases hh : (c0 :: r).all dg with
        | true => rw [List.filter_eq_nil_iff.mpr fun c hc => by simp [List.all_eq_true.mp hh c hc]]; rfl
        | false =>
          cases q : (c0 :: r).filter fun c => !dg c with
          | nil => exact absurd (List.all_eq_true.mpr fun c hc => by simpa using List.filter_eq_nil_iff.mp q c hc) (by rw [hh]; simp)
          | cons x xs => rfl
      simp [ln, lt, i1, slash, n1, lc, em, headOk, hc, -List.map_cons]
def tokB : Rho → Out := (seqS (ifS (orT (asB (op2 neD (fn1 lenD (gv 6)) (kI 3))) (orT (asB (op2 neD (op2 idxD (gv 6) (kI 1)) (kS "-"))) (orT (asB (op2 (inSD true) (op2 idxD (gv 6) (kI 0)) (kS "0123456789"))) (asB (op2 (inSD true) (op2 idxD (gv 6) (kI 2)) (kS "0123456789")))))) (raiseL (op2 addD (gv 5) (kI 1))) Out.nx) (mutF 4 appM (tupF (aC (fn1 (sidxD "0123456789") (op2 idxD (gv 6) (kI 0))) (aC (fn1 (sidxD "0123456789") (op2 idxD (gv 6) (kI 2))) aN)))))
theorem tok_bad {x0 x1 x2 x3 x4 x7 x8 : Option SV} {t : List Nat} {k : Int} (h : okS t) (hl : t.length ≤ 1000000) (hb : tokOk t = false) : tokB [x0, x1, x2, x3, x4, some (.sh (.int k)), some (.sh (.str (tx t))), x7, x8] = .exc ⟨7, some (.int (k + 1))⟩ := by
  have ln := len_tx (a := t) (by omega)
  unfold tokB
  by_cases h3 : t.length = 3
  · match t, h3, h, hb, ln with
    | [a, b, c], _, h, hb, ln =>
      have i0 : idxD (.str (tx [a, b, c])) (.int 0) = some (.str (tx [a])) := idx_tx (k := 0) (by omega) rfl
      have i1 : idxD (.str (tx [a, b, c])) (.int 1) = some (.str (tx [b])) := idx_tx (k := 1) (by omega) rfl
      have i2 : idxD (.str (tx [a, b, c])) (.int 2) = some (.str (tx [c])) := idx_tx (k := 2) (by omega) rfl
      have n1 := ne_tx (a := [b]) (b := [45]) (ok1 (h b (by simp))) (ok1 (by decide))
      have eb : ([b] == [45]) = (b == 45) := by simp
      rw [eb] at n1
      unfold tokOk at hb
      cases hb1 : (b == 45) <;> cases ha : dg a <;> cases hc : dg c <;> simp [hb1, ha, hc] at hb <;> simp [ln, i0, i1, i2, dash, n1, hb1, inS_ap, has_dig, ha, hc, raiseL_ap]
  · have n3 : ¬ ((t.length : Int) = 3) := by omega
    simp [ln, n3, raiseL_ap]
theorem tok_ok {x0 x1 x2 x3 x7 x8 : Option SV} {t : List Nat} {k : Int} {E : List D} (h : okS t) (hE : E.length < 1000000) (hb : tokOk t = true) : tokB [x0, x1, x2, x3, some (.ow E), some (.sh (.int k)), some (.sh (.str (tx t))), x7, x8] = .nx [x0, x1, x2, x3, some (.ow (E ++ [eD (edOf t)])), some (.sh (.int k)), some (.sh (.str (tx t))), x7, x8] := by
  unfold tokOk at hb
  split at hb
  · rename_i a b c
    have ln := len_tx (a := [a, b, c]) (by simp)
    have i0 : idxD (.str (tx [a, b, c])) (.int 0) = some (.str (tx [a])) := idx_tx (k := 0) (by simp) rfl
    have i1 : idxD (.str (tx [a, b, c])) (.int 1) = some (.str (tx [b])) := idx_tx (k := 1) (by simp) rfl
    have i2 : idxD (.str (tx [a, b, c])) (.int 2) = some (.str (tx [c])) := idx_tx (k := 2) (by simp) rfl
    obtain ⟨⟨hb1, ha⟩, hc⟩ : ((b == 45) = true ∧ dg a = true) ∧ dg c = true := by simpa using hb
    have n1 := ne_tx (a := [b]) (b := [45]) (ok1 (h b (by simp))) (ok1 (by decide))
    have eb : ([b] == [45]) = (b == 45) := by simp
    rw [eb, hb1] at n1
    have ap : appM E (.tuple [.int ((a : Int) - 48), .int ((c : Int) - 48)]) = some (E ++ [eD (edOf [a, b, c])]) := if_pos (by rw [szM]; omega)
    have ck : chk 2 = .ok () := chk_ok (by decide)
    unfold tokB
    simp [ln, i0, i1, i2, dash, n1, inS_ap, has_dig, ha, hc, raiseL_ap, idx_dig ha, idx_dig hc, ck, ap]
  · cases hb
/-! ### the loop -/
abbrev strL (ts : List (List Nat)) : List D := ts.map fun p => .str (tx p)
theorem loop_ok {x0 x1 x2 x3 x7 x8 : Option SV} : ∀ (ts : List (List Nat)) (k : Nat) (E : List D), (∀ t ∈ ts, okS t ∧ tokOk t = true) → E.length + ts.length ≤ 100000 →
    forGo (tg2 5 6) tokB [5, 6] [x0, x1, x2, x3, some (.ow E), none, none, x7, x8] (enumD k (strL ts)) = .nx [x0, x1, x2, x3, some (.ow (E ++ ts.map fun t => eD (edOf t))), none, none, x7, x8]
  | [], k, E, _, _ => by
    rw [List.map_nil, List.append_nil]; rfl
  | t :: ts, k, E, h, hl => by
    obtain ⟨h1, h2⟩ := h t List.mem_cons_self
    rw [List.length_cons] at hl
    have ih := loop_ok (x0 := x0) (x1 := x1) (x2 := x2) (x3 := x3) (x7 := x7) (x8 := x8) ts (k + 1) (E ++ [eD (edOf t)]) (fun t' ht => h t' (List.mem_cons_of_mem _ ht)) (by simp; omega)
    have b := tok_ok (x0 := x0) (x1 := x1) (x2 := x2) (x3 := x3) (x7 := x7) (x8 := x8) (k := (k : Int)) (E := E) h1 (by omega) h2
    rw [List.append_assoc] at ih
    show forGo (tg2 5 6) tokB [5, 6] _ (.tuple [.int (k : Int), .str (tx t)] :: enumD (k + 1) (strL ts)) = _
    unfold forGo
    have e : tg2 5 6 (.tuple [.int (k : Int), .str (tx t)]) [x0, x1, x2, x3, some (.ow E), none, none, x7, x8] = some [x0, x1, x2, x3, some (.ow E), some (.sh (.int (k : Int))), some (.sh (.str (tx t))), x7, x8] := rfl
    rw [e]
    simp only
    rw [b]
    simp only
    rw [List.map_cons]
    exact ih
theorem loop_bad {x0 x1 x2 x3 x7 x8 : Option SV} {bd : List Nat} {ts2 : List (List Nat)} (hb : okS bd ∧ bd.length ≤ 1000000 ∧ tokOk bd = false) : ∀ (ts : List (List Nat)) (k : Nat) (E : List D), (∀ t ∈ ts, okS t ∧ tokOk t = true) → E.length + ts.length ≤ 100000 →
    forGo (tg2 5 6) tokB [5, 6] [x0, x1, x2, x3, some (.ow E), none, none, x7, x8] (enumD k (strL (ts ++ bd :: ts2))) = .exc ⟨7, some (.int ((k : Int) + ts.length + 1))⟩
  | [], k, E, _, _ => by
    have b := tok_bad (x0 := x0) (x1 := x1) (x2 := x2) (x3 := x3) (x4 := some (.ow E)) (x7 := x7) (x8 := x8) (k := (k : Int)) hb.1 hb.2.1 hb.2.2
    show forGo (tg2 5 6) tokB [5, 6] _ (.tuple [.int (k : Int), .str (tx bd)] :: enumD (k + 1) (strL ts2)) = _
    unfold forGo
    have e : tg2 5 6 (.tuple [.int (k : Int), .str (tx bd)]) [x0, x1, x2, x3, some (.ow E), none, none, x7, x8] = some [x0, x1, x2, x3, some (.ow E), some (.sh (.int (k : Int))), some (.sh (.str (tx bd))), x7, x8] := rfl
    rw [e]
    simp only
    rw [b]
    simp
  | t :: ts, k, E, h, hl => by
    obtain ⟨h1, h2⟩ := h t List.mem_cons_self
    rw [List.length_cons] at hl
    have ih := loop_bad (x0 := x0) (x1 := x1) (x2 := x2) (x3 := x3) (x7 := x7) (x8 := x8) (ts2 := ts2) hb ts (k + 1) (E ++ [eD (edOf t)]) (fun t' ht => h t' (List.mem_cons_of_mem _ ht)) (by simp; omega)
    have b := tok_ok (x0 := x0) (x1 := x1) (x2 := x2) (x3 := x3) (x7 := x7) (x8 := x8) (k := (k : Int)) (E := E) h1 (by omega) h2
    show forGo (tg2 5 6) tokB [5, 6] _ (.tuple [.int (k : Int), .str (tx t)] :: enumD (k + 1) (strL (ts ++ bd :: ts2))) = _
    unfold forGo
    have e : tg2 5 6 (.tuple [.int (k : Int), .str (tx t)]) [x0, x1, x2, x3, some (.ow E), none, none, x7, x8] = some [x0, x1, x2, x3, some (.ow E), some (.sh (.int (k : Int))), some (.sh (.str (tx t))), x7, x8] := rfl
    rw [e]
    simp only
    rw [b]
    simp only
    refine Eq.trans ih ?_
    rw [List.length_cons]
    have : ((k + 1 : Nat) : Int) + (ts.length : Int) + 1 = (k : Int) + ((ts.length + 1 : Nat) : Int) + 1 := by omega
    rw [this]
def isSt : D → Bool
  | .str _ => true
  | _ => false
theorem isi_str : ∀ d : D, isiD "str" d = some (.bool (isSt d))
  | .none => by first | rfl | decide +kernel
  | .bool _ => by first | rfl | decide +kernel
  | .int _ => by first | rfl | decide +kernel
  | .str _ => by first | rfl | decide +kernel
  | .list _ => by first | rfl | decide +kernel
  | .tuple _ => by first | rfl | decide +kernel
  | .dict _ => by first | rfl | decide +kernel
theorem parse_no {v : D} (h : isSt v = false) : sem_parse_graph [v] = .exc ⟨7, some .none⟩ := by
  unfold sem_parse_graph g_parse_graph
  simp [start0, isi_str, h, raiseL_ap]
/-- what holds of a text that is parsed -/
structure Txt_ (a : List Nat) (f : List Nat) (ts : List (List Nat)) : Prop where
  ok : okS a
  few : a.length ≤ 1000
  tk : tkn a = f :: ts
section
variable {a f : List Nat} {ts : List (List Nat)}
theorem Txt_.okf (h : Txt_ a f ts) : okS f ∧ f.length ≤ 1000 := by
  have := tkn_mem (a := a) (p := f) (by rw [h.tk]; exact List.mem_cons_self)
  exact ⟨fun c hc => h.ok c (this.1 c hc), Nat.le_trans this.2 h.few⟩
theorem Txt_.okt (h : Txt_ a f ts) {t : List Nat} (ht : t ∈ ts) : okS t ∧ t.length ≤ 1000 := by
  have := tkn_mem (a := a) (p := t) (by rw [h.tk]; exact List.mem_cons_of_mem _ ht)
  exact ⟨fun c hc => h.ok c (this.1 c hc), Nat.le_trans this.2 h.few⟩
theorem Txt_.len (h : Txt_ a f ts) : ts.length ≤ 1000 := by
  have := tkn_len a
  rw [h.tk, List.length_cons] at this
  have := h.few
  omega
theorem Txt_.spl (h : Txt_ a f ts) : splitD " " (.str (tx a)) = some (.list (strL (f :: ts))) := by
  rw [spl_tx (by have := h.few; omega), h.tk]
theorem idx_0 {d : D} {ds : List D} : idxD (.list (d :: ds)) (.int 0) = some d := by
  have : idxD (.tuple (d :: ds)) (.int ((0 : Nat) : Int)) = some d := idx_at rfl
  exact this
theorem parse_bad0 (h : Txt_ a f ts) (hf : headOk f = false) : sem_parse_graph [.str (tx a)] = .exc ⟨7, some (.int 0)⟩ := by
  have sp := h.spl
  have hh := head_at (x0 := some (.sh (.str (tx a)))) (x1 := some (.sh (.list (strL (f :: ts))))) (x4 := none) (x5 := none) (x6 := none) (x7 := none) (x8 := none) h.okf.1 (by have := h.okf.2; omega)
  unfold headC at hh
  rw [hf] at hh
  unfold sem_parse_graph g_parse_graph
  simp [start0, isi_str, isSt, sp, idx_0] at hh ⊢
  simp [hh, raiseL_ap]
theorem parse_badk {ts1 ts2 : List (List Nat)} {bd : List Nat} (h : Txt_ a f (ts1 ++ bd :: ts2)) (hf : headOk f = true) (h1 : ∀ t ∈ ts1, tokOk t = true) (h2 : tokOk bd = false) : sem_parse_graph [.str (tx a)] = .exc ⟨7, some (.int (ts1.length + 1))⟩ := by
  have sp := h.spl
  have hh := head_at (x0 := some (.sh (.str (tx a)))) (x1 := some (.sh (.list (strL (f :: (ts1 ++ bd :: ts2)))))) (x4 := none) (x5 := none) (x6 := none) (x7 := none) (x8 := none) h.okf.1 (by have := h.okf.2; omega)
  unfold headC at hh
  rw [hf] at hh
  have hb := h.okt (t := bd) (by simp)
  have lp := loop_bad (x0 := some (.sh (.str (tx a)))) (x1 := some (.sh (.list (strL (f :: (ts1 ++ bd :: ts2)))))) (x2 := some (.sh (.str (tx f)))) (x3 := none) (x7 := none) (x8 := none) (bd := bd) (ts2 := ts2) ⟨hb.1, by have := hb.2; omega, h2⟩ ts1 0 [] (fun t ht => ⟨(h.okt (by simp [ht])).1, h1 t ht⟩) (by have := h.len; simp at this ⊢; omega)
  have ef : enumF (sliceF (gv 1) (someP (kI 1)) nP) [some (.sh (.str (tx a))), some (.sh (.list (strL (f :: (ts1 ++ bd :: ts2))))), some (.sh (.str (tx f))), none, some (.ow []), none, none, none, none] = .ok (enumD 0 (strL (ts1 ++ bd :: ts2))) := by
    have c := cut1 (strL (f :: (ts1 ++ bd :: ts2)))
    have c' : cutL (strL (f :: (ts1 ++ bd :: ts2))) (some 1) none = strL (ts1 ++ bd :: ts2) := c
    unfold enumF
    simp [c', -List.map_cons, -List.map_append]
  have fo : forF (enumF (sliceF (gv 1) (someP (kI 1)) nP)) (tg2 5 6) tokB [5, 6] [some (.sh (.str (tx a))), some (.sh (.list (strL (f :: (ts1 ++ bd :: ts2))))), some (.sh (.str (tx f))), none, some (.ow []), none, none, none, none] = .exc ⟨7, some (.int (ts1.length + 1))⟩ := by
    rw [forF_ap, ef, ok_out]
    refine Eq.trans lp ?_
    rw [show ((0 : Nat) : Int) + (ts1.length : Int) + 1 = (ts1.length : Int) + 1 by omega]
  unfold tokB at fo
  have ck : chk 0 = .ok () := chk_ok (by decide)
  unfold sem_parse_graph g_parse_graph
  simp [-forF_ap, start0, isi_str, isSt, sp, idx_0, -List.map_append] at hh fo ⊢
  simp [-forF_ap, hh, raiseL_ap, ck, fo, -List.map_append]
end
/-! ## graphs and marks that are read -/
theorem isg_any (n : Int) (es : List Ed) : ∃ b, sem_is_graph [gD n es] = .ok (.bool b) ∧ (b = true ↔ VG n es) := by
  by_cases g : VG n es
  · exact ⟨true, sp_is_graph_ok g, by simp [g]⟩
  · refine ⟨false, ?_, by simp [g]⟩
    by_cases hn : inR (.int n) 2 6 = true
    · by_cases hl : es.length ≤ 9
      · have g4 : ¬ (9 < (es.length : Int)) := by omega
        have h1 : lcF (seqF (op2 idxD (gv 0) (kI 1))) (tg1 1) (notT (tru (callF 2 sem_is_edge (aC (op2 idxD (gv 0) (kI 0)) (aC (gv 1) aN))))) (gv 1) [1] [some (.sh (gD n es)), none, none] = .ok ((es.filter fun e => !edgeD n (eD e)).map eD) := by
          rw [lcF_map (α := Ed) (xs := es) (g := eD) (p := fun e => !edgeD n (eD e)) (f := eD) (fun e => [some (.sh (gD n es)), some (.sh (eD e)), none]) (by simp) (len_le_sz hl (by decide)) fun e he => ⟨by simp, by simp [sp_is_edge], fun _ => by simp⟩]
        by_cases ok : ∀ e ∈ es, 0 ≤ e.1 ∧ e.1 < e.2 ∧ e.2 < n
        · have h : ¬ es.Pairwise leE := fun z => g ⟨(of_decide_eq_true (inR_int ▸ hn)).1, (of_decide_eq_true (inR_int ▸ hn)).2, hl, ok, z⟩
          have e0 : es.filter (fun e => !edgeD n (eD e)) = [] := List.filter_eq_nil_iff.mpr fun e he => by rw [edgeD_eD]; simpa using ok e he
          rw [e0, List.map_nil] at h1
          have h2 : lcF (zipF (op2 idxD (gv 0) (kI 1)) (sliceF (op2 idxD (gv 0) (kI 1)) (someP (kI 1)) nP)) (tg2 1 2) (asB (op2 gtA (gv 1) (gv 2))) (kI 1) [1, 2] [some (.sh (gD n es)), none, none] = .ok (((adj es).filter fun p => ltE p.2 p.1).map fun _ => .int 1) :=
            lcF_map (α := Ed × Ed) (xs := adj es) (g := fun p => .tuple [eD p.1, eD p.2]) (p := fun p => ltE p.2 p.1) (f := fun _ => .int 1) (fun p => [some (.sh (gD n es)), some (.sh (eD p.1)), some (.sh (eD p.2))])
              ((zipF_tup (xs := es.map eD) (ys := cutL (es.map eD) (some 1) none) (by simp) (by simp)).trans (by rw [zip_adj])) (len_le_sz (Nat.le_trans (adj_len es) hl) (by decide)) fun p hp => ⟨by simp, by
                simp [gtA_eD], fun _ => by simp⟩
          have h3 : (adj es).filter (fun p => ltE p.2 p.1) ≠ [] := fun z => h ((adj_pairwise (r := leE) fun a b c => leE_trans).mp fun p hp => leE_iff.mpr (by simpa using List.filter_eq_nil_iff.mp z p hp))
          have h3' : (((adj es).filter fun p => ltE p.2 p.1).map fun _ => PyData.int 1).isEmpty = false := by
            rw [List.isEmpty_map]
            cases q : (adj es).filter fun p => ltE p.2 p.1 with
            | nil => exact absurd q h3
            | cons x xs => rfl
          unfold sem_is_graph g_is_graph
          simp [start0, h1, h2, sp_in_range, hn, g4, h3']
        · have h2 : ((es.filter fun e => !edgeD n (eD e)).map eD).isEmpty = false := by
            rw [List.isEmpty_map]
            cases q : es.filter fun e => !edgeD n (eD e) with
            | nil => exact absurd (fun e he => by
                have := List.filter_eq_nil_iff.mp q e he
                rw [edgeD_eD] at this
                simpa using this) ok
            | cons x xs => rfl
          unfold sem_is_graph g_is_graph
          simp [start0, h1, h2, sp_in_range, hn, g4]
      · have g4 : 9 < (es.length : Int) := by omega
        unfold sem_is_graph g_is_graph
        simp [start0, sp_in_range, hn, g4]
    · have hn' : inR (.int n) 2 6 = false := by simpa using hn
      unfold sem_is_graph g_is_graph
      simp [start0, sp_in_range, hn']
theorem ism_any {n : Int} {es : List Ed} {ms : List Int} (hl : ms.length ≤ 1000) : ∃ b, sem_are_marks [gD n es, iD ms] = .ok (.bool b) ∧ (b = true → VM n ms) := by
  by_cases hr : ∀ v ∈ ms, 0 ≤ v ∧ v < n
  · have h1 := sp_is_rising_in (ns := ms) (c := n) (by omega) hr
    by_cases hp : ms.Pairwise (· < ·)
    · refine ⟨decide (2 ≤ ms.length), ?_, fun h => ⟨⟨hr, hp⟩, of_decide_eq_true h⟩⟩
      unfold sem_are_marks g_are_marks
      have : ((2 : Int) ≤ (ms.length : Int)) ↔ 2 ≤ ms.length := by omega
      simp [start0, h1, hp, this]
    · refine ⟨false, ?_, fun h => by cases h⟩
      unfold sem_are_marks g_are_marks
      simp [start0, h1, hp]
  · refine ⟨false, ?_, fun h => by cases h⟩
    have : ∃ v ∈ ms, ¬ (0 ≤ v ∧ v < n) := by
      refine Classical.byContradiction fun z => hr fun v hv => Classical.byContradiction fun w => z ⟨v, hv, w⟩
    obtain ⟨v, hv, hw⟩ := this
    have h1 := sp_is_rising_out (ds := iL ms) (c := n) (by rw [iL_len]; omega) (d := .int v) (List.mem_map_of_mem hv) (by rw [inR_int, decide_eq_false_iff_not]; omega)
    have h1' : sem_is_rising [iD ms, .int n] = .ok (.bool false) := h1
    unfold sem_are_marks g_are_marks
    simp [start0, h1']
theorem vl_dig {c : Nat} (h : dg c = true) : sidxD "0123456789" (.str (tx [c])) = some (.int (vl c)) := idx_dig h
theorem parse_good {a r : List Nat} {c0 : Nat} {ts : List (List Nat)} (h : Txt_ a (c0 :: 47 :: r) ts) (hf : headOk (c0 :: 47 :: r) = true) (ht : ∀ t ∈ ts, tokOk t = true) :
    (VG (vl c0) (ts.map edOf) ∧ VM (vl c0) (r.map vl) ∧ sem_parse_graph [.str (tx a)] = .ok (.tuple [gD (vl c0) (ts.map edOf), iD (r.map vl)])) ∨
    ((VG (vl c0) (ts.map edOf) → sem_are_marks [gD (vl c0) (ts.map edOf), iD (r.map vl)] = .ok (.bool false)) ∧ sem_parse_graph [.str (tx a)] = .exc ⟨7, some .none⟩) := by
  have sp := h.spl
  have hh := head_at (x0 := some (.sh (.str (tx a)))) (x1 := some (.sh (.list (strL ((c0 :: 47 :: r) :: ts))))) (x4 := none) (x5 := none) (x6 := none) (x7 := none) (x8 := none) h.okf.1 (by have := h.okf.2; omega)
  unfold headC at hh
  rw [hf] at hh
  have hd : dg c0 = true ∧ ∀ c ∈ r, dg c = true := by
    unfold headOk at hf
    simpa using hf
  have lp := loop_ok (x0 := some (.sh (.str (tx a)))) (x1 := some (.sh (.list (strL ((c0 :: 47 :: r) :: ts))))) (x2 := some (.sh (.str (tx (c0 :: 47 :: r))))) (x3 := none) (x7 := none) (x8 := none) ts 0 [] (fun t hm => ⟨(h.okt hm).1, ht t hm⟩) (by have := h.len; simp; omega)
  rw [List.nil_append] at lp
  have ef : enumF (sliceF (gv 1) (someP (kI 1)) nP) [some (.sh (.str (tx a))), some (.sh (.list (strL ((c0 :: 47 :: r) :: ts)))), some (.sh (.str (tx (c0 :: 47 :: r)))), none, some (.ow []), none, none, none, none] = .ok (enumD 0 (strL ts)) := by
    have c := cut1 (strL ((c0 :: 47 :: r) :: ts))
    have c' : cutL (strL ((c0 :: 47 :: r) :: ts)) (some 1) none = strL ts := c
    unfold enumF
    simp [c', -List.map_cons]
  have fo : forF (enumF (sliceF (gv 1) (someP (kI 1)) nP)) (tg2 5 6) tokB [5, 6] [some (.sh (.str (tx a))), some (.sh (.list (strL ((c0 :: 47 :: r) :: ts)))), some (.sh (.str (tx (c0 :: 47 :: r)))), none, some (.ow []), none, none, none, none] = .nx [some (.sh (.str (tx a))), some (.sh (.list (strL ((c0 :: 47 :: r) :: ts)))), some (.sh (.str (tx (c0 :: 47 :: r)))), none, some (.ow ((ts.map edOf).map eD)), none, none, none, none] := by
    rw [forF_ap, ef, ok_out, List.map_map]
    exact lp
  unfold tokB at fo
  have hl := h.okf.2
  have i0 : idxD (.str (tx (c0 :: 47 :: r))) (.int 0) = some (.str (tx [c0])) := idx_tx (k := 0) (by omega) rfl
  have s2 := sl_tx (a := c0 :: 47 :: r) (lo := some 2) (hi := none) (by omega)
  rw [show (2 : Int) = ((2 : Nat) : Int) from rfl, cut_from] at s2
  have s2' : sliceSD (.str (tx (c0 :: 47 :: r))) (some 2) none = some (.str (tx r)) := s2
  have lc : lcF (signF (sliceSF (gv 2) (someP (kI 2)) nP)) (tg1 3) tT (fn1 (sidxD "0123456789") (gv 3)) [3] [some (.sh (.str (tx a))), some (.sh (.list (strL ((c0 :: 47 :: r) :: ts)))), some (.sh (.str (tx (c0 :: 47 :: r)))), none, some (.ow ((ts.map edOf).map eD)), none, none, some (.sh (gD (vl c0) (ts.map edOf))), none] = .ok (iL (r.map vl)) := by
    have := lcF_map (fi := signF (sliceSF (gv 2) (someP (kI 2)) nP)) (u := tg1 3) (t := tT) (e := fn1 (sidxD "0123456789") (gv 3)) (vs := [3]) (ρ := [some (.sh (.str (tx a))), some (.sh (.list (strL ((c0 :: 47 :: r) :: ts)))), some (.sh (.str (tx (c0 :: 47 :: r)))), none, some (.ow ((ts.map edOf).map eD)), none, none, some (.sh (gD (vl c0) (ts.map edOf))), none])
      (α := Nat) (xs := r) (g := fun c => .str (tx [c])) (p := fun _ => true) (f := fun c => .int (vl c)) (fun c => [some (.sh (.str (tx a))), some (.sh (.list (strL ((c0 :: 47 :: r) :: ts)))), some (.sh (.str (tx (c0 :: 47 :: r)))), some (.sh (.str (tx [c]))), some (.ow ((ts.map edOf).map eD)), none, none, some (.sh (gD (vl c0) (ts.map edOf))), none])
      (by simp [signF_ap, sliceSF_ap, s2', sg_tx]) (by rw [szM]; simp at hl; omega) fun c hc => ⟨by simp, rfl, fun _ => by simp [vl_dig (hd.2 c hc)]⟩
    rw [this, List.filter_eq_self.mpr fun _ _ => rfl]
    unfold iL
    rw [List.map_map]; rfl
  have ck : ∀ k : Nat, k ≤ 100 → chk k = .ok () := fun k hk => chk_ok (Nat.le_trans hk (by decide))
  have gE : PyData.tuple [.int (vl c0), .tuple ((ts.map edOf).map eD)] = gD (vl c0) (ts.map edOf) := rfl
  have mE : PyData.tuple (iL (r.map vl)) = iD (r.map vl) := rfl
  obtain ⟨b1, g1, g2⟩ := isg_any (vl c0) (ts.map edOf)
  obtain ⟨b2, m1, m2⟩ := ism_any (n := vl c0) (es := ts.map edOf) (ms := r.map vl) (by simp at hl ⊢; omega)
  have run : sem_parse_graph [.str (tx a)] = if b1 = true ∧ b2 = true then .ok (.tuple [gD (vl c0) (ts.map edOf), iD (r.map vl)]) else .exc ⟨7, some .none⟩ := by
    unfold sem_parse_graph g_parse_graph
    simp [-forF_ap, start0, isi_str, isSt, sp, idx_0, -List.map_map] at hh fo lc ⊢
    simp [-forF_ap, hh, raiseL_ap, ck, fo, i0, vl_dig hd.1, gE, lc, mE, g1, -List.map_map]
    cases b1 <;> cases b2 <;> simp [m1, -List.map_map]
  by_cases hb : b1 = true ∧ b2 = true
  · rw [if_pos hb] at run
    exact Or.inl ⟨g2.mp hb.1, m2 hb.2, run⟩
  · rw [if_neg hb] at run
    refine Or.inr ⟨fun g => ?_, run⟩
    rw [m1]
    cases b2 with
    | false => rfl
    | true => exact absurd ⟨g2.mpr g, rfl⟩ hb
/-! ## the text of what is read -/
theorem num_dig {c : Nat} (h : dg c = true) : numS (vl c) = tx [c] := by
  obtain ⟨h1, h2⟩ := dg_iff.mp h
  have e : ∀ n : Nat, n < 10 → TL.tl (numS (vl (48 + n))) = [48 + n] := by decide +kernel
  have := e (c - 48) (by omega)
  rw [show 48 + (c - 48) = c by omega] at this
  exact TL.ext_tl this
theorem join_tx (x : List Nat) (ps : List (List Nat)) : Txt.join (tx x) (ps.map tx) = tx (TL.joinL x ps) := SX.join_S x ps
theorem joinL_ones : ∀ r : List Nat, TL.joinL [] (r.map fun c => [c]) = r
  | [] => rfl
  | [c] => rfl
  | c :: d :: r => by
    have ih := joinL_ones (d :: r)
    show [c] ++ ([] ++ TL.joinL [] ((d :: r).map fun c => [c])) = _
    rw [ih]; rfl
theorem names_tx {r : List Nat} (h : ∀ c ∈ r, dg c = true) : namesS (r.map vl) = tx r := by
  have e0 : ("" : Str) = tx [] := rfl
  have e : (r.map vl).map numS = (r.map fun c => [c]).map tx := by
    rw [List.map_map, List.map_map]
    exact List.map_congr_left fun c hc => num_dig (h c hc)
  unfold namesS
  rw [e, e0, join_tx, joinL_ones]
theorem head_tx {c0 : Nat} {r : List Nat} (h0 : dg c0 = true) (h : ∀ c ∈ r, dg c = true) : headS (vl c0) (r.map vl) = tx (c0 :: 47 :: r) := by
  unfold headS
  show numS (vl c0) ++ (("/" : Str) ++ (namesS (r.map vl) ++ Str.empty)) = _
  rw [num_dig h0, names_tx h, str_nil, slash, tx_cat, tx_cat]
  rfl
theorem ed_tx {t : List Nat} (h : tokOk t = true) : edS (edOf t) = tx t := by
  unfold tokOk at h
  split at h
  · rename_i a b c
    obtain ⟨⟨hb1, ha⟩, hc⟩ : ((b == 45) = true ∧ dg a = true) ∧ dg c = true := by simpa using h
    have hb2 : b = 45 := by simpa using hb1
    subst hb2
    unfold edS
    show numS (vl a) ++ (("-" : Str) ++ (numS (vl c) ++ Str.empty)) = _
    rw [num_dig ha, num_dig hc, str_nil, dash, tx_cat, tx_cat]
    rfl
  · cases h
theorem txt_tx {c0 : Nat} {r : List Nat} {ts : List (List Nat)} (h0 : dg c0 = true) (h : ∀ c ∈ r, dg c = true) (ht : ∀ t ∈ ts, tokOk t = true) : txtS (vl c0) (ts.map edOf) (r.map vl) = tx (TL.joinL [32] ((c0 :: 47 :: r) :: ts)) := by
  unfold txtS
  have e : (ts.map edOf).map edS = ts.map tx := by
    rw [List.map_map]
    exact List.map_congr_left fun t hm => ed_tx (ht t hm)
  rw [head_tx h0 h, e, blank, ← List.map_cons (f := tx), join_tx]
/-! ### the text that is built -/
def cd (v : Int) : Nat := (v + 48).toNat
theorem cd_dg {v : Int} (h : 0 ≤ v ∧ v ≤ 9) : dg (cd v) = true ∧ vl (cd v) = v := by
  unfold cd vl
  exact ⟨dg_iff.mpr (by omega), by omega⟩
def hdL (n : Int) (ms : List Int) : List Nat := cd n :: 47 :: ms.map cd
def edL (e : Ed) : List Nat := [cd e.1, 45, cd e.2]
theorem joinL_len1 {c : Nat} : ∀ {ps : List (List Nat)}, (∀ p ∈ ps, p.length ≤ c) → (TL.joinL [32] ps).length ≤ ps.length * (c + 1)
  | [], _ => by simp [TL.joinL]
  | p :: ps, h => by
    have h1 := h p List.mem_cons_self
    rw [List.length_cons, Nat.add_mul, Nat.one_mul]
    by_cases z : ps = []
    · subst z
      show p.length ≤ _
      omega
    · rw [joinL_cons z]
      have ih := joinL_len1 (ps := ps) fun q hq => h q (List.mem_cons_of_mem _ hq)
      rw [List.length_append, List.length_cons]
      omega
theorem okS_join : ∀ {ps : List (List Nat)}, (∀ p ∈ ps, okS p) → okS (TL.joinL [32] ps)
  | [], _ => fun c hc => by cases hc
  | p :: ps, h => by
    by_cases z : ps = []
    · subst z
      exact h p List.mem_cons_self
    · rw [joinL_cons z]
      intro c hc
      rcases List.mem_append.mp hc with hc | hc
      · exact h p List.mem_cons_self c hc
      · rcases List.mem_cons.mp hc with rfl | hc
        · decide
        · exact okS_join (ps := ps) (fun q hq => h q (List.mem_cons_of_mem _ hq)) c hc
theorem dg_ok {c : Nat} (h : dg c = true) : c < 1114112 ∧ c ≠ 32 := by
  have := dg_iff.mp h
  omega
theorem tok_small {t : List Nat} (h : tokOk t = true) : okS t ∧ 32 ∉ t ∧ t.length = 3 := by
  unfold tokOk at h
  split at h
  · rename_i a b c
    obtain ⟨⟨hb1, ha⟩, hc⟩ : ((b == 45) = true ∧ dg a = true) ∧ dg c = true := by simpa using h
    have hb2 : b = 45 := by simpa using hb1
    subst hb2
    have a1 := dg_ok ha
    have c1 := dg_ok hc
    refine ⟨fun x hx => ?_, fun hx => ?_, rfl⟩
    · simp at hx
      omega
    · simp at hx
      omega
  · cases h
theorem head_small {c0 : Nat} {r : List Nat} (h0 : dg c0 = true) (h : ∀ c ∈ r, dg c = true) : okS (c0 :: 47 :: r) ∧ 32 ∉ (c0 :: 47 :: r) := by
  have a0 := dg_ok h0
  refine ⟨fun x hx => ?_, fun hx => ?_⟩
  · simp at hx
    rcases hx with rfl | rfl | hx
    · exact a0.1
    · decide
    · exact (dg_ok (h x hx)).1
  · simp at hx
    rcases hx with hx | hx
    · omega
    · exact (dg_ok (h 32 hx)).2 rfl
structure Built (n : Int) (es : List Ed) (ms : List Int) : Prop where
  h0 : dg (cd n) = true
  hv : vl (cd n) = n
  hr : ∀ c ∈ ms.map cd, dg c = true
  hm : (ms.map cd).map vl = ms
  ht : ∀ t ∈ es.map edL, tokOk t = true
  he : (es.map edL).map edOf = es
theorem built {n : Int} {es : List Ed} {ms : List Int} (g : VG n es) (vm : VM n ms) : Built n es ms := by
  have n2 := g.n2
  have n6 := g.n6
  refine ⟨(cd_dg (by omega)).1, (cd_dg (by omega)).2, fun c hc => ?_, ?_, fun t ht => ?_, ?_⟩
  · obtain ⟨v, hv, rfl⟩ := List.mem_map.mp hc
    have := marks_in vm v hv
    exact (cd_dg (by omega)).1
  · rw [List.map_map]
    have : ∀ v ∈ ms, (vl ∘ cd) v = v := fun v hv => by
      have := marks_in vm v hv
      exact (cd_dg (by omega)).2
    exact (List.map_congr_left this).trans (List.map_id' ms)
  · obtain ⟨e, he, rfl⟩ := List.mem_map.mp ht
    have := g.ok e he
    have h1 := (cd_dg (v := e.1) (by omega)).1
    have h2 := (cd_dg (v := e.2) (by omega)).1
    simp [edL, tokOk, h1, h2]
  · rw [List.map_map]
    have : ∀ e ∈ es, (edOf ∘ edL) e = e := fun e he => by
      have := g.ok e he
      have h1 := (cd_dg (v := e.1) (by omega)).2
      have h2 := (cd_dg (v := e.2) (by omega)).2
      show (vl (cd e.1), vl (cd e.2)) = e
      rw [h1, h2]
    exact (List.map_congr_left this).trans (List.map_id' es)
/-! ## the law's own def -/
theorem law_parse_ok {v d : D} (h : sem_parse_graph [v] = .ok d) : sem__law_parse [v] = .ok d := by
  have : g__law_parse [some (.sh v), none] = .ret d := by
    unfold g__law_parse tryL
    simp [h]
  show resO (g__law_parse [some (.sh v), none]) = _
  rw [this]; rfl
theorem law_parse_exc {v l : D} (h : sem_parse_graph [v] = .exc ⟨7, some l⟩) : sem__law_parse [v] = .ok (.list [.str "line", l]) := by
  have ck : chk 2 = .ok () := chk_ok (by decide)
  have : g__law_parse [some (.sh v), none] = .ret (.list [.str "line", l]) := by
    unfold g__law_parse tryL
    simp [h, mOf, h__law_parse_0, mkL, erS, dOf, isEL, lnF, List.replicate, ck]
  show resO (g__law_parse [some (.sh v), none]) = _
  rw [this]; rfl
/-- what parsing gives, whatever the text -/
inductive Found (a : List Nat) : D → Prop
  | good {n : Int} {es : List Ed} {ms : List Int} (g : VG n es) (vm : VM n ms) (e : txtS n es ms = tx a) : Found a (.tuple [gD n es, iD ms])
  | line {l : D} (h : l = .none ∨ ∃ i, l = .int i) : Found a (.list [.str "line", l])
theorem found_any {a : List Nat} (h : okS a) (hl : a.length ≤ 1000) : ∃ d, sem__law_parse [.str (tx a)] = .ok d ∧ Found a d := by
  obtain ⟨f, ts, tk⟩ : ∃ f ts, tkn a = f :: ts := by
    cases q : tkn a with
    | nil => exact absurd q (tkn_ne a)
    | cons f ts => exact ⟨f, ts, rfl⟩
  have T : Txt_ a f ts := ⟨h, hl, tk⟩
  cases hf : headOk f with
  | false => exact ⟨_, law_parse_exc (parse_bad0 T hf), .line (Or.inr ⟨_, rfl⟩)⟩
  | true =>
    by_cases ht : ∀ t ∈ ts, tokOk t = true
    · obtain ⟨c0, r, rfl⟩ : ∃ c0 r, f = c0 :: 47 :: r := by
        unfold headOk at hf
        split at hf
        · rename_i c0 c1 r
          have : c1 = 47 := by
            have := (Bool.and_eq_true_iff.mp hf).1
            simpa using this
          subst this
          exact ⟨_, _, rfl⟩
        · cases hf
      rcases parse_good T hf ht with ⟨g, vm, e⟩ | ⟨_, e⟩
      · refine ⟨_, law_parse_ok e, .good g vm ?_⟩
        have hd : dg c0 = true ∧ ∀ c ∈ r, dg c = true := by
          unfold headOk at hf
          simpa using hf
        rw [txt_tx hd.1 hd.2 ht, ← tk, join_tkn]
      · exact ⟨_, law_parse_exc e, .line (Or.inl rfl)⟩
    · -- the first token that is none
      have split : ∀ ts : List (List Nat), (¬ ∀ t ∈ ts, tokOk t = true) → ∃ ts1 b ts2, ts = ts1 ++ b :: ts2 ∧ (∀ t ∈ ts1, tokOk t = true) ∧ tokOk b = false := by
        intro ts
        induction ts with
        | nil => intro z; exact absurd (fun t ht => by cases ht) z
        | cons t ts ih =>
          intro z
          cases q : tokOk t with
          | false => exact ⟨[], t, ts, rfl, fun t ht => (by cases ht), q⟩
          | true =>
            obtain ⟨ts1, b, ts2, e, h1, h2⟩ := ih fun w => z fun t' ht' => by
              rcases List.mem_cons.mp ht' with rfl | ht'
              · exact q
              · exact w t' ht'
            exact ⟨t :: ts1, b, ts2, by rw [e]; rfl, fun t' ht' => by
              rcases List.mem_cons.mp ht' with rfl | ht'
              · exact q
              · exact h1 t' ht', h2⟩
      obtain ⟨ts1, b, ts2, rfl, h1, h2⟩ := split ts ht
      exact ⟨_, law_parse_exc (parse_badk T hf h1 h2), .line (Or.inr ⟨_, rfl⟩)⟩
theorem joinD_tx {ps : List (List Nat)} (h : ps.length ≤ 100) (hl : ∀ p ∈ ps, p.length ≤ 1000) : joinD (.str " ") (.list (strL ps)) = some (.str (tx (TL.joinL [32] ps))) := by
  have := joinD_map (a := " ") (c := 1000) tx ps (fun p hp => by rw [tx_len]; exact hl p hp) (by
    have z : (" " : Str).length = 1 := by decide +kernel
    rw [z]; omega)
  rw [this, blank, join_tx]
theorem refl_d {d : D} (h : d.canLay0 = true) (k : d.depth ≤ 64) : neD d d = some (.bool false) ∧ eqD d d = some (.bool true) := by
  have s : SeqAt.shaped d = true := by
    unfold SeqAt.shaped
    rw [h, decide_eq_true k]; rfl
  unfold neD eqD
  rw [if_pos ⟨s, s⟩, if_pos ⟨s, s⟩, SeqAt.eqv_refl d h]
  exact ⟨rfl, rfl⟩
theorem lineS : PyData.strOk "line" = true := by decide +kernel
theorem ne_line (i : Int) : neD (.list [.str "line", .int i]) (.list [.str "line", .int i]) = some (.bool false) := (refl_d (by
  show (PyData.strOk "line" && (true && true)) = true
  rw [lineS]; rfl) (by show max 0 (max 0 0) + 1 ≤ 64; decide)).1
theorem eq_lineN : eqD (.list [.str "line", .none]) (.list [.str "line", .none]) = some (.bool true) := (refl_d (by
  show (PyData.strOk "line" && (true && true)) = true
  rw [lineS]; rfl) (by show max 0 (max 0 0) + 1 ≤ 64; decide)).2
/-! ## the law -/
structure Law (n : Int) (es : List Ed) (ms : List Int) (f : List Nat) (ts : List (List Nat)) (a : List Nat) : Prop where
  a_ : a = TL.joinL [32] (f :: ts)
  T : Txt_ a f ts
  hf : headOk f = true
  ht : ∀ t ∈ ts, tokOk t = true
  hn : 32 ∉ f
  fl : f.length ≤ 8
  few : ts.length ≤ 9
  txt : txtS n es ms = tx a
  run : sem_parse_graph [.str (tx a)] = .ok (.tuple [gD n es, iD ms])
theorem law_of {n : Int} {es : List Ed} {ms : List Int} (g : VG n es) (vm : VM n ms) : Law n es ms (hdL n ms) (es.map edL) (TL.joinL [32] (hdL n ms :: es.map edL)) := by
  have b := built g vm
  have h6 := marks_few g vm
  have h9 := g.few
  have hs := head_small b.h0 b.hr
  have sm : ∀ p ∈ hdL n ms :: es.map edL, okS p ∧ 32 ∉ p ∧ p.length ≤ 8 := fun p hp => by
    rcases List.mem_cons.mp hp with rfl | hp
    · exact ⟨hs.1, hs.2, by simp [hdL]; omega⟩
    · have := tok_small (b.ht p hp)
      exact ⟨this.1, this.2.1, by omega⟩
  have tk : tkn (TL.joinL [32] (hdL n ms :: es.map edL)) = hdL n ms :: es.map edL := tkn_join (by simp) fun p hp => (sm p hp).2.1
  have ln := joinL_len1 (ps := hdL n ms :: es.map edL) (c := 8) fun p hp => (sm p hp).2.2
  have T : Txt_ (TL.joinL [32] (hdL n ms :: es.map edL)) (hdL n ms) (es.map edL) := ⟨okS_join fun p hp => (sm p hp).1, by simp at ln ⊢; omega, tk⟩
  have hf : headOk (hdL n ms) = true := by
    have h1 := b.h0
    have h2 := b.hr
    unfold hdL headOk
    simpa [h1] using h2
  have tx1 := txt_tx b.h0 b.hr b.ht
  have e1 : (List.map edL es).map edOf = es := b.he
  have e2 : (List.map cd ms).map vl = ms := b.hm
  rw [b.hv, e1, e2] at tx1
  refine ⟨rfl, T, hf, b.ht, hs.2, by simp [hdL]; omega, by simp; omega, tx1, ?_⟩
  have pg := parse_good (c0 := cd n) (r := ms.map cd) T hf b.ht
  rw [b.hv, e1, e2] at pg
  rcases pg with ⟨_, _, e⟩ | ⟨z, _⟩
  · exact e
  · have z := z g
    rw [sp_are_marks_ok g vm] at z
    cases z
theorem badTok {w : List Nat} (h : w ∈ ([[], [48, 62, 49], [48, 45], [48, 45, 49, 50], [97, 45, 49], [48, 49]] : List (List Nat))) : okS w ∧ 32 ∉ w ∧ w.length ≤ 8 ∧ tokOk w = false := by
  simp only [List.mem_cons, List.not_mem_nil, or_false] at h
  rcases h with rfl | rfl | rfl | rfl | rfl | rfl <;> exact ⟨by unfold okS; decide, by decide, by decide, by decide⟩
theorem badHead {w : List Nat} (h : w ∈ ([[], [51], [47, 48, 49], [51, 51, 47, 48, 49], [120, 47, 48, 49], [51, 45, 48, 49], [51, 47, 48, 120]] : List (List Nat))) : okS w ∧ 32 ∉ w ∧ w.length ≤ 8 ∧ headOk w = false := by
  simp only [List.mem_cons, List.not_mem_nil, or_false] at h
  rcases h with rfl | rfl | rfl | rfl | rfl | rfl | rfl <;> exact ⟨by unfold okS; decide, by decide, by decide, by decide⟩
section
variable {n : Int} {es : List Ed} {ms : List Int} {f : List Nat} {ts : List (List Nat)} {a : List Nat}
theorem Law.part (L : Law n es ms f ts a) {p : List Nat} (hp : p ∈ f :: ts) : okS p ∧ 32 ∉ p ∧ p.length ≤ 8 := by
  rcases List.mem_cons.mp hp with rfl | hp
  · exact ⟨L.T.okf.1, L.hn, L.fl⟩
  · have := tok_small (L.ht p hp)
    exact ⟨this.1, this.2.1, by omega⟩
/-- a text of good tokens, made from parts -/
theorem parts_txt {g : List Nat} {us : List (List Nat)} (h : ∀ p ∈ g :: us, okS p ∧ 32 ∉ p ∧ p.length ≤ 8) (hl : us.length ≤ 20) : Txt_ (TL.joinL [32] (g :: us)) g us := by
  have ln := joinL_len1 (ps := g :: us) (c := 8) fun p hp => (h p hp).2.2
  exact ⟨okS_join fun p hp => (h p hp).1, by rw [List.length_cons] at ln; omega, tkn_join (by simp) fun p hp => (h p hp).2.1⟩
/-- a token that is none, put in -/
theorem Law.bad (L : Law n es ms f ts a) {w : List Nat} (hw : okS w ∧ 32 ∉ w ∧ w.length ≤ 8 ∧ tokOk w = false) {k : Nat} (h1 : 1 ≤ k) (h2 : k ≤ ts.length + 1) :
    joinD (.str " ") (.list (strL ((f :: ts).take k) ++ [.str (tx w), .str (tx [121])] ++ strL ((f :: ts).drop k))) = some (.str (tx (TL.joinL [32] (f :: (ts.take (k - 1) ++ w :: ([121] :: ts.drop (k - 1))))))) ∧
    sem__law_parse [.str (tx (TL.joinL [32] (f :: (ts.take (k - 1) ++ w :: ([121] :: ts.drop (k - 1))))))] = .ok (.list [.str "line", .int (k : Int)]) := by
  obtain ⟨j, rfl⟩ : ∃ j, k = j + 1 := ⟨k - 1, by omega⟩
  have ey : strL ((f :: ts).take (j + 1)) ++ [.str (tx w), .str (tx [121])] ++ strL ((f :: ts).drop (j + 1)) = strL (f :: (ts.take j ++ w :: ([121] :: ts.drop j))) := by
    simp [strL]
  have sm : ∀ p ∈ f :: (ts.take j ++ w :: ([121] :: ts.drop j)), okS p ∧ 32 ∉ p ∧ p.length ≤ 8 := fun p hp => by
    rcases List.mem_cons.mp hp with rfl | hp
    · exact L.part List.mem_cons_self
    · rcases List.mem_append.mp hp with hp | hp
      · exact L.part (List.mem_cons_of_mem _ (List.mem_of_mem_take hp))
      · rcases List.mem_cons.mp hp with rfl | hp
        · exact ⟨hw.1, hw.2.1, hw.2.2.1⟩
        · rcases List.mem_cons.mp hp with rfl | hp
          · exact ⟨by unfold okS; decide, by decide, by decide⟩
          · exact L.part (List.mem_cons_of_mem _ (List.mem_of_mem_drop hp))
  have few := L.few
  have T := parts_txt sm (by simp; omega)
  rw [ey, Nat.add_sub_cancel]
  refine ⟨joinD_tx (by simp; omega) fun p hp => by have := (sm p hp).2.2; omega, ?_⟩
  have := law_parse_exc (parse_badk T L.hf (fun t ht => L.ht t (List.mem_of_mem_take ht)) hw.2.2.2)
  rw [this]
  have : (ts.take j).length = j := by rw [List.length_take]; omega
  rw [this]; rfl
theorem Law.badh (L : Law n es ms f ts a) {w : List Nat} (hw : okS w ∧ 32 ∉ w ∧ w.length ≤ 8 ∧ headOk w = false) :
    joinD (.str " ") (.list (.str (tx w) :: strL ts)) = some (.str (tx (TL.joinL [32] (w :: ts)))) ∧ sem__law_parse [.str (tx (TL.joinL [32] (w :: ts)))] = .ok (.list [.str "line", .int 0]) := by
  have sm : ∀ p ∈ w :: ts, okS p ∧ 32 ∉ p ∧ p.length ≤ 8 := fun p hp => by
    rcases List.mem_cons.mp hp with rfl | hp
    · exact ⟨hw.1, hw.2.1, hw.2.2.1⟩
    · exact L.part (List.mem_cons_of_mem _ hp)
  have few := L.few
  have T := parts_txt sm (by omega)
  exact ⟨joinD_tx (ps := w :: ts) (by simp; omega) fun p hp => by have := (sm p hp).2.2; omega, law_parse_exc (parse_bad0 T hw.2.2.2)⟩
end
def condF : Rho → R Bool := (orT (asB (op2 eqD (op2 idxD (gv 12) (kI 0)) (kS "other"))) (andT (asB (op2 neD (op2 idxD (gv 12) (kI 0)) (kS "line"))) (asB (op2 neD (callF 2 sem_format_graph (aC (op2 idxD (gv 12) (kI 0)) (aC (op2 idxD (gv 12) (kI 1)) aN))) (gv 11)))))
theorem sp_format {n : Int} {es : List Ed} {ms : List Int} (g : VG n es) (vm : VM n ms) : sem_format_graph [gD n es, iD ms] = .ok (.str (txtS n es ms)) := by
  unfold sem_format_graph g_format_graph
  simp [start0, sp_check_marks_ok g vm, sp_text_of g vm]
theorem od_gD (n : Int) (es : List Ed) : od (gD n es) = true := by
  have : odL (es.map eD) = true := odL_of fun x hx => by
    obtain ⟨e, _, rfl⟩ := List.mem_map.mp hx
    rfl
  show (true && (odL (es.map eD) && true)) = true
  rw [this]; rfl
theorem depth_gD (n : Int) (es : List Ed) : (gD n es).depth ≤ 3 := by
  have hh : PyData.depthAll (es.map eD) ≤ 1 := depthAll_of fun x hx => by
    obtain ⟨e, _, rfl⟩ := List.mem_map.mp hx
    simp [eD, PyData.depth, PyData.depthAll]
  show max 0 (max (PyData.depthAll (es.map eD) + 1) 0) + 1 ≤ 3
  omega
theorem sh_gD (n : Int) (es : List Ed) : SeqAt.shaped (gD n es) = true := shaped_od (od_gD n es) (Nat.le_trans (depth_gD n es) (by decide))
theorem ne_gm {n : Int} {es : List Ed} {ms : List Int} : neD (.tuple [gD n es, iD ms]) (.tuple [gD n es, iD ms]) = some (.bool false) := neD_same (by
  show (od (gD n es) && (od (iD ms) && true)) = true
  rw [od_gD, od_iD]; rfl) (by
  have h1 := depth_gD n es
  have h2 : (iD ms).depth = 1 := depth_iD ms
  show max (gD n es).depth (max (iD ms).depth 0) + 1 ≤ 64
  omega)
theorem shS (x : Str) (h : PyData.strOk x = true) : SeqAt.shaped (.str x) = true := by
  show (PyData.strOk x && decide (0 ≤ 64)) = true
  rw [h]; rfl
theorem cond_at {x0 x1 x2 x3 x4 x5 x6 x7 x8 x9 x10 x13 x14 : Option SV} {b : List Nat} {d : D} (hb : okS b) (h : Found b d) : condF [x0, x1, x2, x3, x4, x5, x6, x7, x8, x9, x10, some (.sh (.str (tx b))), some (.sh d), x13, x14] = .ok false := by
  have s1 : SeqAt.shaped (.str "other") = true := shS _ (by decide +kernel)
  have s2 : SeqAt.shaped (.str "line") = true := shS _ lineS
  unfold condF
  cases h with
  | @good n es ms g vm e =>
    have i0 : idxD (.tuple [gD n es, iD ms]) (.int 0) = some (gD n es) := idx_at (n := 0) rfl
    have i1 : idxD (.tuple [gD n es, iD ms]) (.int 1) = some (iD ms) := idx_at (n := 1) rfl
    have e1 : eqD (gD n es) (.str "other") = some (.bool false) := if_pos ⟨sh_gD n es, s1⟩
    have e2 : neD (gD n es) (.str "line") = some (.bool true) := if_pos ⟨sh_gD n es, s2⟩
    have fm := sp_format g vm
    rw [e] at fm
    have nn := ne_tx hb hb
    simp [i0, i1, e1, e2, fm, nn]
  | @line l hl =>
    have i0 : idxD (.list [.str "line", l]) (.int 0) = some (.str "line") := idx_0
    have e1 : eqD (.str "line") (.str "other") = some (.bool false) := by
      rw [eqD_str s2 s1]
      have : (("line" : Str) == "other") = false := by decide +kernel
      rw [this]
    have e2 : neD (.str "line") (.str "line") = some (.bool false) := by
      rw [neD_str s2 s2]
      have : (("line" : Str) == "line") = true := by decide +kernel
      rw [this]; rfl
    simp [i0, e1, e2]
def exN : R D → Bool
  | .exc ⟨7, some .none⟩ => true
  | _ => false
theorem exN_eq {r : R D} (h : exN r = true) : r = .exc ⟨7, some .none⟩ := by
  unfold exN at h
  split at h
  · rfl
  · cases h
theorem three : exN (sem_parse_graph [.str "2/0"]) = true ∧ exN (sem_parse_graph [.str "2/10"]) = true ∧ exN (sem_parse_graph [.str "2/01 1-0"]) = true := by decide +kernel
theorem cut_sub {a : List Nat} {lo hi : Option Int} (h : okS a) : okS (cutL a lo hi) ∧ (cutL a lo hi).length ≤ a.length := by
  unfold cutL
  refine ⟨fun c hc => h c (List.mem_of_mem_drop (List.mem_of_mem_take hc)), ?_⟩
  rw [List.length_take, List.length_drop]
  omega
theorem okS_app {a b : List Nat} (h : okS a) (k : okS b) : okS (a ++ b) := fun c hc => (List.mem_append.mp hc).elim (h c) (k c)
theorem plain (ns : List Int) (h : ns.length ≤ 63) : sem_law [.list (ns.map .int)] = .ok (.bool true) := by
  obtain ⟨ds, hd, r1⟩ := sp__law_row (ns := ns) (k := 4) (by decide)
  obtain ⟨n, es, g, hl9, r2⟩ := sp__law_graph (ns := ns) (k := 2) (m := 9) (by decide) (by decide) (by decide)
  obtain ⟨ms, vm, r3⟩ := sp__law_marks (ns := ns) (k := 3) (by decide) g
  have iL0 : ns.map (fun i => PyData.int i) = iL ns := rfl
  have n2 := g.n2
  have n6 := g.n6
  have h6 := marks_few g vm
  have h9 := g.few
  have b := built g vm
  have L := law_of g vm
  have hm : ∀ m ∈ ms, 0 ≤ m ∧ m ≤ 9 := fun m hm => by have := marks_in vm m hm; omega
  have ck : ∀ k : Nat, k ≤ 100 → chk k = .ok () := fun k hk => chk_ok (Nat.le_trans hk (by decide))
  have al : ∀ xs ys : List D, xs.length + ys.length ≤ 100 → addD (.list xs) (.list ys) = some (.list (xs ++ ys)) := fun xs ys h => if_pos (Nat.le_trans h (by decide))
  -- the tokens
  have num : ∀ v : Int, 0 ≤ v ∧ v ≤ 9 → numS v = tx [cd v] := fun v hv => by
    have := num_dig (cd_dg hv).1
    rwa [(cd_dg hv).2] at this
  have sn : strD (.int n) = some (.str (tx [cd n])) := by rw [strD_dig (by omega), num n (by omega)]
  have l1 : lcF (seqF (gv 3)) (tg1 5) tT (fn1 strD (gv 5)) [5] [some (.sh (.list (iL ns))), some (.sh (.list (iL ds))), some (.sh (gD n es)), some (.sh (iD ms)), none, none, none, none, none, none, none, none, none, none, none] = .ok (ms.map fun m => .str (numS m)) := by
    have := lcF_map (fi := seqF (gv 3)) (u := tg1 5) (t := tT) (e := fn1 strD (gv 5)) (vs := [5]) (ρ := [some (.sh (.list (iL ns))), some (.sh (.list (iL ds))), some (.sh (gD n es)), some (.sh (iD ms)), none, none, none, none, none, none, none, none, none, none, none])
      (α := Int) (xs := ms) (g := PyData.int) (p := fun _ => true) (f := fun m => .str (numS m)) (fun m => [some (.sh (.list (iL ns))), some (.sh (.list (iL ds))), some (.sh (gD n es)), some (.sh (iD ms)), none, some (.sh (.int m)), none, none, none, none, none, none, none, none, none]) (by simp [iD]; rfl) (by rw [szM]; omega) fun m hmm => ⟨rfl, by simp, fun _ => by rw [fn1_ap, gv_ap]; simp [strD_dig (hm m hmm), -strD_int]⟩
    rw [this, List.filter_eq_self.mpr fun _ _ => rfl]
  have j1 : joinD (.str "") (.list (ms.map fun m => .str (numS m))) = some (.str (tx (ms.map cd))) := by
    have j := joinD_map (a := "") (c := 1) numS ms (fun m hmm => by rw [(dig (hm m hmm)).2]; exact Nat.le_refl _) (by
      have z : ("" : Str).length = 0 := by decide +kernel
      rw [z]; omega)
    have nt := names_tx b.hr
    have e2 : (ms.map cd).map vl = ms := b.hm
    rw [e2] at nt
    rw [j, ← nt]; rfl
  have a1 : addD (.str (tx [cd n])) (.str (tx [47])) = some (.str (tx [cd n, 47])) := add_tx (a := [cd n]) (b := [47]) (by simp)
  have a2 : addD (.str (tx [cd n, 47])) (.str (tx (ms.map cd))) = some (.str (tx (hdL n ms))) := add_tx (a := [cd n, 47]) (b := ms.map cd) (by simp; omega)
  have l2 : lcF (seqF (op2 idxD (gv 2) (kI 1))) (tg2 6 7) tT (op2 addD (op2 addD (fn1 strD (gv 6)) (kS "-")) (fn1 strD (gv 7))) [6, 7] [some (.sh (.list (iL ns))), some (.sh (.list (iL ds))), some (.sh (gD n es)), some (.sh (iD ms)), some (.sh (.list [.str (tx (hdL n ms))])), none, none, none, none, none, none, none, none, none, none] = .ok (strL (es.map edL)) := by
    have := lcF_map (fi := seqF (op2 idxD (gv 2) (kI 1))) (u := tg2 6 7) (t := tT) (e := op2 addD (op2 addD (fn1 strD (gv 6)) (kS "-")) (fn1 strD (gv 7))) (vs := [6, 7]) (ρ := [some (.sh (.list (iL ns))), some (.sh (.list (iL ds))), some (.sh (gD n es)), some (.sh (iD ms)), some (.sh (.list [.str (tx (hdL n ms))])), none, none, none, none, none, none, none, none, none, none])
      (α := Ed) (xs := es) (g := eD) (p := fun _ => true) (f := fun e => .str (tx (edL e))) (fun e => [some (.sh (.list (iL ns))), some (.sh (.list (iL ds))), some (.sh (gD n es)), some (.sh (iD ms)), some (.sh (.list [.str (tx (hdL n ms))])), none, some (.sh (.int e.1)), some (.sh (.int e.2)), none, none, none, none, none, none, none]) (by simp) (by rw [szM]; omega) fun e he => ⟨rfl, by simp, fun _ => by
        have o := g.ok e he
        have x1 : strD (.int e.1) = some (.str (tx [cd e.1])) := by rw [strD_dig (by omega), num e.1 (by omega)]
        have x2 : strD (.int e.2) = some (.str (tx [cd e.2])) := by rw [strD_dig (by omega), num e.2 (by omega)]
        have y1 : addD (.str (tx [cd e.1])) (.str (tx [45])) = some (.str (tx [cd e.1, 45])) := add_tx (a := [cd e.1]) (b := [45]) (by simp)
        have y2 : addD (.str (tx [cd e.1, 45])) (.str (tx [cd e.2])) = some (.str (tx (edL e))) := add_tx (a := [cd e.1, 45]) (b := [cd e.2]) (by simp)
        simp [-strD_int, x1, x2, dash, y1, y2]⟩
    rw [this, List.filter_eq_self.mpr fun _ _ => rfl]
    show _ = R.ok ((es.map edL).map fun p => PyData.str (tx p))
    rw [List.map_map]; rfl
  have fm := sp_format g vm
  rw [L.txt] at fm
  generalize hF : hdL n ms = f at L a2 l2 fm
  generalize hT : es.map edL = ts at L l2 fm
  generalize hA : TL.joinL [32] (f :: ts) = a at L fm
  have fl := L.fl
  have few := L.few
  have a3 := al [.str (tx f)] (strL ts) (by simp; omega)
  have a3' : addD (.list [.str (tx f)]) (.list (strL ts)) = some (.list (strL (f :: ts))) := a3
  have j2 : joinD (.str " ") (.list (strL (f :: ts))) = some (.str (tx a)) := by
    rw [← hA]
    exact joinD_tx (by simp; omega) fun p hp => by have := (L.part hp).2.2; omega
  have al90 : a.length ≤ 90 := by
    have := joinL_len1 (ps := f :: ts) (c := 8) fun p hp => (L.part hp).2.2
    rw [hA, List.length_cons] at this
    omega
  have okA := L.T.ok
  have nA := ne_tx okA okA
  have pA := law_parse_ok L.run
  have nG := ne_gm (n := n) (es := es) (ms := ms)
  -- the draws
  have d0 : idxD (.list (iL ds)) (.int 0) = some (.int (nth0 ds 0)) ∧ 0 ≤ nth0 ds 0 ∧ nth0 ds 0 < 1000 := hd.at (k := 0) (by decide) (by decide)
  have d1 : idxD (.list (iL ds)) (.int 1) = some (.int (nth0 ds 1)) ∧ 0 ≤ nth0 ds 1 ∧ nth0 ds 1 < 1000 := hd.at (k := 1) (by decide) (by decide)
  have d2 : idxD (.list (iL ds)) (.int 2) = some (.int (nth0 ds 2)) ∧ 0 ≤ nth0 ds 2 ∧ nth0 ds 2 < 1000 := hd.at (k := 2) (by decide) (by decide)
  have d3 : idxD (.list (iL ds)) (.int 3) = some (.int (nth0 ds 3)) ∧ 0 ≤ nth0 ds 3 ∧ nth0 ds 3 < 1000 := hd.at (k := 3) (by decide) (by decide)
  have d4 : idxD (.list (iL ds)) (.int 4) = some (.int (nth0 ds 4)) ∧ 0 ≤ nth0 ds 4 ∧ nth0 ds 4 < 1000 := hd.at (k := 4) (by decide) (by decide)
  have d5 : idxD (.list (iL ds)) (.int 5) = some (.int (nth0 ds 5)) ∧ 0 ≤ nth0 ds 5 ∧ nth0 ds 5 < 1000 := hd.at (k := 5) (by decide) (by decide)
  have d6 : idxD (.list (iL ds)) (.int 6) = some (.int (nth0 ds 6)) ∧ 0 ≤ nth0 ds 6 ∧ nth0 ds 6 < 1000 := hd.at (k := 6) (by decide) (by decide)
  have lnA := len_tx (a := a) (by omega)
  have lnT : lenD (.list (strL (f :: ts))) = some (.int ((ts.length : Int) + 1)) := by
    show some (PyData.int ((strL (f :: ts)).length : Nat)) = _
    simp [strL]
  have md0 := modD_int (a := nth0 ds 0) (b := (a.length : Int) + 1) (by omega)
  have md1 := modD_int (a := nth0 ds 1) (b := 6) (by decide)
  have md2 := modD_int (a := nth0 ds 2) (b := 4) (by decide)
  have md3 := modD_int (a := nth0 ds 3) (b := (ts.length : Int) + 1) (by omega)
  have md4 := modD_int (a := nth0 ds 4) (b := 6) (by decide)
  have md5 := modD_int (a := nth0 ds 5) (b := 7) (by decide)
  have md6 := modD_int (a := nth0 ds 6) (b := 4) (by decide)
  have sp0 := Int.emod_nonneg (nth0 ds 0) (b := (a.length : Int) + 1) (by omega)
  have sp1 := Int.emod_lt_of_pos (nth0 ds 0) (b := (a.length : Int) + 1) (by omega)
  have at0 := Int.emod_nonneg (nth0 ds 3) (b := (ts.length : Int) + 1) (by omega)
  have at1 := Int.emod_lt_of_pos (nth0 ds 3) (b := (ts.length : Int) + 1) (by omega)
  generalize hsp : nth0 ds 0 % ((a.length : Int) + 1) = spot at md0 sp0 sp1
  obtain ⟨k, hk⟩ : ∃ k : Nat, 1 + nth0 ds 3 % ((ts.length : Int) + 1) = (k : Int) := ⟨(1 + nth0 ds 3 % ((ts.length : Int) + 1)).toNat, by omega⟩
  obtain ⟨w, hw1, hw2, iw⟩ : ∃ w : List Nat, okS w ∧ w.length ≤ 4 ∧ idxD (.list [.str "0", .str " ", .str "1", .str "/", .str "-", .str " 0-1"]) (.int (nth0 ds 1 % 6)) = some (.str (tx w)) := by
    rcases (by omega : nth0 ds 1 % 6 = 0 ∨ nth0 ds 1 % 6 = 1 ∨ nth0 ds 1 % 6 = 2 ∨ nth0 ds 1 % 6 = 3 ∨ nth0 ds 1 % 6 = 4 ∨ nth0 ds 1 % 6 = 5) with z | z | z | z | z | z <;> rw [z]
    · exact ⟨[48], by unfold okS; decide, by decide, rfl⟩
    · exact ⟨[32], by unfold okS; decide, by decide, rfl⟩
    · exact ⟨[49], by unfold okS; decide, by decide, rfl⟩
    · exact ⟨[47], by unfold okS; decide, by decide, rfl⟩
    · exact ⟨[45], by unfold okS; decide, by decide, rfl⟩
    · exact ⟨[32, 48, 45, 49], by unfold okS; decide, by decide, rfl⟩
  have c1 := cut_sub (lo := none) (hi := some spot) okA
  have c2 := cut_sub (lo := some (spot + 1)) (hi := none) okA
  have c3 := cut_sub (lo := some spot) (hi := none) okA
  have s1 := sl_tx (a := a) (lo := none) (hi := some spot) (by omega)
  have s2 := sl_tx (a := a) (lo := some (spot + 1)) (hi := none) (by omega)
  have s3 := sl_tx (a := a) (lo := some spot) (hi := none) (by omega)
  have q1 := add_tx (a := cutL a none (some spot)) (b := cutL a (some (spot + 1)) none) (by omega)
  have q2 := add_tx (a := cutL a none (some spot)) (b := w) (by omega)
  have q3 := add_tx (a := cutL a none (some spot) ++ w) (b := cutL a (some spot) none) (by rw [List.length_append]; omega)
  have q4 := add_tx (a := a) (b := [32]) (by simp; omega)
  have q5 := add_tx (a := [32]) (b := a) (by simp; omega)
  have o32 : okS [32] := by unfold okS; decide
  obtain ⟨b', hb1, hb2, ib⟩ : ∃ b' : List Nat, okS b' ∧ b'.length ≤ 1000 ∧ idxD (.list [.str (tx (cutL a none (some spot) ++ cutL a (some (spot + 1)) none)), .str (tx (cutL a none (some spot) ++ w ++ cutL a (some spot) none)), .str (tx (a ++ [32])), .str (tx ([32] ++ a))]) (.int (nth0 ds 2 % 4)) = some (.str (tx b')) := by
    rcases (by omega : nth0 ds 2 % 4 = 0 ∨ nth0 ds 2 % 4 = 1 ∨ nth0 ds 2 % 4 = 2 ∨ nth0 ds 2 % 4 = 3) with z | z | z | z <;> rw [z]
    · exact ⟨_, okS_app c1.1 c2.1, by rw [List.length_append]; omega, rfl⟩
    · exact ⟨_, okS_app (okS_app c1.1 hw1) c3.1, by rw [List.length_append, List.length_append]; omega, rfl⟩
    · exact ⟨_, okS_app okA o32, by rw [List.length_append]; simp; omega, rfl⟩
    · exact ⟨_, okS_app o32 okA, by rw [List.length_append]; simp; omega, rfl⟩
  obtain ⟨fd, fd1, fd2⟩ := found_any hb1 hb2
  obtain ⟨u, hu, iu⟩ : ∃ u : List Nat, u ∈ ([[], [48, 62, 49], [48, 45], [48, 45, 49, 50], [97, 45, 49], [48, 49]] : List (List Nat)) ∧ idxD (.list [.str "", .str "0>1", .str "0-", .str "0-12", .str "a-1", .str "01"]) (.int (nth0 ds 4 % 6)) = some (.str (tx u)) := by
    rcases (by omega : nth0 ds 4 % 6 = 0 ∨ nth0 ds 4 % 6 = 1 ∨ nth0 ds 4 % 6 = 2 ∨ nth0 ds 4 % 6 = 3 ∨ nth0 ds 4 % 6 = 4 ∨ nth0 ds 4 % 6 = 5) with z | z | z | z | z | z <;> rw [z]
    · exact ⟨[], by simp, rfl⟩
    · exact ⟨[48, 62, 49], by simp, rfl⟩
    · exact ⟨[48, 45], by simp, rfl⟩
    · exact ⟨[48, 45, 49, 50], by simp, rfl⟩
    · exact ⟨[97, 45, 49], by simp, rfl⟩
    · exact ⟨[48, 49], by simp, rfl⟩
  obtain ⟨t1, t2⟩ := L.bad (badTok hu) (k := k) (by omega) (by omega)
  generalize TL.joinL [32] (f :: (ts.take (k - 1) ++ u :: ([121] :: ts.drop (k - 1)))) = e1 at t1 t2
  have y121 : ("y" : Str) = tx [121] := rfl
  have ct : cutL (strL (f :: ts)) none (some (k : Int)) = strL ((f :: ts).take k) := by
    rw [cut_to _ (by omega), Int.toNat_natCast]
    unfold strL
    rw [List.map_take]
  have cf : cutL (strL (f :: ts)) (some (k : Int)) none = strL ((f :: ts).drop k) := by
    rw [cut_from]
    unfold strL
    rw [List.map_drop]
  have cf1 : cutL (strL (f :: ts)) (some 1) none = strL ts := cut_from _ 1
  have nk := ne_line (k : Int)
  obtain ⟨x, hx, ix⟩ : ∃ x : List Nat, x ∈ ([[], [51], [47, 48, 49], [51, 51, 47, 48, 49], [120, 47, 48, 49], [51, 45, 48, 49], [51, 47, 48, 120]] : List (List Nat)) ∧ idxD (.list [.str "", .str "3", .str "/01", .str "33/01", .str "x/01", .str "3-01", .str "3/0x"]) (.int (nth0 ds 5 % 7)) = some (.str (tx x)) := by
    rcases (by omega : nth0 ds 5 % 7 = 0 ∨ nth0 ds 5 % 7 = 1 ∨ nth0 ds 5 % 7 = 2 ∨ nth0 ds 5 % 7 = 3 ∨ nth0 ds 5 % 7 = 4 ∨ nth0 ds 5 % 7 = 5 ∨ nth0 ds 5 % 7 = 6) with z | z | z | z | z | z | z <;> rw [z]
    · exact ⟨[], by simp, rfl⟩
    · exact ⟨[51], by simp, rfl⟩
    · exact ⟨[47, 48, 49], by simp, rfl⟩
    · exact ⟨[51, 51, 47, 48, 49], by simp, rfl⟩
    · exact ⟨[120, 47, 48, 49], by simp, rfl⟩
    · exact ⟨[51, 45, 48, 49], by simp, rfl⟩
    · exact ⟨[51, 47, 48, 120], by simp, rfl⟩
  obtain ⟨h1, h2⟩ := L.badh (badHead hx)
  generalize TL.joinL [32] (x :: ts) = e2 at h1 h2
  have n0 := ne_line 0
  have p1 := law_parse_exc (exN_eq three.1)
  have p2 := law_parse_exc (exN_eq three.2.1)
  have p3 := law_parse_exc (exN_eq three.2.2)
  obtain ⟨v, hv, iv⟩ : ∃ v : D, isSt v = false ∧ idxD (.list [.none, .int 7, .list (strL (f :: ts)), gD n es]) (.int (nth0 ds 6 % 4)) = some v := by
    rcases (by omega : nth0 ds 6 % 4 = 0 ∨ nth0 ds 6 % 4 = 1 ∨ nth0 ds 6 % 4 = 2 ∨ nth0 ds 6 % 4 = 3) with z | z | z | z <;> rw [z]
    · exact ⟨_, rfl, rfl⟩
    · exact ⟨_, rfl, rfl⟩
    · exact ⟨_, rfl, rfl⟩
    · exact ⟨_, rfl, rfl⟩
  have pv := law_parse_exc (parse_no hv)
  have eN := eq_lineN
  have co := fun x0 x1 x2 x3 x4 x5 x6 x7 x8 x9 x10 x13 x14 => cond_at (x0 := x0) (x1 := x1) (x2 := x2) (x3 := x3) (x4 := x4) (x5 := x5) (x6 := x6) (x7 := x7) (x8 := x8) (x9 := x9) (x10 := x10) (x13 := x13) (x14 := x14) hb1 fd2
  have co := co none none none none none none none none none none none none none
  unfold condF at co
  simp at co
  have l3 : ∀ z0 z1 z2 z3 z4 z5 z7 z8 z9 z10 z11 z12 z13 z14 : Option SV, lcF (seqF (tupF (aC (kS "2/0") (aC (kS "2/10") (aC (kS "2/01 1-0") aN))))) (tg1 6) tT (callF 1 sem__law_parse (aC (gv 6) aN)) [6] [z0, z1, z2, z3, z4, z5, none, z7, z8, z9, z10, z11, z12, z13, z14] = .ok [.list [.str "line", .none], .list [.str "line", .none], .list [.str "line", .none]] := fun z0 z1 z2 z3 z4 z5 z7 z8 z9 z10 z11 z12 z13 z14 => by
    have := lcF_map (fi := seqF (tupF (aC (kS "2/0") (aC (kS "2/10") (aC (kS "2/01 1-0") aN))))) (u := tg1 6) (t := tT) (e := callF 1 sem__law_parse (aC (gv 6) aN)) (vs := [6]) (ρ := [z0, z1, z2, z3, z4, z5, none, z7, z8, z9, z10, z11, z12, z13, z14])
      (α := Str) (xs := ["2/0", "2/10", "2/01 1-0"]) (g := PyData.str) (p := fun _ => true) (f := fun _ => .list [.str "line", .none]) (fun c => [z0, z1, z2, z3, z4, z5, some (.sh (.str c)), z7, z8, z9, z10, z11, z12, z13, z14])
      (by simp [ck]) (by rw [szM]; simp) fun c hc => ⟨rfl, rfl, fun _ => by
        simp only [List.mem_cons, List.not_mem_nil, or_false] at hc
        rcases hc with rfl | rfl | rfl <;> simp [p1, p2, p3]⟩
    rw [this, List.filter_eq_self.mpr fun _ _ => rfl]
    rfl
  have n3 : neD (.list [.list [.str "line", .none], .list [.str "line", .none], .list [.str "line", .none]]) (.list [.list [.str "line", .none], .list [.str "line", .none], .list [.str "line", .none]]) = some (.bool false) := (refl_d (by
    show ((PyData.strOk "line" && (true && true)) && ((PyData.strOk "line" && (true && true)) && ((PyData.strOk "line" && (true && true)) && true))) = true
    rw [lineS]; rfl) (by decide +kernel)).1
  have rp3 : repD (.list [.list [.str "line", .none]]) (.int 3) = some (.list [.list [.str "line", .none], .list [.str "line", .none], .list [.str "line", .none]]) := rfl
  have a1' : addD (.str (tx [cd n])) (.str "/") = some (.str (tx [cd n, 47])) := a1
  have q4' : addD (.str (tx a)) (.str " ") = some (.str (tx (a ++ [32]))) := q4
  have q5' : addD (.str " ") (.str (tx a)) = some (.str (tx ([32] ++ a))) := q5
  have b1 : addD (.list (strL ((f :: ts).take k))) (.list [.str (tx u), .str "y"]) = some (.list (strL ((f :: ts).take k) ++ [.str (tx u), .str "y"])) := al _ _ (by simp; omega)
  have b2 : addD (.list (strL ((f :: ts).take k) ++ [.str (tx u), .str "y"])) (.list (strL ((f :: ts).drop k))) = some (.list (strL ((f :: ts).take k) ++ [.str (tx u), .str "y"] ++ strL ((f :: ts).drop k))) := al _ _ (by simp; omega)
  have t1' : joinD (.str " ") (.list (strL ((f :: ts).take k) ++ [.str (tx u), .str "y"] ++ strL ((f :: ts).drop k))) = some (.str (tx e1)) := t1
  have b3 : addD (.list [.str (tx x)]) (.list (strL ts)) = some (.list (.str (tx x) :: strL ts)) := al _ _ (by simp; omega)
  generalize strL ((f :: ts).take k) ++ [.str (tx u), .str "y"] ++ strL ((f :: ts).drop k) = B2 at b2 t1'
  generalize strL ((f :: ts).take k) ++ [.str (tx u), .str "y"] = B1 at b1 b2
  generalize strL ((f :: ts).take k) = U1 at b1 ct
  generalize strL ((f :: ts).drop k) = U2 at b2 cf
  generalize (PyData.str (tx x) : D) :: strL ts = B3 at b3 h1
  generalize hTK : strL (f :: ts) = TK at a3' j2 lnT ct cf cf1 iv
  generalize hTS : strL ts = TS at l2 a3' cf1 b3
  generalize hX2 : tx (cutL a none (some spot) ++ w ++ cutL a (some spot) none) = X2 at q3 ib
  generalize hY4 : tx (cutL a none (some spot) ++ w) = Y4 at q2 q3
  generalize hX1 : tx (cutL a none (some spot) ++ cutL a (some (spot + 1)) none) = X1 at q1 ib
  generalize hY1 : tx (cutL a none (some spot)) = Y1 at s1 q1 q2
  generalize hY2 : tx (cutL a (some (spot + 1)) none) = Y2 at s2 q1
  generalize hY3 : tx (cutL a (some spot) none) = Y3 at s3 q3
  generalize hX3 : tx (a ++ [32]) = X3 at q4' ib
  generalize hX4 : tx ([32] ++ a) = X4 at q5' ib
  unfold sem_law g_law
  rw [iL0]
  simp [start0, r1, r2, r3, l1, j1, sn, a1', a2, -strD_int, ck, l2, a3', j2, fm, nA, pA, nG, d0.1, lnA, md0, d1.1, md1, iw, sliceSF_ap, s1, s2, s3, q1, q2, q3, q4', q5', d2.1, md2, ib, fd1, co,
    d3.1, lnT, md3, hk, d4.1, md4, iu, ct, b1, cf, b2, t1', t2, nk, d5.1, md5, ix, cf1, b3, h1, h2, n0, l3, rp3, n3, d6.1, md6, iv, pv, eN]
end MP

namespace MP
open PySem L2 FE PL
def spLaw (K : PySem.W.Frag) : Sp := fun vs H Q E => ∃ (a : Addr) (ns : List Int), vs = [.ref a] ∧ ns.length ≤ 63 ∧ SqL K H a (ns.map V.int) ∧ ∀ H', Q (.bl true) H'
theorem law_imp {P : Program} {w : World} {K : PySem.W.Frag} {mg : Str → Option Value} {base : Heap} {ca : CA} {f : Addr} {fd : FuncData} {k : Nat} (F : FnOk P w K mg base (L2.CX P w) k f fd ["_law_script"] (spSem K ca [("_law_script" : Str)].length sem_law)) : FnOk P w K mg base (L2.CX P w) k f fd ["_law_script"] (spLaw K) := F.imp fun vs H Q E ⟨a, ns, h1, h2, h3, q⟩ => by
  subst h1
  refine ⟨H, [.list (ns.map .int)], Ex.refl H, .cons (.lst h3 (ints_dpAll ns)) .nil, rfl, ?_⟩
  rw [plain ns h2]
  intro v G' H' _ dv
  cases dv
  exact q H'
set_option maxHeartbeats 0 in
theorem all_mk {l : PySem.W.OpenLaw} {w : World} {K : PySem.W.Frag} {h : Heap} {mg : Str → Option Value} {fa : Addr} (X : K.In h) (G : h.Ns mainGlobals mg) (hfa : mg "law" = some (.ref fa))
    {f0 : Addr} {od0 an0 : Option Addr} {sl0 : Array (Option Value)} {oc0 kV0 dc0 pm0 cd0 ct0 : Value}
    {f1 : Addr} {od1 an1 : Option Addr} {sl1 : Array (Option Value)} {oc1 kV1 dc1 pm1 cd1 ct1 : Value}
    {f2 : Addr} {od2 an2 : Option Addr} {sl2 : Array (Option Value)} {oc2 kV2 dc2 pm2 cd2 ct2 : Value}
    {f3 : Addr} {od3 an3 : Option Addr} {sl3 : Array (Option Value)} {oc3 kV3 dc3 pm3 cd3 ct3 : Value}
    {f4 : Addr} {od4 an4 : Option Addr} {sl4 : Array (Option Value)} {oc4 kV4 dc4 pm4 cd4 ct4 : Value}
    {f5 : Addr} {od5 an5 : Option Addr} {sl5 : Array (Option Value)} {oc5 kV5 dc5 pm5 cd5 ct5 : Value}
    {f6 : Addr} {od6 an6 : Option Addr} {sl6 : Array (Option Value)} {oc6 kV6 dc6 pm6 cd6 ct6 : Value}
    {f7 : Addr} {od7 an7 : Option Addr} {sl7 : Array (Option Value)} {oc7 kV7 dc7 pm7 cd7 ct7 : Value}
    {f8 : Addr} {od8 an8 : Option Addr} {sl8 : Array (Option Value)} {oc8 kV8 dc8 pm8 cd8 ct8 : Value}
    {f9 : Addr} {od9 an9 : Option Addr} {sl9 : Array (Option Value)} {oc9 kV9 dc9 pm9 cd9 ct9 : Value}
    {f10 : Addr} {od10 an10 : Option Addr} {sl10 : Array (Option Value)} {oc10 kV10 dc10 pm10 cd10 ct10 : Value}
    {f11 : Addr} {od11 an11 : Option Addr} {sl11 : Array (Option Value)} {oc11 kV11 dc11 pm11 cd11 ct11 : Value}
    {f12 : Addr} {od12 an12 : Option Addr} {sl12 : Array (Option Value)} {oc12 kV12 dc12 pm12 cd12 ct12 : Value}
    {f13 : Addr} {od13 an13 : Option Addr} {sl13 : Array (Option Value)} {oc13 kV13 dc13 pm13 cd13 ct13 : Value}
    {f14 : Addr} {od14 an14 : Option Addr} {sl14 : Array (Option Value)} {oc14 kV14 dc14 pm14 cd14 ct14 : Value} {nm7 q7 : Str} {N7 : Addr} {bs7 bm7 : List Value} {sn7 : List Str} {sub7 : List Value} {ab7 : Bool} {col7 : Option Bool} {dd7 : Option Addr} {m70 m71 m72 m73 m75 : Option Value}
    {f15 : Addr} {od15 an15 : Option Addr} {sl15 : Array (Option Value)} {oc15 kV15 dc15 pm15 cd15 ct15 : Value}
    {f16 : Addr} {od16 an16 : Option Addr} {sl16 : Array (Option Value)} {oc16 kV16 dc16 pm16 cd16 ct16 : Value}
    {f17 : Addr} {od17 an17 : Option Addr} {sl17 : Array (Option Value)} {oc17 kV17 dc17 pm17 cd17 ct17 : Value}
    {t_DIGITS : Tok}
    {t_MAX_EDGES : Tok}
    {t_MAX_VERTICES : Tok}
    {C0 : Addr}
    {C1 : Addr}
    {C7 : Addr}
    {C8 : Addr}
    (a0 : PySem.W.nsIn K mainGlobals "_law_cell" = some (some (.ref f0)))
    (l0 : K.lookup f0 = some ⟨oc0, od0, .func (PySem.W.fnOf "_law_cell" "_law_cell" (defArgs s__law_cell) (defBody s__law_cell) (defScope s__law_cell) .none kV0 dc0 pm0 an0 cd0 ct0), sl0⟩)
    (c0 : PySem.W.codeIn K cd0 "_law_cell" = true)
    (k0 : PySem.W.keepIn K (.ref f0) = true)
    (a1 : PySem.W.nsIn K mainGlobals "_law_row" = some (some (.ref f1)))
    (l1 : K.lookup f1 = some ⟨oc1, od1, .func (PySem.W.fnOf "_law_row" "_law_row" (defArgs s__law_row) (defBody s__law_row) (defScope s__law_row) .none kV1 dc1 pm1 an1 cd1 ct1), sl1⟩)
    (c1 : PySem.W.codeIn K cd1 "_law_row" = true)
    (k1 : PySem.W.keepIn K (.ref f1) = true)
    (a2 : PySem.W.nsIn K mainGlobals "_law_graph" = some (some (.ref f2)))
    (l2 : K.lookup f2 = some ⟨oc2, od2, .func (PySem.W.fnOf "_law_graph" "_law_graph" (defArgs s__law_graph) (defBody s__law_graph) (defScope s__law_graph) .none kV2 dc2 pm2 an2 cd2 ct2), sl2⟩)
    (c2 : PySem.W.codeIn K cd2 "_law_graph" = true)
    (k2 : PySem.W.keepIn K (.ref f2) = true)
    (a3 : PySem.W.nsIn K mainGlobals "_law_degree" = some (some (.ref f3)))
    (l3 : K.lookup f3 = some ⟨oc3, od3, .func (PySem.W.fnOf "_law_degree" "_law_degree" (defArgs s__law_degree) (defBody s__law_degree) (defScope s__law_degree) .none kV3 dc3 pm3 an3 cd3 ct3), sl3⟩)
    (c3 : PySem.W.codeIn K cd3 "_law_degree" = true)
    (k3 : PySem.W.keepIn K (.ref f3) = true)
    (a4 : PySem.W.nsIn K mainGlobals "_law_marks" = some (some (.ref f4)))
    (l4 : K.lookup f4 = some ⟨oc4, od4, .func (PySem.W.fnOf "_law_marks" "_law_marks" (defArgs s__law_marks) (defBody s__law_marks) (defScope s__law_marks) .none kV4 dc4 pm4 an4 cd4 ct4), sl4⟩)
    (c4 : PySem.W.codeIn K cd4 "_law_marks" = true)
    (k4 : PySem.W.keepIn K (.ref f4) = true)
    (a5 : PySem.W.nsIn K mainGlobals "in_range" = some (some (.ref f5)))
    (l5 : K.lookup f5 = some ⟨oc5, od5, .func (PySem.W.fnOf "in_range" "in_range" (defArgs s_in_range) (defBody s_in_range) (defScope s_in_range) .none kV5 dc5 pm5 an5 cd5 ct5), sl5⟩)
    (c5 : PySem.W.codeIn K cd5 "in_range" = true)
    (k5 : PySem.W.keepIn K (.ref f5) = true)
    (a6 : PySem.W.nsIn K mainGlobals "is_edge" = some (some (.ref f6)))
    (l6 : K.lookup f6 = some ⟨oc6, od6, .func (PySem.W.fnOf "is_edge" "is_edge" (defArgs s_is_edge) (defBody s_is_edge) (defScope s_is_edge) .none kV6 dc6 pm6 an6 cd6 ct6), sl6⟩)
    (c6 : PySem.W.codeIn K cd6 "is_edge" = true)
    (k6 : PySem.W.keepIn K (.ref f6) = true)
    (a7 : PySem.W.nsIn K mainGlobals "is_graph" = some (some (.ref f7)))
    (l7 : K.lookup f7 = some ⟨oc7, od7, .func (PySem.W.fnOf "is_graph" "is_graph" (defArgs s_is_graph) (defBody s_is_graph) (defScope s_is_graph) .none kV7 dc7 pm7 an7 cd7 ct7), sl7⟩)
    (c7 : PySem.W.codeIn K cd7 "is_graph" = true)
    (k7 : PySem.W.keepIn K (.ref f7) = true)
    (a8 : PySem.W.nsIn K mainGlobals "check_graph" = some (some (.ref f8)))
    (l8 : K.lookup f8 = some ⟨oc8, od8, .func (PySem.W.fnOf "check_graph" "check_graph" (defArgs s_check_graph) (defBody s_check_graph) (defScope s_check_graph) .none kV8 dc8 pm8 an8 cd8 ct8), sl8⟩)
    (c8 : PySem.W.codeIn K cd8 "check_graph" = true)
    (k8 : PySem.W.keepIn K (.ref f8) = true)
    (a9 : PySem.W.nsIn K mainGlobals "is_rising" = some (some (.ref f9)))
    (l9 : K.lookup f9 = some ⟨oc9, od9, .func (PySem.W.fnOf "is_rising" "is_rising" (defArgs s_is_rising) (defBody s_is_rising) (defScope s_is_rising) .none kV9 dc9 pm9 an9 cd9 ct9), sl9⟩)
    (c9 : PySem.W.codeIn K cd9 "is_rising" = true)
    (k9 : PySem.W.keepIn K (.ref f9) = true)
    (a10 : PySem.W.nsIn K mainGlobals "are_marks" = some (some (.ref f10)))
    (l10 : K.lookup f10 = some ⟨oc10, od10, .func (PySem.W.fnOf "are_marks" "are_marks" (defArgs s_are_marks) (defBody s_are_marks) (defScope s_are_marks) .none kV10 dc10 pm10 an10 cd10 ct10), sl10⟩)
    (c10 : PySem.W.codeIn K cd10 "are_marks" = true)
    (k10 : PySem.W.keepIn K (.ref f10) = true)
    (a11 : PySem.W.nsIn K mainGlobals "check_marks" = some (some (.ref f11)))
    (l11 : K.lookup f11 = some ⟨oc11, od11, .func (PySem.W.fnOf "check_marks" "check_marks" (defArgs s_check_marks) (defBody s_check_marks) (defScope s_check_marks) .none kV11 dc11 pm11 an11 cd11 ct11), sl11⟩)
    (c11 : PySem.W.codeIn K cd11 "check_marks" = true)
    (k11 : PySem.W.keepIn K (.ref f11) = true)
    (a12 : PySem.W.nsIn K mainGlobals "text_of" = some (some (.ref f12)))
    (l12 : K.lookup f12 = some ⟨oc12, od12, .func (PySem.W.fnOf "text_of" "text_of" (defArgs s_text_of) (defBody s_text_of) (defScope s_text_of) .none kV12 dc12 pm12 an12 cd12 ct12), sl12⟩)
    (c12 : PySem.W.codeIn K cd12 "text_of" = true)
    (k12 : PySem.W.keepIn K (.ref f12) = true)
    (a13 : PySem.W.nsIn K mainGlobals "format_graph" = some (some (.ref f13)))
    (l13 : K.lookup f13 = some ⟨oc13, od13, .func (PySem.W.fnOf "format_graph" "format_graph" (defArgs s_format_graph) (defBody s_format_graph) (defScope s_format_graph) .none kV13 dc13 pm13 an13 cd13 ct13), sl13⟩)
    (c13 : PySem.W.codeIn K cd13 "format_graph" = true)
    (k13 : PySem.W.keepIn K (.ref f13) = true)
    (a15 : PySem.W.nsIn K mainGlobals "parse_graph" = some (some (.ref f15)))
    (l15 : K.lookup f15 = some ⟨oc15, od15, .func (PySem.W.fnOf "parse_graph" "parse_graph" (defArgs s_parse_graph) (defBody s_parse_graph) (defScope s_parse_graph) .none kV15 dc15 pm15 an15 cd15 ct15), sl15⟩)
    (c15 : PySem.W.codeIn K cd15 "parse_graph" = true)
    (k15 : PySem.W.keepIn K (.ref f15) = true)
    (a16 : PySem.W.nsIn K mainGlobals "_law_parse" = some (some (.ref f16)))
    (l16 : K.lookup f16 = some ⟨oc16, od16, .func (PySem.W.fnOf "_law_parse" "_law_parse" (defArgs s__law_parse) (defBody s__law_parse) (defScope s__law_parse) .none kV16 dc16 pm16 an16 cd16 ct16), sl16⟩)
    (c16 : PySem.W.codeIn K cd16 "_law_parse" = true)
    (k16 : PySem.W.keepIn K (.ref f16) = true)
    (a17 : PySem.W.nsIn K mainGlobals "law" = some (some (.ref f17)))
    (l17 : K.lookup f17 = some ⟨oc17, od17, .func (PySem.W.fnOf "law" "law" (defArgs s_law) (defBody s_law) (defScope s_law) .none kV17 dc17 pm17 an17 cd17 ct17), sl17⟩)
    (c17 : PySem.W.codeIn K cd17 "law" = true)
    (k17 : PySem.W.keepIn K (.ref f17) = true)
    (z_bool : PySem.W.nsIn K mainGlobals "bool" = some none)
    (z_DIGITS : PySem.W.nsIn K mainGlobals "DIGITS" = some (some (.str "0123456789" t_DIGITS)))
    (z_MAX_EDGES : PySem.W.nsIn K mainGlobals "MAX_EDGES" = some (some (.int 9 t_MAX_EDGES)))
    (z_MAX_VERTICES : PySem.W.nsIn K mainGlobals "MAX_VERTICES" = some (some (.int 6 t_MAX_VERTICES)))
    (z_enumerate : PySem.W.nsIn K mainGlobals "enumerate" = some none)
    (z_int : PySem.W.nsIn K mainGlobals "int" = some none)
    (z_isinstance : PySem.W.nsIn K mainGlobals "isinstance" = some none)
    (z_len : PySem.W.nsIn K mainGlobals "len" = some none)
    (z_max : PySem.W.nsIn K mainGlobals "max" = some none)
    (z_min : PySem.W.nsIn K mainGlobals "min" = some none)
    (z_range : PySem.W.nsIn K mainGlobals "range" = some none)
    (z_set : PySem.W.nsIn K mainGlobals "set" = some none)
    (z_sorted : PySem.W.nsIn K mainGlobals "sorted" = some none)
    (z_str : PySem.W.nsIn K mainGlobals "str" = some none)
    (z_tuple : PySem.W.nsIn K mainGlobals "tuple" = some none)
    (z_zip : PySem.W.nsIn K mainGlobals "zip" = some none)
    (aC0 : PySem.W.nsIn K mainGlobals "InvalidGraph" = some (some (.ref C0)))
    (aC1 : PySem.W.nsIn K mainGlobals "InvalidMarks" = some (some (.ref C1)))
    (aC7 : PySem.W.nsIn K mainGlobals "ParseError" = some (some (.ref C7)))
    (aC8 : PySem.W.nsIn K mainGlobals "MarkError" = some (some (.ref C8)))
    (x0_ : PySem.W.excIn K C0 [.type "ValueError", .type "Exception", .type "BaseException", .type "object"] "ValueError.__new__" = true)
    (kC0 : PySem.W.keepIn K (.ref C0) = true)
    (bC0 : PySem.W.subIn K (.ref C0) (.type "BaseException") = some true)
    (tC0 : PySem.W.typeIn K (.ref C0) = some (.type "type"))
    (x1_ : PySem.W.excIn K C1 [.type "ValueError", .type "Exception", .type "BaseException", .type "object"] "ValueError.__new__" = true)
    (kC1 : PySem.W.keepIn K (.ref C1) = true)
    (bC1 : PySem.W.subIn K (.ref C1) (.type "BaseException") = some true)
    (tC1 : PySem.W.typeIn K (.ref C1) = some (.type "type"))
    (s0_0 : PySem.W.subIn K (.ref C0) (.ref C0) = some true)
    (s0_1 : PySem.W.subIn K (.ref C1) (.ref C0) = some false)
    (s0_7 : PySem.W.subIn K (.ref C7) (.ref C0) = some false)
    (s0_8 : PySem.W.subIn K (.ref C8) (.ref C0) = some false)
    (s8_0 : PySem.W.subIn K (.ref C0) (.ref C8) = some true)
    (s8_1 : PySem.W.subIn K (.ref C1) (.ref C8) = some true)
    (s8_7 : PySem.W.subIn K (.ref C7) (.ref C8) = some true)
    (s8_8 : PySem.W.subIn K (.ref C8) (.ref C8) = some true)
    (tC8 : PySem.W.typeIn K (.ref C8) = some (.type "type"))
    (s7_0 : PySem.W.subIn K (.ref C0) (.ref C7) = some false)
    (s7_1 : PySem.W.subIn K (.ref C1) (.ref C7) = some false)
    (s7_7 : PySem.W.subIn K (.ref C7) (.ref C7) = some true)
    (s7_8 : PySem.W.subIn K (.ref C8) (.ref C7) = some false)
    (tC7 : PySem.W.typeIn K (.ref C7) = some (.type "type"))
    (g0_1 : PySem.W.findIn K (.ref C0) "__getattribute__" = some (some (.builtin "BaseException.__getattribute__")))
    (g0_2 : PySem.W.findIn K (.ref C0) "__getattr__" = some none)
    (g0_3 : PySem.W.subIn K (.ref C0) (.type "BaseException") = some true)
    (g0_4 : PySem.W.hasDictIn K C0 = true)
    (g0_5 : PySem.W.findIn K (.ref C0) "__class__" = some (some (.builtin "object.__class__")))
    (g0_8 : PySem.W.mroIn K C0 (.type "object") = some true)
    (g1_1 : PySem.W.findIn K (.ref C1) "__getattribute__" = some (some (.builtin "BaseException.__getattribute__")))
    (g1_2 : PySem.W.findIn K (.ref C1) "__getattr__" = some none)
    (g1_3 : PySem.W.subIn K (.ref C1) (.type "BaseException") = some true)
    (g1_4 : PySem.W.hasDictIn K C1 = true)
    (g1_5 : PySem.W.findIn K (.ref C1) "__class__" = some (some (.builtin "object.__class__")))
    (g1_8 : PySem.W.mroIn K C1 (.type "object") = some true)
    (g7_1 : PySem.W.findIn K (.ref C7) "__getattribute__" = some (some (.builtin "BaseException.__getattribute__")))
    (g7_2 : PySem.W.findIn K (.ref C7) "__getattr__" = some none)
    (g7_3 : PySem.W.subIn K (.ref C7) (.type "BaseException") = some true)
    (g7_4 : PySem.W.hasDictIn K C7 = true)
    (g7_5 : PySem.W.findIn K (.ref C7) "__class__" = some (some (.builtin "object.__class__")))
    (g7_8 : PySem.W.mroIn K C7 (.type "object") = some true)
    (g8_1 : PySem.W.findIn K (.ref C8) "__getattribute__" = some (some (.builtin "BaseException.__getattribute__")))
    (g8_2 : PySem.W.findIn K (.ref C8) "__getattr__" = some none)
    (g8_3 : PySem.W.subIn K (.ref C8) (.type "BaseException") = some true)
    (g8_4 : PySem.W.hasDictIn K C8 = true)
    (g8_5 : PySem.W.findIn K (.ref C8) "__class__" = some (some (.builtin "object.__class__")))
    (g8_8 : PySem.W.mroIn K C8 (.type "object") = some true)
    (g_6 : PySem.W.specialIn K (.builtin "object.__class__") "__get__" = some (some (.builtin "getset_descriptor.__get__")))
    (g_7 : PySem.W.takesIn K (.builtin "object.__class__") = some true)
    (nol_0 : PySem.W.findIn K (.ref C0) "line" = some none)
    (nol_1 : PySem.W.findIn K (.ref C1) "line" = some none)
    (nol_7 : PySem.W.findIn K (.ref C7) "line" = some none)
    (nol_8 : PySem.W.findIn K (.ref C8) "line" = some none)
    (a14 : PySem.W.findIn K (.ref C7) "__init__" = some (some (.ref f14)))
    (i14 : PySem.W.isFn K (.ref f14) = true)
    (l14 : K.lookup f14 = some ⟨oc14, od14, .func (PySem.W.fnOf "__init__" "ParseError.__init__" (defArgs s_L___init__) (defBody s_L___init__) (defScope s_L___init__) .none kV14 dc14 pm14 an14 cd14 ct14), sl14⟩)
    (c14 : PySem.W.codeIn K cd14 "ParseError.__init__" = true)
    (k14 : PySem.W.keepIn K (.ref f14) = true)
    (xL7 : K.lookup C7 = some (excClassObj nm7 q7 C7 N7 bs7 bm7 true sn7 sub7 ab7 col7 dd7 m70 m71 m72 m73 m75 "ValueError.__new__"))
    (rb7 : PySem.HandSPX.refsVE bm7 = true)
    (sa7 : PySem.W.findIn K (.ref C7) "__setattr__" = some (some (.builtin "object.__setattr__")))
    (eC7 : PySem.W.subIn K (.ref C7) (.type "BaseException") = some true)
    (yC7 : PySem.W.typeIn K (.ref C7) = some (.type "type"))
    (pC7 : PySem.W.keepIn K (.ref C7) = true)
    (ga8 : PySem.W.specialIn K (.ref C8) "__getattribute__" = some (some (.builtin "type.__getattribute__")))
    (rd8 : PySem.W.readsIn K C8 (.type "type") = true)
    (fi8 : PySem.W.findCls K (.ref C8) (.type "type") "__init__" = some (.val (.builtin "ValueError.__init__")))
    : ∃ fd : FuncData, (∀ (s : Shared) (u : Value), BindsTo s fd ⟨[u], []⟩ [("_law_script", u)]) ∧ ∀ base : Heap, K.In base → base.Ns mainGlobals mg → FnOk l.prog w K mg base (L2.CX l.prog w) 8 fa fd ["_law_script"] (spLaw K) := by
  have e := hfa.symm.trans (PySem.W.mg_of X G a17)
  cases e
  have T : Txt K mg (fun k => ([C0, C1, C8, C8, C8, C8, C8, C7, C8] : List Addr).getD k 0) := ⟨PySem.W.mg_none_of X G z_bool, ⟨_, PySem.W.mg_of X G z_DIGITS⟩, ⟨_, PySem.W.mg_of X G z_MAX_EDGES⟩, ⟨_, PySem.W.mg_of X G z_MAX_VERTICES⟩, PySem.W.mg_none_of X G z_enumerate, PySem.W.mg_none_of X G z_int, PySem.W.mg_none_of X G z_isinstance, PySem.W.mg_none_of X G z_len, ⟨PySem.W.mg_of X G aC8, PySem.W.mg_of X G aC7, ga8, rd8, fi8, ⟨⟨_, _, _, _, _, _, _, _, _, _, _, _, _, _, _, xL7, rb7⟩, sa7, eC7, yC7, pC7⟩, nol_7⟩, PySem.W.mg_none_of X G z_max, PySem.W.mg_none_of X G z_min, (fun k hk => match k, hk with | 0, _ => nol_0 | 1, _ => nol_1 | 2, _ => nol_8 | 3, _ => nol_8 | 4, _ => nol_8 | 5, _ => nol_8 | 6, _ => nol_8 | 7, _ => nol_7 | 8, _ => nol_8 | k + 9, hk => absurd hk (by omega)), PySem.W.mg_none_of X G z_range, PySem.W.mg_none_of X G z_set, PySem.W.mg_none_of X G z_sorted, PySem.W.mg_none_of X G z_str, PySem.W.mg_none_of X G z_tuple, PySem.W.mg_none_of X G z_zip, ⟨PySem.W.mg_of X G aC0, x0_, kC0, bC0, tC0⟩, ⟨PySem.W.mg_of X G aC1, x1_, kC1, bC1, tC1⟩, ⟨PySem.W.mg_of X G aC0, (fun k hk => match k, hk with | 0, _ => PySem.W.exm_ref g0_3 g0_4 tC0 s0_0 | 1, _ => PySem.W.exm_ref g0_3 g0_4 tC0 s0_1 | 2, _ => PySem.W.exm_ref g0_3 g0_4 tC0 s0_8 | 3, _ => PySem.W.exm_ref g0_3 g0_4 tC0 s0_8 | 4, _ => PySem.W.exm_ref g0_3 g0_4 tC0 s0_8 | 5, _ => PySem.W.exm_ref g0_3 g0_4 tC0 s0_8 | 6, _ => PySem.W.exm_ref g0_3 g0_4 tC0 s0_8 | 7, _ => PySem.W.exm_ref g0_3 g0_4 tC0 s0_7 | 8, _ => PySem.W.exm_ref g0_3 g0_4 tC0 s0_8 | k + 9, hk => absurd hk (by omega)), (fun k hk => match k, hk with | 0, _ => kit_ref g0_4 tC0 s0_0 s0_0 | 1, _ => kit_ref g0_4 tC0 s0_1 s0_0 | 2, _ => kit_ref g0_4 tC0 s0_8 s0_0 | 3, _ => kit_ref g0_4 tC0 s0_8 s0_0 | 4, _ => kit_ref g0_4 tC0 s0_8 s0_0 | 5, _ => kit_ref g0_4 tC0 s0_8 s0_0 | 6, _ => kit_ref g0_4 tC0 s0_8 s0_0 | 7, _ => kit_ref g0_4 tC0 s0_7 s0_0 | 8, _ => kit_ref g0_4 tC0 s0_8 s0_0 | k + 9, hk => absurd hk (by omega))⟩, ⟨PySem.W.mg_of X G aC8, (fun k hk => match k, hk with | 0, _ => PySem.W.exm_ref g8_3 g8_4 tC8 s8_0 | 1, _ => PySem.W.exm_ref g8_3 g8_4 tC8 s8_1 | 2, _ => PySem.W.exm_ref g8_3 g8_4 tC8 s8_8 | 3, _ => PySem.W.exm_ref g8_3 g8_4 tC8 s8_8 | 4, _ => PySem.W.exm_ref g8_3 g8_4 tC8 s8_8 | 5, _ => PySem.W.exm_ref g8_3 g8_4 tC8 s8_8 | 6, _ => PySem.W.exm_ref g8_3 g8_4 tC8 s8_8 | 7, _ => PySem.W.exm_ref g8_3 g8_4 tC8 s8_7 | 8, _ => PySem.W.exm_ref g8_3 g8_4 tC8 s8_8 | k + 9, hk => absurd hk (by omega)), (fun k hk => match k, hk with | 0, _ => kit_ref g8_4 tC8 s8_0 s8_8 | 1, _ => kit_ref g8_4 tC8 s8_1 s8_8 | 2, _ => kit_ref g8_4 tC8 s8_8 s8_8 | 3, _ => kit_ref g8_4 tC8 s8_8 s8_8 | 4, _ => kit_ref g8_4 tC8 s8_8 s8_8 | 5, _ => kit_ref g8_4 tC8 s8_8 s8_8 | 6, _ => kit_ref g8_4 tC8 s8_8 s8_8 | 7, _ => kit_ref g8_4 tC8 s8_7 s8_8 | 8, _ => kit_ref g8_4 tC8 s8_8 s8_8 | k + 9, hk => absurd hk (by omega))⟩, ⟨PySem.W.mg_of X G aC7, (fun k hk => match k, hk with | 0, _ => PySem.W.exm_ref g7_3 g7_4 tC7 s7_0 | 1, _ => PySem.W.exm_ref g7_3 g7_4 tC7 s7_1 | 2, _ => PySem.W.exm_ref g7_3 g7_4 tC7 s7_8 | 3, _ => PySem.W.exm_ref g7_3 g7_4 tC7 s7_8 | 4, _ => PySem.W.exm_ref g7_3 g7_4 tC7 s7_8 | 5, _ => PySem.W.exm_ref g7_3 g7_4 tC7 s7_8 | 6, _ => PySem.W.exm_ref g7_3 g7_4 tC7 s7_8 | 7, _ => PySem.W.exm_ref g7_3 g7_4 tC7 s7_7 | 8, _ => PySem.W.exm_ref g7_3 g7_4 tC7 s7_8 | k + 9, hk => absurd hk (by omega)), (fun k hk => match k, hk with | 0, _ => kit_ref g7_4 tC7 s7_0 s7_7 | 1, _ => kit_ref g7_4 tC7 s7_1 s7_7 | 2, _ => kit_ref g7_4 tC7 s7_8 s7_7 | 3, _ => kit_ref g7_4 tC7 s7_8 s7_7 | 4, _ => kit_ref g7_4 tC7 s7_8 s7_7 | 5, _ => kit_ref g7_4 tC7 s7_8 s7_7 | 6, _ => kit_ref g7_4 tC7 s7_8 s7_7 | 7, _ => kit_ref g7_4 tC7 s7_7 s7_7 | 8, _ => kit_ref g7_4 tC7 s7_8 s7_7 | k + 9, hk => absurd hk (by omega))⟩, (fun k hk => match k, hk with | 0, _ => ⟨g0_1, g0_2, g0_3, g0_4, g0_5, g_6, g_7, g0_8⟩ | 1, _ => ⟨g1_1, g1_2, g1_3, g1_4, g1_5, g_6, g_7, g1_8⟩ | 2, _ => ⟨g8_1, g8_2, g8_3, g8_4, g8_5, g_6, g_7, g8_8⟩ | 3, _ => ⟨g8_1, g8_2, g8_3, g8_4, g8_5, g_6, g_7, g8_8⟩ | 4, _ => ⟨g8_1, g8_2, g8_3, g8_4, g8_5, g_6, g_7, g8_8⟩ | 5, _ => ⟨g8_1, g8_2, g8_3, g8_4, g8_5, g_6, g_7, g8_8⟩ | 6, _ => ⟨g8_1, g8_2, g8_3, g8_4, g8_5, g_6, g_7, g8_8⟩ | 7, _ => ⟨g7_1, g7_2, g7_3, g7_4, g7_5, g_6, g_7, g7_8⟩ | 8, _ => ⟨g8_1, g8_2, g8_3, g8_4, g8_5, g_6, g_7, g8_8⟩ | k + 9, hk => absurd hk (by omega))⟩
  refine ⟨PySem.W.fnOf "law" "law" (defArgs s_law) (defBody s_law) (defScope s_law) .none kV17 dc17 pm17 an17 cd17 ct17, fun s v => .of_eq rfl, fun base _ _ => ?_⟩
  have F0 := fun_mk (st := s__law_cell) l0 c0 k0
  have d0 : DefE K mg "_law_cell" s__law_cell ["_law_script", "_law_k"] := ⟨f0, _, PySem.W.mg_of X G a0, F0, F0.binds (ps := ["_law_script", "_law_k"]) fun _ _ _ _ _ _ us hl => match us, hl with | [_, _], _ => rfl⟩
  have o__law_cell := ok__law_cell (P := l.prog) (w := w) (base := base) T d0 
  have F1 := fun_mk (st := s__law_row) l1 c1 k1
  have d1 : DefE K mg "_law_row" s__law_row ["_law_script", "_law_at"] := ⟨f1, _, PySem.W.mg_of X G a1, F1, F1.binds (ps := ["_law_script", "_law_at"]) fun _ _ _ _ _ _ us hl => match us, hl with | [_, _], _ => rfl⟩
  have o__law_row := ok__law_row (P := l.prog) (w := w) (base := base) T d1 o__law_cell
  have F2 := fun_mk (st := s__law_graph) l2 c2 k2
  have d2 : DefE K mg "_law_graph" s__law_graph ["_law_script", "_law_at", "_law_most"] := ⟨f2, _, PySem.W.mg_of X G a2, F2, F2.binds (ps := ["_law_script", "_law_at", "_law_most"]) fun _ _ _ _ _ _ us hl => match us, hl with | [_, _, _], _ => rfl⟩
  have o__law_graph := ok__law_graph (P := l.prog) (w := w) (base := base) T d2 o__law_row
  have F3 := fun_mk (st := s__law_degree) l3 c3 k3
  have d3 : DefE K mg "_law_degree" s__law_degree ["_law_graph_here", "_law_vertex"] := ⟨f3, _, PySem.W.mg_of X G a3, F3, F3.binds (ps := ["_law_graph_here", "_law_vertex"]) fun _ _ _ _ _ _ us hl => match us, hl with | [_, _], _ => rfl⟩
  have o__law_degree := ok__law_degree (P := l.prog) (w := w) (base := base) T d3 
  have F4 := fun_mk (st := s__law_marks) l4 c4 k4
  have d4 : DefE K mg "_law_marks" s__law_marks ["_law_script", "_law_at", "_law_graph_here"] := ⟨f4, _, PySem.W.mg_of X G a4, F4, F4.binds (ps := ["_law_script", "_law_at", "_law_graph_here"]) fun _ _ _ _ _ _ us hl => match us, hl with | [_, _, _], _ => rfl⟩
  have o__law_marks := ok__law_marks (P := l.prog) (w := w) (base := base) T d4 o__law_row o__law_degree
  have F5 := fun_mk (st := s_in_range) l5 c5 k5
  have d5 : DefE K mg "in_range" s_in_range ["value", "low", "high"] := ⟨f5, _, PySem.W.mg_of X G a5, F5, F5.binds (ps := ["value", "low", "high"]) fun _ _ _ _ _ _ us hl => match us, hl with | [_, _, _], _ => rfl⟩
  have o_in_range := ok_in_range (P := l.prog) (w := w) (base := base) T d5 
  have F6 := fun_mk (st := s_is_edge) l6 c6 k6
  have d6 : DefE K mg "is_edge" s_is_edge ["vertices", "value"] := ⟨f6, _, PySem.W.mg_of X G a6, F6, F6.binds (ps := ["vertices", "value"]) fun _ _ _ _ _ _ us hl => match us, hl with | [_, _], _ => rfl⟩
  have o_is_edge := ok_is_edge (P := l.prog) (w := w) (base := base) T d6 o_in_range
  have F7 := fun_mk (st := s_is_graph) l7 c7 k7
  have d7 : DefE K mg "is_graph" s_is_graph ["value"] := ⟨f7, _, PySem.W.mg_of X G a7, F7, F7.binds (ps := ["value"]) fun _ _ _ _ _ _ us hl => match us, hl with | [_], _ => rfl⟩
  have o_is_graph := ok_is_graph (P := l.prog) (w := w) (base := base) T d7 o_in_range o_is_edge
  have F8 := fun_mk (st := s_check_graph) l8 c8 k8
  have d8 : DefE K mg "check_graph" s_check_graph ["graph"] := ⟨f8, _, PySem.W.mg_of X G a8, F8, F8.binds (ps := ["graph"]) fun _ _ _ _ _ _ us hl => match us, hl with | [_], _ => rfl⟩
  have o_check_graph := ok_check_graph (P := l.prog) (w := w) (base := base) T d8 o_is_graph
  have F9 := fun_mk (st := s_is_rising) l9 c9 k9
  have d9 : DefE K mg "is_rising" s_is_rising ["value", "count"] := ⟨f9, _, PySem.W.mg_of X G a9, F9, F9.binds (ps := ["value", "count"]) fun _ _ _ _ _ _ us hl => match us, hl with | [_, _], _ => rfl⟩
  have o_is_rising := ok_is_rising (P := l.prog) (w := w) (base := base) T d9 o_in_range
  have F10 := fun_mk (st := s_are_marks) l10 c10 k10
  have d10 : DefE K mg "are_marks" s_are_marks ["graph", "value"] := ⟨f10, _, PySem.W.mg_of X G a10, F10, F10.binds (ps := ["graph", "value"]) fun _ _ _ _ _ _ us hl => match us, hl with | [_, _], _ => rfl⟩
  have o_are_marks := ok_are_marks (P := l.prog) (w := w) (base := base) T d10 o_is_rising
  have F11 := fun_mk (st := s_check_marks) l11 c11 k11
  have d11 : DefE K mg "check_marks" s_check_marks ["graph", "marks"] := ⟨f11, _, PySem.W.mg_of X G a11, F11, F11.binds (ps := ["graph", "marks"]) fun _ _ _ _ _ _ us hl => match us, hl with | [_, _], _ => rfl⟩
  have o_check_marks := ok_check_marks (P := l.prog) (w := w) (base := base) T d11 o_check_graph o_are_marks
  have F12 := fun_mk (st := s_text_of) l12 c12 k12
  have d12 : DefE K mg "text_of" s_text_of ["graph", "marks"] := ⟨f12, _, PySem.W.mg_of X G a12, F12, F12.binds (ps := ["graph", "marks"]) fun _ _ _ _ _ _ us hl => match us, hl with | [_, _], _ => rfl⟩
  have o_text_of := ok_text_of (P := l.prog) (w := w) (base := base) T d12 
  have F13 := fun_mk (st := s_format_graph) l13 c13 k13
  have d13 : DefE K mg "format_graph" s_format_graph ["graph", "marks"] := ⟨f13, _, PySem.W.mg_of X G a13, F13, F13.binds (ps := ["graph", "marks"]) fun _ _ _ _ _ _ us hl => match us, hl with | [_, _], _ => rfl⟩
  have o_format_graph := ok_format_graph (P := l.prog) (w := w) (base := base) T d13 o_check_marks o_text_of
  have F14 := fun_mk (st := s_L___init__) l14 c14 k14
  have b14 : Binds K _ ["self", "line"] [] := F14.binds (ps := ["self", "line"]) fun _ _ _ _ _ _ us hl => match us, hl with | [_, _], _ => rfl
  have o_L___init__ := ok_L___init__ (P := l.prog) (w := w) (base := base) T a14 F14 i14 b14
  have F15 := fun_mk (st := s_parse_graph) l15 c15 k15
  have d15 : DefE K mg "parse_graph" s_parse_graph ["text"] := ⟨f15, _, PySem.W.mg_of X G a15, F15, F15.binds (ps := ["text"]) fun _ _ _ _ _ _ us hl => match us, hl with | [_], _ => rfl⟩
  have o_parse_graph := ok_parse_graph (P := l.prog) (w := w) (base := base) T d15 o_L___init__ o_is_graph o_are_marks
  have F16 := fun_mk (st := s__law_parse) l16 c16 k16
  have d16 : DefE K mg "_law_parse" s__law_parse ["_law_text"] := ⟨f16, _, PySem.W.mg_of X G a16, F16, F16.binds (ps := ["_law_text"]) fun _ _ _ _ _ _ us hl => match us, hl with | [_], _ => rfl⟩
  have o__law_parse := ok__law_parse (P := l.prog) (w := w) (base := base) T d16 o_parse_graph
  exact law_imp (okl_law (P := l.prog) (w := w) (base := base) T (fun_mk (st := s_law) l17 c17 k17) o__law_row o__law_graph o__law_marks o_format_graph o__law_parse)
theorem walk {l : PySem.W.OpenLaw} {q : Program} {loose : List Str} {XP : (Str → Option Value) → Heap → Prop} {YP : World → Heap → Prop} {d : DefRec} {K : Params → PySem.W.Frag} (hn : l.most = some 63) (hdf : d.params.defaults = [])
    (hY : ∀ (w : World) (h : Heap), YP w h → (K w.params).In h)
    (F : ∀ (w : World) (mg : Str → Option Value) (fa : Addr) (h : Heap), (K w.params).In h → h.Ns mainGlobals mg → mg d.name = some (.ref fa) →
      ∃ fd : FuncData, (∀ (s : Shared) (u : Value), BindsTo s fd ⟨[u], []⟩ [("_law_script", u)]) ∧ ∀ base : Heap, (K w.params).In base → base.Ns mainGlobals mg → FnOk l.prog w (K w.params) mg base (L2.CX l.prog w) 8 fa fd ["_law_script"] (spLaw (K w.params))) :
    PySem.W.WalkO q loose XP YP l.row.toRowW d [] (fun f vs => PySem.call f vs) :=
  L2.walk_of (n := 63) (k := 8) (x := "_law_script") (CX := fun w => L2.CX l.prog w) (sp := fun w => spLaw (K w.params)) hn (by decide) hdf ⟨rfl, by decide, by decide⟩ hY F (fun _ _ a ns hl _ hS => ⟨a, ns, rfl, hl, hS, fun _ => rfl⟩) fun _ _ _ _ _ z => by
    obtain ⟨_, _, _, _, _, _, _, _, _, _, _, _, z⟩ := z
    exact z
end MP
open PySem PySem.W PyProof.Rows in
set_option maxRecDepth 100000 in
set_option maxHeartbeats 0 in
theorem PySem.Challenge.cw_markedpaths_k10_text_holds : PySem.Challenge.rw_markedpaths_k10_text.Holds := by
  w_on; o_law; k_head; (case hw => w_witness2)
  k_fill
  refine MP.walk (l := PySem.Challenge.rw_markedpaths_k10_text) rfl rfl (fun w h Y => PySem.W.kIn_of Y) ?F
  case F =>
    intro w mg fa h KX G hmg
    refine' MP.all_mk KX G hmg ?a0 ?l0 ?c0 ?k0 ?a1 ?l1 ?c1 ?k1 ?a2 ?l2 ?c2 ?k2 ?a3 ?l3 ?c3 ?k3 ?a4 ?l4 ?c4 ?k4 ?a5 ?l5 ?c5 ?k5 ?a6 ?l6 ?c6 ?k6 ?a7 ?l7 ?c7 ?k7 ?a8 ?l8 ?c8 ?k8 ?a9 ?l9 ?c9 ?k9 ?a10 ?l10 ?c10 ?k10 ?a11 ?l11 ?c11 ?k11 ?a12 ?l12 ?c12 ?k12 ?a13 ?l13 ?c13 ?k13 ?a15 ?l15 ?c15 ?k15 ?a16 ?l16 ?c16 ?k16 ?a17 ?l17 ?c17 ?k17 ?z_bool ?z_DIGITS ?z_MAX_EDGES ?z_MAX_VERTICES ?z_enumerate ?z_int ?z_isinstance ?z_len ?z_max ?z_min ?z_range ?z_set ?z_sorted ?z_str ?z_tuple ?z_zip ?aC0 ?aC1 ?aC7 ?aC8 ?x0_ ?kC0 ?bC0 ?tC0 ?x1_ ?kC1 ?bC1 ?tC1 ?s0_0 ?s0_1 ?s0_7 ?s0_8 ?s8_0 ?s8_1 ?s8_7 ?s8_8 ?tC8 ?s7_0 ?s7_1 ?s7_7 ?s7_8 ?tC7 ?g0_1 ?g0_2 ?g0_3 ?g0_4 ?g0_5 ?g0_8 ?g1_1 ?g1_2 ?g1_3 ?g1_4 ?g1_5 ?g1_8 ?g7_1 ?g7_2 ?g7_3 ?g7_4 ?g7_5 ?g7_8 ?g8_1 ?g8_2 ?g8_3 ?g8_4 ?g8_5 ?g8_8 ?g_6 ?g_7 ?nol_0 ?nol_1 ?nol_7 ?nol_8 ?a14 ?i14 ?l14 ?c14 ?k14 ?xL7 ?rb7 ?sa7 ?eC7 ?yC7 ?pC7 ?ga8 ?rd8 ?fi8
    (case a0 => k_is)
    (case l0 => k_is)
    (case c0 => k_is)
    (case k0 => k_is)
    (case a1 => k_is)
    (case l1 => k_is)
    (case c1 => k_is)
    (case k1 => k_is)
    (case a2 => k_is)
    (case l2 => k_is)
    (case c2 => k_is)
    (case k2 => k_is)
    (case a3 => k_is)
    (case l3 => k_is)
    (case c3 => k_is)
    (case k3 => k_is)
    (case a4 => k_is)
    (case l4 => k_is)
    (case c4 => k_is)
    (case k4 => k_is)
    (case a5 => k_is)
    (case l5 => k_is)
    (case c5 => k_is)
    (case k5 => k_is)
    (case a6 => k_is)
    (case l6 => k_is)
    (case c6 => k_is)
    (case k6 => k_is)
    (case a7 => k_is)
    (case l7 => k_is)
    (case c7 => k_is)
    (case k7 => k_is)
    (case a8 => k_is)
    (case l8 => k_is)
    (case c8 => k_is)
    (case k8 => k_is)
    (case a9 => k_is)
    (case l9 => k_is)
    (case c9 => k_is)
    (case k9 => k_is)
    (case a10 => k_is)
    (case l10 => k_is)
    (case c10 => k_is)
    (case k10 => k_is)
    (case a11 => k_is)
    (case l11 => k_is)
    (case c11 => k_is)
    (case k11 => k_is)
    (case a12 => k_is)
    (case l12 => k_is)
    (case c12 => k_is)
    (case k12 => k_is)
    (case a13 => k_is)
    (case l13 => k_is)
    (case c13 => k_is)
    (case k13 => k_is)
    (case a15 => k_is)
    (case l15 => k_is)
    (case c15 => k_is)
    (case k15 => k_is)
    (case a16 => k_is)
    (case l16 => k_is)
    (case c16 => k_is)
    (case k16 => k_is)
    (case a17 => k_is)
    (case l17 => k_is)
    (case c17 => k_is)
    (case k17 => k_is)
    (case z_bool => k_is)
    (case z_DIGITS => k_is)
    (case z_MAX_EDGES => k_is)
    (case z_MAX_VERTICES => k_is)
    (case z_enumerate => k_is)
    (case z_int => k_is)
    (case z_isinstance => k_is)
    (case z_len => k_is)
    (case z_max => k_is)
    (case z_min => k_is)
    (case z_range => k_is)
    (case z_set => k_is)
    (case z_sorted => k_is)
    (case z_str => k_is)
    (case z_tuple => k_is)
    (case z_zip => k_is)
    (case aC0 => k_is)
    (case aC1 => k_is)
    (case aC7 => k_is)
    (case aC8 => k_is)
    (case x0_ => k_exc)
    (case kC0 => k_is)
    (case bC0 => k_is)
    (case tC0 => k_is)
    (case x1_ => k_exc)
    (case kC1 => k_is)
    (case bC1 => k_is)
    (case tC1 => k_is)
    (case s0_0 => first | k_is | rfl)
    (case s0_1 => first | k_is | rfl)
    (case s0_7 => first | k_is | rfl)
    (case s0_8 => first | k_is | rfl)
    (case s8_0 => first | k_is | rfl)
    (case s8_1 => first | k_is | rfl)
    (case s8_7 => first | k_is | rfl)
    (case s8_8 => first | k_is | rfl)
    (case tC8 => k_is)
    (case s7_0 => first | k_is | rfl)
    (case s7_1 => first | k_is | rfl)
    (case s7_7 => first | k_is | rfl)
    (case s7_8 => first | k_is | rfl)
    (case tC7 => k_is)
    (case g0_1 => k_is)
    (case g0_2 => k_is)
    (case g0_3 => k_is)
    (case g0_4 => k_is)
    (case g0_5 => k_is)
    (case g0_8 => k_is)
    (case g1_1 => k_is)
    (case g1_2 => k_is)
    (case g1_3 => k_is)
    (case g1_4 => k_is)
    (case g1_5 => k_is)
    (case g1_8 => k_is)
    (case g7_1 => k_is)
    (case g7_2 => k_is)
    (case g7_3 => k_is)
    (case g7_4 => k_is)
    (case g7_5 => k_is)
    (case g7_8 => k_is)
    (case g8_1 => k_is)
    (case g8_2 => k_is)
    (case g8_3 => k_is)
    (case g8_4 => k_is)
    (case g8_5 => k_is)
    (case g8_8 => k_is)
    (case g_6 => k_is)
    (case g_7 => k_is)
    (case nol_0 => k_is)
    (case nol_1 => k_is)
    (case nol_7 => k_is)
    (case nol_8 => k_is)
    (case a14 => k_is)
    (case i14 => k_is)
    (case l14 => k_is)
    (case c14 => k_is)
    (case k14 => k_is)
    (case xL7 => k_is)
    (case rb7 => first | rfl | decide +kernel | k_is)
    (case sa7 => k_is)
    (case eC7 => k_is)
    (case yC7 => k_is)
    (case pC7 => k_is)
    (case ga8 => k_is)
    (case rd8 => k_is)
    (case fi8 => first | k_is | rfl | decide +kernel)
#print axioms PySem.Challenge.cw_markedpaths_k10_text_holds
