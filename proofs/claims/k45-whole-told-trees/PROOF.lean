import PyProof.Rows.All
import Wide.All
import OpenK.AllK
import Wide.FinOn
import HandS.ForMost
import HandS.Deep
import HandS.IsInst
import HandS.TupAny
import HandS.Style
import HandS.Conv
import KE.SortData
import PyProof.ReprRoads
import KE.KDictSum
import KE.GoesEnum
import HandS.DictComp
import PySem.Challenge.RW_doublecut_k45_whole_told_trees
set_option Elab.async false
set_option linter.all false
set_option maxRecDepth 100000
/-! Pd0: data (PyData) read off a persistent part G of the abstract heap; slots; the state of a def by its data alone. -/
namespace Pd
open PySem PySem.Spec PyProof.Rows L2

abbrev D := PyData
mutual
inductive Rp (G : Hp) : V → D → Prop
  | non : Rp G .non .none
  | bl (b : Bool) : Rp G (.bl b) (.bool b)
  | int (i : Int) : Rp G (.int i) (.int i)
  | str (x : Str) : Rp G (.str x) (.str x)
  | lst {a : Addr} {vs : List V} {ds : List D} : G a = some (.lst vs) → RpA G vs ds → Rp G (.ref a) (.list ds)
  | tup {a : Addr} {vs : List V} {ds : List D} : G a = some (.tup vs) → RpA G vs ds → Rp G (.ref a) (.tuple ds)
inductive RpA (G : Hp) : List V → List D → Prop
  | nil : RpA G [] []
  | cons {v : V} {vs : List V} {d : D} {ds : List D} : Rp G v d → RpA G vs ds → RpA G (v :: vs) (d :: ds)
end
section
variable {G G' : Hp}
mutual
theorem Rp.mono (h : Same G G') : ∀ (d : D) (v : V), Rp G v d → Rp G' v d
  | .none, _, r => by cases r; exact .non
  | .bool b, _, r => by cases r; exact .bl b
  | .int i, _, r => by cases r; exact .int i
  | .str x, _, r => by cases r; exact .str x
  | .list ds, _, r => by
    cases r with
    | lst h1 h2 => exact .lst (h _ _ h1) (RpA.mono h ds _ h2)
  | .tuple ds, _, r => by
    cases r with
    | tup h1 h2 => exact .tup (h _ _ h1) (RpA.mono h ds _ h2)
  | .dict _, _, r => by cases r
theorem RpA.mono (h : Same G G') : ∀ (ds : List D) (vs : List V), RpA G vs ds → RpA G' vs ds
  | [], _, r => by cases r; exact .nil
  | d :: ds, _, r => by
    cases r with
    | cons h1 h2 => exact .cons (Rp.mono h d _ h1) (RpA.mono h ds _ h2)
end
mutual
theorem Rp.dp {K : PySem.W.Frag} : ∀ (d : D) (v : V), Rp G v d → Dp K G v d
  | .none, _, r => by cases r; exact .non
  | .bool b, _, r => by cases r; exact .bl b
  | .int i, _, r => by cases r; exact .int i
  | .str x, _, r => by cases r; exact .str x
  | .list ds, _, r => by
    cases r with
    | lst h1 h2 => exact .lst (SqL.of h1) (RpA.dp ds _ h2)
  | .tuple ds, _, r => by
    cases r with
    | tup h1 h2 => exact .tup (SqT.of h1) (RpA.dp ds _ h2)
  | .dict _, _, r => by cases r
theorem RpA.dp {K : PySem.W.Frag} : ∀ (ds : List D) (vs : List V), RpA G vs ds → DpAll K G vs ds
  | [], _, r => by cases r; exact .nil
  | d :: ds, _, r => by
    cases r with
    | cons h1 h2 => exact .cons (Rp.dp d _ h1) (RpA.dp ds _ h2)
end
theorem Rp.up {v : V} {d : D} (r : Rp G v d) (h : Same G G') : Rp G' v d := Rp.mono h d v r
theorem RpA.up {vs : List V} {ds : List D} (r : RpA G vs ds) (h : Same G G') : RpA G' vs ds := RpA.mono h ds vs r
theorem RpA.len : ∀ {ds : List D} {vs : List V}, RpA G vs ds → vs.length = ds.length
  | [], _, r => by cases r; rfl
  | d :: ds, _, r => by
    cases r with
    | cons h1 h2 => rw [List.length_cons, List.length_cons, RpA.len h2]
theorem RpA.get : ∀ {ds : List D} {vs : List V} {i : Nat} {d : D}, RpA G vs ds → ds[i]? = some d → ∃ v, vs[i]? = some v ∧ Rp G v d
  | [], _, _, _, _, e => by simp at e
  | x :: ds, _, 0, d, r, e => by
    cases r with
    | cons h1 h2 =>
      have e' : x = d := Option.some.inj e
      exact ⟨_, rfl, e' ▸ h1⟩
  | x :: ds, _, i + 1, d, r, e => by
    cases r with
    | cons h1 h2 => exact RpA.get (i := i) h2 e
theorem RpA.getV {ds : List D} {vs : List V} {i : Nat} {v : V} (r : RpA G vs ds) (e : vs[i]? = some v) : ∃ d, ds[i]? = some d ∧ Rp G v d := by
  obtain ⟨hi, _⟩ := List.getElem?_eq_some_iff.mp e
  have hi' : i < ds.length := by rw [← r.len]; exact hi
  obtain ⟨u, e1, e2⟩ := r.get (List.getElem?_eq_getElem hi')
  rw [e] at e1
  exact ⟨_, List.getElem?_eq_getElem hi', Option.some.inj e1 ▸ e2⟩
theorem RpA.app : ∀ {ds es : List D} {vs us : List V}, RpA G vs ds → RpA G us es → RpA G (vs ++ us) (ds ++ es)
  | [], _, _, _, r, q => by cases r; exact q
  | d :: ds, _, _, _, r, q => by
    cases r with
    | cons h1 h2 => exact .cons h1 (RpA.app h2 q)
theorem RpA.one {v : V} {d : D} (r : Rp G v d) : RpA G [v] [d] := .cons r .nil
theorem RpA.take : ∀ {ds : List D} {vs : List V} (n : Nat), RpA G vs ds → RpA G (vs.take n) (ds.take n)
  | _, _, 0, _ => .nil
  | [], _, n + 1, r => by cases r; exact .nil
  | d :: ds, _, n + 1, r => by
    cases r with
    | cons h1 h2 => exact .cons h1 (RpA.take n h2)
theorem RpA.drop : ∀ {ds : List D} {vs : List V} (n : Nat), RpA G vs ds → RpA G (vs.drop n) (ds.drop n)
  | _, _, 0, r => r
  | [], _, n + 1, r => by cases r; exact .nil
  | d :: ds, _, n + 1, r => by
    cases r with
    | cons h1 h2 => exact RpA.drop n h2
theorem RpA.ints : ∀ {ns : List Int} {vs : List V}, RpA G vs (ns.map .int) → vs = ns.map V.int
  | [], _, r => by
    have r' : RpA G _ [] := r
    cases r'; rfl
  | n :: ns, _, r => by
    have r' : RpA G _ (.int n :: ns.map .int) := r
    cases r' with
    | cons h1 h2 => cases h1; rw [RpA.ints h2]; rfl
theorem RpA.ofInts : ∀ (ns : List Int), RpA G (ns.map V.int) (ns.map .int)
  | [] => .nil
  | n :: ns => .cons (.int n) (RpA.ofInts ns)
theorem RpA.bls : ∀ {ns : List Bool} {vs : List V}, RpA G vs (ns.map .bool) → vs = ns.map V.bl
  | [], _, r => by
    have r' : RpA G _ [] := r
    cases r'; rfl
  | n :: ns, _, r => by
    have r' : RpA G _ (.bool n :: ns.map .bool) := r
    cases r' with
    | cons h1 h2 => cases h1; rw [RpA.bls h2]; rfl
theorem Rp.listI {v : V} {ds : List D} (r : Rp G v (.list ds)) : ∃ a vs, v = .ref a ∧ G a = some (.lst vs) ∧ RpA G vs ds := by
  cases r with
  | lst h1 h2 => exact ⟨_, _, rfl, h1, h2⟩
theorem Rp.tupI {v : V} {ds : List D} (r : Rp G v (.tuple ds)) : ∃ a vs, v = .ref a ∧ G a = some (.tup vs) ∧ RpA G vs ds := by
  cases r with
  | tup h1 h2 => exact ⟨_, _, rfl, h1, h2⟩
theorem Rp.intI {v : V} {i : Int} (r : Rp G v (.int i)) : v = .int i := by cases r; rfl
theorem Rp.boolI {v : V} {i : Bool} (r : Rp G v (.bool i)) : v = .bl i := by cases r; rfl
theorem Rp.strI {v : V} {i : Str} (r : Rp G v (.str i)) : v = .str i := by cases r; rfl
theorem Rp.noneI {v : V} (r : Rp G v .none) : v = .non := by cases r; rfl
end

/-! ### the state by data -/
/-- a callee (or an operator) that leaves all that stands: what is new may become persistent -/
structure Nx (G H G' H' : Hp) : Prop where
  same : Same H H'
  sub : Same G' H'
  old : ∀ a o, H a = some o → G' a = G a
theorem Nx.refl {G H : Hp} (h : Same G H) : Nx G H G H := ⟨Same.refl H, h, fun _ _ _ => rfl⟩
theorem Nx.up {G H G' H' : Hp} (n : Nx G H G' H') (h : Same G H) : Same G G' := fun a o e => by rw [n.old a o (h a o e)]; exact e
theorem Nx.trans {G H G1 H1 G2 H2 : Hp} (a : Nx G H G1 H1) (b : Nx G1 H1 G2 H2) : Nx G H G2 H2 :=
  ⟨a.same.trans b.same, b.sub, fun c o e => by rw [b.old c o (a.same c o e), a.old c o e]⟩
theorem same_upd {H : Hp} {p : Addr} {o : HO} (h : H p = none) : Same H (upd H p o) := fun b x e => by
  rw [upd_ne (ne_of_none e h)]
  exact e
/-- a new object, persistent -/
theorem Nx.new {G H : Hp} {p : Addr} {o : HO} (h : Same G H) (hp : H p = none) : Nx G H (upd G p o) (upd H p o) :=
  ⟨same_upd hp, fun a u e => by
    by_cases z : a = p
    · subst z; rw [upd_same] at e ⊢; exact e
    · rw [upd_ne z] at e ⊢; exact h a u e, fun a u e => upd_ne (ne_of_none e hp)⟩
/-- a new object that is not persistent -/
theorem Nx.loose {G H : Hp} {p : Addr} {o : HO} (h : Same G H) (hp : H p = none) : Nx G H G (upd H p o) :=
  ⟨same_upd hp, fun a u e => same_upd hp a u (h a u e), fun _ _ _ => rfl⟩

/-- a def's run: the heaps at its entry, the one object that it may change, what that holds (by a content c) -/
structure Fx where
  G0 : Hp
  H0 : Hp
  w : Option Addr
  R : List D → Hp → Hp → Addr → Prop
  Rm : ∀ c G H a G' H', R c G H a → H' a = H a → Same G G' → R c G' H' a
  hw : ∀ a, w = some a → H0 a ≠ none
/-- what a slot holds: unknown; data; a list of the def's own; the object that may change; a dict of the def's own (int keys to True) -/
inductive Sl where
  | un
  | dat (d : D)
  | own (ds : List D)
  | res (c : List D)
  | dic (ks : List Int)
abbrev Ev := List Sl
def dicKv (ks : List Int) : List (Key × V) := ks.map fun k => (Sum.inl k, V.bl true)
def SlOk (F : Fx) (G H : Hp) : Sl → Option V → Prop
  | .un, _ => True
  | .dat d, o => ∃ v, o = some v ∧ Rp G v d
  | .own ds, o => ∃ a vs, o = some (.ref a) ∧ H a = some (.lst vs) ∧ G a = none ∧ F.H0 a = none ∧ RpA G vs ds
  | .res c, o => ∃ a, o = some (.ref a) ∧ F.w = some a ∧ G a = none ∧ F.R c G H a
  | .dic ks, o => ∃ a, o = some (.ref a) ∧ H a = some (.dK (dicKv ks)) ∧ G a = none ∧ F.H0 a = none
structure SI (F : Fx) (ρ : Ev) (G : Hp) (σ : L2.St) (H : Hp) : Prop where
  sub : Same G H
  keep : ∀ a o, F.H0 a = some o → F.w ≠ some a → H a = some o
  wt : ∀ a, F.w = some a → H a ≠ none
  old : ∀ a o, F.H0 a = some o → G a = F.G0 a
  len : σ.length = ρ.length
  sl : ∀ (i : Nat) (s : Sl), ρ[i]? = some s → SlOk F G H s (σ[i]?.join)
theorem some_join {σ : L2.St} {i : Nat} {v : V} (h : σ[i]?.join = some v) : σ[i]? = some (some v) := by
  cases e : σ[i]? with
  | none => rw [e] at h; cases h
  | some o => rw [e] at h; exact congrArg some h
section
variable {F : Fx} {ρ : Ev} {G H G' H' : Hp} {σ : L2.St}
theorem SlOk.nx {s : Sl} {o : Option V} (I : SI F ρ G σ H) (n : Nx G H G' H') (h : SlOk F G H s o) : SlOk F G' H' s o := by
  have u := n.up I.sub
  cases s with
  | un => trivial
  | dat d => obtain ⟨v, e, r⟩ := h; exact ⟨v, e, r.up u⟩
  | own ds =>
    obtain ⟨a, vs, e, h1, h2, h3, r⟩ := h
    exact ⟨a, vs, e, n.same _ _ h1, by rw [n.old _ _ h1]; exact h2, h3, r.up u⟩
  | res c =>
    obtain ⟨a, e, h1, h2, r⟩ := h
    cases q : H a with
    | none => exact absurd q (I.wt a h1)
    | some x => exact ⟨a, e, h1, by rw [n.old _ _ q]; exact h2, F.Rm c G H a G' H' r (by rw [n.same _ _ q, q]) u⟩
  | dic ks =>
    obtain ⟨a, e, h1, h2, h3⟩ := h
    exact ⟨a, e, n.same _ _ h1, by rw [n.old _ _ h1]; exact h2, h3⟩
theorem SI.old' (I : SI F ρ G σ H) {a : Addr} {o : HO} (e : F.H0 a = some o) : ∃ u, H a = some u := by
  by_cases z : F.w = some a
  · cases q : H a with
    | none => exact absurd q (I.wt a z)
    | some x => exact ⟨x, rfl⟩
  · exact ⟨o, I.keep a o e z⟩
theorem SI.nx (I : SI F ρ G σ H) (n : Nx G H G' H') : SI F ρ G' σ H' where
  sub := n.sub
  keep := fun a o e z => n.same _ _ (I.keep a o e z)
  wt := fun a z => by
    cases q : H a with
    | none => exact absurd q (I.wt a z)
    | some x => rw [n.same _ _ q]; exact fun h => nomatch h
  old := fun a o e => by
    obtain ⟨u, q⟩ := I.old' e
    rw [n.old a u q, I.old a o e]
  len := I.len
  sl := fun i s e => (I.sl i s e).nx I n
theorem SI.up (I : SI F ρ G σ H) (n : Nx G H G' H') : Same G G' := n.up I.sub
/-- what an expression leaves: all but the one object that may change -/
structure Stp (F : Fx) (G H G' H' : Hp) : Prop where
  keep : ∀ a o, H a = some o → F.w ≠ some a → H' a = some o
  old : ∀ a o, H a = some o → F.w ≠ some a → G' a = G a
  up : Same G G'
theorem Stp.refl : Stp F G H G H := ⟨fun _ _ e _ => e, fun _ _ _ _ => rfl, Same.refl G⟩
theorem Stp.trans {G1 H1 : Hp} (a : Stp F G H G1 H1) (b : Stp F G1 H1 G' H') : Stp F G H G' H' :=
  ⟨fun c o e z => b.keep c o (a.keep c o e z) z, fun c o e z => by rw [b.old c o (a.keep c o e z) z, a.old c o e z], a.up.trans b.up⟩
theorem SI.stp (I : SI F ρ G σ H) (n : Nx G H G' H') : Stp F G H G' H' := ⟨fun a o e _ => n.same a o e, fun a o e _ => n.old a o e, n.up I.sub⟩
theorem SI.dat (I : SI F ρ G σ H) {i : Nat} {d : D} (e : ρ[i]? = some (.dat d)) : ∃ v, σ[i]? = some (some v) ∧ Rp G v d := by
  obtain ⟨v, h, r⟩ := I.sl i _ e
  exact ⟨v, some_join h, r⟩
/-- a slot is stored -/
theorem SI.set (I : SI F ρ G σ H) {i : Nat} {s : Sl} {v : V} (h : SlOk F G H s (some v)) : SI F (ρ.set i s) G (σ.set i (some v)) H where
  sub := I.sub
  keep := I.keep
  wt := I.wt
  old := I.old
  len := by rw [List.length_set, List.length_set]; exact I.len
  sl := fun j t e => by
    by_cases z : i = j
    · subst z
      by_cases hi : i < ρ.length
      · rw [List.getElem?_set_self hi] at e
        have e' : s = t := Option.some.inj e
        subst e'
        rw [List.getElem?_set_self (by rw [I.len]; exact hi)]
        exact h
      · rw [List.getElem?_eq_none (by rw [List.length_set]; omega)] at e
        cases e
    · rw [List.getElem?_set_ne z] at e ⊢
      exact I.sl j t e
theorem SI.setD (I : SI F ρ G σ H) {i : Nat} {d : D} {v : V} (h : Rp G v d) : SI F (ρ.set i (.dat d)) G (σ.set i (some v)) H := I.set (s := .dat d) ⟨v, rfl, h⟩
/-- slots forgotten -/
theorem SI.weak (I : SI F ρ G σ H) {ρ' : Ev} (hl : ρ'.length = ρ.length) (h : ∀ (i : Nat) (s : Sl), ρ'[i]? = some s → s = .un ∨ ρ[i]? = some s) : SI F ρ' G σ H :=
  ⟨I.sub, I.keep, I.wt, I.old, by rw [hl]; exact I.len, fun i s e => by
    rcases h i s e with rfl | q
    · trivial
    · exact I.sl i s q⟩
/-- a list of the def's own becomes data -/
theorem SI.freeze (I : SI F ρ G σ H) {i : Nat} {ds : List D} (e : ρ[i]? = some (.own ds)) (hone : ∀ (j : Nat) (es : List D), j ≠ i → ρ[j]? ≠ some (.own es)) : ∃ G', Same G G' ∧ SI F (ρ.set i (.dat (.list ds))) G' σ H := by
  obtain ⟨a, vs, e1, h1, h2, h3, r⟩ := I.sl i _ e
  have u : Same G (upd G a (.lst vs)) := same_upd h2
  have na : ∀ {b : Addr} {o : HO}, F.H0 b = some o → b ≠ a := fun q z => by rw [z, h3] at q; cases q
  refine ⟨upd G a (.lst vs), u, ⟨fun b o q => ?_, I.keep, I.wt, fun b o q => ?_, by rw [List.length_set]; exact I.len, fun j t q => ?_⟩⟩
  · by_cases z : b = a
    · subst z; rw [upd_same] at q; cases q; exact h1
    · rw [upd_ne z] at q; exact I.sub b o q
  · rw [upd_ne (na q)]; exact I.old b o q
  · by_cases z : i = j
    · subst z
      have hi : i < ρ.length := (List.getElem?_eq_some_iff.mp e).1
      rw [List.getElem?_set_self hi] at q
      cases q
      exact ⟨_, e1, .lst upd_same (r.up u)⟩
    · rw [List.getElem?_set_ne z] at q
      have k := I.sl j t q
      cases t with
      | un => trivial
      | dat d => obtain ⟨v, e4, r4⟩ := k; exact ⟨v, e4, r4.up u⟩
      | own es => exact absurd q (hone j es (Ne.symm z))
      | res c =>
        obtain ⟨b, e4, h5, h6, r5⟩ := k
        have nb : b ≠ a := fun y => F.hw b h5 (by rw [y]; exact h3)
        exact ⟨b, e4, h5, by rw [upd_ne nb]; exact h6, F.Rm c G H b _ H r5 rfl u⟩
      | dic ks =>
        obtain ⟨b, e4, h5, h6, h7⟩ := k
        refine ⟨b, e4, h5, ?_, h7⟩
        rw [upd_ne (ne_of h5 h1 (by intro y; cases y))]
        exact h6
end
end Pd
/-! Pd1: expressions, tests, statements judged by data alone. -/
namespace Pd
open PySem PySem.Spec PyProof.Rows L2

/-! ### the weakest readings -/
def tE (X : Cx) (e : Expr) : TE := fun σ H Q => ∀ pins s, Inv X pins σ H s → wpAny (model X.prog X.w) X.A (eval e X.env) (EP X pins σ Q) X.xe s
def tT (X : Cx) (e : Expr) : TT := fun σ H Q => ∀ pins s, Inv X pins σ H s → wpAny (model X.prog X.w) X.A (isTrue e X.env (eval e X.env)) (TP X pins σ Q) X.xe s
def tW (X : Cx) (e : Expr) : TT := fun σ H Q => ∀ (whole : Sem Value) pins s, Inv X pins σ H s → wpAny (model X.prog X.w) X.A (isTrue e X.env whole) (TP X pins σ Q) X.xe s
def tA (X : Cx) (es : List Expr) : TA := fun σ H Q => ∀ (pos : Pos) pins s, Inv X pins σ H s → wpAny (model X.prog X.w) X.A (spliced (backTo pos (starEach es X.env))) (AP X pins σ Q) X.xe s
def tS (X : Cx) (st : Stmt) : TS := fun D σ H => ∀ pins s, Inv X pins σ H s → wpAny (model X.prog X.w) X.A (exec st X.env) (SP X pins D) X.xe s
def tSs (X : Cx) (st : List Stmt) : TS := fun D σ H => ∀ pins s, Inv X pins σ H s → wpAny (model X.prog X.w) X.A (execs st X.env) (SP X pins D) X.xe s
section
variable {X : Cx} {e : Expr} {es : List Expr} {st : Stmt} {sts : List Stmt} {σ : L2.St} {H : Hp}
theorem cE : PE X e (tE X e) := ⟨fun pins s σ H Q I h => h pins s I⟩
theorem cT : PT X e (tT X e) := ⟨fun pins s σ H Q I h => h pins s I⟩
theorem cW : PW X e (tW X e) := ⟨fun wh pins s σ H Q I h => h wh pins s I⟩
theorem cA : PA X es (tA X es) := ⟨fun pos pins s σ H Q I h => h pos pins s I⟩
theorem cS : PS X st (tS X st) := ⟨fun pins s σ H D I h => h pins s I⟩
theorem cSs : PSs X sts (tSs X sts) := ⟨fun pins s σ H D I h => h pins s I⟩
theorem tE_of {t : TE} {Q : VK} (h : PE X e t) (q : t σ H Q) : tE X e σ H Q := fun pins s I => h.run pins s σ H Q I q
theorem tT_of {t : TT} {Q : Bool → Hp → Prop} (h : PT X e t) (q : t σ H Q) : tT X e σ H Q := fun pins s I => h.run pins s σ H Q I q
theorem tW_of {t : TT} {Q : Bool → Hp → Prop} (h : PW X e t) (q : t σ H Q) : tW X e σ H Q := fun wh pins s I => h.run wh pins s σ H Q I q
theorem tA_of {t : TA} {Q : List V → Hp → Prop} (h : PA X es t) (q : t σ H Q) : tA X es σ H Q := fun pos pins s I => h.run pos pins s σ H Q I q
theorem tS_of {t : TS} {E : Ends} (h : PS X st t) (q : t E σ H) : tS X st E σ H := fun pins s I => h.run pins s σ H E I q
theorem tSs_of {t : TS} {E : Ends} (h : PSs X sts t) (q : t E σ H) : tSs X sts E σ H := fun pins s I => h.run pins s σ H E I q
end

/-! ### what is known of the context -/
structure Bd (X : Cx) (K : PySem.W.Frag) (mg : Str → Option Value) (N : List Str) (sc : Scope) (k : Nat) : Prop where
  hK : X.K = K
  hmg : X.mg = mg
  hN : X.N = N
  hsc : X.env.scope = sc
  nd : N.Nodup
  calm : X.calm = true
  room : Room k X.A
  guards : X.A.guards = some []

/-! ### the judgements -/
section
variable (X : Cx) (F : Fx) (ρ : Ev)
def PN (e : Expr) (P : D → Prop) : Prop :=
  ∀ G σ H, SI F ρ G σ H → ∀ Q : VK, (∀ d v G' H', P d → SI F ρ G' σ H' → Stp F G H G' H' → Rp G' v d → Q v H') → tE X e σ H Q
abbrev PD (e : Expr) (d : D) : Prop := PN X F ρ e fun x => x = d
def PNs (es : List Expr) (P : List D → Prop) : Prop :=
  ∀ G σ H, SI F ρ G σ H → ∀ Q : List V → Hp → Prop, (∀ ds vs G' H', P ds → SI F ρ G' σ H' → Stp F G H G' H' → RpA G' vs ds → Q vs H') → tA X es σ H Q
abbrev PDs (es : List Expr) (ds : List D) : Prop := PNs X F ρ es fun x => x = ds
def PB (e : Expr) (P : Bool → Prop) : Prop :=
  ∀ G σ H, SI F ρ G σ H → ∀ Q : Bool → Hp → Prop, (∀ b G' H', P b → SI F ρ G' σ H' → Stp F G H G' H' → Q b H') → tT X e σ H Q
def PBW (e : Expr) (P : Bool → Prop) : Prop :=
  ∀ G σ H, SI F ρ G σ H → ∀ Q : Bool → Hp → Prop, (∀ b G' H', P b → SI F ρ G' σ H' → Stp F G H G' H' → Q b H') → tW X e σ H Q
/-- a statement, a block: N tells the slots behind it, R what is handed back -/
def S1 (st : Stmt) (N : Ev → Prop) (R : D → Ev → Prop) : Prop :=
  ∀ G σ H, SI F ρ G σ H → ∀ E : Ends, (∀ ρ' G' σ' H', N ρ' → SI F ρ' G' σ' H' → Same G G' → E.nx σ' H') →
    (∀ d v ρ' G' σ' H', R d ρ' → SI F ρ' G' σ' H' → Rp G' v d → E.rt v H') → tS X st E σ H
def SD (sts : List Stmt) (N : Ev → Prop) (R : D → Ev → Prop) : Prop :=
  ∀ G σ H, SI F ρ G σ H → ∀ E : Ends, (∀ ρ' G' σ' H', N ρ' → SI F ρ' G' σ' H' → Same G G' → E.nx σ' H') →
    (∀ d v ρ' G' σ' H', R d ρ' → SI F ρ' G' σ' H' → Rp G' v d → E.rt v H') → tSs X sts E σ H
end

section
variable {X : Cx} {F : Fx} {ρ : Ev} {K : PySem.W.Frag} {mg : Str → Option Value} {N : List Str} {sc : Scope} {k : Nat}
theorem PN.imp {e : Expr} {P P' : D → Prop} (h : PN X F ρ e P) (q : ∀ d, P d → P' d) : PN X F ρ e P' := fun G σ H I Q z => h G σ H I Q fun d v G' H' p => z d v G' H' (q d p)
theorem PB.imp {e : Expr} {P P' : Bool → Prop} (h : PB X F ρ e P) (q : ∀ d, P d → P' d) : PB X F ρ e P' := fun G σ H I Q z => h G σ H I Q fun d G' H' p => z d G' H' (q d p)
theorem PNs.imp {es : List Expr} {P P' : List D → Prop} (h : PNs X F ρ es P) (q : ∀ d, P d → P' d) : PNs X F ρ es P' := fun G σ H I Q z => h G σ H I Q fun d v G' H' p => z d v G' H' (q d p)
theorem PD.cast {e : Expr} {d d' : D} (h : PD X F ρ e d) (q : d = d') : PD X F ρ e d' := q ▸ h

/-! ### names, constants -/
theorem pn_var (B : Bd X K mg N sc k) (i : Nat) {x : Str} {pos : Pos} {d : D} (e : ρ[i]? = some (.dat d)) (hN : N[i]? = some x)
    (hv : Vis sc x) (hd : (x == ("__debug__" : Str)) = false := by decide) (hcd : (x == ("__classdict__" : Str)) = false := by decide) : PD X F ρ (.Name x pos) d := fun G σ H I Q q => by
  obtain ⟨v, e1, r⟩ := I.dat e
  exact tE_of (pe_var (by rw [B.hN]; exact hN) (by rw [B.hsc]; exact hv) hd hcd) ⟨v, e1, q d v G H rfl I Stp.refl r⟩
theorem pn_int {j : Nat} {pos : Pos} {i : Int} : PD X F ρ (.Constant (.int i) j pos) (.int i) := fun G σ H I Q q => tE_of pe_int (q _ _ G H rfl I Stp.refl (.int i))
theorem pn_bl {j : Nat} {pos : Pos} {b : Bool} : PD X F ρ (.Constant (.bool b) j pos) (.bool b) := fun G σ H I Q q => tE_of pe_bl (q _ _ G H rfl I Stp.refl (.bl b))
theorem pn_non {j : Nat} {pos : Pos} : PD X F ρ (.Constant .none j pos) .none := fun G σ H I Q q => tE_of pe_non (q _ _ G H rfl I Stp.refl .non)
theorem pn_str {j : Nat} {pos : Pos} {x : Str} : PD X F ρ (.Constant (.str x) j pos) (.str x) := fun G σ H I Q q => tE_of pe_str (q _ _ G H rfl I Stp.refl (.str x))
theorem Bd.gl (B : Bd X K mg N sc k) {x : Str} (h : sc.names.lookup x = some .globalImplicit) : Gl X x := by
  show X.env.scope.names.lookup x = _
  rw [B.hsc]; exact h
/-- a module's constant -/
theorem pn_gint (B : Bd X K mg N sc k) {x : Str} {pos : Pos} {i : Int} {t : Tok} (hg : sc.names.lookup x = some .globalImplicit) (hm : mg x = some (.int i t)) (hd : (x == ("__debug__" : Str)) = false := by decide) : PD X F ρ (.Name x pos) (.int i) := fun G σ H I Q q =>
  tE_of (pe_glob (v := .int i) (B.gl hg) (by rw [B.hmg]; exact hm) ⟨t, rfl⟩ hd) (q _ _ G H rfl I Stp.refl (.int i))
theorem pn_gstr (B : Bd X K mg N sc k) {x : Str} {pos : Pos} {i : Str} {t : Tok} (hg : sc.names.lookup x = some .globalImplicit) (hm : mg x = some (.str i t)) (hd : (x == ("__debug__" : Str)) = false := by decide) : PD X F ρ (.Name x pos) (.str i) := fun G σ H I Q q =>
  tE_of (pe_glob (v := .str i) (B.gl hg) (by rw [B.hmg]; exact hm) ⟨t, rfl⟩ hd) (q _ _ G H rfl I Stp.refl (.str i))

/-! ### operators by values, on data -/
def D2 (r : R2) (x y : D) (P : D → Prop) : Prop := ∀ G H v u (Q : VK), Same G H → Rp G v x → Rp G u y → (∀ d z G' H', P d → Nx G H G' H' → Rp G' z d → Q z H') → r v u H Q
def D1 (r : V → Hp → VK → Prop) (x : D) (P : D → Prop) : Prop := ∀ G H v (Q : VK), Same G H → Rp G v x → (∀ d z G' H', P d → Nx G H G' H' → Rp G' z d → Q z H') → r v H Q
def DL (r : List V → Hp → VK → Prop) (xs : List D) (P : D → Prop) : Prop := ∀ G H vs (Q : VK), Same G H → RpA G vs xs → (∀ d z G' H', P d → Nx G H G' H' → Rp G' z d → Q z H') → r vs H Q
variable {a b c e : Expr} {es : List Expr} {pos : Pos} {x y z d : D} {Pa Pb Pc P : D → Prop}
theorem bin_go {r : R2} {G : Hp} {σ : L2.St} {H : Hp} {Q : VK} (ha : PN X F ρ a Pa) (hb : PN X F ρ b Pb) (h : ∀ x y, Pa x → Pb y → D2 r x y P) (I : SI F ρ G σ H)
    (q : ∀ d v G' H', P d → SI F ρ G' σ H' → Stp F G H G' H' → Rp G' v d → Q v H') : tOp r (tE X a) (tE X b) σ H Q :=
  ha G σ H I _ fun x v G1 H1 px I1 s1 r1 => hb G1 σ H1 I1 _ fun y u G2 H2 py I2 s2 r2 => h x y px py G2 H2 v u Q I2.sub (r1.up s2.up) r2 fun d z G3 H3 pd n r3 =>
    q d z G3 H3 pd (I2.nx n) (s1.trans (s2.trans (I2.stp n))) r3
theorem pn_op {op : Operator} {r : R2} (ho : OpR X (binaryOp op) r) (ha : PN X F ρ a Pa) (hb : PN X F ρ b Pb) (h : ∀ x y, Pa x → Pb y → D2 r x y P) : PN X F ρ (.BinOp a op b pos) P :=
  fun G σ H I Q q => tE_of (pe_op ho cE cE) (bin_go ha hb h I q)
theorem pd_op {op : Operator} {r : R2} (ho : OpR X (binaryOp op) r) (ha : PD X F ρ a x) (hb : PD X F ρ b y) (h : D2 r x y P) : PN X F ρ (.BinOp a op b pos) P :=
  pn_op ho ha hb fun _ _ e1 e2 => by rw [e1, e2]; exact h
theorem pn_cmp {op : CmpOp} {r : R2} (ho : OpR X (compareOp op) r) (ha : PN X F ρ a Pa) (hb : PN X F ρ b Pb) (h : ∀ x y, Pa x → Pb y → D2 r x y P) (hm : behindInMarks op b = false := by first | exact nomark _ | rfl) : PN X F ρ (.Compare a [op] [b] pos) P :=
  fun G σ H I Q q => tE_of (pe_cmpR ho cE cE hm) (bin_go ha hb h I q)
theorem pd_cmp {op : CmpOp} {r : R2} (ho : OpR X (compareOp op) r) (ha : PD X F ρ a x) (hb : PD X F ρ b y) (h : D2 r x y P) (hm : behindInMarks op b = false := by first | exact nomark _ | rfl) : PN X F ρ (.Compare a [op] [b] pos) P :=
  pn_cmp ho ha hb (fun _ _ e1 e2 => by rw [e1, e2]; exact h) hm
theorem pn_un {op : UnaryOp} {r : V → Hp → VK → Prop} (ho : UnR X (unaryOp op) r) (ha : PN X F ρ a Pa) (h : ∀ x, Pa x → D1 r x P) : PN X F ρ (.UnaryOp op a pos) P :=
  fun G σ H I Q q => tE_of (pe_un ho cE) (ha G σ H I _ fun x v G1 H1 px I1 s1 r1 => h x px G1 H1 v Q I1.sub r1 fun d z G3 H3 pd n r3 => q d z G3 H3 pd (I1.nx n) (s1.trans (I1.stp n)) r3)
theorem pn_ix {r : R2} (hr : IxR X r) (ha : PN X F ρ a Pa) (hb : PN X F ρ b Pb) (hs : PlainIx b) (h : ∀ x y, Pa x → Pb y → D2 r x y P) : PN X F ρ (.Subscript a b pos) P :=
  fun G σ H I Q q => tE_of (pe_ix hr cE cE hs) (bin_go ha hb h I q)
/-- arguments -/
theorem pns_nil : PDs X F ρ [] [] := fun G σ H I Q q => tA_of pa_nil (q [] [] G H rfl I Stp.refl .nil)
theorem pns_cons {Ps : List D → Prop} {Pr : List D → Prop} (ha : PN X F ρ e Pa) (hr : PNs X F ρ es Ps) (h : ∀ x xs, Pa x → Ps xs → Pr (x :: xs)) (hs : starEach (e :: es) X.env = (false, eval e X.env) :: starEach es X.env := by rfl) : PNs X F ρ (e :: es) Pr :=
  fun G σ H I Q q => tA_of (pa_cons cE cA hs) (ha G σ H I _ fun x v G1 H1 px I1 s1 r1 => hr G1 σ H1 I1 _ fun ys vs G2 H2 py I2 s2 r2 => q (x :: ys) (v :: vs) G2 H2 (h x ys px py) I2 (s1.trans s2) (.cons (r1.up s2.up) r2))
theorem pds_cons {xs : List D} (ha : PD X F ρ e x) (hr : PDs X F ρ es xs) (hs : starEach (e :: es) X.env = (false, eval e X.env) :: starEach es X.env := by rfl) : PDs X F ρ (e :: es) (x :: xs) :=
  pns_cons ha hr (fun _ _ e1 e2 => by rw [e1, e2]) hs
/-- displays -/
theorem pn_tup {Ps : List D → Prop} {n : Nat} (hs : PNs X F ρ es Ps) (h : ∀ xs, Ps xs → xs.length ≤ sizeLine ∧ P (.tuple xs)) : PN X F ρ (.Tuple es n pos) P :=
  fun G σ H I Q q => tE_of (pe_tup cA) (hs G σ H I _ fun xs vs G1 H1 px I1 s1 r1 => ⟨by rw [r1.len]; exact (h xs px).1, fun p hp => by
    have n := Nx.new (o := .tup vs) I1.sub hp
    exact q _ _ _ _ (h xs px).2 (I1.nx n) (s1.trans (I1.stp n)) (.tup upd_same (r1.up (I1.up n)))⟩)
theorem pd_tup {xs : List D} {n : Nat} (hs : PDs X F ρ es xs) (h : Nat.ble xs.length 64 = true := by rfl) : PD X F ρ (.Tuple es n pos) (.tuple xs) :=
  pn_tup hs fun _ e => by rw [e]; exact ⟨Nat.le_trans (Nat.le_of_ble_eq_true h) (by decide), rfl⟩
theorem pn_lst {Ps : List D → Prop} (hs : PNs X F ρ es Ps) (h : ∀ xs, Ps xs → xs.length ≤ sizeLine ∧ P (.list xs)) : PN X F ρ (.List es pos) P :=
  fun G σ H I Q q => tE_of (pe_lst cA) (hs G σ H I _ fun xs vs G1 H1 px I1 s1 r1 => ⟨by rw [r1.len]; exact (h xs px).1, fun p hp => by
    have n := Nx.new (o := .lst vs) I1.sub hp
    exact q _ _ _ _ (h xs px).2 (I1.nx n) (s1.trans (I1.stp n)) (.lst upd_same (r1.up (I1.up n)))⟩)
theorem pd_lst {xs : List D} (hs : PDs X F ρ es xs) (h : Nat.ble xs.length 64 = true := by rfl) : PD X F ρ (.List es pos) (.list xs) :=
  pn_lst hs fun _ e => by rw [e]; exact ⟨Nat.le_trans (Nat.le_of_ble_eq_true h) (by decide), rfl⟩
/-- calls of what is built in -/
theorem pn_blt (B : Bd X K mg N sc k) {id : String} {x : Str} {p : Pos} {r : List V → Hp → VK → Prop} {Ps : List D → Prop} (hc : CallR X (.builtin id) r) (hg : sc.names.lookup x = some .globalImplicit) (hm : mg x = none) (hv : bootBuiltins x = some (.builtin id))
    (ha : PNs X F ρ (e :: es) Ps) (h : ∀ xs, Ps xs → DL r xs P) (hn : x ≠ "__name__" := by decide) (hdb : (x == ("__debug__" : Str)) = false := by decide)
    (he : starEach (e :: es) X.env = (false, eval e X.env) :: starEach es X.env := by rfl) (hpl : (backTo pos (starEach es X.env)).any (·.1) = false := by rfl) : PN X F ρ (.Call (.Name x p) (e :: es) [] pos) P :=
  fun G σ H I Q q => tE_of (pe_callB hc (B.gl hg) (by rw [B.hmg]; exact hm) hv cA hn hdb he hpl) (ha G σ H I _ fun xs vs G1 H1 px I1 s1 r1 => h xs px G1 H1 vs Q I1.sub r1 fun d z G3 H3 pd n r3 => q d z G3 H3 pd (I1.nx n) (s1.trans (I1.stp n)) r3)
theorem pn_bty (B : Bd X K mg N sc k) {id : String} {x : Str} {p : Pos} {r : List V → Hp → VK → Prop} {Ps : List D → Prop} (hc : CallR X (.type id) r) (hg : sc.names.lookup x = some .globalImplicit) (hm : mg x = none) (hv : bootBuiltins x = some (.type id))
    (ha : PNs X F ρ (e :: es) Ps) (h : ∀ xs, Ps xs → DL r xs P) (hn : x ≠ "__name__" := by decide) (hdb : (x == ("__debug__" : Str)) = false := by decide)
    (he : starEach (e :: es) X.env = (false, eval e X.env) :: starEach es X.env := by rfl) (hpl : (backTo pos (starEach es X.env)).any (·.1) = false := by rfl) : PN X F ρ (.Call (.Name x p) (e :: es) [] pos) P :=
  fun G σ H I Q q => tE_of (pe_callTy hc (B.gl hg) (by rw [B.hmg]; exact hm) hv cA hn hdb he hpl) (ha G σ H I _ fun xs vs G1 H1 px I1 s1 r1 => h xs px G1 H1 vs Q I1.sub r1 fun d z G3 H3 pd n r3 => q d z G3 H3 pd (I1.nx n) (s1.trans (I1.stp n)) r3)
/-- and, or, not, if as values -/
theorem pn_one {op : BoolOp} (h : PN X F ρ a P) : PN X F ρ (.BoolOp op [a] pos) P := fun G σ H I Q q => tE_of (pe_one cE) (h G σ H I Q q)
theorem pn_and {Pb : Bool → Prop} {rest : List Expr} (ha : PN X F ρ a fun d => ∃ k, d = .bool k ∧ Pb k) (hb : Pb true → PN X F ρ (.BoolOp .And (b :: rest) pos) P) (hf : Pb false → P (.bool false)) : PN X F ρ (.BoolOp .And (a :: b :: rest) pos) P :=
  fun G σ H I Q q => tE_of (pe_and cE cE) (ha G σ H I _ fun x v G1 H1 ⟨k, ek, pk⟩ I1 s1 r1 => by
    subst ek
    refine ⟨k, r1.boolI, ?_⟩
    cases k with
    | true => rw [if_pos rfl]; exact hb pk G1 σ H1 I1 Q fun d v G' H' p I' s' r' => q d v G' H' p I' (s1.trans s') r'
    | false => rw [if_neg (by decide)]; exact q _ _ G1 H1 (hf pk) I1 s1 (.bl false))
theorem pn_or {Pb : Bool → Prop} {rest : List Expr} (ha : PN X F ρ a fun d => ∃ k, d = .bool k ∧ Pb k) (hb : Pb false → PN X F ρ (.BoolOp .Or (b :: rest) pos) P) (hf : Pb true → P (.bool true)) : PN X F ρ (.BoolOp .Or (a :: b :: rest) pos) P :=
  fun G σ H I Q q => tE_of (pe_or cE cE) (ha G σ H I _ fun x v G1 H1 ⟨k, ek, pk⟩ I1 s1 r1 => by
    subst ek
    refine ⟨k, r1.boolI, ?_⟩
    cases k with
    | false => rw [if_neg (by decide)]; exact hb pk G1 σ H1 I1 Q fun d v G' H' p I' s' r' => q d v G' H' p I' (s1.trans s') r'
    | true => rw [if_pos rfl]; exact q _ _ G1 H1 (hf pk) I1 s1 (.bl true))
theorem pn_not {Pb : Bool → Prop} (ha : PN X F ρ a fun d => ∃ k, d = .bool k ∧ Pb k) (hf : ∀ k, Pb k → P (.bool (!k))) : PN X F ρ (.UnaryOp .Not a pos) P :=
  fun G σ H I Q q => tE_of (pe_not cE) (ha G σ H I _ fun x v G1 H1 ⟨k, ek, pk⟩ I1 s1 r1 => by
    subst ek
    exact ⟨k, r1.boolI, q _ _ G1 H1 (hf k pk) I1 s1 (.bl _)⟩)
theorem pn_if {Pc : Bool → Prop} (hc : PB X F ρ c Pc) (ha : Pc true → PN X F ρ a P) (hb : Pc false → PN X F ρ b P) : PN X F ρ (.IfExp c a b pos) P :=
  fun G σ H I Q q => tE_of (pe_ifExp cT cE cE) (hc G σ H I _ fun k G1 H1 pk I1 s1 => by
    cases k with
    | true => rw [if_pos rfl]; exact ha pk G1 σ H1 I1 Q fun d v G' H' p I' s' r' => q d v G' H' p I' (s1.trans s') r'
    | false => rw [if_neg (by decide)]; exact hb pk G1 σ H1 I1 Q fun d v G' H' p I' s' r' => q d v G' H' p I' (s1.trans s') r')

/-! ### tests -/
theorem pb_val {Pb : Bool → Prop} (h : PN X F ρ e fun d => ∃ k, d = .bool k ∧ Pb k) (he : ∀ whole, isTrue e X.env whole = (do let v ← whole; standAt e.pos; holding [v] (truthy v)) := by intro _; rfl) : PB X F ρ e Pb :=
  fun G σ H I Q q => tT_of (pt_val cE he) (h G σ H I _ fun x v G1 H1 ⟨k, ek, pk⟩ I1 s1 r1 => by
    subst ek
    exact ⟨k, r1.boolI, q k G1 H1 pk I1 s1⟩)
theorem pb_cmp {op : CmpOp} {r : R2} {Pk : Bool → Prop} (ho : OpR X (compareOp op) r) (ha : PN X F ρ a Pa) (hb : PN X F ρ b Pb) (h : ∀ x y, Pa x → Pb y → D2 r x y fun d => ∃ k, d = .bool k ∧ Pk k) (hm : behindInMarks op b = false := by first | exact nomark _ | rfl) : PB X F ρ (.Compare a [op] [b] pos) Pk :=
  fun G σ H I Q q => tT_of (pt_cmpR ho cE cE hm) (bin_go ha hb h I fun d v G' H' ⟨k, ek, pk⟩ I' s' r' => by
    subst ek
    exact ⟨k, r'.boolI, q k G' H' pk I' s'⟩)
theorem pb_not {Pb : Bool → Prop} {Pc : Bool → Prop} (h : PB X F ρ a Pb) (hk : ∀ k, Pb k → Pc (!k)) : PB X F ρ (.UnaryOp .Not a pos) Pc :=
  fun G σ H I Q q => tT_of (pt_not cT) (h G σ H I _ fun k G1 H1 pk I1 s1 => q _ G1 H1 (hk k pk) I1 s1)
theorem PBW.pb {Pb : Bool → Prop} (h : PBW X F ρ e Pb) : PB X F ρ e Pb := fun G σ H I Q q => tT_of (PW.pt cW) (h G σ H I Q q)
theorem pw_and1' {Pb : Bool → Prop} (h : PB X F ρ a Pb) : PBW X F ρ (.BoolOp .And [a] pos) Pb := fun G σ H I Q q => tW_of (pw_and1 cT) (h G σ H I Q q)
theorem pw_or1' {Pb : Bool → Prop} (h : PB X F ρ a Pb) : PBW X F ρ (.BoolOp .Or [a] pos) Pb := fun G σ H I Q q => tW_of (pw_or1 cT) (h G σ H I Q q)
theorem pw_and' {Pb Pc : Bool → Prop} {rest : List Expr} (ha : PB X F ρ a Pb) (hb : Pb true → PBW X F ρ (.BoolOp .And (b :: rest) pos) Pc) (hf : Pb false → Pc false) : PBW X F ρ (.BoolOp .And (a :: b :: rest) pos) Pc :=
  fun G σ H I Q q => tW_of (pw_and cT cW) (ha G σ H I _ fun k G1 H1 pk I1 s1 => by
    cases k with
    | true => rw [if_pos rfl]; exact hb pk G1 σ H1 I1 Q fun b G' H' p I' s' => q b G' H' p I' (s1.trans s')
    | false => rw [if_neg (by decide)]; exact q _ G1 H1 (hf pk) I1 s1)
theorem pw_or' {Pb Pc : Bool → Prop} {rest : List Expr} (ha : PB X F ρ a Pb) (hb : Pb false → PBW X F ρ (.BoolOp .Or (b :: rest) pos) Pc) (hf : Pb true → Pc true) : PBW X F ρ (.BoolOp .Or (a :: b :: rest) pos) Pc :=
  fun G σ H I Q q => tW_of (pw_or cT cW) (ha G σ H I _ fun k G1 H1 pk I1 s1 => by
    cases k with
    | false => rw [if_neg (by decide)]; exact hb pk G1 σ H1 I1 Q fun b G' H' p I' s' => q b G' H' p I' (s1.trans s')
    | true => rw [if_pos rfl]; exact q _ G1 H1 (hf pk) I1 s1)
end
end Pd
/-! Pd2: defs and calls where no text of a list is being written (guards = []); statements. -/
namespace Pd
open PySem PySem.Spec PyProof.Rows L2

/-- the promise of a def, asked only where no repr is under way -/
structure FnG (P : Program) (w : World) (K : PySem.W.Frag) (mg : Str → Option Value) (base : Heap) (k : Nat) (f : Addr) (fd : FuncData) (ps : List Str) (sp : Sp) : Prop where
  len : ∀ vs H Q E, sp vs H Q E → vs.length = ps.length
  run : ∀ (A : Around) (outer : List Env) (s : Shared) (H : Hp) (args : Args) (us : List Value) (vs : List V) (Q : VK), Room k A → A.guards = some [] → Env0 P w K mg base A outer s H → BindsTo s fd args (ps.zip us) →
    Vals vs us → sp vs H Q E0 → codeAny (model P w) A (.call (.ref f) args) (CR CX0 outer P w H s Q E0) s
section
variable {P : Program} {w : World} {K : PySem.W.Frag} {mg : Str → Option Value} {base : Heap} {j k : Nat} {f : Addr} {fd : FuncData} {ps : List Str} {sp sp' : Sp}
theorem FnG.mono (F : FnG P w K mg base j f fd ps sp) (h : j ≤ k) : FnG P w K mg base k f fd ps sp := ⟨F.len, fun A outer s H args us vs Q hr => F.run A outer s H args us vs Q (hr.mono h)⟩
theorem FnG.imp (F : FnG P w K mg base k f fd ps sp) (h : ∀ vs H Q E, sp' vs H Q E → sp vs H Q E) : FnG P w K mg base k f fd ps sp' :=
  ⟨fun vs H Q E q => F.len vs H Q E (h _ _ _ _ q), fun A outer s H args us vs Q hr hg he hb hv hs => F.run A outer s H args us vs Q hr hg he hb hv (h _ _ _ _ hs)⟩

/-- the context of a body -/
abbrev bx (P : Program) (w : World) (K : PySem.W.Frag) (mg : Str → Option Value) (base : Heap) (N : List Str) (qual : Str) (st : Stmt) (f : Addr) (cdv : Value) (A : Around) (outer : List Env) (s : Shared) (H : Hp) : Cx :=
  (cxOf CX0 P w K mg base N qual (defScope st) f cdv A outer s H E0).nox

/-- a def by its body -/
theorem fnG_of {x qual : Str} {st : Stmt} {N : List Str} (Fu : Fun K x qual st f fd) (S : FnScope N ps (defScope st)) (len : ∀ vs H Q E, sp vs H Q E → vs.length = ps.length)
    (hbody : ∀ (cdv : Value) (A : Around) (outer : List Env) (s : Shared) (H : Hp) (vs : List V) (Q : VK), Room k (A.deeper (envOfC qual (defScope st) s.heap.objs.size f cdv)) → A.guards = some [] → sp vs H Q E0 →
      tSs (bx P w K mg base N qual st f cdv A outer s H) (defBody st) { nx := fun _ H' => Q .non H', rt := Q } (start N vs) H) : FnG P w K mg base (k + 1) f fd ps sp := by
  obtain ⟨oc, od, kV, doc, pm, an, cdv, ct, osl, rfl, lk, hcd⟩ := Fu.ex
  refine ⟨len, fun A outer s H args us vs Q hr hg e0 hb r hsp => ?_⟩
  have hl : vs.length = ps.length := len _ _ _ _ hsp
  have frm : ∀ b o, base.get? b = some o → s.heap.get? b = some o := fun b o e => (e0.bs b o e).1
  have KX := e0.mod.kin.keeps frm
  have lim := e0.mod.nolimit.keeps frm
  refine codeAny_call_function hr.depth (KX _ _ lk) rfl S.co S.gen rfl (PySem.W.codeRec_of KX hcd) (hb _ _ _ _ ?_)
  refine wpAny_newFunctionEnv_cells S.kind (fun y hy => ?_) fun env he s1 x => ?_
  · obtain ⟨n, v⟩ := y
    rcases S.par n (List.of_mem_zip hy).1 with q | q
    · exact Or.inl q
    · exact Or.inr ⟨q, PySem.W.cellsFrom_some _ _ _ (Or.inl q)⟩
  · subst he
    have I := inv_start (CX := CX0) (P := P) (w := w) (K := K) (mg := mg) (base := base) (qual := qual) (f := f) (cd := cdv) (E := E0) S hr.hd e0 hl r x
    refine ⟨lim.keeps x.toInCall.keep, codeAny_func ?_⟩
    have hq := hbody cdv A outer s H vs Q (hr.deeper _) hg hsp [] s1 (I.wish _)
    refine wpAny_mono hq (fun fl s' hs => ?_) (fun e s' z => False.elim z)
    cases fl with
    | brk => obtain ⟨_, _, _, q⟩ := hs; exact q.elim
    | cont => obtain ⟨_, _, _, q⟩ := hs; exact q.elim
    | next =>
      obtain ⟨σ', H', J, q⟩ := hs
      exact ⟨V.non, H', J.unwish.os, J.unwish.bare, J.unwish.base, J.unwish.hok, rfl, q⟩
    | ret u =>
      obtain ⟨v, σ', H', J, rv, q⟩ := hs
      exact ⟨v, H', J.unwish.os, J.unwish.bare, J.unwish.base, J.unwish.hok, rv, q⟩
end

section
variable {X : Cx} {k : Nat} {f : Addr} {fd : FuncData} {ps : List Str} {sp : Sp} {x : Str} {p pos : Pos} {e : Expr} {es : List Expr}
/-- a call -/
theorem tE_call (F : FnG X.prog X.w X.K X.mg X.base k f fd ps sp) (hr : Room k X.A) (hgu : X.A.guards = some []) (hg : Gl X x) (hm : X.mg x = some (.ref f)) (hk : PySem.W.keepIn X.K (.ref f) = true) (hb : Binds X.K fd ps []) {σ : L2.St} {H : Hp} {Q : VK}
    (ha : tA X (e :: es) σ H fun vs H1 => sp vs H1 Q E0) (hdb : (x == ("__debug__" : Str)) = false := by decide) (he : starEach (e :: es) X.env = (false, eval e X.env) :: starEach es X.env := by rfl)
    (hpl : (backTo pos (starEach es X.env)).any (·.1) = false := by rfl) : tE X (.Call (.Name x p) (e :: es) [] pos) σ H Q := fun pins s I => by
  refine wpAny_Call_Name_kw (ld_glob I hg hm ?_ hdb)
  refine PySem.W.callWith_K (h₀ := X.base) I.ok.mod.kin hk (thn (ha pos pins s I) fun us s1 ⟨vs, H1, I1, r, q⟩ => ⟨I1.kIn, ?_⟩) he hpl
  have hl : us.length = ps.length := by rw [← r.length]; exact F.len _ _ _ _ q
  have bt := hb s1 us I1.kIn (by rw [List.append_nil]; exact hl)
  rw [List.append_nil] at bt
  refine wpAny_call (codeAny_mono (F.run X.A X.stack s1 H1 ⟨us, []⟩ us vs Q hr hgu I1.env0 bt r q) fun rr s' hq => ?_)
  match rr, hq with
  | .error _, hq => exact False.elim hq
  | .ok (.ret u), hq => exact I1.after hq
  | .ok .next, hq => exact False.elim hq
  | .ok .brk, hq => exact False.elim hq
  | .ok .cont, hq => exact False.elim hq
end

/-! ### contracts on data -/
/-- of an a: the arguments, when it holds, what may come back -/
structure Ctr (α : Type) where
  args : α → List D
  ok : α → Prop
  res : α → D → Prop
/-- all that stands is left -/
def spP {α : Type} (c : Ctr α) : Sp := fun vs H Q _ => ∃ a G, c.ok a ∧ Same G H ∧ RpA G vs (c.args a) ∧ ∀ d v G' H', c.res a d → Nx G H G' H' → Rp G' v d → Q v H'
/-- the entry of such a def -/
def fx0 (G H : Hp) : Fx := ⟨G, H, none, fun _ _ _ _ => True, fun _ _ _ _ _ _ _ _ _ => trivial, fun _ z => nomatch z⟩
def ev0 (N : List Str) (ds : List D) : Ev := ds.map .dat ++ List.replicate (N.length - ds.length) .un
theorem ev0_dat {N : List Str} {G : Hp} {i : Nat} {s : Sl} {F : Fx} {H : Hp} : ∀ {ds : List D} {vs : List V} , RpA G vs ds → (ev0 N ds)[i]? = some s → SlOk F G H s ((start N vs)[i]?.join) := by
  intro ds vs r e
  unfold ev0 at e
  unfold L2.start
  by_cases hi : i < ds.length
  · rw [List.getElem?_append_left (by rw [List.length_map]; exact hi), List.getElem?_map, List.getElem?_eq_getElem hi] at e
    have e' : Sl.dat ds[i] = s := Option.some.inj e
    subst e'
    obtain ⟨v, e1, e2⟩ := r.get (List.getElem?_eq_getElem hi)
    rw [List.getElem?_append_left (by rw [List.length_map, r.len]; exact hi), List.getElem?_map, e1]
    exact ⟨v, rfl, e2⟩
  · rw [List.getElem?_append_right (by rw [List.length_map]; omega), List.getElem?_replicate] at e
    split at e
    · cases e; trivial
    · cases e
theorem si0 {N : List Str} {G H : Hp} {ds : List D} {vs : List V} (h : Same G H) (r : RpA G vs ds) (hl : ds.length ≤ N.length) : SI (fx0 G H) (ev0 N ds) G (start N vs) H where
  sub := h
  keep := fun a o e _ => e
  wt := fun a z => nomatch z
  old := fun a o _ => rfl
  len := by
    unfold L2.start ev0
    rw [List.length_append, List.length_append, List.length_map, List.length_map, List.length_replicate, List.length_replicate, r.len]
  sl := fun i s e => ev0_dat r e
section
variable {P : Program} {w : World} {K : PySem.W.Frag} {mg : Str → Option Value} {base : Heap} {k : Nat} {f : Addr} {fd : FuncData} {ps : List Str} {N : List Str} {x qual : Str} {st : Stmt}
theorem bd_of (S : FnScope N ps (defScope st)) {cdv : Value} {A : Around} {outer : List Env} {s : Shared} {H : Hp} (hr : Room k (A.deeper (envOfC qual (defScope st) s.heap.objs.size f cdv))) (hg : A.guards = some []) :
    Bd (bx P w K mg base N qual st f cdv A outer s H) K mg N (defScope st) k := ⟨rfl, rfl, rfl, rfl, S.nd, rfl, hr, hg⟩
/-- what a body is to be shown for, whatever runs around it -/
structure Fr1 (P : Program) (w : World) (K : PySem.W.Frag) (mg : Str → Option Value) (base : Heap) (N : List Str) (sc : Scope) (k : Nat) (X : Cx) : Prop extends Bd X K mg N sc k where
  hP : X.prog = P
  hw : X.w = w
  hb : X.base = base
  hfn : ∀ y, X.fn y = true
  hxe : X.xe = fun _ _ => False
theorem fnP {α : Type} {c : Ctr α} (Fu : Fun K x qual st f fd) (S : FnScope N ps (defScope st)) (hl : ∀ a, c.ok a → (c.args a).length = ps.length)
    (body : ∀ X F a, Fr1 P w K mg base N (defScope st) k X → F.w = none → c.ok a → SD X F (ev0 N (c.args a)) (defBody st) (fun _ => c.res a .none) fun d _ => c.res a d) : FnG P w K mg base (k + 1) f fd ps (spP c) := by
  have hpl : ps.length ≤ N.length := by have := congrArg List.length S.pre; rw [List.length_take] at this; omega
  refine fnG_of Fu S (fun vs H Q E h => ?_) fun cdv A outer s H vs Q hr hg h => ?_
  · obtain ⟨a, G, pr, _, r, _⟩ := h
    rw [r.len]; exact hl a pr
  · obtain ⟨a, G, pr, sub, r, q⟩ := h
    have B : Fr1 P w K mg base N (defScope st) k (bx P w K mg base N qual st f cdv A outer s H) := ⟨bd_of S hr hg, rfl, rfl, rfl, fun _ => rfl, rfl⟩
    have fin : ∀ {ρ' G' σ' H'}, SI (fx0 G H) ρ' G' σ' H' → Nx G H G' H' := fun J => ⟨fun a o e => J.keep a o e (fun z => nomatch z), J.sub, J.old⟩
    refine body _ (fx0 G H) a B rfl pr G _ H (si0 sub r (by rw [hl a pr]; exact hpl)) { nx := fun _ H' => Q .non H', rt := Q } (fun ρ' G' σ' H' n J _ => ?_) fun d v ρ' G' σ' H' n J rv => ?_
    · exact q .none .non G' H' n (fin J) .non
    · exact q d v G' H' n (fin J) rv
end

section
variable {X : Cx} {F : Fx} {ρ : Ev} {P : Program} {w : World} {K : PySem.W.Frag} {mg : Str → Option Value} {base : Heap} {N : List Str} {sc : Scope} {k : Nat} {f : Addr} {fd : FuncData} {ps : List Str} {x : Str} {p pos : Pos} {e : Expr} {es : List Expr} {Pq : D → Prop} {Ps : List D → Prop}
/-- where the context's program, world, base stand (a def's body, a comprehension's block) -/
structure At (P : Program) (w : World) (base : Heap) (X : Cx) : Prop where
  hP : X.prog = P
  hw : X.w = w
  hb : X.base = base
theorem Fr1.at (B : Fr1 P w K mg base N sc k X) : At P w base X := ⟨B.hP, B.hw, B.hb⟩
/-- a def as the callers see it -/
structure Cal (P : Program) (w : World) (K : PySem.W.Frag) (mg : Str → Option Value) (base : Heap) (k : Nat) (x : Str) (ps : List Str) (sp : Sp) : Prop where
  ex : ∃ f fd, FnG P w K mg base k f fd ps sp ∧ mg x = some (.ref f) ∧ PySem.W.keepIn K (.ref f) = true ∧ Binds K fd ps []
theorem Cal.mono {j : Nat} {sp : Sp} (C : Cal P w K mg base j x ps sp) (h : j ≤ k) : Cal P w K mg base k x ps sp := by
  obtain ⟨f, fd, a, b⟩ := C.ex
  exact ⟨f, fd, a.mono h, b⟩
theorem pn_call {α : Type} {c : Ctr α} {j : Nat} (T : At P w base X) (B : Bd X K mg N sc k) (C : Cal P w K mg base j x ps (spP c)) (hj : j ≤ k) (hg : sc.names.lookup x = some .globalImplicit) (ha : PNs X F ρ (e :: es) Ps)
    (h : ∀ ds, Ps ds → ∃ a, ds = c.args a ∧ c.ok a ∧ ∀ d, c.res a d → Pq d) (hdb : (x == ("__debug__" : Str)) = false := by decide) (he : starEach (e :: es) X.env = (false, eval e X.env) :: starEach es X.env := by rfl)
    (hpl : (backTo pos (starEach es X.env)).any (·.1) = false := by rfl) : PN X F ρ (.Call (.Name x p) (e :: es) [] pos) Pq := fun G σ H I Q q => by
  obtain ⟨f, fd, FG, hm, hk, hb⟩ := C.ex
  have FG' : FnG X.prog X.w X.K X.mg X.base j f fd ps (spP c) := by rw [T.hP, T.hw, T.hb, B.hK, B.hmg]; exact FG
  refine tE_call FG' (B.room.mono hj) B.guards (B.gl hg) (by rw [B.hmg]; exact hm) (by rw [B.hK]; exact hk) (by rw [B.hK]; exact hb) ?_ hdb he hpl
  refine ha G σ H I _ fun ds vs G1 H1 pd I1 s1 r1 => ?_
  obtain ⟨a, ea, oa, ra⟩ := h ds pd
  subst ea
  exact ⟨a, G1, oa, I1.sub, r1, fun d v G2 H2 po n rv => q d v G2 H2 (ra d po) (I1.nx n) (s1.trans (I1.stp n)) rv⟩
/-- a call whose arguments are known -/
theorem pd_call {α : Type} {c : Ctr α} {j : Nat} (a : α) (T : At P w base X) (B : Bd X K mg N sc k) (C : Cal P w K mg base j x ps (spP c)) (hj : j ≤ k) (hg : sc.names.lookup x = some .globalImplicit) (ha : PDs X F ρ (e :: es) (c.args a)) (ok : c.ok a)
    (hdb : (x == ("__debug__" : Str)) = false := by decide) (he : starEach (e :: es) X.env = (false, eval e X.env) :: starEach es X.env := by rfl)
    (hpl : (backTo pos (starEach es X.env)).any (·.1) = false := by rfl) : PN X F ρ (.Call (.Name x p) (e :: es) [] pos) (c.res a) :=
  pn_call T B C hj hg ha (fun ds e => ⟨a, e, ok, fun _ z => z⟩) hdb he hpl
/-- .. and what comes back -/
theorem pd_callR {α : Type} {c : Ctr α} {j : Nat} (a : α) (r : D) (hr : ∀ d, c.res a d → d = r) (T : At P w base X) (B : Bd X K mg N sc k) (C : Cal P w K mg base j x ps (spP c)) (hj : j ≤ k) (hg : sc.names.lookup x = some .globalImplicit) (ha : PDs X F ρ (e :: es) (c.args a)) (ok : c.ok a)
    (hdb : (x == ("__debug__" : Str)) = false := by decide) (he : starEach (e :: es) X.env = (false, eval e X.env) :: starEach es X.env := by rfl)
    (hpl : (backTo pos (starEach es X.env)).any (·.1) = false := by rfl) : PD X F ρ (.Call (.Name x p) (e :: es) [] pos) r :=
  (pd_call a T B C hj hg ha ok hdb he hpl).imp hr
end

/-! ### statements -/
section
variable {X : Cx} {F : Fx} {ρ : Ev} {K : PySem.W.Frag} {mg : Str → Option Value} {N : List Str} {sc : Scope} {k : Nat} {e : Expr} {st : Stmt} {sts : List Stmt} {pos pos' : Pos} {Nx' Nx2 : Ev → Prop} {R : D → Ev → Prop} {P : D → Prop}
theorem S1.imp {N1 N2 : Ev → Prop} {R1 R2 : D → Ev → Prop} (h : S1 X F ρ st N1 R1) (a : ∀ r, N1 r → N2 r) (b : ∀ d r, R1 d r → R2 d r) : S1 X F ρ st N2 R2 :=
  fun G σ H I E n r => h G σ H I E (fun ρ' G' σ' H' z => n ρ' G' σ' H' (a _ z)) fun d v ρ' G' σ' H' z => r d v ρ' G' σ' H' (b _ _ z)
theorem SD.imp {N1 N2 : Ev → Prop} {R1 R2 : D → Ev → Prop} (h : SD X F ρ sts N1 R1) (a : ∀ r, N1 r → N2 r) (b : ∀ d r, R1 d r → R2 d r) : SD X F ρ sts N2 R2 :=
  fun G σ H I E n r => h G σ H I E (fun ρ' G' σ' H' z => n ρ' G' σ' H' (a _ z)) fun d v ρ' G' σ' H' z => r d v ρ' G' σ' H' (b _ _ z)
theorem sd_nil (h : Nx' ρ) : SD X F ρ [] Nx' R := fun G σ H I E n r => tSs_of pss_nil (n ρ G σ H h I (Same.refl G))
theorem sd_cons (h1 : S1 X F ρ st Nx' R) (h2 : ∀ ρ', Nx' ρ' → SD X F ρ' sts Nx2 R) : SD X F ρ (st :: sts) Nx2 R := fun G σ H I E n r =>
  tSs_of (pss_cons cS cSs) (h1 G σ H I { E with nx := _ } (fun ρ' G' σ' H' z I' s' => h2 ρ' z G' σ' H' I' E (fun ρ2 G2 σ2 H2 z2 I2 s2 => n ρ2 G2 σ2 H2 z2 I2 (s'.trans s2)) r) r)
theorem sd_one (h1 : S1 X F ρ st Nx' R) : SD X F ρ [st] Nx' R := fun G σ H I E n r => tSs_of (pss_one cS) (h1 G σ H I E n r)
/-- return e -/
theorem s_ret (h : PN X F ρ e fun d => R d ρ) : S1 X F ρ (.Return (some e) pos) Nx' R := fun G σ H I E n r =>
  tS_of (ps_ret cE) (h G σ H I _ fun d v G' H' p I' s' rv => r d v ρ G' σ H' p I' rv)
theorem s_retN (h : R .none ρ) : S1 X F ρ (.Return none pos) Nx' R := fun G σ H I E n r => tS_of ps_retN (r .none .non ρ G σ H h I .non)
/-- if -/
theorem s_if {c : Expr} {a b : List Stmt} {Pb : Bool → Prop} (hc : PB X F ρ c Pb) (ha : Pb true → SD X F ρ a Nx' R) (hb : Pb false → SD X F ρ b Nx' R) : S1 X F ρ (.If c a b pos) Nx' R := fun G σ H I E n r =>
  tS_of (ps_if cT cSs cSs) (hc G σ H I _ fun k G1 H1 pk I1 s1 => by
    cases k with
    | true => rw [if_pos rfl]; exact ha pk G1 σ H1 I1 E (fun ρ' G' σ' H' z I' s' => n ρ' G' σ' H' z I' (s1.up.trans s')) r
    | false => rw [if_neg (by decide)]; exact hb pk G1 σ H1 I1 E (fun ρ' G' σ' H' z I' s' => n ρ' G' σ' H' z I' (s1.up.trans s')) r)
/-- x = e -/
theorem s_set (B : Bd X K mg N sc k) (i : Nat) {x : Str} (h : PN X F ρ e P) (hN : N[i]? = some x) (hx : Loc sc x) (hf : ∀ y, X.fn y = true) (hs : swapsWith e (some (.Name x pos')) pos.line X.env = pure false := by rfl) :
    S1 X F ρ (.Assign [.Name x pos'] e pos) (fun ρ' => ∃ d, P d ∧ ρ' = ρ.set i (.dat d)) R := fun G σ H I E n r =>
  tS_of (ps_set (i := i) (by rw [B.hN]; exact B.nd) (by rw [B.hN]; exact hN) (by rw [B.hsc]; exact hx) cE hs (.inl (hf x))) (h G σ H I _ fun d v G' H' p I' s' rv => n _ G' _ H' ⟨d, p, rfl⟩ (I'.setD rv) s'.up)
/-- an expression as a statement, its value dropped -/
theorem s_expr (h : PN X F ρ e P) (hs : swapsWith e none pos.line X.env = pure false := by rfl) : S1 X F ρ (.Expr e pos) (fun ρ' => ρ' = ρ) R := fun G σ H I E n r =>
  tS_of (ps_expr cE hs) (h G σ H I _ fun d v G' H' p I' s' rv => n ρ G' σ H' rfl I' s'.up)
theorem sd_freeze (i : Nat) {ds : List D} (e : ρ[i]? = some (.own ds)) (hone : ∀ (j : Nat) (es : List D), j ≠ i → ρ[j]? ≠ some (.own es)) (h : SD X F (ρ.set i (.dat (.list ds))) sts Nx' R) : SD X F ρ sts Nx' R := fun G σ H I E n r => by
  obtain ⟨G1, s1, I1⟩ := I.freeze e hone
  exact h G1 σ H I1 E (fun ρ' G' σ' H' z I' s' => n ρ' G' σ' H' z I' (s1.trans s')) r
theorem sd_weak {ρ1 : Ev} (hl : ρ1.length = ρ.length) (hw : ∀ (i : Nat) (s : Sl), ρ1[i]? = some s → s = .un ∨ ρ[i]? = some s) (h : SD X F ρ1 sts Nx' R) : SD X F ρ sts Nx' R := fun G σ H I E n r => h G σ H (I.weak hl hw) E n r
end
end Pd
/-! Pd3: loops, list comprehensions, lists of the def's own. -/
namespace Pd
open PySem PySem.Spec PyProof.Rows L2

/-! ### what is walked -/
/-- an iterator that yields these data, wherever they stand -/
def Walks (J : It) (G1 : Hp) (ds : List D) : Prop := ∀ G' H', Same G1 G' → Same G' H' → ∀ j,
  (j < ds.length → J.go j H') ∧ (ds.length ≤ j → J.stop j H') ∧ ∀ x H'' d, ds[j]? = some d → J.yld j H' x H'' → ∃ G'', Nx G' H' G'' H'' ∧ Rp G'' x d
def DW (F : Fx) (ρ : Ev) (wi : TI) (ds : List D) : Prop := ∀ G σ H, SI F ρ G σ H → ∀ R : It → Hp → Prop, (∀ J G1 H1, SI F ρ G1 σ H1 → Stp F G H G1 H1 → Walks J G1 ds → R J H1) → wi σ H R
/-- where an item goes -/
def DG (F : Fx) (g : TG) (Ok : D → Prop) (T : D → Ev → Ev → Prop) (vs : List Nat) : Prop := ∀ d v ρ G σ H, Ok d → Rp G v d → SI F ρ G σ H → ∀ Q : L2.St → Hp → Prop, (∀ ρ' σ', T d ρ ρ' → SI F ρ' G σ' H → (∀ i, i ∉ vs → ρ'[i]? = ρ[i]?) → wipe σ' vs = wipe σ vs → Q σ' H) → g v σ H Q
section
variable {X : Cx} {F : Fx} {ρ : Ev} {K : PySem.W.Frag} {mg : Str → Option Value} {N : List Str} {sc : Scope} {k : Nat} {l : Expr} {pos : Pos} {ds : List D} {tg : Expr}
theorem walks_list {G1 : Hp} {a : Addr} {vs : List V} (h : G1 a = some (.lst vs)) (r : RpA G1 vs ds) : Walks (Itl K a) G1 ds := fun G' H' s1 s2 j => by
  have hH : SqL K H' a vs := SqL.of (s2 a _ (s1 a _ h))
  refine ⟨fun hj => ?_, fun hj => ⟨vs, hH, by rw [r.len]; exact hj⟩, fun x H'' d e y => ?_⟩
  · obtain ⟨v, e1, _⟩ := r.get (List.getElem?_eq_getElem hj)
    exact ⟨vs, v, hH, e1⟩
  · obtain ⟨rfl, f⟩ := y
    obtain ⟨v, e1, rv⟩ := r.get e
    have e2 := f vs hH
    rw [e1] at e2
    cases e2
    exact ⟨G', Nx.refl s2, rv.up s1⟩
theorem walks_tup {G1 : Hp} {a : Addr} {vs : List V} (h : G1 a = some (.tup vs)) (r : RpA G1 vs ds) : Walks (Itt K a) G1 ds := fun G' H' s1 s2 j => by
  have hH : SqT K H' a vs := SqT.of (s2 a _ (s1 a _ h))
  refine ⟨fun hj => ?_, fun hj => ⟨vs, hH, by rw [r.len]; exact hj⟩, fun x H'' d e y => ?_⟩
  · obtain ⟨v, e1, _⟩ := r.get (List.getElem?_eq_getElem hj)
    exact ⟨vs, v, hH, e1⟩
  · obtain ⟨rfl, f⟩ := y
    obtain ⟨v, e1, rv⟩ := r.get e
    have e2 := f vs hH
    rw [e1] at e2
    cases e2
    exact ⟨G', Nx.refl s2, rv.up s1⟩
theorem dw_list (h : PD X F ρ l (.list ds)) : DW F ρ (iList X.K (tE X l)) ds := fun G σ H I R q => h G σ H I _ fun d v G1 H1 e I1 s1 r => by
  subst e
  obtain ⟨a, vs, rfl, h1, h2⟩ := r.listI
  exact ⟨a, rfl, ⟨vs, SqL.of (I1.sub a _ h1)⟩, q _ G1 H1 I1 s1 (walks_list h1 h2)⟩
theorem dw_tup (h : PD X F ρ l (.tuple ds)) : DW F ρ (iTup X.K (tE X l)) ds := fun G σ H I R q => h G σ H I _ fun d v G1 H1 e I1 s1 r => by
  subst e
  obtain ⟨a, vs, rfl, h1, h2⟩ := r.tupI
  exact ⟨a, rfl, ⟨vs, SqT.of (I1.sub a _ h1)⟩, q _ G1 H1 I1 s1 (walks_tup h1 h2)⟩
/-- range(n) -/
def rgD (n : Nat) : List D := (List.range n).map fun i => .int (i : Nat)
theorem rgD_get {n j : Nat} {d : D} (e : (rgD n)[j]? = some d) : j < n ∧ d = .int (j : Nat) := by
  unfold rgD at e
  rw [List.getElem?_map] at e
  by_cases h : j < n
  · rw [List.getElem?_range h] at e
    exact ⟨h, (Option.some.inj e).symm⟩
  · rw [List.getElem?_eq_none (by rw [List.length_range]; omega)] at e
    cases e
theorem rgD_len (n : Nat) : (rgD n).length = n := by unfold rgD; rw [List.length_map, List.length_range]
theorem walks_range {G1 : Hp} {n : Nat} : Walks (Itr 0 n) G1 (rgD n) := fun G' H' s1 s2 j => by
  refine ⟨fun hj => by rw [rgD_len] at hj; exact hj, fun hj => by rw [rgD_len] at hj; exact hj, fun x H'' d e y => ?_⟩
  obtain ⟨rfl, rfl⟩ := y
  obtain ⟨_, rfl⟩ := rgD_get e
  exact ⟨G', Nx.refl s2, by rw [Int.zero_add]; exact .int _⟩
theorem dw_range {es : List Expr} {n : Int} (h : PDs X F ρ es [.int n]) (h1 : n < 2 ^ 62) (h0 : -(2 ^ 62) ≤ n) : DW F ρ (iRng1 (tA X es)) (rgD n.toNat) := fun G σ H I R q => h G σ H I _ fun d v G1 H1 e I1 s1 r => by
  subst e
  cases r with
  | cons r rr =>
    cases rr
    cases r
    exact ⟨n, rfl, h0, h1, q _ G1 H1 I1 s1 walks_range⟩
abbrev gT1 (i : Nat) : D → Ev → Ev → Prop := fun d ρ ρ' => ρ' = ρ.set i (.dat d)
abbrev gT2 (i j : Nat) : D → Ev → Ev → Prop := fun d ρ ρ' => ∃ x y, d = .tuple [x, y] ∧ ρ' = (ρ.set i (.dat x)).set j (.dat y)
theorem dg_name (i : Nat) : DG F (gName i) (fun _ => True) (gT1 i) [i] := fun d v ρ G σ H _ r I Q q => q _ _ rfl (I.setD r) (fun j hj => List.getElem?_set_ne (fun z => hj (by rw [z]; exact List.mem_cons_self))) (by
  show (σ.set i (some v)).set i none = σ.set i none
  rw [List.set_set])
/-- a, b = a pair -/
theorem dg_two (i j : Nat) (K : PySem.W.Frag) (hij : i ≠ j) : DG F (gTup K 2 (gCons (gName i) (gCons (gName j) gNil))) (fun d => ∃ x y, d = .tuple [x, y]) (gT2 i j) [i, j] := fun d v ρ G σ H ok r I Q q => by
  obtain ⟨x, y, rfl⟩ := ok
  obtain ⟨a, vs, rfl, h1, h2⟩ := r.tupI
  cases h2 with
  | cons r1 h2 =>
    cases h2 with
    | cons r2 h2 =>
      cases h2
      refine ⟨a, _, rfl, SqT.of (I.sub a _ h1), rfl, _, _, rfl, _, _, rfl, rfl, q _ _ ⟨x, y, rfl, rfl⟩ ((I.setD r1).setD r2) (fun l hl => ?_) ?_⟩
      · rw [List.getElem?_set_ne (fun z => hl (by rw [z]; simp)), List.getElem?_set_ne (fun z => hl (by rw [z]; simp))]
      · show ((((σ.set i _).set j _).set j none).set i none) = ((σ.set j none).set i none)
        rw [List.set_set, List.set_comm _ _ hij, List.set_set]
/-- for -/
theorem s_for {wi : TI} {g : TG} {T : D → Ev → Ev → Prop} {Ok : D → Prop} {body : List Stmt} {R : D → Ev → Prop} (B : Bd X K mg N sc k) (hxe : X.xe = fun _ _ => False) (hi : PI X tg l wi) (hd : DW F ρ wi ds) (hg : PG X tg g) {gv : List Nat} (dg : DG F g Ok T gv) (hok : ∀ d ∈ ds, Ok d)
    (Iv : Nat → Ev → Prop) (h0 : Iv 0 ρ) (hb : ∀ j d ρ1 ρ2, ds[j]? = some d → Iv j ρ1 → T d ρ1 ρ2 → SD X F ρ2 body (Iv (j + 1)) R) (hs : ∀ x, foldedSetIterable l X.env x = pure x := by intro _; rfl) :
    S1 X F ρ (.For tg l body [] pos) (Iv ds.length) R := fun G σ H I E n r => by
  refine tS_of (ps_for (by rw [hxe]; exact PassesOwn.never) B.calm hi hg cSs hs) ?_
  refine hd G σ H I _ fun J G1 H1 I1 s1 W => ⟨fun j m σ' H' => m = ds.length - j ∧ j ≤ ds.length ∧ ∃ ρ' G', Iv j ρ' ∧ SI F ρ' G' σ' H' ∧ Same G1 G', ⟨ds.length, by simp, Nat.zero_le _, ρ, G1, h0, I1, Same.refl G1⟩, ?_⟩
  rintro j m σ' H' ⟨rfl, hj, ρ', G', iv, I', s'⟩
  obtain ⟨w1, w2, w3⟩ := W G' H' s' I'.sub j
  by_cases hlt : j < ds.length
  · refine .inr ⟨w1 hlt, fun σ2 H2 => ∃ ρ2 G2, Iv (j + 1) ρ2 ∧ SI F ρ2 G2 σ2 H2 ∧ Same G1 G2, fun σ2 H2 ⟨ρ2, G2, a, b, c⟩ => ⟨ds.length - (j + 1), by omega, rfl, hlt, ρ2, G2, a, b, c⟩, fun x H'' y => ?_⟩
    have e := List.getElem?_eq_getElem hlt
    obtain ⟨G'', nn, rx⟩ := w3 x H'' _ e y
    refine dg _ x ρ' G'' σ' H'' (hok _ (List.getElem_mem hlt)) rx (I'.nx nn) _ fun ρ2 σ2 t I2 _ _ => ?_
    exact hb j _ ρ' ρ2 e iv t G'' σ2 H'' I2 { E with nx := _, ct := _, bk := E.nx } (fun ρ3 G3 σ3 H3 z I3 s3 => ⟨ρ3, G3, z, I3, s'.trans ((I'.up nn).trans s3)⟩) r
  · have e : j = ds.length := by omega
    subst e
    exact .inl ⟨w2 (Nat.le_refl _), n ρ' G' σ' H' iv I' (s1.up.trans s')⟩
end

/-! ### lists of the def's own -/
section
variable {X : Cx} {F : Fx} {ρ : Ev} {G H : Hp} {σ : L2.St}
/-- an address that no slot and no persistent object speaks of -/
structure Apart (F : Fx) (ρ : Ev) (σ : L2.St) (p : Addr) : Prop where
  w : F.w ≠ some p
  h : F.H0 p = none
  own : ∀ (i : Nat) (ds : List D), ρ[i]? = some (.own ds) → σ[i]?.join ≠ some (.ref p)
  dic : ∀ (i : Nat) (ks : List Int), ρ[i]? = some (.dic ks) → σ[i]?.join ≠ some (.ref p)
theorem SI.apart (I : SI F ρ G σ H) {p : Addr} (hp : H p = none) : Apart F ρ σ p where
  w := fun z => I.wt p z hp
  h := by
    cases q : F.H0 p with
    | none => rfl
    | some o =>
      obtain ⟨u, e⟩ := I.old' q
      rw [hp] at e; cases e
  own := fun i ds e z => by
    obtain ⟨a, vs, e1, e2, _⟩ := I.sl i _ e
    rw [z] at e1
    cases e1
    rw [hp] at e2; cases e2
  dic := fun i ds e z => by
    obtain ⟨a, e1, e2, _⟩ := I.sl i _ e
    rw [z] at e1
    cases e1
    rw [hp] at e2; cases e2
/-- such an object changes -/
theorem SI.touch (I : SI F ρ G σ H) {p : Addr} (A : Apart F ρ σ p) (hg : G p = none) (o : HO) : SI F ρ G σ (upd H p o) where
  sub := fun a u e => by
    rw [upd_ne (ne_of_none e hg)]
    exact I.sub a u e
  keep := fun a u e z => by
    rw [upd_ne (ne_of_none e A.h)]
    exact I.keep a u e z
  wt := fun a z => by
    rw [upd_ne (fun q => A.w (by rw [← q]; exact z))]
    exact I.wt a z
  old := I.old
  len := I.len
  sl := fun i s e => by
    have k := I.sl i s e
    cases s with
    | un => trivial
    | dat d => exact k
    | own ds =>
      obtain ⟨a, vs, e1, e2, e3⟩ := k
      exact ⟨a, vs, e1, by rw [upd_ne (fun q => A.own i ds e (by rw [← q]; exact e1))]; exact e2, e3⟩
    | res c =>
      obtain ⟨a, e1, e2, e3, e4⟩ := k
      have na : a ≠ p := fun q => A.w (by rw [← q]; exact e2)
      exact ⟨a, e1, e2, e3, F.Rm c G H a G _ e4 (upd_ne na) (Same.refl G)⟩
    | dic ks =>
      obtain ⟨a, e1, e2, e3⟩ := k
      exact ⟨a, e1, by rw [upd_ne (fun q => A.dic i ks e (by rw [← q]; exact e1))]; exact e2, e3⟩
/-- such an object becomes persistent -/
theorem SI.pers (I : SI F ρ G σ H) {p : Addr} (A : Apart F ρ σ p) (hg : G p = none) {o : HO} (hp : H p = some o) : SI F ρ (upd G p o) σ H ∧ Same G (upd G p o) := by
  have u : Same G (upd G p o) := same_upd hg
  refine ⟨⟨fun b x q => ?_, I.keep, I.wt, fun b x q => ?_, I.len, fun j t q => ?_⟩, u⟩
  · by_cases z : b = p
    · subst z; rw [upd_same] at q; cases q; exact hp
    · rw [upd_ne z] at q; exact I.sub b x q
  · rw [upd_ne (ne_of_none q A.h)]; exact I.old b x q
  · have k := I.sl j t q
    cases t with
    | un => trivial
    | dat d => obtain ⟨v, e4, r4⟩ := k; exact ⟨v, e4, r4.up u⟩
    | own es =>
      obtain ⟨b, vs, e4, h5, h6, h7, r5⟩ := k
      have nb : b ≠ p := fun y => A.own j es q (by rw [← y]; exact e4)
      exact ⟨b, vs, e4, h5, by rw [upd_ne nb]; exact h6, h7, r5.up u⟩
    | res c =>
      obtain ⟨b, e4, h5, h6, r5⟩ := k
      have nb : b ≠ p := fun y => A.w (by rw [← y]; exact h5)
      exact ⟨b, e4, h5, by rw [upd_ne nb]; exact h6, F.Rm c G H b _ H r5 rfl u⟩
    | dic ks =>
      obtain ⟨b, e4, h5, h6, h7⟩ := k
      have nb : b ≠ p := fun y => A.dic j ks q (by rw [← y]; exact e4)
      exact ⟨b, e4, h5, by rw [upd_ne nb]; exact h6, h7⟩
end

/-! ### slots of a block -/
def wipeE (ρ : Ev) : List Nat → Ev
  | [] => ρ
  | v :: vs => (wipeE ρ vs).set v .un
theorem wipeE_len (ρ : Ev) : ∀ vs, (wipeE ρ vs).length = ρ.length
  | [] => rfl
  | v :: vs => by unfold wipeE; rw [List.length_set, wipeE_len ρ vs]
theorem wipeE_in (ρ : Ev) : ∀ (vs : List Nat) (i : Nat) (s : Sl), (wipeE ρ vs)[i]? = some s → i ∈ vs → s = .un
  | v :: vs, i, s, e, hi => by
    unfold wipeE at e
    by_cases z : v = i
    · subst z
      by_cases hl : v < (wipeE ρ vs).length
      · rw [List.getElem?_set_self hl] at e; exact (Option.some.inj e).symm
      · rw [List.getElem?_eq_none (by rw [List.length_set]; omega)] at e; cases e
    · rw [List.getElem?_set_ne z] at e
      rcases List.mem_cons.mp hi with h | h
      · exact absurd h.symm z
      · exact wipeE_in ρ vs i s e h
theorem wipeE_out (ρ : Ev) : ∀ (vs : List Nat) (i : Nat), i ∉ vs → (wipeE ρ vs)[i]? = ρ[i]?
  | [], _, _ => rfl
  | v :: vs, i, hi => by
    unfold wipeE
    rw [List.getElem?_set_ne (fun z => hi (by rw [z]; exact List.mem_cons_self))]
    exact wipeE_out ρ vs i fun h => hi (List.mem_cons_of_mem _ h)
theorem wipe_out (σ : L2.St) : ∀ (vs : List Nat) (i : Nat), i ∉ vs → (wipe σ vs)[i]? = σ[i]?
  | [], _, _ => rfl
  | v :: vs, i, hi => by
    unfold wipe
    rw [List.getElem?_set_ne (fun z => hi (by rw [z]; exact List.mem_cons_self))]
    exact wipe_out σ vs i fun h => hi (List.mem_cons_of_mem _ h)
theorem wipe_set_mem {σ : L2.St} {o : Option V} : ∀ (vs : List Nat) (v : Nat), v ∈ vs → wipe (σ.set v o) vs = wipe σ vs
  | w :: vs, v, h => by
    unfold wipe
    by_cases z : v ∈ vs
    · rw [wipe_set_mem vs v z]
    · rcases List.mem_cons.mp h with e | h
      · subst e
        have c : ∀ (us : List Nat), v ∉ us → wipe (σ.set v o) us = (wipe σ us).set v o := by
          intro us
          induction us with
          | nil => intro _; rfl
          | cons u us ih =>
            intro hu
            unfold wipe
            rw [ih fun q => hu (List.mem_cons_of_mem _ q), List.set_comm _ _ (fun q => hu (by rw [q]; exact List.mem_cons_self))]
        rw [c vs z, List.set_set]
      · exact absurd h z
theorem wipe_twice_aux (σ : L2.St) (us : List Nat) : ∀ vs : List Nat, (∀ v ∈ vs, v ∈ us) → wipe (wipe σ vs) us = wipe σ us
  | [], _ => rfl
  | v :: vs, h => by
    show wipe ((wipe σ vs).set v none) us = _
    rw [wipe_set_mem us v (h v List.mem_cons_self)]
    exact wipe_twice_aux σ us vs fun w hw => h w (List.mem_cons_of_mem _ hw)
theorem wipe_twice (σ : L2.St) (vs : List Nat) : wipe (wipe σ vs) vs = wipe σ vs := wipe_twice_aux σ vs vs fun _ h => h
def plainAt (ρ : Ev) (i : Nat) : Bool := match ρ[i]? with
  | some .un => true
  | some (.dat _) => true
  | none => true
  | _ => false
section
variable {X : Cx} {F : Fx} {ρ ρ2 : Ev} {G H G2 H2 : Hp} {σ σ2 : L2.St}
theorem SI.wipe (I : SI F ρ G σ H) (vs : List Nat) : SI F (wipeE ρ vs) G (wipe σ vs) H :=
  ⟨I.sub, I.keep, I.wt, I.old, by rw [wipe_length, wipeE_len]; exact I.len, fun i s e => by
    by_cases hi : i ∈ vs
    · rw [wipeE_in ρ vs i s e hi]; trivial
    · rw [wipeE_out ρ vs i hi] at e
      rw [wipe_out σ vs i hi]
      exact I.sl i s e⟩
/-- the slots as they were ahead of the block -/
theorem SI.back (I : SI F ρ G σ H) (J : SI F ρ2 G2 σ2 H2) (vs : List Nat) (u : Same G G2) (hp : ∀ i ∈ vs, plainAt ρ i = true) (h1 : ∀ i, i ∉ vs → ρ2[i]? = ρ[i]?) (h2 : L2.wipe σ2 vs = L2.wipe σ vs) : SI F ρ G2 σ H2 :=
  ⟨J.sub, J.keep, J.wt, J.old, I.len, fun i s e => by
    by_cases hi : i ∈ vs
    · have q := hp i hi
      have k := I.sl i s e
      unfold plainAt at q
      rw [e] at q
      cases s with
      | un => trivial
      | dat d => obtain ⟨v, e1, r⟩ := k; exact ⟨v, e1, r.up u⟩
      | own _ => cases q
      | res _ => cases q
      | dic _ => cases q
    · have e2 : σ2[i]? = σ[i]? := by rw [← wipe_out σ2 vs i hi, h2, wipe_out σ vs i hi]
      rw [← e2]
      exact J.sl i s (by rw [h1 i hi]; exact e)⟩
end
end Pd
/-! Pd4: list comprehensions; lists and dicts of the def's own, written. -/
namespace Pd
open PySem PySem.Spec PyProof.Rows L2

def tTs (X : Cx) (ifs : List Expr) : TT := fun σ H Q => ∃ t, PTs X ifs t ∧ t σ H Q
theorem cTs {X : Cx} {ifs : List Expr} : PTs X ifs (tTs X ifs) := ⟨fun pins s σ H Q I h => by
  obtain ⟨t, a, b⟩ := h
  exact a.run pins s σ H Q I b⟩
def PBs (X : Cx) (F : Fx) (ρ : Ev) (ifs : List Expr) (b : Bool) : Prop :=
  ∀ G σ H, SI F ρ G σ H → ∀ Q : Bool → Hp → Prop, (∀ G' H', SI F ρ G' σ H' → Stp F G H G' H' → Q b H') → tTs X ifs σ H Q
theorem pbs_nil {X : Cx} {F : Fx} {ρ : Ev} : PBs X F ρ [] true := fun G σ H I Q q => ⟨_, pts_nil, q G H I Stp.refl⟩
theorem pbs_one {X : Cx} {F : Fx} {ρ : Ev} {c : Expr} {b : Bool} (h : PB X F ρ c fun x => x = b) : PBs X F ρ [c] b := fun G σ H I Q q => ⟨_, pts_one cT, h G σ H I Q fun b' G' H' e I' s' => by
  rw [e]
  exact q G' H' I' s'⟩
/-- a block's context -/
structure Bk (X : Cx) (scope : Scope) (X' : Cx) : Prop where
  ex : ∃ s0 H0 C cl fp, X' = X.blk s0 H0 scope (compEnvC scope cl C X.env) fp
def eB (X : Cx) (scope : Scope) (e : Expr) : TE := fun σ H Q => ∀ X', Bk X scope X' → tE X' e σ H Q
def tB' (X : Cx) (scope : Scope) (ifs : List Expr) : TT := fun σ H Q => ∀ X', Bk X scope X' → tTs X' ifs σ H Q
section
variable {X X' : Cx} {F : Fx} {ρ : Ev} {G H : Hp} {σ : L2.St} {P : Program} {w : World} {base : Heap} {K : PySem.W.Frag} {mg : Str → Option Value} {N : List Str} {sc scope : Scope} {k : Nat}
theorem Bk.bd (b : Bk X scope X') (B : Bd X K mg N sc k) : Bd X' K mg N (relS scope sc) k := by
  obtain ⟨s0, H0, C, cl, fp, rfl⟩ := b.ex
  refine ⟨B.hK, B.hmg, B.hN, ?_, B.nd, B.calm, B.room, B.guards⟩
  show relS scope X.env.scope = _
  rw [B.hsc]
theorem Bk.at (b : Bk X scope X') (T : At P w base X) : At P w base X' := by
  obtain ⟨s0, H0, C, cl, fp, rfl⟩ := b.ex
  exact ⟨T.hP, T.hw, T.hb⟩
theorem Bk.xe (b : Bk X scope X') : X'.xe = fun _ _ => False := by
  obtain ⟨s0, H0, C, cl, fp, rfl⟩ := b.ex
  rfl
theorem Stp.free {G H G' H' : Hp} {p : Addr} (s : Stp F G H G' H') (h : H' p = none) (hw : F.w ≠ some p) : H p = none := by
  cases e : H p with
  | none => rfl
  | some o => rw [s.keep p o e hw] at h; cases h
theorem Stp.touch {G1 H1 G4 H4 : Hp} {p : Addr} {o : HO} (s : Stp F G1 H1 G4 H4) (hp : H1 p = none) : Stp F G1 H1 G4 (upd H4 p o) :=
  ⟨fun a u e z => by rw [upd_ne (ne_of_none e hp)]; exact s.keep a u e z, s.old, s.up⟩
theorem take_step {α : Type} {keep : α → Bool} {val : α → D} {xs : List α} {i : Nat} {a : α} (h : xs[i]? = some a) : ((xs.take (i + 1)).filter keep).map val = ((xs.take i).filter keep).map val ++ (if keep a = true then [val a] else []) := by
  rw [List.take_add_one, h, List.filter_append, List.map_append]
  congr 1
  cases hk : keep a with
  | true => simp [hk]
  | false => simp [hk]
/-- [elt for tg in iter if ..] -/
theorem lc_go {α : Type} {enc : α → D} {xs : List α} {keep : α → Bool} {val : α → D} {elt : Expr} {ifs : List Expr} {wi : TI} {g : TG} {Ok : D → Prop} {Tt : D → Ev → Ev → Prop} {vs : List Nat} {G : Hp} {σ : L2.St} {H : Hp} {Q : VK}
    (hd : DW F ρ wi (xs.map enc)) (dg : DG F g Ok Tt vs) (hok : ∀ a ∈ xs, Ok (enc a)) (hsz : xs.length < sizeLine) (hvs : vs.all (plainAt ρ) = true)
    (hstep : ∀ X', Bk X scope X' → ∀ a ∈ xs, ∀ ρ2, Tt (enc a) (wipeE ρ vs) ρ2 → PBs X' F ρ2 ifs (keep a) ∧ (keep a = true → PD X' F ρ2 elt (val a))) (I : SI F ρ G σ H)
    (q : ∀ p G' H' acc, H p = none → SI F ρ G' σ H' → Stp F G H G' H' → H' p = some (.lst acc) → G' p = none → Apart F ρ σ p → RpA G' acc ((xs.filter keep).map val) → Q (.ref p) H') :
    tLc wi g (tB' X scope ifs) (eB X scope elt) vs σ H Q := by
  refine hd G σ H I _ fun J G1 H1 I1 s1 W p hp => ?_
  have A := I1.apart hp
  have g1p : G1 p = none := I1.sub.free hp
  have pl : ∀ i ∈ vs, plainAt ρ i = true := fun i hi => List.all_eq_true.mp hvs i hi
  have dl : (xs.map enc).length = xs.length := List.length_map _
  have n0 : Nx G1 H1 G1 (upd H1 p (.lst [])) := Nx.loose I1.sub hp
  refine ⟨fun i m H' => m = xs.length - i ∧ i ≤ xs.length ∧ ∃ G' acc, SI F ρ G' σ H' ∧ Stp F G1 H1 G' H' ∧ H' p = some (.lst acc) ∧ G' p = none ∧ RpA G' acc (((xs.take i).filter keep).map val),
    ⟨xs.length, by simp, Nat.zero_le _, G1, [], I1.nx n0, I1.stp n0, upd_same, g1p, .nil⟩, ?_⟩
  rintro i m H' ⟨rfl, hi, G', acc, I', s', hH, hG, ra⟩
  obtain ⟨w1, w2, w3⟩ := W G' H' s'.up I'.sub i
  by_cases hlt : i < xs.length
  · refine .inr ⟨w1 (by rw [dl]; exact hlt), fun H2 => ∃ G2 acc, SI F ρ G2 σ H2 ∧ Stp F G1 H1 G2 H2 ∧ H2 p = some (.lst acc) ∧ G2 p = none ∧ RpA G2 acc (((xs.take (i + 1)).filter keep).map val),
      fun H2 ⟨G2, acc2, a, b, c, d, e⟩ => ⟨xs.length - (i + 1), by omega, rfl, hlt, G2, acc2, a, b, c, d, e⟩, fun x H'' y => ?_⟩
    have ex : xs[i]? = some xs[i] := List.getElem?_eq_getElem hlt
    have ha : xs[i] ∈ xs := List.getElem_mem hlt
    obtain ⟨G'', n, rx⟩ := w3 x H'' (enc xs[i]) (by rw [List.getElem?_map, ex]; rfl) y
    refine dg _ x (wipeE ρ vs) G'' (L2.wipe σ vs) H'' (hok _ ha) rx ((I'.nx n).wipe vs) _ fun ρ2 σ2 t I2 hout hw => ?_
    have hw2 : L2.wipe σ2 vs = L2.wipe σ vs := hw.trans (wipe_twice σ vs)
    have hout2 : ∀ j, j ∉ vs → ρ2[j]? = ρ[j]? := fun j hj => (hout j hj).trans (wipeE_out ρ vs j hj)
    have h2p : H'' p = some (.lst acc) := n.same p _ hH
    have g2p : G'' p = none := by rw [n.old p _ hH]; exact hG
    have alen : acc.length < sizeLine := by
      rw [ra.len, List.length_map]
      exact Nat.lt_of_le_of_lt (List.length_filter_le _ _) (Nat.lt_of_le_of_lt (by rw [List.length_take]; exact Nat.min_le_right _ _) hsz)
    refine ⟨hw2, fun X' bk => (hstep X' bk _ ha ρ2 t).1 G'' σ2 H'' I2 _ fun G3 H3 I3 s3 => ?_⟩
    have h3p : H3 p = some (.lst acc) := s3.keep p _ h2p A.w
    have g3p : G3 p = none := by rw [s3.old p _ h2p A.w]; exact g2p
    cases hk : keep xs[i] with
    | true =>
      rw [if_pos rfl]
      intro X2 bk2
      refine (hstep X2 bk2 _ ha ρ2 t).2 hk G3 σ2 H3 I3 _ fun d v G4 H4 e I4 s4 r4 => ?_
      have h4p : H4 p = some (.lst acc) := s4.keep p _ h3p A.w
      have g4p : G4 p = none := by rw [s4.old p _ h3p A.w]; exact g3p
      have sn := (I'.stp n).trans (s3.trans s4)
      refine ⟨acc, h4p, alen, G4, acc ++ [v], (I'.back I4 vs sn.up pl hout2 hw2).touch A g4p _, (s'.trans sn).touch hp, upd_same, g4p, ?_⟩
      rw [take_step ex, if_pos hk]
      exact (ra.up sn.up).app (.one (e ▸ r4))
    | false =>
      rw [if_neg (by decide)]
      have sn := (I'.stp n).trans s3
      refine ⟨G3, acc, I'.back I3 vs sn.up pl hout2 hw2, s'.trans sn, h3p, g3p, ?_⟩
      rw [take_step ex, hk, if_neg (by decide), List.append_nil]
      exact ra.up sn.up
  · have e : i = xs.length := by omega
    subst e
    rw [List.take_length] at ra
    exact .inl ⟨w2 (Nat.le_of_eq dl), q p G' H' acc (s1.free hp A.w) I' (s1.trans s') hH hG A ra⟩
/-- the target of a block, a name -/
theorem bk_name (b : Bk X scope X') (B : Bd X K mg N sc k) (i : Nat) {x : Str} {pos : Pos} (hN : N[i]? = some x) (hl : (relS scope sc).names.lookup x = some .local) : PG X' (.Name x pos) (gName i) := by
  have B' := b.bd B
  exact pg_name (by rw [B'.hN]; exact B'.nd) (by rw [B'.hN]; exact hN) (.inl (by rw [B'.hsc]; exact hl)) (.inr (by rw [B'.hsc]; exact hl))
theorem bk_two (b : Bk X scope X') (B : Bd X K mg N sc k) (i j : Nat) {x y : Str} {pos p1 p2 : Pos} {n : Nat} (hi : N[i]? = some x) (hj : N[j]? = some y) (hx : (relS scope sc).names.lookup x = some .local) (hy : (relS scope sc).names.lookup y = some .local)
    (h1 : (assignEach [.Name x p1, .Name y p2] X'.env).length = 2 := by rfl) (h2 : (assignEach [.Name x p1, .Name y p2] X'.env).findIdx? (·.1) = none := by rfl)
    (h3 : (assignEach [.Name x p1, .Name y p2] X'.env).map (·.2) = assign (.Name x p1) X'.env :: (assignEach [.Name y p2] X'.env).map (·.2) := by rfl) (h4 : (assignEach [.Name y p2] X'.env).map (·.2) = assign (.Name y p2) X'.env :: (assignEach [] X'.env).map (·.2) := by rfl) :
    PG X' (.Tuple [.Name x p1, .Name y p2] n pos) (gTup X'.K 2 (gCons (gName i) (gCons (gName j) gNil))) :=
  pg_tup (b.bd B).calm (pgs_cons (bk_name b B i hi hx) (pgs_cons (bk_name b B j hj hy) pgs_nil h4) h3) h1 h2
section
variable {α : Type} {enc : α → D} {xs : List α} {keep : α → Bool} {val : α → D} {elt tg iter : Expr} {ifs : List Expr} {wi : TI} {g : TG} {Ok : D → Prop} {Tt : D → Ev → Ev → Prop} {own : List (Str × Nat)} {pos : Pos}
/-- a new list of the def's own -/
def PO (X : Cx) (F : Fx) (ρ : Ev) (e : Expr) (P : List D → Prop) : Prop :=
  ∀ G σ H, SI F ρ G σ H → ∀ Q : VK, (∀ ds p vs G' H', P ds → H p = none → SI F ρ G' σ H' → Stp F G H G' H' → H' p = some (.lst vs) → G' p = none → Apart F ρ σ p → RpA G' vs ds → Q (.ref p) H') → tE X e σ H Q
theorem PO.pn {e : Expr} {P : List D → Prop} (h : PO X F ρ e P) : PN X F ρ e fun d => ∃ ds, d = .list ds ∧ P ds := fun G σ H I Q q => h G σ H I Q fun ds p vs G' H' pd h0 I' s' hp gp A r => by
  obtain ⟨I2, u⟩ := I'.pers A gp hp
  refine q _ _ _ H' ⟨ds, rfl, pd⟩ I2 ⟨s'.keep, fun a o e z => ?_, s'.up.trans u⟩ (.lst upd_same (r.up u))
  rw [upd_ne (ne_of_none e h0)]
  exact s'.old a o e z
theorem PO.pd {e : Expr} {ds : List D} (h : PO X F ρ e fun x => x = ds) : PD X F ρ e (.list ds) := h.pn.imp fun d ⟨x, a, b⟩ => by rw [a, b]
theorem po_lc (B : Bd X K mg N sc k) (hi : PI X tg iter wi) (hd : DW F ρ wi (xs.map enc)) (ok : BlkOk N sc scope own) (hg : ∀ X', Bk X scope X' → PG X' tg g) (dg : DG F g Ok Tt (own.map (·.2))) (hok : ∀ a ∈ xs, Ok (enc a)) (hsz : xs.length < sizeLine)
    (hvs : (own.map (·.2)).all (plainAt ρ) = true)
    (hstep : ∀ X', Bk X scope X' → ∀ a ∈ xs, ∀ ρ2, Tt (enc a) (wipeE ρ (own.map (·.2))) ρ2 → PBs X' F ρ2 ifs (keep a) ∧ (keep a = true → PD X' F ρ2 elt (val a)))
    (hs : ∀ x, foldedSetIterable iter X.env x = pure x := by intro _; rfl) : PO X F ρ (.ListComp elt [⟨tg, iter, ifs, 0⟩] scope pos) fun x => x = (xs.filter keep).map val := fun G σ H I Q q =>
  tE_of (pe_lc (wi := wi) (g := g) (tt := tB' X scope ifs) (te := eB X scope elt) B.calm (by rw [B.hN]; exact B.nd) hi (by rw [B.hN, B.hsc]; exact ok) (fun s H C cl fp => hg _ ⟨s, H, C, cl, fp, rfl⟩)
      (fun s H C cl fp => ⟨fun pins s2 σ2 H2 Q2 I2 h => cTs.run pins s2 σ2 H2 Q2 I2 (h _ ⟨s, H, C, cl, fp, rfl⟩)⟩) (fun s H C cl fp => ⟨fun pins s2 σ2 H2 Q2 I2 h => h _ ⟨s, H, C, cl, fp, rfl⟩ pins s2 I2⟩) hs)
    (lc_go hd dg hok hsz hvs hstep I fun p G' H' acc h0 I' s' hp gp A r => q _ p acc G' H' rfl h0 I' s' hp gp A r)
/-- y = [..] on one line -/
theorem s_lc (B : Bd X K mg N sc k) (i : Nat) {y : Str} {py spos : Pos} {R : D → Ev → Prop} (hN : N[i]? = some y) (hy : sc.names.lookup y = some .local)
    (hsw : swapsWith (.ListComp elt [⟨tg, iter, ifs, 0⟩] scope pos) (some (.Name y py)) spos.line X.env = pure true)
    (hi : PI X tg iter wi) (hd : DW F ρ wi (xs.map enc)) (ok : BlkOk N sc scope own) (hg : ∀ X', Bk X scope X' → PG X' tg g) (dg : DG F g Ok Tt (own.map (·.2))) (hok : ∀ a ∈ xs, Ok (enc a)) (hsz : xs.length < sizeLine)
    (hvs : (own.map (·.2)).all (plainAt ρ) = true)
    (hstep : ∀ X', Bk X scope X' → ∀ a ∈ xs, ∀ ρ2, Tt (enc a) (wipeE ρ (own.map (·.2))) ρ2 → PBs X' F ρ2 ifs (keep a) ∧ (keep a = true → PD X' F ρ2 elt (val a)))
    (hs : ∀ x, foldedSetIterable iter X.env x = pure x := by intro _; rfl) :
    S1 X F ρ (.Assign [.Name y py] (.ListComp elt [⟨tg, iter, ifs, 0⟩] scope pos) spos) (fun ρ' => ρ' = ρ.set i (.dat (.list ((xs.filter keep).map val)))) R := fun G σ H I E n r => by
  refine tS_of (ps_setLc (i := i) (wi := wi) (g := g) (tt := tB' X scope ifs) (te := eB X scope elt) B.calm (by rw [B.hN]; exact B.nd) (by rw [B.hN]; exact hN) (by rw [B.hsc]; exact hy) hsw hi (by rw [B.hN, B.hsc]; exact ok) (fun s H C cl fp => hg _ ⟨s, H, C, cl, fp, rfl⟩)
      (fun s H C cl fp => ⟨fun pins s2 σ2 H2 Q2 I2 h => cTs.run pins s2 σ2 H2 Q2 I2 (h _ ⟨s, H, C, cl, fp, rfl⟩)⟩) (fun s H C cl fp => ⟨fun pins s2 σ2 H2 Q2 I2 h => h _ ⟨s, H, C, cl, fp, rfl⟩ pins s2 I2⟩) hs) ?_
  refine lc_go hd dg hok hsz hvs hstep I fun p G' H' acc h0 I' s' hp gp A ra => ?_
  obtain ⟨I2, u⟩ := I'.pers A gp hp
  exact n _ _ _ H' rfl (I2.setD (.lst upd_same (ra.up u))) (s'.up.trans u)
end

/-! ### lists of the def's own: made, lengthened -/
variable {R : D → Ev → Prop} {pos p1 p2 apos : Pos} {e : Expr}
theorem po_nil : PO X F ρ (.List [] pos) fun x => x = [] := fun G σ H I Q q => tE_of (pe_lst pa_nil) ⟨Nat.zero_le _, fun p hp => by
  have n := Nx.loose (o := .lst []) I.sub hp
  exact q [] p [] G _ rfl hp (I.nx n) (I.stp n) upd_same (I.sub.free hp) (I.apart hp) .nil⟩
/-- x = a new list -/
theorem s_own (B : Bd X K mg N sc k) (i : Nat) {x : Str} {P : List D → Prop} (h : PO X F ρ e P) (hN : N[i]? = some x) (hx : Loc sc x) (hf : ∀ y, X.fn y = true) (hs : swapsWith e (some (.Name x p1)) pos.line X.env = pure false := by rfl) :
    S1 X F ρ (.Assign [.Name x p1] e pos) (fun ρ' => ∃ ds, P ds ∧ ρ' = ρ.set i (.own ds)) R := fun G σ H I E n r =>
  tS_of (ps_set (i := i) (by rw [B.hN]; exact B.nd) (by rw [B.hN]; exact hN) (by rw [B.hsc]; exact hx) cE hs (.inl (hf x))) (h G σ H I _ fun ds p vs G' H' pd h0 I' s' hp gp A ra =>
    n _ G' _ H' ⟨ds, pd, rfl⟩ (I'.set (s := .own ds) ⟨p, vs, rfl, hp, gp, A.h, ra⟩) s'.up)
/-- only slot i holds a list of the def's own -/
def OneOwn (ρ : Ev) (i : Nat) : Prop := ∀ (j : Nat) (es : List D), j ≠ i → ρ[j]? ≠ some (.own es)
theorem SI.write (I : SI F ρ G σ H) {i : Nat} {ds es : List D} {p : Addr} {vs us : List V} (e : ρ[i]? = some (.own ds)) (hone : OneOwn ρ i) (h1 : σ[i]?.join = some (.ref p)) (hp : H p = some (.lst vs)) (r : RpA G us es) : SI F (ρ.set i (.own es)) G σ (upd H p (.lst us)) := by
  obtain ⟨a, ws, e1, e2, e3, e4, _⟩ := I.sl i _ e
  rw [h1] at e1
  cases e1
  have W : SI F (ρ.set i .un) G σ H := I.weak (by rw [List.length_set]) fun j s q => by
    by_cases z : i = j
    · subst z
      rw [List.getElem?_set_self (List.getElem?_eq_some_iff.mp e).1] at q
      exact .inl (Option.some.inj q).symm
    · rw [List.getElem?_set_ne z] at q
      exact .inr q
  have A : Apart F (ρ.set i .un) σ p := ⟨fun z => F.hw p z e4, e4, fun j fs q => by
    by_cases z : i = j
    · subst z
      rw [List.getElem?_set_self (List.getElem?_eq_some_iff.mp e).1] at q
      cases q
    · rw [List.getElem?_set_ne z] at q
      exact absurd q (hone j fs (Ne.symm z)), fun j ks q z => by
    by_cases y : i = j
    · subst y
      rw [List.getElem?_set_self (List.getElem?_eq_some_iff.mp e).1] at q
      cases q
    · rw [List.getElem?_set_ne y] at q
      obtain ⟨b, f1, f2, _⟩ := I.sl j _ q
      rw [z] at f1
      cases f1
      rw [e2] at f2
      cases f2⟩
  have T := W.touch A e3 (.lst us)
  have hi : i < ρ.length := (List.getElem?_eq_some_iff.mp e).1
  have hs : σ.set i (some (.ref p)) = σ := by
    have q := some_join h1
    obtain ⟨hl, e5⟩ := List.getElem?_eq_some_iff.mp q
    rw [← e5]
    exact List.set_getElem_self hl
  have S := T.set (i := i) (s := .own es) (v := .ref p) ⟨p, us, rfl, upd_same, e3, e4, r⟩
  rw [List.set_set, hs] at S
  exact S
/-- x.append(e) -/
theorem s_app (B : Bd X K mg N sc k) (i : Nat) {x : Str} {ds : List D} {P : D → Prop} (hd : ρ[i]? = some (.own ds)) (hone : OneOwn ρ i) (hN : N[i]? = some x) (hx : Vis sc x) (h : PN X F ρ e P) (hsz : ds.length < sizeLine)
    (hn : (x == ("__debug__" : Str)) = false := by decide) (hcd : (x == ("__classdict__" : Str)) = false := by decide)
    (hb : attributeBase (.Name x p1) "append" X.env (eval (.Name x p1) X.env) = eval (.Name x p1) X.env := by rfl)
    (hfew : ((backTo p2 (starEach [e] X.env)).all (fun x => !x.1) && (backToKw p2 (keywordEach [] X.env)).all (fun x => x.1.isSome)
      && decide ([e].length + ([] : List Keyword).length + (if ([] : List Keyword).isEmpty then 0 else 1) < 30)) = true := by rfl)
    (hl : (apos.endLine == p2.line) = true := by rfl) (hst : starEach [e] X.env = (false, eval e X.env) :: starEach [] X.env := by rfl) (hpl : (backTo p2 (starEach [] X.env)).any (·.1) = false := by rfl)
    (hs : swapsWith (.Call (.Attribute (.Name x p1) "append" apos) [e] [] p2) none pos.line X.env = pure false := by rfl) :
    S1 X F ρ (.Expr (.Call (.Attribute (.Name x p1) "append" apos) [e] [] p2) pos) (fun ρ' => ∃ d, P d ∧ ρ' = ρ.set i (.own (ds ++ [d]))) R := fun G σ H I E n r => by
  obtain ⟨p, vs, h1, h2, h3, h4, h5⟩ := I.sl i _ hd
  refine tS_of (ps_expr (pe_bm PySem.F.plainAttrs_list PySem.F.slot_list_append PySem.F.type_list_append mt_append (pe_var (i := i) (by rw [B.hN]; exact hN) (by rw [B.hsc]; exact hx) hn hcd) (pa_cons cE pa_nil hst) hb hfew hl hst hpl) hs) ?_
  refine ⟨.ref p, some_join h1, .inl ⟨rfl, vs, SqL.of h2⟩, h G σ H I _ fun d v G' H' pd I' s' rv => ?_⟩
  have nw : F.w ≠ some p := fun z => F.hw p z h4
  have h2' := s'.keep p _ h2 nw
  exact ⟨p, vs, v, rfl, rfl, h2', by rw [h5.len]; exact hsz, n _ G' σ _ ⟨d, pd, rfl⟩ (I'.write hd hone h1 h2' ((h5.up s'.up).app (.one rv))) s'.up⟩
/-- x.extend(e) -/
theorem s_ext (B : Bd X K mg N sc k) (i : Nat) {x : Str} {ds : List D} {P : List D → Prop} (hd : ρ[i]? = some (.own ds)) (hone : OneOwn ρ i) (hN : N[i]? = some x) (hx : Vis sc x) (h : PN X F ρ e fun d => ∃ es, d = .list es ∧ P es) (hsz : ∀ es, P es → ds.length + es.length ≤ sizeLine)
    (hn : (x == ("__debug__" : Str)) = false := by decide) (hcd : (x == ("__classdict__" : Str)) = false := by decide)
    (hb : attributeBase (.Name x p1) "extend" X.env (eval (.Name x p1) X.env) = eval (.Name x p1) X.env := by rfl)
    (hfew : ((backTo p2 (starEach [e] X.env)).all (fun x => !x.1) && (backToKw p2 (keywordEach [] X.env)).all (fun x => x.1.isSome)
      && decide ([e].length + ([] : List Keyword).length + (if ([] : List Keyword).isEmpty then 0 else 1) < 30)) = true := by rfl)
    (hl : (apos.endLine == p2.line) = true := by rfl) (hst : starEach [e] X.env = (false, eval e X.env) :: starEach [] X.env := by rfl) (hpl : (backTo p2 (starEach [] X.env)).any (·.1) = false := by rfl)
    (hs : swapsWith (.Call (.Attribute (.Name x p1) "extend" apos) [e] [] p2) none pos.line X.env = pure false := by rfl) :
    S1 X F ρ (.Expr (.Call (.Attribute (.Name x p1) "extend" apos) [e] [] p2) pos) (fun ρ' => ∃ es, P es ∧ ρ' = ρ.set i (.own (ds ++ es))) R := fun G σ H I E n r => by
  obtain ⟨p, vs, h1, h2, h3, h4, h5⟩ := I.sl i _ hd
  refine tS_of (ps_expr (pe_bm PySem.F.plainAttrs_list PySem.F.slot_list_extend PySem.F.type_list_extend mt_extend (pe_var (i := i) (by rw [B.hN]; exact hN) (by rw [B.hsc]; exact hx) hn hcd) (pa_cons cE pa_nil hst) hb hfew hl hst hpl) hs) ?_
  refine ⟨.ref p, some_join h1, .inl ⟨rfl, vs, SqL.of h2⟩, h G σ H I _ fun d v G' H' ⟨es, ed, pd⟩ I' s' rv => ?_⟩
  subst ed
  obtain ⟨b, us, rfl, k1, k2⟩ := rv.listI
  have nw : F.w ≠ some p := fun z => F.hw p z h4
  have h2' := s'.keep p _ h2 nw
  exact ⟨p, b, vs, us, rfl, rfl, h2', I'.sub b _ k1, by rw [h5.len, k2.len]; exact hsz es pd, n _ G' σ _ ⟨es, pd, rfl⟩ (I'.write hd hone h1 h2' ((h5.up s'.up).app k2)) s'.up⟩
end
end Pd
/-! Pd5: operators and built-in functions on data. -/
namespace Pd
open PySem PySem.Spec PyProof.Rows L2
section
variable {X : Cx} {F : Fx} {ρ : Ev} {G H : Hp} {σ : L2.St} {P : Program} {w : World} {base : Heap} {K : PySem.W.Frag} {mg : Str → Option Value} {N : List Str} {sc scope : Scope} {k : Nat}
variable {a b c e : Expr} {es : List Expr} {pos p : Pos} {x y z d : D} {i j : Int} {ds xs ys : List D} {Pr : D → Prop}
theorem d2_I {g : Int → Int → V} {f : Int → Int → D} {C : Int → Int → Prop} (hc : C i j) (h : ∀ (G : Hp) i j, Rp G (g i j) (f i j)) : D2 (rI C g) (.int i) (.int j) (fun d => d = f i j) := fun G H v u Q s r1 r2 q =>
  ⟨i, j, r1.intI, r2.intI, hc, q _ _ G H rfl (Nx.refl s) (h G i j)⟩
theorem d2_I0 {g : Int → Int → V} {f : Int → Int → D} (h : ∀ (G : Hp) i j, Rp G (g i j) (f i j)) : D2 (rI0 g) (.int i) (.int j) (fun d => d = f i j) := fun G H v u Q s r1 r2 q =>
  ⟨i, j, r1.intI, r2.intI, q _ _ G H rfl (Nx.refl s) (h G i j)⟩
theorem pd_add (ha : PD X F ρ a (.int i)) (hb : PD X F ρ b (.int j)) : PD X F ρ (.BinOp a .Add b pos) (.int (i + j)) := pd_op op_add ha hb (d2_I0 (f := fun i j => .int (i + j)) fun _ _ _ => .int _)
theorem pd_sub (ha : PD X F ρ a (.int i)) (hb : PD X F ρ b (.int j)) : PD X F ρ (.BinOp a .Sub b pos) (.int (i - j)) := pd_op op_sub ha hb (d2_I0 (f := fun i j => .int (i - j)) fun _ _ _ => .int _)
theorem pd_mul (ha : PD X F ρ a (.int i)) (hb : PD X F ρ b (.int j)) (hc : CMul i j) : PD X F ρ (.BinOp a .Mult b pos) (.int (i * j)) := pd_op op_mul ha hb (d2_I (f := fun i j => .int (i * j)) hc fun _ _ _ => .int _)
/-- comparisons of ints, as values and as tests -/
theorem pd_lt (ha : PD X F ρ a (.int i)) (hb : PD X F ρ b (.int j)) : PD X F ρ (.Compare a [.Lt] [b] pos) (.bool (decide (i < j))) := pd_cmp op_lt ha hb (d2_I0 (f := fun i j => .bool (decide (i < j))) fun _ _ _ => .bl _) (nomark _)
theorem pd_le (ha : PD X F ρ a (.int i)) (hb : PD X F ρ b (.int j)) : PD X F ρ (.Compare a [.LtE] [b] pos) (.bool (decide (i ≤ j))) := pd_cmp op_le ha hb (d2_I0 (f := fun i j => .bool (decide (i ≤ j))) fun _ _ _ => .bl _) (nomark _)
theorem pd_gt (ha : PD X F ρ a (.int i)) (hb : PD X F ρ b (.int j)) : PD X F ρ (.Compare a [.Gt] [b] pos) (.bool (decide (i > j))) := pd_cmp op_gt ha hb (d2_I0 (f := fun i j => .bool (decide (i > j))) fun _ _ _ => .bl _) (nomark _)
theorem pd_ge (ha : PD X F ρ a (.int i)) (hb : PD X F ρ b (.int j)) : PD X F ρ (.Compare a [.GtE] [b] pos) (.bool (decide (i ≥ j))) := pd_cmp op_ge ha hb (d2_I0 (f := fun i j => .bool (decide (i ≥ j))) fun _ _ _ => .bl _) (nomark _)
/-- the test of a value that is known to be a bool -/
theorem pb_of {v : Bool} (h : PD X F ρ e (.bool v)) (he : ∀ whole, isTrue e X.env whole = (do let v ← whole; standAt e.pos; holding [v] (truthy v)) := by intro _; rfl) : PB X F ρ e fun q => q = v := pb_val (h.imp fun d e => ⟨v, e, rfl⟩) he
/-- one comparison as a test -/
theorem pb_cmp1 {op : CmpOp} {r : R2} {v : Bool} (ho : OpR X (compareOp op) r) (ha : PD X F ρ a x) (hb : PD X F ρ b y) (h : D2 r x y fun d => d = .bool v) (hm : behindInMarks op b = false := by first | exact nomark _ | rfl) : PB X F ρ (.Compare a [op] [b] pos) fun q => q = v :=
  pb_cmp ho ha hb (fun _ _ e1 e2 => by
    rw [e1, e2]
    exact fun G H u t Q s r1 r2 q => h G H u t Q s r1 r2 fun d z G' H' pd => q d z G' H' ⟨v, pd, rfl⟩) hm
theorem d2_lt : D2 (rI0 fun i j => .bl (decide (i < j))) (.int i) (.int j) fun d => d = .bool (decide (i < j)) := d2_I0 (f := fun i j => .bool (decide (i < j))) fun _ _ _ => .bl _
theorem d2_le : D2 (rI0 fun i j => .bl (decide (i ≤ j))) (.int i) (.int j) fun d => d = .bool (decide (i ≤ j)) := d2_I0 (f := fun i j => .bool (decide (i ≤ j))) fun _ _ _ => .bl _
theorem d2_gt : D2 (rI0 fun i j => .bl (decide (i > j))) (.int i) (.int j) fun d => d = .bool (decide (i > j)) := d2_I0 (f := fun i j => .bool (decide (i > j))) fun _ _ _ => .bl _
theorem d2_ge : D2 (rI0 fun i j => .bl (decide (i ≥ j))) (.int i) (.int j) fun d => d = .bool (decide (i ≥ j)) := d2_I0 (f := fun i j => .bool (decide (i ≥ j))) fun _ _ _ => .bl _
/-! == and != of data -/
theorem Bd.u64 (B : Bd X K mg N sc k) : X.A.units + 64 < cLine := B.room.units
theorem Bd.u65 (B : Bd X K mg N sc k) : X.A.units + 65 < cLine := by have := B.room.un; omega
theorem d2_eq (hx : SeqAt.shaped x = true) (hy : SeqAt.shaped y = true) : D2 (rEqD K) x y fun d => d = .bool (PyData.eqv x y) := fun G H v u Q s r1 r2 q =>
  ⟨x, y, (r1.up s).dp, (r2.up s).dp, hx, hy, q _ _ G H rfl (Nx.refl s) (.bl _)⟩
theorem d2_ne (hx : SeqAt.shaped x = true) (hy : SeqAt.shaped y = true) : D2 (rNeD K) x y fun d => d = .bool (!PyData.eqv x y) := fun G H v u Q s r1 r2 q =>
  ⟨x, y, (r1.up s).dp, (r2.up s).dp, hx, hy, q _ _ G H rfl (Nx.refl s) (.bl _)⟩
theorem pd_eq (B : Bd X K mg N sc k) (ha : PD X F ρ a x) (hb : PD X F ρ b y) (hx : SeqAt.shaped x = true) (hy : SeqAt.shaped y = true) : PD X F ρ (.Compare a [.Eq] [b] pos) (.bool (PyData.eqv x y)) := pd_cmp (op_eqD B.u64) ha hb (d2_eq hx hy) (nomark _)
theorem pd_ne (B : Bd X K mg N sc k) (ha : PD X F ρ a x) (hb : PD X F ρ b y) (hx : SeqAt.shaped x = true) (hy : SeqAt.shaped y = true) : PD X F ρ (.Compare a [.NotEq] [b] pos) (.bool (!PyData.eqv x y)) := pd_cmp (op_neD B.u64) ha hb (d2_ne hx hy) (nomark _)
theorem pb_eq (B : Bd X K mg N sc k) (ha : PD X F ρ a x) (hb : PD X F ρ b y) (hx : SeqAt.shaped x = true) (hy : SeqAt.shaped y = true) : PB X F ρ (.Compare a [.Eq] [b] pos) fun q => q = PyData.eqv x y := pb_cmp1 (op_eqD B.u64) ha hb (d2_eq hx hy) (nomark _)
theorem pb_ne (B : Bd X K mg N sc k) (ha : PD X F ρ a x) (hb : PD X F ρ b y) (hx : SeqAt.shaped x = true) (hy : SeqAt.shaped y = true) : PB X F ρ (.Compare a [.NotEq] [b] pos) fun q => q = !PyData.eqv x y := pb_cmp1 (op_neD B.u64) ha hb (d2_ne hx hy) (nomark _)
/-! in -/
def rInT (K : PySem.W.Frag) : R2 := fun x y H Q => ∃ d ds, Dp K H x d ∧ Dp K H y (.tuple ds) ∧ SeqAt.shaped d = true ∧ SeqAt.shaped (.tuple ds) = true ∧ Q (.bl (ds.any fun z => PyData.eqv z d)) H
theorem op_inT (hu : X.A.units + 65 < cLine) : OpR X (compareOp .In) (rInT X.K) := by
  intro pins s σ H x y v u Q I rx ry ⟨d, ds, hd, he, sd, se, q⟩
  obtain ⟨as, r1⟩ := Dp.reads I d x v hd rx
  obtain ⟨bs, r2⟩ := Dp.reads I (.tuple ds) y u he ry
  exact SeqAt.in_tuple_reads r2 r1 (SeqAt.canLay_of_shaped se) (SeqAt.canLay_of_shaped sd) (room_in_shaped sd hu) ⟨.bl _, H, I, rfl, q⟩
def rNInT (K : PySem.W.Frag) : R2 := fun x y H Q => ∃ d ds, Dp K H x d ∧ Dp K H y (.tuple ds) ∧ SeqAt.shaped d = true ∧ SeqAt.shaped (.tuple ds) = true ∧ Q (.bl (!ds.any fun z => PyData.eqv z d)) H
theorem op_ninT (hu : X.A.units + 65 < cLine) : OpR X (compareOp .NotIn) (rNInT X.K) := by
  intro pins s σ H x y v u Q I rx ry ⟨d, ds, hd, he, sd, se, q⟩
  obtain ⟨as, r1⟩ := Dp.reads I d x v hd rx
  obtain ⟨bs, r2⟩ := Dp.reads I (.tuple ds) y u he ry
  exact SeqAt.notIn_tuple_reads r2 r1 (SeqAt.canLay_of_shaped se) (SeqAt.canLay_of_shaped sd) (room_in_shaped sd hu) ⟨.bl _, H, I, rfl, q⟩
theorem d2_inT (hx : SeqAt.shaped x = true) (hy : SeqAt.shaped (.tuple ds) = true) : D2 (rInT K) x (.tuple ds) fun d => d = .bool (ds.any fun z => PyData.eqv z x) := fun G H v u Q s r1 r2 q =>
  ⟨x, ds, (r1.up s).dp, (r2.up s).dp, hx, hy, q _ _ G H rfl (Nx.refl s) (.bl _)⟩
theorem d2_ninT (hx : SeqAt.shaped x = true) (hy : SeqAt.shaped (.tuple ds) = true) : D2 (rNInT K) x (.tuple ds) fun d => d = .bool (!ds.any fun z => PyData.eqv z x) := fun G H v u Q s r1 r2 q =>
  ⟨x, ds, (r1.up s).dp, (r2.up s).dp, hx, hy, q _ _ G H rfl (Nx.refl s) (.bl _)⟩
theorem d2_inL (hx : SeqAt.shaped x = true) (hy : SeqAt.shaped (.list ds) = true) : D2 (rInD K) x (.list ds) fun d => d = .bool (ds.any fun z => PyData.eqv z x) := fun G H v u Q s r1 r2 q =>
  ⟨x, ds, (r1.up s).dp, (r2.up s).dp, hx, hy, q _ _ G H rfl (Nx.refl s) (.bl _)⟩
theorem d2_ninL (hx : SeqAt.shaped x = true) (hy : SeqAt.shaped (.list ds) = true) : D2 (rNotInD K) x (.list ds) fun d => d = .bool (!ds.any fun z => PyData.eqv z x) := fun G H v u Q s r1 r2 q =>
  ⟨x, ds, (r1.up s).dp, (r2.up s).dp, hx, hy, q _ _ G H rfl (Nx.refl s) (.bl _)⟩
/-! is None, is of bools -/
def isNoneD : D → Bool
  | .none => true
  | _ => false
theorem none_dec {G : Hp} {v : V} (r : Rp G v x) : decide (v = .non) = isNoneD x := by cases r <;> first | rfl | (exact decide_eq_false (by intro h; cases h))
theorem pd_isN (ha : PD X F ρ a x) (hb : PD X F ρ b .none) : PD X F ρ (.Compare a [.Is] [b] pos) (.bool (isNoneD x)) := pd_cmp op_isN ha hb (fun G H v u Q s r1 r2 q => ⟨r2.noneI, q _ _ G H rfl (Nx.refl s) (by rw [none_dec r1]; exact .bl _)⟩) (nomark _)
theorem pb_isN (ha : PD X F ρ a x) (hb : PD X F ρ b .none) : PB X F ρ (.Compare a [.Is] [b] pos) fun q => q = isNoneD x := pb_cmp1 op_isN ha hb (fun G H v u Q s r1 r2 q => ⟨r2.noneI, q _ _ G H rfl (Nx.refl s) (by rw [none_dec r1]; exact .bl _)⟩) (nomark _)
theorem pb_notN (ha : PD X F ρ a x) (hb : PD X F ρ b .none) : PB X F ρ (.Compare a [.IsNot] [b] pos) fun q => q = !isNoneD x := pb_cmp1 op_notN ha hb (fun G H v u Q s r1 r2 q => ⟨r2.noneI, q _ _ G H rfl (Nx.refl s) (by rw [none_dec r1]; exact .bl _)⟩) (nomark _)
theorem pb_isBl {u v : Bool} (ha : PD X F ρ a (.bool u)) (hb : PD X F ρ b (.bool v)) : PB X F ρ (.Compare a [.Is] [b] pos) fun q => q = decide (u = v) := pb_cmp1 op_isBl ha hb (fun G H s t Q h r1 r2 q => ⟨u, v, r1.boolI, r2.boolI, q _ _ G H rfl (Nx.refl h) (.bl _)⟩) (nomark _)
theorem pb_notBl {u v : Bool} (ha : PD X F ρ a (.bool u)) (hb : PD X F ρ b (.bool v)) : PB X F ρ (.Compare a [.IsNot] [b] pos) fun q => q = !decide (u = v) := pb_cmp1 op_notBl ha hb (fun G H s t Q h r1 r2 q => ⟨u, v, r1.boolI, r2.boolI, q _ _ G H rfl (Nx.refl h) (.bl _)⟩) (nomark _)
/-! items -/
theorem at_rp {vs : List V} {n : Nat} {i : Int} {d : D} (r : RpA G vs ds) (h : atI ds i = some d) : ∃ v, atI vs i = some v ∧ Rp G v d := by
  unfold atI at h ⊢
  rw [r.len]
  cases q : ixN ds.length i with
  | none => rw [q] at h; cases h
  | some m =>
    rw [q] at h
    exact r.get h
theorem d2_ixT (h : atI ds i = some d) : D2 (rIxT K) (.tuple ds) (.int i) fun q => q = d := fun G H v u Q s r1 r2 q => by
  obtain ⟨l, vs, rfl, h1, h2⟩ := r1.tupI
  obtain ⟨v', e, rv⟩ := at_rp (n := 0) h2 h
  exact ⟨l, vs, i, v', rfl, r2.intI, SqT.of (s _ _ h1), e, q _ _ G H rfl (Nx.refl s) rv⟩
theorem d2_ixL (h : atI ds i = some d) : D2 (rIxL K) (.list ds) (.int i) fun q => q = d := fun G H v u Q s r1 r2 q => by
  obtain ⟨l, vs, rfl, h1, h2⟩ := r1.listI
  obtain ⟨v', e, rv⟩ := at_rp (n := 0) h2 h
  exact ⟨l, vs, i, v', rfl, r2.intI, SqL.of (s _ _ h1), e, q _ _ G H rfl (Nx.refl s) rv⟩
/-- t[n], n written -/
theorem pd_ixT {n : Nat} {j1 : Nat} {p1 : Pos} (ha : PD X F ρ a (.tuple ds)) (h : ds[n]? = some d) (hs : PlainIx (.Constant (.int (n : Int)) j1 p1) := by exact fun _ _ => rfl) : PD X F ρ (.Subscript a (.Constant (.int (n : Int)) j1 p1) pos) d :=
  pn_ix ix_tup ha pn_int hs fun _ _ e1 e2 => by rw [e1, e2]; exact d2_ixT (atI_nat h)
theorem pd_ixL {n : Nat} {j1 : Nat} {p1 : Pos} (ha : PD X F ρ a (.list ds)) (h : ds[n]? = some d) (hs : PlainIx (.Constant (.int (n : Int)) j1 p1) := by exact fun _ _ => rfl) : PD X F ρ (.Subscript a (.Constant (.int (n : Int)) j1 p1) pos) d :=
  pn_ix ix_list ha pn_int hs fun _ _ e1 e2 => by rw [e1, e2]; exact d2_ixL (atI_nat h)
/-! + * of lists and tuples -/
theorem pd_cat (ha : PD X F ρ a (.list xs)) (hb : PD X F ρ b (.list ys)) (hsz : xs.length + ys.length ≤ sizeLine) : PD X F ρ (.BinOp a .Add b pos) (.list (xs ++ ys)) := pd_op op_cat ha hb fun G H v u Q s r1 r2 q => by
  obtain ⟨l, vs, rfl, h1, h2⟩ := r1.listI
  obtain ⟨m, us, rfl, k1, k2⟩ := r2.listI
  refine ⟨l, m, vs, us, rfl, rfl, s _ _ h1, s _ _ k1, by rw [h2.len, k2.len]; exact hsz, fun p hp => ?_⟩
  have n := Nx.new (o := .lst (vs ++ us)) s hp
  exact q _ _ _ _ rfl n (.lst upd_same ((h2.app k2).up (n.up s)))
theorem pd_catT (ha : PD X F ρ a (.tuple xs)) (hb : PD X F ρ b (.tuple ys)) (hsz : xs.length + ys.length ≤ sizeLine) : PD X F ρ (.BinOp a .Add b pos) (.tuple (xs ++ ys)) := pd_op op_catA ha hb fun G H v u Q s r1 r2 q => by
  obtain ⟨l, vs, rfl, h1, h2⟩ := r1.tupI
  obtain ⟨m, us, rfl, k1, k2⟩ := r2.tupI
  refine ⟨l, m, vs, us, rfl, rfl, SqT.of (s _ _ h1), SqT.of (s _ _ k1), by rw [h2.len, k2.len]; exact hsz, fun e => ?_, fun _ e => ?_, fun _ _ p hp => ?_⟩
  · subst e
    cases h2
    exact q _ _ G H rfl (Nx.refl s) (.tup k1 k2)
  · subst e
    cases k2
    rw [List.append_nil] at q
    exact q _ _ G H rfl (Nx.refl s) (.tup h1 h2)
  · have n := Nx.new (o := .tup (vs ++ us)) s hp
    exact q _ _ _ _ rfl n (.tup upd_same ((h2.app k2).up (n.up s)))
/-- [x] * n -/
theorem pd_rep {n : Nat} (ha : PD X F ρ a (.list xs)) (hb : PD X F ρ b (.int n)) (hn : n < 2 ^ 60) (hsz : xs.length * n ≤ sizeLine) : PD X F ρ (.BinOp a .Mult b pos) (.list (List.replicate n xs).flatten) := pd_op op_rep ha hb fun G H v u Q s r1 r2 q => by
  obtain ⟨l, vs, rfl, h1, h2⟩ := r1.listI
  refine ⟨l, (n : Int), vs, rfl, r2.intI, s _ _ h1, by omega, by omega, by rw [h2.len, Int.toNat_natCast]; exact hsz, fun p hp => ?_⟩
  have m := Nx.new (o := .lst (List.replicate (n : Int).toNat vs).flatten) s hp
  refine q _ _ _ _ rfl m (.lst upd_same ?_)
  rw [Int.toNat_natCast]
  have g : ∀ n : Nat, RpA G (List.replicate n vs).flatten (List.replicate n xs).flatten := by
    intro n
    induction n with
    | zero => exact .nil
    | succ n ih =>
      rw [List.replicate_succ, List.replicate_succ, List.flatten_cons, List.flatten_cons]
      exact h2.app ih
  exact (g n).up (m.up s)
/-! slices -/
theorem RpA.cut {vs : List V} (r : RpA G vs ds) (lo hi : Option Int) : ∃ es, RpA G (cutV vs lo hi) es ∧ es = (ds.drop (HT.sIx ds.length 0 lo)).take (HT.sIx ds.length ds.length hi - HT.sIx ds.length 0 lo) := by
  refine ⟨_, ?_, rfl⟩
  unfold cutV
  rw [r.len]
  exact (r.drop _).take _
/-- xs[n:], n written -/
theorem pd_cutL {n : Nat} {p2 p3 : Pos} {j1 : Nat} (ha : PD X F ρ a (.list ds)) : PD X F ρ (.Subscript a (.Slice (some (.Constant (.int (n : Int)) j1 p3)) none none p2) pos) (.list (ds.drop n)) := fun G σ H I Q q =>
  tE_of (pe_slice sl_list cE (po_some pe_int) po_none) (ha G σ H I _ fun d v G1 H1 e I1 s1 r1 => by
    subst e
    obtain ⟨l, vs, rfl, h1, h2⟩ := r1.listI
    refine ⟨(n : Int), rfl, l, vs, rfl, SqL.of (I1.sub _ _ h1), fun p hp => ?_⟩
    have m := Nx.new (o := .lst (cutV vs (some (n : Int)) none)) I1.sub hp
    obtain ⟨es, e1, e2⟩ := h2.cut (some (n : Int)) none
    have e3 : es = ds.drop n := by
      rw [e2, HT.sIx_nat, HT.sIx_none]
      by_cases hn : n ≤ ds.length
      · rw [Nat.min_eq_left hn, List.take_of_length_le (by rw [List.length_drop]; omega)]
      · rw [Nat.min_eq_right (by omega), List.drop_length, List.take_nil, List.drop_eq_nil_of_le (by omega)]
    exact q _ _ _ _ rfl (I1.nx m) (s1.trans (I1.stp m)) (.lst upd_same (e3 ▸ e1.up (I1.up m))))
/-- t[n:], n written, 0 < n -/
theorem pd_cutT {n : Nat} {p2 p3 : Pos} {j1 : Nat} (ha : PD X F ρ a (.tuple ds)) (hn : 0 < n) (hl : n ≤ ds.length) : PD X F ρ (.Subscript a (.Slice (some (.Constant (.int (n : Int)) j1 p3)) none none p2) pos) (.tuple (ds.drop n)) := fun G σ H I Q q =>
  tE_of (pe_slice sl_tupA cE (po_some pe_int) po_none) (ha G σ H I _ fun d v G1 H1 e I1 s1 r1 => by
    subst e
    obtain ⟨l, vs, rfl, h1, h2⟩ := r1.tupI
    refine ⟨(n : Int), rfl, l, vs, rfl, SqT.of (I1.sub _ _ h1), fun z => ?_, fun _ p hp => ?_⟩
    · have z1 := z.1
      rw [HT.sIx_nat, h2.len, Nat.min_eq_left hl] at z1
      omega
    have m := Nx.new (o := .tup (cutV vs (some (n : Int)) none)) I1.sub hp
    obtain ⟨es, e1, e2⟩ := h2.cut (some (n : Int)) none
    have e3 : es = ds.drop n := by rw [e2, HT.sIx_nat, HT.sIx_none, Nat.min_eq_left hl, List.take_of_length_le (by rw [List.length_drop]; omega)]
    exact q _ _ _ _ rfl (I1.nx m) (s1.trans (I1.stp m)) (.tup upd_same (e3 ▸ e1.up (I1.up m))))
/-- t[:n], n written, n below the length -/
theorem pd_cutTo {n : Nat} {p2 p3 : Pos} {j1 : Nat} (ha : PD X F ρ a (.tuple ds)) (hl : n < ds.length) : PD X F ρ (.Subscript a (.Slice none (some (.Constant (.int (n : Int)) j1 p3)) none p2) pos) (.tuple (ds.take n)) := fun G σ H I Q q =>
  tE_of (pe_slice sl_tupA cE po_none (po_some pe_int)) (ha G σ H I _ fun d v G1 H1 e I1 s1 r1 => by
    subst e
    obtain ⟨l, vs, rfl, h1, h2⟩ := r1.tupI
    refine ⟨(n : Int), rfl, l, vs, rfl, SqT.of (I1.sub _ _ h1), fun z => ?_, fun _ p hp => ?_⟩
    · have z1 := z.2
      rw [HT.sIx_nat, h2.len, Nat.min_eq_left (by omega)] at z1
      omega
    have m := Nx.new (o := .tup (cutV vs none (some (n : Int)))) I1.sub hp
    obtain ⟨es, e1, e2⟩ := h2.cut none (some (n : Int))
    have e3 : es = ds.take n := by rw [e2, HT.sIx_nat, HT.sIx_none, Nat.min_eq_left (by omega), List.drop_zero, Nat.sub_zero]
    exact q _ _ _ _ rfl (I1.nx m) (s1.trans (I1.stp m)) (.tup upd_same (e3 ▸ e1.up (I1.up m))))
/-! ### built-in functions -/
/-- no name of these is the module's own -/
structure Bt (mg : Str → Option Value) : Prop where
  len : mg "len" = none
  isi : mg "isinstance" = none
  all : mg "all" = none
  sum : mg "sum" = none
  min : mg "min" = none
  tuple : mg "tuple" = none
  list : mg "list" = none
  int : mg "int" = none
  bool : mg "bool" = none
  str : mg "str" = none
  sorted : mg "sorted" = none
  repr : mg "repr" = none
  range : mg "range" = none
  zip : mg "zip" = none
  enum : mg "enumerate" = none
variable {hs1 : starEach (e :: es) X.env = (false, eval e X.env) :: starEach es X.env}
theorem pds_one (ha : PD X F ρ e x) (hs : starEach [e] X.env = (false, eval e X.env) :: starEach [] X.env := by rfl) : PDs X F ρ [e] [x] := pds_cons ha pns_nil hs
theorem pd_len (B : Bd X K mg N sc k) (T : Bt mg) (hg : sc.names.lookup ("len" : Str) = some .globalImplicit) {d : D} {n : Nat} (ha : PD X F ρ e d) (hd : d = .list ds ∨ d = .tuple ds) (hn : ds.length = n) (hs : starEach [e] X.env = (false, eval e X.env) :: starEach [] X.env := by rfl)
    (hpl : (backTo pos (starEach [] X.env)).any (·.1) = false := by rfl) : PD X F ρ (.Call (.Name "len" p) [e] [] pos) (.int n) :=
  pn_blt B call_len_seq hg T.len PySem.boot_len (pds_one ha hs) (fun zs ez G H vs Q s r q => by
    subst ez
    cases r with
    | cons r rr =>
      cases rr
      rcases hd with rfl | rfl
      · obtain ⟨l, us, rfl, h1, h2⟩ := r.listI
        exact ⟨l, us, rfl, .inl (SqL.of (s _ _ h1)), q _ _ G H rfl (Nx.refl s) (by rw [h2.len, hn]; exact .int _)⟩
      · obtain ⟨l, us, rfl, h1, h2⟩ := r.tupI
        exact ⟨l, us, rfl, .inr (SqT.of (s _ _ h1)), q _ _ G H rfl (Nx.refl s) (by rw [h2.len, hn]; exact .int _)⟩) (by decide) (by decide) hs hpl
/-- the name of a datum's class -/
def tyD : D → String
  | .none => "NoneType"
  | .bool _ => "bool"
  | .int _ => "int"
  | .str _ => "str"
  | .list _ => "list"
  | .tuple _ => "tuple"
  | .dict _ => "dict"
theorem tyX {v : V} (s : Same G H) (r : Rp G v x) : TyX K H v (.type (tyD x)) := by
  cases r with
  | non => exact .base .non
  | bl b => exact .base (.bl b)
  | int i => exact .base (.int i)
  | str i => exact .base (.str i)
  | lst h1 _ => exact .base (.lst (s _ _ h1))
  | tup h1 _ => exact .base (.tup (s _ _ h1))
theorem pd_isi (B : Bd X K mg N sc k) (T : Bt mg) {t : String} {x' : Str} {tt : Bool} {p' : Pos} (ht : kitB (tyD x) t = some tt) (hg : sc.names.lookup ("isinstance" : Str) = some .globalImplicit) (hg2 : sc.names.lookup x' = some .globalImplicit) (hm : mg x' = none) (hv : bootBuiltins x' = some (.type t))
    (ha : PD X F ρ e x) (hn' : x' ≠ "__name__" := by decide) (hd' : (x' == ("__debug__" : Str)) = false := by decide)
    (h1 : starEach [e, .Name x' p'] X.env = (false, eval e X.env) :: starEach [.Name x' p'] X.env := by rfl) (h2 : starEach [.Name x' p'] X.env = (false, eval (.Name x' p') X.env) :: starEach [] X.env := by rfl)
    (hpl : (backTo pos (starEach [.Name x' p'] X.env)).any (·.1) = false := by rfl) : PD X F ρ (.Call (.Name "isinstance" p) [e, .Name x' p'] [] pos) (.bool tt) := fun G σ H I Q q =>
  tE_of (pe_callB call_isi (B.gl hg) (by rw [B.hmg]; exact T.isi) boot_isinstance (pa_cons cE (pa_cons (pe_bltn (v := .ty t) (B.gl hg2) (by rw [B.hmg]; exact hm) hv rfl hn' hd') pa_nil h2) h1) (by decide) (by decide) h1 hpl)
    (ha G σ H I _ fun d v G1 H1 e I1 s1 r1 => by
      subst e
      exact ⟨v, .ty t, .type (tyD _), .type t, tt, rfl, .ty t, tyX I1.sub r1, kit_ty ht, q _ _ G1 H1 rfl I1 s1 (.bl tt)⟩)
theorem pd_all (B : Bd X K mg N sc k) (T : Bt mg) {bs : List Bool} (hg : sc.names.lookup ("all" : Str) = some .globalImplicit) (ha : PD X F ρ e (.list (bs.map .bool))) (hs : starEach [e] X.env = (false, eval e X.env) :: starEach [] X.env := by rfl)
    (hpl : (backTo pos (starEach [] X.env)).any (·.1) = false := by rfl) : PD X F ρ (.Call (.Name "all" p) [e] [] pos) (.bool (bs.all id)) :=
  pn_blt B (cr_all B.calm) hg T.all boot_all (pds_one ha hs) (fun zs ez G H vs Q s r q => by
    subst ez
    cases r with
    | cons r rr =>
      cases rr
      obtain ⟨l, us, rfl, h1, h2⟩ := r.listI
      exact ⟨l, bs, rfl, SqL.of (by rw [← h2.bls]; exact s _ _ h1), q _ _ G H rfl (Nx.refl s) (.bl _)⟩) (by decide) (by decide) hs hpl
theorem pd_sum (B : Bd X K mg N sc k) (T : Bt mg) {ns : List Int} (hg : sc.names.lookup ("sum" : Str) = some .globalImplicit) (ha : PD X F ρ e (.list (ns.map .int))) (hs : starEach [e] X.env = (false, eval e X.env) :: starEach [] X.env := by rfl)
    (hpl : (backTo pos (starEach [] X.env)).any (·.1) = false := by rfl) : PD X F ρ (.Call (.Name "sum" p) [e] [] pos) (.int ns.sum) :=
  pn_blt B (cr_sum B.calm) hg T.sum boot_sum (pds_one ha hs) (fun zs ez G H vs Q s r q => by
    subst ez
    cases r with
    | cons r rr =>
      cases rr
      obtain ⟨l, us, rfl, h1, h2⟩ := r.listI
      exact ⟨l, ns, rfl, SqL.of (by rw [← h2.ints]; exact s _ _ h1), q _ _ G H rfl (Nx.refl s) (.int _)⟩) (by decide) (by decide) hs hpl
/-- min of a list of ints, not empty -/
theorem pn_min (B : Bd X K mg N sc k) (T : Bt mg) {ns : List Int} (hg : sc.names.lookup ("min" : Str) = some .globalImplicit) (ha : PD X F ρ e (.list (ns.map .int))) (h0 : 0 < ns.length) (hs : starEach [e] X.env = (false, eval e X.env) :: starEach [] X.env := by rfl)
    (hpl : (backTo pos (starEach [] X.env)).any (·.1) = false := by rfl) : PN X F ρ (.Call (.Name "min" p) [e] [] pos) fun d => ∃ m, d = .int m ∧ m ∈ ns ∧ ∀ y ∈ ns, m ≤ y :=
  pn_blt B (cr_min B.calm) hg T.min boot_min (pds_one ha hs) (fun zs ez G H vs Q s r q => by
    subst ez
    cases r with
    | cons r rr =>
      cases rr
      obtain ⟨l, us, rfl, h1, h2⟩ := r.listI
      exact ⟨l, ns, rfl, SqL.of (by rw [← h2.ints]; exact s _ _ h1), h0, fun m hm hle => q _ _ G H ⟨m, rfl, hm, hle⟩ (Nx.refl s) (.int _)⟩) (by decide) (by decide) hs hpl
theorem pd_tuple (B : Bd X K mg N sc k) (T : Bt mg) (hg : sc.names.lookup ("tuple" : Str) = some .globalImplicit) (ha : PD X F ρ e (.list ds)) (hs : starEach [e] X.env = (false, eval e X.env) :: starEach [] X.env := by rfl)
    (hpl : (backTo pos (starEach [] X.env)).any (·.1) = false := by rfl) : PD X F ρ (.Call (.Name "tuple" p) [e] [] pos) (.tuple ds) :=
  pn_bty B call_tuple_of hg T.tuple PyProof.Rows.boot_tuple (pds_one ha hs) (fun zs ez G H vs Q s r q => by
    subst ez
    cases r with
    | cons r rr =>
      cases rr
      obtain ⟨l, us, rfl, h1, h2⟩ := r.listI
      refine ⟨l, us, rfl, .inl ⟨SqL.of (s _ _ h1), fun p hp => ?_⟩⟩
      have m := Nx.new (o := .tup us) s hp
      exact q _ _ _ _ rfl m (.tup upd_same (h2.up (m.up s)))) (by decide) (by decide) hs hpl
/-- list(xs), list(t): a new list of the def's own -/
theorem po_list (B : Bd X K mg N sc k) (T : Bt mg) (hg : sc.names.lookup ("list" : Str) = some .globalImplicit) {d : D} (ha : PD X F ρ e d) (hd : d = .list ds ∨ d = .tuple ds) (hs : starEach [e] X.env = (false, eval e X.env) :: starEach [] X.env := by rfl)
    (hpl : (backTo pos (starEach [] X.env)).any (·.1) = false := by rfl) : PO X F ρ (.Call (.Name "list" p) [e] [] pos) fun x => x = ds := fun G σ H I Q q =>
  tE_of (pe_callTy call_list_of (B.gl hg) (by rw [B.hmg]; exact T.list) PyProof.Rows.boot_list (pa_cons cE pa_nil hs) (by decide) (by decide) hs hpl) (ha G σ H I _ fun y v G1 H1 e I1 s1 r1 => by
    subst e
    have fin : ∀ (us : List V), RpA G1 us ds → ∀ l, H1 l = none → Q (.ref l) (upd H1 l (.lst us)) := fun us r l hl => by
      have m := Nx.loose (o := .lst us) I1.sub hl
      have A := I1.apart hl
      exact q ds l us G1 _ rfl (s1.free hl A.w) (I1.nx m) (s1.trans (I1.stp m)) upd_same (I1.sub.free hl) A r
    rcases hd with rfl | rfl
    · obtain ⟨l, us, rfl, h1, h2⟩ := r1.listI
      exact ⟨l, us, rfl, .inl (SqL.of (I1.sub _ _ h1)), fin us h2⟩
    · obtain ⟨l, us, rfl, h1, h2⟩ := r1.tupI
      exact ⟨l, us, rfl, .inr (SqT.of (I1.sub _ _ h1)), fin us h2⟩)
theorem pd_int_b (B : Bd X K mg N sc k) (T : Bt mg) {u : Bool} (hg : sc.names.lookup ("int" : Str) = some .globalImplicit) (ha : PD X F ρ e (.bool u)) (hs : starEach [e] X.env = (false, eval e X.env) :: starEach [] X.env := by rfl)
    (hpl : (backTo pos (starEach [] X.env)).any (·.1) = false := by rfl) : PD X F ρ (.Call (.Name "int" p) [e] [] pos) (.int (if u then 1 else 0)) :=
  pn_bty B call_int1 hg T.int PyProof.Rows.boot_int (pds_one ha hs) (fun zs ez G H vs Q s r q => by
    subst ez
    cases r with
    | cons r rr =>
      cases rr
      exact .inr ⟨u, by rw [r.boolI], q _ _ G H rfl (Nx.refl s) (.int _)⟩) (by decide) (by decide) hs hpl
end
end Pd
/-! Pd6: repr of data; sorted of lists, tuples, dicts with tuple keys. -/
namespace Pd
open PySem PySem.Spec PyProof.Rows L2

/-! ### repr -/
def rRepr (K : PySem.W.Frag) : List V → Hp → VK → Prop := fun xs H Q => ∃ x d, xs = [x] ∧ Dp K H x d ∧ (∃ a, x = .ref a) ∧ d.showable = true ∧ d.hasDict = false ∧ d.depth ≤ 64 ∧ d.shown.length ≤ sizeLine ∧ Q (.str d.shown) H
theorem call_repr {X : Cx} (hg : X.A.guards = some []) (hu : X.A.units + 70 < cLine) : CallR X (.builtin "repr") (rRepr X.K) := by
  intro pins s σ H xs us Q I r ⟨x, d, e, hd, ⟨a, ea⟩, h1, h2, h3, h4, q⟩
  subst e
  subst ea
  obtain ⟨u, rfl, rx⟩ := vals1 r
  obtain ⟨as, rd⟩ := Dp.reads I d _ u hd rx
  cases rx
  refine repr_of_reads' rd h1 (PyData.noDict_hsm h2) hg (by omega) (fun b o z => z) (fun h' t tk hk => ?_) h4
  exact ⟨.str d.shown, H, I.kept hk, ⟨t, rfl⟩, q⟩

/-! ### sorted -/
mutual
theorem reads_at {h : Heap} : ∀ {v : Value} {d : D} {as : List Addr}, Reads h v d as → ∀ b ∈ as, b < h.objs.size
  | _, _, _, .none, b, hb => by cases hb
  | _, _, _, .bool _, b, hb => by cases hb
  | _, _, _, .int _ _, b, hb => by cases hb
  | _, _, _, .str _ _, b, hb => by cases hb
  | _, _, _, .list h1 _ _ h4, b, hb => by
    rcases List.mem_cons.mp hb with e | e
    · subst e; exact Heap.lt_size h1
    · exact reads_atAll h4 b e
  | _, _, _, .tuple h1 _ _ h4, b, hb => reads_atAll h4 b hb
  | _, _, _, .dict h1 _ _ h4 h5, b, hb => by
    rcases List.mem_append.mp hb with e | e
    · rcases List.mem_cons.mp e with e | e
      · subst e; exact Heap.lt_size h1
      · exact reads_atAll h4 b e
    · exact reads_atAll h5 b e
theorem reads_atAll {h : Heap} : ∀ {vs : List Value} {ds : List D} {as : List Addr}, ReadsAll h vs ds as → ∀ b ∈ as, b < h.objs.size
  | _, _, _, .nil, b, hb => by cases hb
  | _, _, _, .cons h1 h2, b, hb => by
    rcases List.mem_append.mp hb with e | e
    · exact reads_at h1 b e
    · exact reads_atAll h2 b e
end
theorem vals_each {W : List (V × D)} : ∀ {us : List Value}, Vals (W.map (·.1)) us → PySem.W.EachIs (fun u (b : V × D) => RelV b.1 u) us W := by
  induction W with
  | nil =>
    intro us r
    have r' : Vals [] us := r
    cases r'
    exact .nil
  | cons b W ih =>
    intro us r
    have r' : Vals (b.1 :: W.map (·.1)) us := r
    cases r' with
    | cons r1 r2 => exact .cons r1 (ih r2)
theorem each_vals : ∀ {W : List (V × D)} {us : List Value}, PySem.W.EachIs (fun u (b : V × D) => RelV b.1 u) us W → Vals (W.map (·.1)) us
  | _, _, .nil => .nil
  | _, _, .cons h t => .cons h (each_vals t)
/-- what a source of values gives to sorted -/
def ColR (X : Cx) (x : V) (H : Hp) (xs : List V) : Prop := ∀ pins s σ v, Inv X pins σ H s → RelV x v → ∀ (R : List Value → Shared → Prop) (E : Value → Shared → Prop),
  (∀ h' tk vs, (∀ b o, s.heap.get? b = some o → h'.get? b = some o) → Vals xs vs → R vs { s with heap := h', toks := tk }) → wpAny (model X.prog X.w) X.A.in1 (collect v) R E s
theorem col_list {X : Cx} {a : Addr} {H : Hp} {xs : List V} (h : SqL X.K H a xs) : ColR X (.ref a) H xs := fun pins s σ v I r R E q => by
  obtain ⟨its, rv, ⟨o, n, h1, h2, _, h4⟩, hz⟩ := I.list h
  cases r
  exact wpAny_collect_seq a (.inl rfl) h1 h2 h4 (fun h' hk => q h' s.toks _ hk rv) (by rw [List.size_toArray, ← rv.length]; exact hz)
theorem col_tup {X : Cx} {a : Addr} {H : Hp} {xs : List V} (h : SqT X.K H a xs) : ColR X (.ref a) H xs := fun pins s σ v I r R E q => by
  obtain ⟨its, rv, ⟨o, h1, h2, n, h4⟩, hz⟩ := I.tuple h
  cases r
  exact wpAny_collect_seq a (.inr rfl) h1 h2 h4 (fun h' hk => q h' s.toks _ hk rv) (by rw [List.size_toArray, ← rv.length]; exact hz)
def sortZ (W : List (V × D)) : List (V × D) := W.mergeSort (PySem.W.dataLe false (·.2))
structure Sb (W : List (V × D)) : Prop where
  al : PySem.W.AllAlike (W.map (·.2))
  so : PySem.W.Sortable (W.map (·.2))
  len : W.length ≤ sizeLine
  dep : ∀ b ∈ W, b.2.depth ≤ 64
theorem sorted_go {X : Cx} {pins : List (Addr × Obj)} {s : Shared} {σ : L2.St} {H : Hp} {x : V} {v : Value} {W : List (V × D)} {Q : VK} (hu : X.A.units + 70 < cLine) (I : Inv X pins σ H s) (rx : RelV x v) (hc : ColR X x H (W.map (·.1))) (hd : ∀ b ∈ W, Dp X.K H b.1 b.2) (S : Sb W)
    (q : ∀ p, H p = none → Q (.ref p) (upd H p (.lst ((sortZ W).map (·.1))))) : wpAny (model X.prog X.w) X.A (call (.builtin "sorted") [v]) (EP X pins σ Q) X.xe s := by
  refine Calls.call_function_entry kind_sorted plain_sorted entry_sorted (args_sorted1 _) (show wpAny _ _ (Builtin.«sorted» _) _ _ _ from ?_)
  unfold Builtin.«sorted»; refine wpAny_bind (m := checkCount "sorted" 1 1 _) (wpAny_pure (wpAny_bind (hc pins s σ v I rx _ _ fun h' tk vs hk rv => ?_)))
  have hl : vs.length = W.length := by rw [← rv.length, List.length_map]
  have J : Inv X pins σ H { s with heap := h', toks := tk } := I.kept hk
  refine wpAny_bind (wpAny_newList ?_ (by rw [hl]; exact S.len))
  have hat : (h'.push { cls := .type "list", data := .seq vs.toArray }).get? h'.objs.size = some (seqObj "list" vs.toArray 0) := Heap.get?_push_size _ rfl
  have kp : ∀ b o, h'.get? b = some o → (h'.push { cls := .type "list", data := .seq vs.toArray }).get? b = some o := fun b o e => Heap.get?_push_of_some _ e
  have ev : PySem.W.EachIs (fun u (b : V × D) => RelV b.1 u) vs W := vals_each rv
  have er : PySem.W.EachIs (fun u (b : V × D) => ∃ as, Reads (h'.push { cls := .type "list", data := .seq vs.toArray }) u b.2 as ∧ h'.objs.size ∉ as) vs W := by
    refine (PySem.W.each_mem ev).mono fun u b ⟨r1, hb⟩ => ?_
    obtain ⟨as, rd⟩ := Dp.reads J b.2 b.1 u (hd b hb) r1
    exact ⟨as, PyProof.Rows.Reads.keeps kp rd, fun z => Nat.lt_irrefl _ (reads_at rd _ z)⟩
  refine wpAny_bind (wpAny_holding (wpAny_mono (PySem.W.list_sort_data (Q := fun u s' => EP X pins σ Q (.ref h'.objs.size) s') (E := X.xe) (R := fun u (b : V × D) => RelV b.1 u) hat ev er S.al S.so S.len (fun b hb => ?_) fun out ho eo => ?_) (fun u s' z => wpAny_pure ⟨_, rfl, z⟩) fun _ _ z => z))
  · have := S.dep b hb
    show X.A.units + 1 + 1 + b.2.depth < cLine
    omega
  · obtain ⟨ep, he⟩ := PyProof.Rows.sortedHeap_at (vs := vs) (out := out.toArray) hat
    have keep : ∀ b o, h'.get? b = some o → (sortedHeap (h'.push { cls := .type "list", data := .seq vs.toArray }) h'.objs.size vs out.toArray).get? b = some o := fun b o e => by
      have lt : b < h'.objs.size := Heap.lt_size e
      rw [PyProof.Rows.sortedHeap_old (Nat.ne_of_lt lt) (Nat.lt_of_lt_of_le lt (by rw [size_push']; exact Nat.le_succ _))]
      exact kp b o e
    have hn := J.hok.fresh (Nat.le_refl _)
    refine ⟨.ref h'.objs.size, upd H h'.objs.size (.lst ((sortZ W).map (·.1))), J.laid (t' := tk) keep (Nat.le_refl _) ⟨?_, out, ep, each_vals eo, he⟩, rfl, q _ hn⟩
    rw [List.length_map]
    unfold sortZ
    rw [List.length_mergeSort]
    exact S.len
def rSortG (X : Cx) : List V → Hp → VK → Prop := fun xs H Q => ∃ x W, xs = [x] ∧ ColR X x H (W.map (·.1)) ∧ (∀ b ∈ W, Dp X.K H b.1 b.2) ∧ Sb W ∧ ∀ p, H p = none → Q (.ref p) (upd H p (.lst ((sortZ W).map (·.1))))
theorem call_sortG {X : Cx} (hu : X.A.units + 70 < cLine) : CallR X (.builtin "sorted") (rSortG X) := by
  intro pins s σ H xs us Q I r ⟨x, W, e, hc, hd, S, q⟩
  subst e
  obtain ⟨u, rfl, rx⟩ := vals1 r
  exact sorted_go hu I rx hc hd S q
theorem Bd.u70 {X : Cx} {K : PySem.W.Frag} {mg : Str → Option Value} {N : List Str} {sc : Scope} {k : Nat} (B : Bd X K mg N sc k) : X.A.units + 70 < cLine := by have := B.room.un; omega
/-- the data, sorted -/
def sortD (ds : List D) : List D := ds.mergeSort (PySem.W.dataLe false id)
theorem zip_fst {G : Hp} : ∀ {vs : List V} {ds : List D}, RpA G vs ds → (vs.zip ds).map (·.1) = vs ∧ (vs.zip ds).map (·.2) = ds ∧ ∀ b ∈ vs.zip ds, Rp G b.1 b.2
  | _, [], r => by cases r; exact ⟨rfl, rfl, fun b h => by cases h⟩
  | _, d :: ds, r => by
    cases r with
    | cons h1 h2 =>
      obtain ⟨e1, e2, e3⟩ := zip_fst h2
      refine ⟨by rw [List.zip_cons_cons, List.map_cons, e1], by rw [List.zip_cons_cons, List.map_cons, e2], fun b hb => ?_⟩
      rw [List.zip_cons_cons] at hb
      rcases List.mem_cons.mp hb with e | e
      · subst e; exact h1
      · exact e3 b e
theorem rp_of {G : Hp} : ∀ {W : List (V × D)}, (∀ b ∈ W, Rp G b.1 b.2) → RpA G (W.map (·.1)) (W.map (·.2))
  | [], _ => .nil
  | b :: W, h => .cons (h b List.mem_cons_self) (rp_of fun c hc => h c (List.mem_cons_of_mem _ hc))
theorem sortZ_snd (W : List (V × D)) : (sortZ W).map (·.2) = sortD (W.map (·.2)) := by
  unfold sortZ sortD
  exact List.map_mergeSort fun a _ b _ => rfl
/-- data that can be sorted -/
structure Sd (ds : List D) : Prop where
  al : PySem.W.AllAlike ds
  so : PySem.W.Sortable ds
  len : ds.length ≤ sizeLine
  dep : ∀ d ∈ ds, d.depth ≤ 64
section
variable {X : Cx} {F : Fx} {ρ : Ev} {K : PySem.W.Frag} {mg : Str → Option Value} {N : List Str} {sc scope : Scope} {k : Nat} {e : Expr} {pos p : Pos} {d : D} {ds : List D}
/-- sorted(xs), sorted(t): a new list of the def's own -/
theorem po_sorted (B : Bd X K mg N sc k) (T : Bt mg) (hg : sc.names.lookup ("sorted" : Str) = some .globalImplicit) (ha : PD X F ρ e d) (hd : d = .list ds ∨ d = .tuple ds) (S : Sd ds) (hs : starEach [e] X.env = (false, eval e X.env) :: starEach [] X.env := by rfl)
    (hpl : (backTo pos (starEach [] X.env)).any (·.1) = false := by rfl) : PO X F ρ (.Call (.Name "sorted" p) [e] [] pos) fun x => x = sortD ds := fun G σ H I Q q =>
  tE_of (pe_callB (call_sortG B.u70) (B.gl hg) (by rw [B.hmg]; exact T.sorted) boot_sorted (pa_cons cE pa_nil hs) (by decide) (by decide) hs hpl) (ha G σ H I _ fun y v G1 H1 e I1 s1 r1 => by
    subst e
    have fin : ∀ (us : List V), RpA G1 us ds → ColR X v H1 us → rSortG X [v] H1 Q := fun us r hc => by
      obtain ⟨e1, e2, e3⟩ := zip_fst r
      refine ⟨v, us.zip ds, rfl, by rw [e1]; exact hc, fun b hb => ((e3 b hb).up I1.sub).dp, ⟨by rw [e2]; exact S.al, by rw [e2]; exact S.so, ?_, fun b hb => ?_⟩, fun l hl => ?_⟩
      · rw [List.length_zip, r.len, Nat.min_self]; exact S.len
      · refine S.dep _ ?_
        rw [← e2]
        exact List.mem_map_of_mem hb
      · have m := Nx.loose (o := .lst ((sortZ (us.zip ds)).map (·.1))) I1.sub hl
        have A := I1.apart hl
        refine q _ l _ G1 _ rfl (s1.free hl A.w) (I1.nx m) (s1.trans (I1.stp m)) upd_same (I1.sub.free hl) A ?_
        rw [← e2, ← sortZ_snd, e2]
        refine rp_of fun b hb => e3 b ?_
        unfold sortZ at hb
        exact (List.mem_mergeSort).mp hb
    rcases hd with rfl | rfl
    · obtain ⟨l, us, rfl, h1, h2⟩ := r1.listI
      exact fin us h2 (col_list (SqL.of (I1.sub _ _ h1)))
    · obtain ⟨l, us, rfl, h1, h2⟩ := r1.tupI
      exact fin us h2 (col_tup (SqT.of (I1.sub _ _ h1))))
/-- data whose text can be told -/
structure Sh (d : D) : Prop where
  sh : d.showable = true
  nd : d.hasDict = false
  dep : d.depth ≤ 64
  len : d.shown.length ≤ sizeLine
theorem pd_repr (B : Bd X K mg N sc k) (T : Bt mg) (hg : sc.names.lookup ("repr" : Str) = some .globalImplicit) (ha : PD X F ρ e d) (hd : (∃ ds, d = .list ds) ∨ (∃ ds, d = .tuple ds)) (S : Sh d) (hs : starEach [e] X.env = (false, eval e X.env) :: starEach [] X.env := by rfl)
    (hpl : (backTo pos (starEach [] X.env)).any (·.1) = false := by rfl) : PD X F ρ (.Call (.Name "repr" p) [e] [] pos) (.str d.shown) :=
  pn_blt B (call_repr B.guards B.u70) hg T.repr boot_repr (pds_one ha hs) (fun zs ez G H vs Q s r q => by
    subst ez
    cases r with
    | cons r rr =>
      cases rr
      refine ⟨_, d, rfl, (r.up s).dp, ?_, S.sh, S.nd, S.dep, S.len, q _ _ G H rfl (Nx.refl s) (.str _)⟩
      rcases hd with ⟨ds, rfl⟩ | ⟨ds, rfl⟩
      · obtain ⟨l, us, rfl, _⟩ := r.listI; exact ⟨l, rfl⟩
      · obtain ⟨l, us, rfl, _⟩ := r.tupI; exact ⟨l, rfl⟩) (by decide) (by decide) hs hpl
/-- repr of a text -/
theorem call_reprS {X : Cx} : CallR X (.builtin "repr") (fun xs H Q => ∃ x, xs = [.str x] ∧ (reprText x).length ≤ sizeLine ∧ Q (.str (reprText x)) H) := by
  intro pins s σ H xs us Q I r ⟨x, e, h, q⟩
  subst e
  obtain ⟨u, rfl, rx⟩ := vals1 r
  obtain ⟨t, rfl⟩ := rx
  exact PySem.P.repr_of_str ⟨.str _, H, I.tok _, ⟨_, rfl⟩, q⟩ h
theorem pd_reprS (B : Bd X K mg N sc k) (T : Bt mg) {x : Str} (hg : sc.names.lookup ("repr" : Str) = some .globalImplicit) (ha : PD X F ρ e (.str x)) (hl : (reprText x).length ≤ sizeLine) (hs : starEach [e] X.env = (false, eval e X.env) :: starEach [] X.env := by rfl)
    (hpl : (backTo pos (starEach [] X.env)).any (·.1) = false := by rfl) : PD X F ρ (.Call (.Name "repr" p) [e] [] pos) (.str (reprText x)) :=
  pn_blt B call_reprS hg T.repr boot_repr (pds_one ha hs) (fun zs ez G H vs Q s r q => by
    subst ez
    cases r with
    | cons r rr =>
      cases rr
      exact ⟨x, by rw [r.strI], hl, q _ _ G H rfl (Nx.refl s) (.str _)⟩) (by decide) (by decide) hs hpl
end
end Pd
/-! Pd7: known truth values; chains; names in short. -/
namespace Pd
open PySem PySem.Spec PyProof.Rows L2
section
variable {X : Cx} {F : Fx} {ρ : Ev} {K : PySem.W.Frag} {mg : Str → Option Value} {N : List Str} {sc scope : Scope} {k : Nat} {a b c e : Expr} {es rest : List Expr} {pos p : Pos} {x y z : Bool} {i j l : Int} {st : Stmt} {sts : List Stmt} {Nn : Ev → Prop} {R : D → Ev → Prop}
theorem gv (B : Bd X K mg N sc k) (i : Nat) {x : Str} {pos : Pos} {d : D} (e : ρ[i]? = some (.dat d)) (hN : N[i]? = some x := by rfl) (hv : Vis sc x := by first | exact Or.inl rfl | exact Or.inr (Or.inl rfl) | exact Or.inr (Or.inr rfl))
    (hd : (x == ("__debug__" : Str)) = false := by decide) (hcd : (x == ("__classdict__" : Str)) = false := by decide) : PD X F ρ (.Name x pos) d := pn_var B i e hN hv hd hcd
theorem sd_start {ρ1 : Ev} (e : ρ = ρ1) (h : SD X F ρ1 sts Nn R) : SD X F ρ sts Nn R := by rw [e]; exact h
/-! and, or, not of known values -/
theorem pd_and1 (h : PD X F ρ a (.bool x)) : PD X F ρ (.BoolOp .And [a] pos) (.bool x) := pn_one h
theorem pd_or1 (h : PD X F ρ a (.bool x)) : PD X F ρ (.BoolOp .Or [a] pos) (.bool x) := pn_one h
theorem pd_and (ha : PD X F ρ a (.bool x)) (hb : x = true → PD X F ρ (.BoolOp .And (b :: rest) pos) (.bool y)) : PD X F ρ (.BoolOp .And (a :: b :: rest) pos) (.bool (x && y)) :=
  pn_and (Pb := fun q => q = x) (ha.imp fun d e => ⟨x, e, rfl⟩) (fun h => (hb h.symm).imp fun d e => by rw [e, ← h, Bool.true_and]) fun h => by rw [← h, Bool.false_and]
theorem pd_or (ha : PD X F ρ a (.bool x)) (hb : x = false → PD X F ρ (.BoolOp .Or (b :: rest) pos) (.bool y)) : PD X F ρ (.BoolOp .Or (a :: b :: rest) pos) (.bool (x || y)) :=
  pn_or (Pb := fun q => q = x) (ha.imp fun d e => ⟨x, e, rfl⟩) (fun h => (hb h.symm).imp fun d e => by rw [e, ← h, Bool.false_or]) fun h => by rw [← h, Bool.true_or]
theorem pd_not (ha : PD X F ρ a (.bool x)) : PD X F ρ (.UnaryOp .Not a pos) (.bool (!x)) := pn_not (Pb := fun q => q = x) (ha.imp fun d e => ⟨x, e, rfl⟩) fun q h => by rw [h]
theorem pd_if {d : D} (hc : PB X F ρ c fun q => q = x) (ha : x = true → PD X F ρ a d) (hb : x = false → PD X F ρ b d) : PD X F ρ (.IfExp c a b pos) d := pn_if hc (fun h => ha h.symm) fun h => hb h.symm
theorem tb_and1 (h : PB X F ρ a fun q => q = x) : PBW X F ρ (.BoolOp .And [a] pos) fun q => q = x := pw_and1' h
theorem tb_or1 (h : PB X F ρ a fun q => q = x) : PBW X F ρ (.BoolOp .Or [a] pos) fun q => q = x := pw_or1' h
theorem tb_and (ha : PB X F ρ a fun q => q = x) (hb : x = true → PBW X F ρ (.BoolOp .And (b :: rest) pos) fun q => q = y) : PBW X F ρ (.BoolOp .And (a :: b :: rest) pos) fun q => q = (x && y) :=
  pw_and' ha (fun h => fun G σ H I Q q => hb h.symm G σ H I Q fun b' G' H' e => q b' G' H' (by rw [e, ← h, Bool.true_and])) fun h => by rw [← h, Bool.false_and]
theorem tb_or (ha : PB X F ρ a fun q => q = x) (hb : x = false → PBW X F ρ (.BoolOp .Or (b :: rest) pos) fun q => q = y) : PBW X F ρ (.BoolOp .Or (a :: b :: rest) pos) fun q => q = (x || y) :=
  pw_or' ha (fun h => fun G σ H I Q q => hb h.symm G σ H I Q fun b' G' H' e => q b' G' H' (by rw [e, ← h, Bool.false_or])) fun h => by rw [← h, Bool.true_or]
theorem tb_not (ha : PB X F ρ a fun q => q = x) : PB X F ρ (.UnaryOp .Not a pos) fun q => q = !x := pb_not ha fun q h => by rw [h]
theorem s_ifd {ta tb : List Stmt} (hc : PB X F ρ c fun q => q = x) (ha : x = true → SD X F ρ ta Nn R) (hb : x = false → SD X F ρ tb Nn R) : S1 X F ρ (.If c ta tb pos) Nn R := s_if hc (fun h => ha h.symm) fun h => hb h.symm
theorem pb_cast {P : Bool → Prop} (h : PB X F ρ c fun q => q = x) (e : P x) : PB X F ρ c P := h.imp fun d q => by rw [q]; exact e
/-! a <= b <= c of ints -/
theorem chain_go {f g : Int → Int → Bool} {G : Hp} {σ : L2.St} {H : Hp} {Q : VK} (ha : PD X F ρ a (.int i)) (hb : PD X F ρ b (.int j)) (hc : PD X F ρ c (.int l)) (I : SI F ρ G σ H)
    (q : ∀ v G' H', SI F ρ G' σ H' → Stp F G H G' H' → v = V.bl (f i j && g j l) → Q v H') : tChain (rI0 fun i j => .bl (f i j)) (rI0 fun i j => .bl (g i j)) (tE X a) (tE X b) (tE X c) σ H Q :=
  ha G σ H I _ fun x v G1 H1 px I1 s1 r1 => hb G1 σ H1 I1 _ fun y u G2 H2 py I2 s2 r2 => by
    subst px py
    refine ⟨i, j, r1.intI, r2.intI, f i j, rfl, ?_⟩
    cases hk : f i j with
    | true =>
      rw [if_pos rfl]
      refine hc G2 σ H2 I2 _ fun z t G3 H3 pz I3 s3 r3 => ?_
      subst pz
      exact ⟨j, l, r2.intI, r3.intI, q _ G3 H3 I3 (s1.trans (s2.trans s3)) (by rw [hk, Bool.true_and])⟩
    | false =>
      rw [if_neg (by decide)]
      exact q _ G2 H2 I2 (s1.trans s2) (by rw [hk, Bool.false_and])
theorem pd_lele (ha : PD X F ρ a (.int i)) (hb : PD X F ρ b (.int j)) (hc : PD X F ρ c (.int l)) (hm : lastMarks [.LtE, .LtE] [b, c] = false := by with_unfolding_all rfl) : PD X F ρ (.Compare a [.LtE, .LtE] [b, c] pos) (.bool (decide (i ≤ j) && decide (j ≤ l))) := fun G σ H I Q q =>
  tE_of (pe_chain op_le op_le cE cE cE hm) (chain_go (f := fun i j => decide (i ≤ j)) (g := fun i j => decide (i ≤ j)) ha hb hc I fun v G' H' I' s' e => by subst e; exact q _ _ G' H' rfl I' s' (.bl _))
theorem pb_lele (ha : PD X F ρ a (.int i)) (hb : PD X F ρ b (.int j)) (hc : PD X F ρ c (.int l)) (hm : lastMarks [.LtE, .LtE] [b, c] = false := by with_unfolding_all rfl) : PB X F ρ (.Compare a [.LtE, .LtE] [b, c] pos) fun q => q = (decide (i ≤ j) && decide (j ≤ l)) := fun G σ H I Q q =>
  tT_of (pt_chain op_le op_le cE cE cE hm) (chain_go (f := fun i j => decide (i ≤ j)) (g := fun i j => decide (i ≤ j)) ha hb hc I fun v G' H' I' s' e => by subst e; exact ⟨_, rfl, q _ G' H' rfl I' s'⟩)
theorem pb_lelt (ha : PD X F ρ a (.int i)) (hb : PD X F ρ b (.int j)) (hc : PD X F ρ c (.int l)) (hm : lastMarks [.LtE, .Lt] [b, c] = false := by with_unfolding_all rfl) : PB X F ρ (.Compare a [.LtE, .Lt] [b, c] pos) fun q => q = (decide (i ≤ j) && decide (j < l)) := fun G σ H I Q q =>
  tT_of (pt_chain op_le op_lt cE cE cE hm) (chain_go (f := fun i j => decide (i ≤ j)) (g := fun i j => decide (i < j)) ha hb hc I fun v G' H' I' s' e => by subst e; exact ⟨_, rfl, q _ G' H' rfl I' s'⟩)
/-! == of ints; what is a tuple -/
theorem shaped_int (i : Int) : SeqAt.shaped (.int i) = true := by simp [SeqAt.shaped, PyData.canLay0, PyData.depth]
theorem eqv_int (i j : Int) : PyData.eqv (.int i) (.int j) = decide (i = j) := by simp [PyData.eqv, Bool.beq_eq_decide_eq]
theorem pb_eqI (B : Bd X K mg N sc k) (ha : PD X F ρ a (.int i)) (hb : PD X F ρ b (.int j)) : PB X F ρ (.Compare a [.Eq] [b] pos) fun q => q = decide (i = j) := (pb_eq B ha hb (shaped_int i) (shaped_int j)).imp fun q e => by rw [e, eqv_int]
theorem pb_neI (B : Bd X K mg N sc k) (ha : PD X F ρ a (.int i)) (hb : PD X F ρ b (.int j)) : PB X F ρ (.Compare a [.NotEq] [b] pos) fun q => q = !decide (i = j) := (pb_ne B ha hb (shaped_int i) (shaped_int j)).imp fun q e => by rw [e, eqv_int]
theorem pd_eqI (B : Bd X K mg N sc k) (ha : PD X F ρ a (.int i)) (hb : PD X F ρ b (.int j)) : PD X F ρ (.Compare a [.Eq] [b] pos) (.bool (decide (i = j))) := (pd_eq B ha hb (shaped_int i) (shaped_int j)).imp fun q e => by rw [e, eqv_int]
theorem pb_ltI (ha : PD X F ρ a (.int i)) (hb : PD X F ρ b (.int j)) : PB X F ρ (.Compare a [.Lt] [b] pos) fun q => q = decide (i < j) := pb_cmp1 op_lt ha hb d2_lt (nomark _)
theorem pb_gtI (ha : PD X F ρ a (.int i)) (hb : PD X F ρ b (.int j)) : PB X F ρ (.Compare a [.Gt] [b] pos) fun q => q = decide (i > j) := pb_cmp1 op_gt ha hb d2_gt (nomark _)
theorem kit_tupT (xs : List D) : kitB (tyD (.tuple xs)) "tuple" = some true := by simp only [tyD]; decide +kernel
theorem kit_intI (i : Int) : kitB (tyD (.int i)) "int" = some true := by simp only [tyD]; decide +kernel
theorem kit_intB (i : Int) : kitB (tyD (.int i)) "bool" = some false := by simp only [tyD]; decide +kernel
end
end Pd
/-! Pd8: defs of the module as callers see them; recursion by depth. -/
namespace Pd
open PySem PySem.Spec PyProof.Rows L2
/-- a def of the module -/
structure Df (K : PySem.W.Frag) (mg : Str → Option Value) (x : Str) (st : Stmt) (ps : List Str) : Prop where
  ex : ∃ f fd, Fun K x x st f fd ∧ mg x = some (.ref f) ∧ Binds K fd ps []
section
variable {P : Program} {w : World} {K : PySem.W.Frag} {mg : Str → Option Value} {base : Heap} {k : Nat} {x : Str} {st : Stmt} {ps N : List Str} {α : Type}
theorem Df.cal {sp : Sp} (d : Df K mg x st ps) (h : ∀ f fd, Fun K x x st f fd → FnG P w K mg base k f fd ps sp) : Cal P w K mg base k x ps sp := by
  obtain ⟨f, fd, F, m, b⟩ := d.ex
  exact ⟨f, fd, h f fd F, m, F.kp, b⟩
theorem Df.fn {c : Ctr α} (d : Df K mg x st ps) (S : FnScope N ps (defScope st)) (hl : ∀ a, c.ok a → (c.args a).length = ps.length)
    (body : ∀ X F a, Fr1 P w K mg base N (defScope st) k X → F.w = none → c.ok a → SD X F (ev0 N (c.args a)) (defBody st) (fun _ => c.res a .none) fun d _ => c.res a d) : Cal P w K mg base (k + 1) x ps (spP c) :=
  d.cal fun f fd F => fnP F S hl body
/-- a recursion: nothing is asked at depth 0 -/
theorem Df.rc {c : Nat → Ctr α} {b : Nat} (d : Df K mg x st ps) (S : FnScope N ps (defScope st)) (hl : ∀ h a, (c h).ok a → ((c h).args a).length = ps.length) (h0 : ∀ a, ¬ (c 0).ok a)
    (body : ∀ h X F a, Cal P w K mg base (h + b) x ps (spP (c h)) → Fr1 P w K mg base N (defScope st) (h + b) X → F.w = none → (c (h + 1)).ok a → SD X F (ev0 N ((c (h + 1)).args a)) (defBody st) (fun _ => (c (h + 1)).res a .none) fun d _ => (c (h + 1)).res a d) :
    ∀ h, Cal P w K mg base (h + b) x ps (spP (c h))
  | 0 => d.cal fun f fd F => ⟨fun vs H Q E q => by obtain ⟨a, G, o, _⟩ := q; exact (h0 a o).elim, fun A outer s H args us vs Q _ _ _ _ _ q => by obtain ⟨a, G, o, _⟩ := q; exact (h0 a o).elim⟩
  | h + 1 => by
    have C := Df.rc d S hl h0 body h
    have e : h + 1 + b = h + b + 1 := by omega
    rw [e]
    exact d.fn S (hl (h + 1)) fun X F a B hF ok => body h X F a C B hF ok
end
/-- the module's constants -/
structure Gc (mg : Str → Option Value) : Prop where
  either : ∃ t, mg "EITHER" = some (.int 2 t)
  present : ∃ t, mg "PRESENT" = some (.int 1 t)
  absent : ∃ t, mg "ABSENT" = some (.int 0 t)
  lays : ∃ t, mg "MOST_LAYS" = some (.int 8 t)
  links : ∃ t, mg "MOST_LINKS" = some (.int 12 t)
  fork : ∃ t, mg "FORK" = some (.str "fork" t)
  labels : ∃ t, mg "LABELS" = some (.str "labels" t)
section
variable {X : Cx} {F : Fx} {ρ : Ev} {K : PySem.W.Frag} {mg : Str → Option Value} {N : List Str} {sc scope : Scope} {k : Nat}
theorem gci (B : Bd X K mg N sc k) {x : Str} {pos : Pos} {i : Int} (h : ∃ t, mg x = some (.int i t)) (hg : sc.names.lookup x = some .globalImplicit := by rfl) (hd : (x == ("__debug__" : Str)) = false := by decide) : PD X F ρ (.Name x pos) (.int i) := by
  obtain ⟨t, e⟩ := h
  exact pn_gint B hg e hd
theorem gcs (B : Bd X K mg N sc k) {x : Str} {pos : Pos} {i : Str} (h : ∃ t, mg x = some (.str i t)) (hg : sc.names.lookup x = some .globalImplicit := by rfl) (hd : (x == ("__debug__" : Str)) = false := by decide) : PD X F ρ (.Name x pos) (.str i) := by
  obtain ⟨t, e⟩ := h
  exact pn_gstr B hg e hd
end
end Pd
/-! Pd9: several targets at once. -/
namespace Pd
open PySem PySem.Spec PyProof.Rows L2
section
variable {X : Cx} {F : Fx} {ρ : Ev} {G H G' H' : Hp} {σ : L2.St} {K : PySem.W.Frag} {mg : Str → Option Value} {N : List Str} {sc scope : Scope} {k : Nat} {R : D → Ev → Prop}
theorem swap_env {ts : List Expr} {v : Expr} {e1 e2 : Env} (h : e1.scope = e2.scope) : swappedStores ts v e1 = swappedStores ts v e2 := by
  have k1 : ∀ n, e1.kindOf n = e2.kindOf n := fun n => by unfold Env.kindOf; rw [h]
  have k2 : e1.blockKind = e2.blockKind := by unfold Env.blockKind; rw [h]
  unfold swappedStores
  rw [k2]
  simp only [k1]
def notRes : Sl → Prop
  | .res _ => False
  | _ => True
theorem SlOk.stp {s : Sl} {o : Option V} (t : Stp F G H G' H') (n : notRes s) (h : SlOk F G H s o) : SlOk F G' H' s o := by
  cases s with
  | un => trivial
  | dat d => obtain ⟨v, e, r⟩ := h; exact ⟨v, e, r.up t.up⟩
  | own ds =>
    obtain ⟨a, vs, e, h1, h2, h3, r⟩ := h
    have z : F.w ≠ some a := fun z => F.hw a z h3
    exact ⟨a, vs, e, t.keep a _ h1 z, by rw [t.old a _ h1 z]; exact h2, h3, r.up t.up⟩
  | res c => exact n.elim
  | dic ks =>
    obtain ⟨a, e, h1, h2, h3⟩ := h
    have z : F.w ≠ some a := fun z => F.hw a z h3
    exact ⟨a, e, t.keep a _ h1 z, by rw [t.old a _ h1 z]; exact h2, h3⟩
/-- what a slot may hold behind an expression -/
def PV (X : Cx) (F : Fx) (ρ : Ev) (e : Expr) (S : Sl → Prop) : Prop :=
  ∀ G σ H, SI F ρ G σ H → ∀ Q : VK, (∀ s v G' H', S s → notRes s → SI F ρ G' σ H' → Stp F G H G' H' → SlOk F G' H' s (some v) → Q v H') → tE X e σ H Q
variable {a b c e : Expr} {pos : Pos} {S1' S2' S3' : Sl → Prop}
theorem PN.pv {P : D → Prop} (h : PN X F ρ e P) : PV X F ρ e fun s => ∃ d, s = .dat d ∧ P d := fun G σ H I Q q => h G σ H I Q fun d v G' H' p I' s' r => q (.dat d) v G' H' ⟨d, rfl, p⟩ trivial I' s' ⟨v, rfl, r⟩
theorem PO.pv {P : List D → Prop} (h : PO X F ρ e P) : PV X F ρ e fun s => ∃ ds, s = .own ds ∧ P ds := fun G σ H I Q q => h G σ H I Q fun ds p vs G' H' pd _ I' s' hp gp A r => q (.own ds) (.ref p) G' H' ⟨ds, rfl, pd⟩ trivial I' s' ⟨p, vs, rfl, hp, gp, A.h, r⟩
theorem pv_dict : PV X F ρ (.Dict [] [] pos) fun s => s = .dic [] := fun G σ H I Q q => tE_of pe_dnewK fun p hp => by
  have n := Nx.loose (o := .dK []) I.sub hp
  exact q (.dic []) (.ref p) G _ rfl trivial (I.nx n) (I.stp n) ⟨p, rfl, upd_same, I.sub.free hp, (I.apart hp).h⟩
/-- x, y = a, b -/
theorem s_par (B : Bd X K mg N sc k) (i j : Nat) {x y : Str} {px py pt pt2 : Pos} {kt k2 : Nat} (h1 : PV X F ρ a S1') (h2 : PV X F ρ b S2') (hij : i ≠ j) (hi : N[i]? = some x) (hj : N[j]? = some y) (hx : sc.names.lookup x = some .local) (hy : sc.names.lookup y = some .local)
    (hw : swappedStores [.Tuple [.Name x px, .Name y py] kt pt] (.Tuple [a, b] k2 pt2) { X.env with scope := sc } = pure (some [x, y]))
    (hs : swapsWithSole [.Tuple [.Name x px, .Name y py] kt pt] (.Tuple [a, b] k2 pt2) pos.line X.env = pure false := by rfl)
    (e1 : starEach [a, b] X.env = (false, eval a X.env) :: starEach [b] X.env := by rfl) (e2 : starEach [b] X.env = (false, eval b X.env) :: starEach [] X.env := by rfl) :
    S1 X F ρ (.Assign [.Tuple [.Name x px, .Name y py] kt pt] (.Tuple [a, b] k2 pt2) pos) (fun ρ' => ∃ s t, S1' s ∧ S2' t ∧ ρ' = (ρ.set i s).set j t) R := fun G σ H I E n r => by
  refine tS_of (ps_par B.calm (by rw [B.hN]; exact B.nd) (by rw [B.hN]; exact hi) (by rw [B.hN]; exact hj) hij (by rw [B.hsc]; exact hx) (by rw [B.hsc]; exact hy) (pa_cons cE (pa_cons cE pa_nil e2) e1) ((swap_env (by exact B.hsc)).trans hw) hs) ?_
  refine h1 G σ H I _ fun s v G1 H1 ps ns I1 t1 k1 => h2 G1 σ H1 I1 _ fun t u G2 H2 pt nt I2 t2 k2 => ⟨v, u, rfl, ?_⟩
  exact n _ G2 _ H2 ⟨s, t, ps, pt, rfl⟩ ((I2.set (k1.stp t2 ns)).set k2) (t1.trans t2).up
theorem s_par3 (B : Bd X K mg N sc k) (i j l : Nat) {x y z : Str} {px py pz pt pt2 : Pos} {kt k2 : Nat} (h1 : PV X F ρ a S1') (h2 : PV X F ρ b S2') (h3 : PV X F ρ c S3') (hij : i ≠ j) (hil : i ≠ l) (hjl : j ≠ l) (hi : N[i]? = some x) (hj : N[j]? = some y) (hl : N[l]? = some z)
    (hx : sc.names.lookup x = some .local) (hy : sc.names.lookup y = some .local) (hz : sc.names.lookup z = some .local)
    (hw : swappedStores [.Tuple [.Name x px, .Name y py, .Name z pz] kt pt] (.Tuple [a, b, c] k2 pt2) { X.env with scope := sc } = pure (some [x, y, z]))
    (hs : swapsWithSole [.Tuple [.Name x px, .Name y py, .Name z pz] kt pt] (.Tuple [a, b, c] k2 pt2) pos.line X.env = pure false := by rfl)
    (e1 : starEach [a, b, c] X.env = (false, eval a X.env) :: starEach [b, c] X.env := by rfl) (e2 : starEach [b, c] X.env = (false, eval b X.env) :: starEach [c] X.env := by rfl) (e3 : starEach [c] X.env = (false, eval c X.env) :: starEach [] X.env := by rfl) :
    S1 X F ρ (.Assign [.Tuple [.Name x px, .Name y py, .Name z pz] kt pt] (.Tuple [a, b, c] k2 pt2) pos) (fun ρ' => ∃ s t u, S1' s ∧ S2' t ∧ S3' u ∧ ρ' = ((ρ.set i s).set j t).set l u) R := fun G σ H I E n r => by
  refine tS_of (ps_par3 B.calm (by rw [B.hN]; exact B.nd) (by rw [B.hN]; exact hi) (by rw [B.hN]; exact hj) (by rw [B.hN]; exact hl) hij hil hjl (by rw [B.hsc]; exact hx) (by rw [B.hsc]; exact hy) (by rw [B.hsc]; exact hz) (pa_cons cE (pa_cons cE (pa_cons cE pa_nil e3) e2) e1) ((swap_env (by exact B.hsc)).trans hw) hs) ?_
  refine h1 G σ H I _ fun s v G1 H1 ps ns I1 t1 k1 => h2 G1 σ H1 I1 _ fun t u G2 H2 pt nt I2 t2 k2 => h3 G2 σ H2 I2 _ fun q w' G3 H3 pq nq I3 t3 k3 => ⟨v, u, w', rfl, ?_⟩
  exact n _ G3 _ H3 ⟨s, t, q, ps, pt, pq, rfl⟩ (((I3.set (k1.stp (t2.trans t3) ns)).set (k2.stp t3 nt)).set k3) (t1.trans (t2.trans t3)).up
/-- x, y = a pair -/
theorem s_unp (B : Bd X K mg N sc k) (i j : Nat) {x y : Str} {px py pt : Pos} {kt : Nat} {u v : D} (h : PD X F ρ e (.tuple [u, v])) (hi : N[i]? = some x) (hj : N[j]? = some y) (hx : Loc sc x) (hy : Loc sc y) (hf : ∀ z, X.fn z = true)
    (hw : swappedStores [.Tuple [.Name x px, .Name y py] kt pt] e { X.env with scope := sc } = pure none)
    (hs : swapsWithSole [.Tuple [.Name x px, .Name y py] kt pt] e pos.line X.env = pure false := by rfl) (ha : (assignEach [.Tuple [.Name x px, .Name y py] kt pt] X.env).map (·.2) = [assign (.Tuple [.Name x px, .Name y py] kt pt) X.env] := by rfl)
    (h1 : (assignEach [.Name x px, .Name y py] X.env).length = 2 := by rfl) (h2 : (assignEach [.Name x px, .Name y py] X.env).findIdx? (·.1) = none := by rfl)
    (h3 : (assignEach [.Name x px, .Name y py] X.env).map (·.2) = assign (.Name x px) X.env :: (assignEach [.Name y py] X.env).map (·.2) := by rfl) (h4 : (assignEach [.Name y py] X.env).map (·.2) = assign (.Name y py) X.env :: (assignEach [] X.env).map (·.2) := by rfl) :
    S1 X F ρ (.Assign [.Tuple [.Name x px, .Name y py] kt pt] e pos) (fun ρ' => ρ' = (ρ.set i (.dat u)).set j (.dat v)) R := fun G σ H I E n r => by
  refine tS_of (ps_asg cE (pg_tup B.calm (pgs_cons (pg_name (i := i) (by rw [B.hN]; exact B.nd) (by rw [B.hN]; exact hi) (by rw [B.hsc]; exact hx) (.inl (hf x))) (pgs_cons (pg_name (i := j) (by rw [B.hN]; exact B.nd) (by rw [B.hN]; exact hj) (by rw [B.hsc]; exact hy) (.inl (hf y))) pgs_nil h4) h3) h1 h2) hs ((swap_env (by exact B.hsc)).trans hw) ha) ?_
  refine h G σ H I _ fun d v' G1 H1 ed I1 s1 r1 => ?_
  subst ed
  obtain ⟨l, vs, rfl, k1, k2⟩ := r1.tupI
  cases k2 with
  | cons r1 k2 =>
    cases k2 with
    | cons r2 k2 =>
      cases k2
      exact ⟨l, _, rfl, SqT.of (I1.sub _ _ k1), rfl, _, _, rfl, _, _, rfl, rfl, n _ G1 _ H1 rfl ((I1.setD r1).setD r2) s1.up⟩
end
end Pd
/-! Pd10: lists of the def's own, read; == of texts. -/
namespace Pd
open PySem PySem.Spec PyProof.Rows L2
section
variable {X : Cx} {F : Fx} {ρ : Ev} {G H G' H' : Hp} {σ : L2.St} {K : PySem.W.Frag} {mg : Str → Option Value} {N : List Str} {sc scope : Scope} {k : Nat} {R : D → Ev → Prop} {a b e : Expr} {pos p1 : Pos} {d : D} {ds : List D}
/-- x in xs, xs a list of the def's own -/
theorem pb_in_own (B : Bd X K mg N sc k) (i : Nat) {x : Str} (ha : PD X F ρ a d) (ho : ρ[i]? = some (.own ds)) (hN : N[i]? = some x) (hv : Vis sc x) (h1 : SeqAt.shaped d = true) (h2 : SeqAt.shaped (.list ds) = true) (hd : (x == ("__debug__" : Str)) = false := by decide) (hcd : (x == ("__classdict__" : Str)) = false := by decide)
    (hm : behindInMarks .In (.Name x p1) = false := by rfl) : PB X F ρ (.Compare a [.In] [.Name x p1] pos) fun q => q = ds.any fun z => PyData.eqv z d := fun G σ H I Q q =>
  tT_of (pt_cmpR (op_inD B.u65) cE (pe_var (i := i) (by rw [B.hN]; exact hN) (by rw [B.hsc]; exact hv) hd hcd) hm) (ha G σ H I _ fun d' v G1 H1 e I1 s1 r1 => by
    subst e
    obtain ⟨p, vs, k1, k2, _, _, k5⟩ := I1.sl i _ ho
    exact ⟨.ref p, some_join k1, d', ds, (r1.up I1.sub).dp, .lst (SqL.of k2) ((k5.up I1.sub).dp), h1, h2, _, rfl, q _ G1 H1 rfl I1 s1⟩)
/-- == of texts -/
theorem d2_eqS {x y : Str} : D2 rEq (.str x) (.str y) fun d => d = .bool (decide (x = y)) := fun G H v u Q s r1 r2 q => by
  have e1 := r1.strI
  have e2 := r2.strI
  subst e1 e2
  refine ⟨rfl, q _ _ G H rfl (Nx.refl s) ?_⟩
  have : decide (V.str x = V.str y) = decide (x = y) := by
    by_cases h : x = y
    · simp [h]
    · simp [h]
  rw [this]
  exact .bl _
theorem d2_neS {x y : Str} : D2 rNe (.str x) (.str y) fun d => d = .bool (!decide (x = y)) := fun G H v u Q s r1 r2 q => by
  have e1 := r1.strI
  have e2 := r2.strI
  subst e1 e2
  refine ⟨rfl, q _ _ G H rfl (Nx.refl s) ?_⟩
  have : decide (V.str x = V.str y) = decide (x = y) := by
    by_cases h : x = y
    · simp [h]
    · simp [h]
  rw [this]
  exact .bl _
theorem pd_eqS {x y : Str} (ha : PD X F ρ a (.str x)) (hb : PD X F ρ b (.str y)) : PD X F ρ (.Compare a [.Eq] [b] pos) (.bool (decide (x = y))) := pd_cmp op_eq ha hb d2_eqS (nomark _)
theorem pb_neS {x y : Str} (ha : PD X F ρ a (.str x)) (hb : PD X F ρ b (.str y)) : PB X F ρ (.Compare a [.NotEq] [b] pos) fun q => q = !decide (x = y) := pb_cmp1 op_ne ha hb d2_neS (nomark _)
/-! the list that a def may change: read, lengthened -/
/-- what that object holds: a list -/
def ListR : List D → Hp → Hp → Addr → Prop := fun c G H a => ∃ vs, H a = some (.lst vs) ∧ RpA G vs c
theorem ListR.mv : ∀ c G H a G' H', ListR c G H a → H' a = H a → Same G G' → ListR c G' H' a := fun c G H a G' H' ⟨vs, h1, h2⟩ e s => ⟨vs, by rw [e]; exact h1, h2.up s⟩
theorem res_at (hR : ∀ c G H a, F.R c G H a → ListR c G H a) (I : SI F ρ G σ H) {i : Nat} {c : List D} (e : ρ[i]? = some (.res c)) : ∃ p vs, σ[i]? = some (some (.ref p)) ∧ F.w = some p ∧ G p = none ∧ H p = some (.lst vs) ∧ RpA G vs c := by
  obtain ⟨p, h1, h2, h3, h4⟩ := I.sl i _ e
  obtain ⟨vs, h5, h6⟩ := hR _ _ _ _ h4
  exact ⟨p, vs, some_join h1, h2, h3, h5, h6⟩
theorem pd_len_res (B : Bd X K mg N sc k) (T : Bt mg) (hR : ∀ c G H a, F.R c G H a → ListR c G H a) (i : Nat) {x : Str} {p : Pos} {c : List D} (ho : ρ[i]? = some (.res c)) (hN : N[i]? = some x) (hv : Vis sc x) (hg : sc.names.lookup ("len" : Str) = some .globalImplicit) (hd : (x == ("__debug__" : Str)) = false := by decide) (hcd : (x == ("__classdict__" : Str)) = false := by decide)
    (hs : starEach [.Name x p1] X.env = (false, eval (.Name x p1) X.env) :: starEach [] X.env := by rfl) (hpl : (backTo pos (starEach [] X.env)).any (·.1) = false := by rfl) : PD X F ρ (.Call (.Name "len" p) [.Name x p1] [] pos) (.int c.length) := fun G σ H I Q q => by
  obtain ⟨l, vs, h1, h2, h3, h4, h5⟩ := res_at hR I ho
  exact tE_of (pe_callB call_len_seq (B.gl hg) (by rw [B.hmg]; exact T.len) PySem.boot_len (pa_cons (pe_var (i := i) (by rw [B.hN]; exact hN) (by rw [B.hsc]; exact hv) hd hcd) pa_nil hs) (by decide) (by decide) hs hpl)
    ⟨.ref l, h1, l, vs, rfl, .inl (SqL.of h4), q _ _ G H rfl I Stp.refl (by rw [h5.len]; exact .int _)⟩
/-- xs != [] -/
theorem pb_ne_res (B : Bd X K mg N sc k) (hR : ∀ c G H a, F.R c G H a → ListR c G H a) (i : Nat) {x : Str} {p2 : Pos} {c : List D} (ho : ρ[i]? = some (.res c)) (hN : N[i]? = some x) (hv : Vis sc x) (h1 : SeqAt.shaped (.list c) = true) (h2 : SeqAt.shaped (.list []) = true) (hd : (x == ("__debug__" : Str)) = false := by decide) (hcd : (x == ("__classdict__" : Str)) = false := by decide) :
    PB X F ρ (.Compare (.Name x p1) [.NotEq] [.List [] p2] pos) fun q => q = !PyData.eqv (.list c) (.list []) := fun G σ H I Q q => by
  obtain ⟨l, vs, k1, k2, k3, k4, k5⟩ := res_at hR I ho
  refine tT_of (pt_cmpR (op_neD B.u64) (pe_var (i := i) (by rw [B.hN]; exact hN) (by rw [B.hsc]; exact hv) hd hcd) (pe_lst pa_nil) (nomark _)) ⟨.ref l, k1, Nat.zero_le _, fun p hp => ?_⟩
  have n := Nx.loose (o := .lst []) I.sub hp
  exact ⟨.list c, .list [], .lst (SqL.of (n.same _ _ k4)) (((k5.up I.sub).up n.same).dp), .lst (SqL.of upd_same) .nil, h1, h2, _, rfl, q _ G _ rfl (I.nx n) (I.stp n)⟩
/-- xs[n] -/
theorem pd_ix_res (B : Bd X K mg N sc k) (hR : ∀ c G H a, F.R c G H a → ListR c G H a) (i : Nat) {x : Str} {c : List D} {n j1 : Nat} {p2 : Pos} (ho : ρ[i]? = some (.res c)) (hN : N[i]? = some x) (hv : Vis sc x) (h : c[n]? = some d) (hs : PlainIx (.Constant (.int (n : Int)) j1 p2) := by exact fun _ _ => rfl) (hd : (x == ("__debug__" : Str)) = false := by decide) (hcd : (x == ("__classdict__" : Str)) = false := by decide) :
    PD X F ρ (.Subscript (.Name x p1) (.Constant (.int (n : Int)) j1 p2) pos) d := fun G σ H I Q q => by
  obtain ⟨l, vs, k1, k2, k3, k4, k5⟩ := res_at hR I ho
  obtain ⟨v, e, rv⟩ := k5.get h
  exact tE_of (pe_ix ix_list (pe_var (i := i) (by rw [B.hN]; exact hN) (by rw [B.hsc]; exact hv) hd hcd) pe_int hs) ⟨.ref l, k1, l, vs, (n : Int), v, rfl, rfl, SqL.of k4, atI_nat e, q d v G H rfl I Stp.refl rv⟩
/-- xs.append(e) -/
theorem s_app_res (B : Bd X K mg N sc k) (hR : ∀ c G H a, F.R c G H a ↔ ListR c G H a) (i : Nat) {x : Str} {c : List D} {P : D → Prop} {p2 apos : Pos} (ho : ρ[i]? = some (.res c)) (hone : ∀ (j : Nat) (c' : List D), j ≠ i → ρ[j]? ≠ some (.res c')) (hN : N[i]? = some x) (hx : Vis sc x) (h : PN X F ρ e P) (hsz : c.length < sizeLine)
    (hn : (x == ("__debug__" : Str)) = false := by decide) (hcd : (x == ("__classdict__" : Str)) = false := by decide)
    (hb : attributeBase (.Name x p1) "append" X.env (eval (.Name x p1) X.env) = eval (.Name x p1) X.env := by rfl)
    (hfew : ((backTo p2 (starEach [e] X.env)).all (fun x => !x.1) && (backToKw p2 (keywordEach [] X.env)).all (fun x => x.1.isSome)
      && decide ([e].length + ([] : List Keyword).length + (if ([] : List Keyword).isEmpty then 0 else 1) < 30)) = true := by rfl)
    (hl : (apos.endLine == p2.line) = true := by rfl) (hst : starEach [e] X.env = (false, eval e X.env) :: starEach [] X.env := by rfl) (hpl : (backTo p2 (starEach [] X.env)).any (·.1) = false := by rfl)
    (hs : swapsWith (.Call (.Attribute (.Name x p1) "append" apos) [e] [] p2) none pos.line X.env = pure false := by rfl) :
    S1 X F ρ (.Expr (.Call (.Attribute (.Name x p1) "append" apos) [e] [] p2) pos) (fun ρ' => ∃ d, P d ∧ ρ' = ρ.set i (.res (c ++ [d]))) R := fun G σ H I E n r => by
  obtain ⟨p, vs, h1, h2, h3, h4, h5⟩ := res_at (fun c G H a => (hR c G H a).mp) I ho
  refine tS_of (ps_expr (pe_bm PySem.F.plainAttrs_list PySem.F.slot_list_append PySem.F.type_list_append mt_append (pe_var (i := i) (by rw [B.hN]; exact hN) (by rw [B.hsc]; exact hx) hn hcd) (pa_cons cE pa_nil hst) hb hfew hl hst hpl) hs) ?_
  refine ⟨.ref p, h1, .inl ⟨rfl, vs, SqL.of h4⟩, h G σ H I _ fun d v G' H' pd I' s' rv => ?_⟩
  obtain ⟨p', ws, k1, k2, k3, k4, k5⟩ := res_at (fun c G H a => (hR c G H a).mp) I' ho
  rw [h1] at k1
  cases k1
  have nh : ∀ {b : Addr}, F.H0 b = none → b ≠ p := fun z q => F.hw p k2 (q ▸ z)
  refine ⟨p, ws, v, rfl, rfl, k4, by rw [k5.len]; exact hsz, n _ G' σ _ ⟨d, pd, rfl⟩ ⟨fun b u q => ?_, fun b u q z => ?_, fun b z => ?_, I'.old, by rw [List.length_set]; exact I'.len, fun j s q => ?_⟩ s'.up⟩
  · rw [upd_ne (ne_of_none q k3)]; exact I'.sub b u q
  · rw [upd_ne (fun y => z (by rw [y]; exact k2))]; exact I'.keep b u q z
  · rw [k2] at z
    cases z
    rw [upd_same]
    exact fun y => nomatch y
  · by_cases z : i = j
    · subst z
      rw [List.getElem?_set_self (List.getElem?_eq_some_iff.mp ho).1] at q
      cases q
      refine ⟨p, ?_, k2, k3, (hR _ _ _ _).mpr ⟨ws ++ [v], upd_same, k5.app (.one rv)⟩⟩
      rw [h1]; rfl
    · rw [List.getElem?_set_ne z] at q
      have kk := I'.sl j s q
      cases s with
      | un => trivial
      | dat d => exact kk
      | own es =>
        obtain ⟨b, us, e1, e2, e3, e4, e5⟩ := kk
        exact ⟨b, us, e1, by rw [upd_ne (nh e4)]; exact e2, e3, e4, e5⟩
      | res c' => exact absurd q (hone j c' (Ne.symm z))
      | dic ks =>
        obtain ⟨b, e1, e2, e3, e4⟩ := kk
        exact ⟨b, e1, by rw [upd_ne (nh e4)]; exact e2, e3, e4⟩
end
end Pd
/-! Pd11: zip, ranges with two and three bounds. -/
namespace Pd
open PySem PySem.Spec PyProof.Rows L2
def stI (lo c : Int) (n : Nat) : List Int := (List.range n).map fun (i : Nat) => lo + (i : Int) * c
theorem stI_len (lo c : Int) (n : Nat) : (stI lo c n).length = n := by unfold stI; rw [List.length_map, List.length_range]
theorem stI_get {lo c : Int} {n j : Nat} {i : Int} (e : (stI lo c n)[j]? = some i) : j < n ∧ i = lo + (j : Int) * c := by
  unfold stI at e
  rw [List.getElem?_map] at e
  by_cases h : j < n
  · rw [List.getElem?_range h] at e
    exact ⟨h, (Option.some.inj e).symm⟩
  · rw [List.getElem?_eq_none (by rw [List.length_range]; omega)] at e
    cases e
def upI (lo : Int) (n : Nat) : List Int := (List.range n).map fun (i : Nat) => lo + (i : Int)
theorem upI_len (lo : Int) (n : Nat) : (upI lo n).length = n := by unfold upI; rw [List.length_map, List.length_range]
theorem upI_get {lo : Int} {n j : Nat} {i : Int} (e : (upI lo n)[j]? = some i) : j < n ∧ i = lo + (j : Int) := by
  unfold upI at e
  rw [List.getElem?_map] at e
  by_cases h : j < n
  · rw [List.getElem?_range h] at e
    exact ⟨h, (Option.some.inj e).symm⟩
  · rw [List.getElem?_eq_none (by rw [List.length_range]; omega)] at e
    cases e
theorem map_at {α β : Type} {f : α → β} {l : List α} {i : Nat} {y : β} (h : (l.map f)[i]? = some y) : ∃ x, l[i]? = some x ∧ y = f x := by
  rw [List.getElem?_map] at h
  cases e : l[i]? with
  | none => rw [e] at h; cases h
  | some x => rw [e] at h; exact ⟨x, rfl, (Option.some.inj h).symm⟩
section
variable {X : Cx} {F : Fx} {ρ : Ev} {G H : Hp} {σ : L2.St} {es : List Expr} {i j : Int} {xs ys : List D} {K : PySem.W.Frag}
theorem walks_up {G1 : Hp} {lo : Int} {n : Nat} : Walks (Itr lo n) G1 ((upI lo n).map .int) := fun G' H' s1 s2 j => by
  have hl : ((upI lo n).map PyData.int).length = n := by rw [List.length_map, upI_len]
  refine ⟨fun hj => by rw [hl] at hj; exact hj, fun hj => by rw [hl] at hj; exact hj, fun x H'' d e y => ?_⟩
  obtain ⟨rfl, rfl⟩ := y
  obtain ⟨k, e1, rfl⟩ := map_at e
  obtain ⟨_, rfl⟩ := upI_get e1
  exact ⟨G', Nx.refl s2, .int _⟩
theorem walks_st {G1 : Hp} {lo c : Int} {n : Nat} : Walks (Itc lo c n) G1 ((stI lo c n).map .int) := fun G' H' s1 s2 j => by
  have hl : ((stI lo c n).map PyData.int).length = n := by rw [List.length_map, stI_len]
  refine ⟨fun hj => by rw [hl] at hj; exact hj, fun hj => by rw [hl] at hj; exact hj, fun x H'' d e y => ?_⟩
  obtain ⟨rfl, rfl⟩ := y
  obtain ⟨k, e1, rfl⟩ := map_at e
  obtain ⟨_, rfl⟩ := stI_get e1
  exact ⟨G', Nx.refl s2, .int _⟩
/-- range(i, j) -/
theorem dw_range2 {n : Nat} (h : PDs X F ρ es [.int i, .int j]) (hn : (j - i).toNat = n) (h0 : -(2 ^ 62) ≤ i) (h1 : i < 2 ^ 62) (h2 : -(2 ^ 62) ≤ j) (h3 : j < 2 ^ 62) : DW F ρ (iRng2 (tA X es)) ((upI i n).map .int) := fun G σ H I R q => h G σ H I _ fun d v G1 H1 e I1 s1 r1 => by
  subst e
  subst hn
  cases r1 with
  | cons r rr =>
    cases rr with
    | cons r' rr =>
      cases rr
      cases r
      cases r'
      exact ⟨i, j, rfl, ⟨h0, h1, h2, h3⟩, q _ G1 H1 I1 s1 walks_up⟩
/-- range(i, j, -1) -/
theorem dw_down {n : Nat} (h : PDs X F ρ es [.int i, .int j, .int (-1)]) (hn : (i - j).toNat = n) (h0 : -(2 ^ 62) ≤ i) (h1 : i < 2 ^ 62) (h2 : -(2 ^ 62) ≤ j) (h3 : j < 2 ^ 62) : DW F ρ (iRng3 (tA X es)) ((stI i (-1) n).map .int) := fun G σ H I R q => h G σ H I _ fun d v G1 H1 e I1 s1 r1 => by
  subst e
  subst hn
  cases r1 with
  | cons r rr =>
    cases rr with
    | cons r' rr =>
      cases rr with
      | cons r'' rr =>
        cases rr
        cases r
        cases r'
        cases r''
        exact ⟨i, j, -1, (i - j).toNat, rfl, RgC.neg h0 h1 h2 h3, q _ G1 H1 I1 s1 walks_st⟩
theorem pd_neg {a : Expr} {pos : Pos} (ha : PD X F ρ a (.int i)) : PD X F ρ (.UnaryOp .USub a pos) (.int (-i)) :=
  pn_un un_neg ha fun x e => by
    subst e
    exact fun G H v Q s r q => ⟨i, r.intI, q _ _ G H rfl (Nx.refl s) (.int _)⟩
/-- zip(xs, ys) -/
def zipD (xs ys : List D) : List D := List.zipWith (fun x y => .tuple [x, y]) xs ys
theorem zipD_get {k : Nat} {d : D} (e : (zipD xs ys)[k]? = some d) : ∃ x y, xs[k]? = some x ∧ ys[k]? = some y ∧ d = .tuple [x, y] := by
  unfold zipD at e
  rw [List.getElem?_zipWith] at e
  cases hx : xs[k]? with
  | none => rw [hx] at e; cases e
  | some x =>
    cases hy : ys[k]? with
    | none => rw [hx, hy] at e; cases e
    | some y => rw [hx, hy] at e; exact ⟨x, y, rfl, rfl, (Option.some.inj e).symm⟩
theorem walks_zip {G1 : Hp} {a b : Addr} {vs us : List V} (ha : G1 a = some (.lst vs)) (ra : RpA G1 vs xs) (hb : G1 b = some (.lst us)) (rb : RpA G1 us ys) : Walks (Itz K a b) G1 (zipD xs ys) := fun G' H' s1 s2 j => by
  have hA : SqL K H' a vs := SqL.of (s2 a _ (s1 a _ ha))
  have hB : SqL K H' b us := SqL.of (s2 b _ (s1 b _ hb))
  have hl : (zipD xs ys).length = min xs.length ys.length := List.length_zipWith
  refine ⟨fun hj => ?_, fun hj => ?_, fun x H'' d e y => ?_⟩
  · rw [hl] at hj
    obtain ⟨v, e1, _⟩ := ra.get (List.getElem?_eq_getElem (show j < xs.length by omega))
    obtain ⟨u, e2, _⟩ := rb.get (List.getElem?_eq_getElem (show j < ys.length by omega))
    exact ⟨vs, us, v, u, hA, hB, e1, e2⟩
  · rw [hl] at hj
    refine ⟨vs, us, hA, hB, ?_⟩
    rw [ra.len, rb.len]
    omega
  · obtain ⟨T, v, u, rfl, hT, rfl, f1, f2⟩ := y
    obtain ⟨dx, dy, ex, ey, rfl⟩ := zipD_get e
    obtain ⟨v', e1, r1⟩ := ra.get ex
    obtain ⟨u', e2, r2⟩ := rb.get ey
    have g1 := f1 vs hA
    have g2 := f2 us hB
    rw [e1] at g1
    rw [e2] at g2
    cases g1
    cases g2
    have n := Nx.new (o := .tup [v, u]) s2 hT
    exact ⟨_, n, .tup upd_same (.cons ((r1.up s1).up (n.up s2)) (.one ((r2.up s1).up (n.up s2))))⟩
theorem dw_zip (h : PDs X F ρ es [.list xs, .list ys]) : DW F ρ (iZip X.K (tA X es)) (zipD xs ys) := fun G σ H I R q => h G σ H I _ fun d v G1 H1 e I1 s1 r1 => by
  subst e
  cases r1 with
  | cons r rr =>
    cases rr with
    | cons r' rr =>
      cases rr
      obtain ⟨a, vs, rfl, h1, h2⟩ := r.listI
      obtain ⟨b, us, rfl, h3, h4⟩ := r'.listI
      exact ⟨a, b, vs, us, rfl, SqL.of (I1.sub _ _ h1), SqL.of (I1.sub _ _ h3), q _ G1 H1 I1 s1 (walks_zip h1 h2 h3 h4)⟩
theorem zipD_map {α : Type} (f g : α → D) : ∀ l : List α, zipD (l.map f) (l.map g) = l.map fun a => .tuple [f a, g a]
  | [] => rfl
  | a :: l => by
    have := zipD_map f g l
    unfold zipD at *
    rw [List.map_cons, List.map_cons, List.map_cons, List.zipWith_cons_cons, this]
end
end Pd
/-! Pd12: enumerate over a tuple. -/
namespace Pd
open PySem PySem.Spec PyProof.Rows L2
set_option maxHeartbeats 1000000 in
theorem enumT_meets {x : Value} {ob : Obj} {Hq : Heap → Prop} (Bg : Begins x ob Hq) :
    Meets (Builtin.«enumerate.__new__» ⟨[.type "enumerate", x], []⟩) (fun _ R s => Hq s.heap ∧ R (.ok (.ret (.ref (s.heap.push ob).objs.size)))
      { s with heap := (s.heap.push ob).push { cls := .type "enumerate", data := .fields #[.none, .bool false, .ref s.heap.objs.size, rawInt 0, .none, .none] } }) :=
  .of_wp fun prog w A R s h => by
    obtain ⟨hp, g, d, tk, os⟩ := s
    obtain ⟨k1, k2⟩ := h
    have sub := sub_enumerate
    have it : ∀ {A' : Around} {E : Value → Shared → Prop} {Q : Value → Shared → Prop}, Q (.ref hp.objs.size) ⟨hp.push ob, g, d, tk, os⟩ → wpAny (model prog w) A' (pyIter x) Q E ⟨hp, g, d, tk, os⟩ := fun q => Bg.iter prog w _ _ ⟨hp, g, d, tk, os⟩ _ k1 q
    wp_walk using it
    refine wpAny_stack_any fun stk => wpAny_pure ?_
    split
    · rename_i c _ _ _ _ _
      cases (c == Value.type "enumerate") <;> (wp_walk using it; exact ⟨_, rfl, k2⟩)
    · wp_walk using it
      exact ⟨_, rfl, k2⟩
theorem enumT_call {prog : Program} {w : World} {A : Around} {E : Value → Shared → Prop} {s : Shared} {a : Addr} {items : Array Value} {Q : Value → Shared → Prop} (ht : s.heap.IsTuple a items)
    (h : ∀ h', IsEnum h' (s.heap.objs.size + 1) s.heap.objs.size 0 .none → h'.IsTupleIter s.heap.objs.size a 0 → (∀ b o, s.heap.get? b = some o → h'.get? b = some o) → Q (.ref (s.heap.objs.size + 1)) { s with heap := h' }) :
    wpAny (model prog w) A (call (.type "enumerate") [.ref a]) Q E s := by
  refine callType_new F.called_enumerate (by decide) (F.typeCall_enumerate_1 _) (F.newCall_enumerate_1 _) (fun ob => F.args_object_init_2 ob _) F.entry_enumerate_new (enumT_meets (begins_tuple a items)) ⟨ht, ?_⟩
  have z : (s.heap.push { cls := .type "tuple_iterator", data := .fields #[.ref a, .int 0 0] }).objs.size = s.heap.objs.size + 1 := Heap.size_push ..
  show _ ∧ _
  rw [z]
  have e : IsEnum ((s.heap.push { cls := .type "tuple_iterator", data := .fields #[.ref a, .int 0 0] }).push { cls := .type "enumerate", data := .fields #[.none, .bool false, .ref s.heap.objs.size, rawInt 0, .none, .none] }) (s.heap.objs.size + 1) s.heap.objs.size 0 .none := by
    have q := Heap.get?_push_size (s.heap.push { cls := .type "tuple_iterator", data := .fields #[.ref a, .int 0 0] }) (o := { cls := .type "enumerate", data := .fields #[.none, .bool false, .ref s.heap.objs.size, rawInt 0, .none, .none] }) rfl
    rw [z] at q
    exact q
  exact ⟨⟨_, e, rfl⟩, h _ e ⟨_, Heap.get?_push_of_some _ (Heap.get?_push_size _ rfl), rfl, rfl⟩ fun b o y => Heap.get?_push_of_some _ (Heap.get?_push_of_some _ y)⟩
/-- the tuple at a, each item in a new pair -/
def IteT (K : PySem.W.Frag) (a : Addr) : It :=
  ⟨fun i H => ∃ (xs : List V) (x : V), SqT K H a xs ∧ xs[i]? = some x, fun i H v H' => ∃ T x, v = .ref T ∧ H T = none ∧ H' = upd H T (.tup [.int (i : Nat), x]) ∧ ∀ xs, SqT K H a xs → xs[i]? = some x, fun i H => ∃ xs : List V, SqT K H a xs ∧ xs.length ≤ i⟩
def StT (e it a : Addr) (i : Nat) (h : Heap) : Prop := (∃ old, IsEnum h e it ((i : Nat) : Int) old) ∧ h.IsTupleIter it a i ∧ e ≠ it ∧ a ≠ it ∧ e ≠ a
theorem turn_enumT {P : Program} {w : World} {K : PySem.W.Frag} {elts : List Expr} {kk : Nat} {tpos : Pos} (a e it : Addr) : Turn P w K (.Tuple elts kk tpos) (IteT K a) [e, it] e (StT e it a) where
  mem := by simp
  obj := fun i h st b hb => by
    obtain ⟨⟨old, he⟩, ⟨o, ho, _, hd⟩, _⟩ := st
    rcases (show b = e ∨ b = it by simpa using hb) with z | z
    · rw [z]
      exact ⟨_, he, fun v q => nomatch q⟩
    · rw [z]
      exact ⟨o, ho, fun v q => by rw [hd] at q; cases q⟩
  keep := fun i h h' st k => let ⟨⟨old, he⟩, hi, hne⟩ := st; ⟨⟨old, k e (by simp) _ he⟩, hi.at fun o q => k it (by simp) o q, hne⟩
  item := by
    intro X hP hw hK hc i pins s σ H E I hf st hg
    subst hP hw hK
    obtain ⟨⟨old, he⟩, hit, hne, hai, hea⟩ := st
    obtain ⟨xs, x, hq, hx⟩ := hg
    obtain ⟨its, rv, p, hz⟩ := I.tuple hq
    obtain ⟨u, hu, ru⟩ := rv.get hx
    have lte : e < s.heap.objs.size := Heap.lt_size he
    have ltit : it < s.heap.objs.size := by obtain ⟨_, q, _⟩ := hit; exact Heap.lt_size q
    have lti : i < its.toArray.size := by
      obtain ⟨q, _⟩ := List.getElem?_eq_some_iff.mp hu
      simpa using q
    refine wpAny_pyNext_enum_itemD (Draws.tuple (A := X.A.in1) (show X.A.in1.handled = none from I.ok.hd hc) it a hai its.toArray) he (show s.heap.IsTupleIter it a i ∧ s.heap.IsTuple a its.toArray from ⟨hit, p⟩) lti hne (by simp [hne, hea]) fun y h' tk hy ho hst hT hsz hk => ?_
    have ey : y = u := by
      have q : its.toArray[i]? = some u := by simpa using hu
      rw [q] at hy
      exact (Option.some.inj hy).symm
    subst ey
    refine ⟨_, rfl, wpAny_letOwnedTupleGo_enum (s := { s with heap := h', toks := tk + 1 }) ho fun h'' he' sb => ?_⟩
    have hT2 : h''.get? s.heap.objs.size = some { cls := .type "tuple", data := .seq #[.int i tk, y] } := (sb.2 _ (Nat.ne_of_gt lte)).trans hT
    have new : ObjOk X.prog X.w (upd H s.heap.objs.size (.tup [.int (i : Nat), x])) h'' s.heap.objs.size (.tup [.int (i : Nat), x]) := ⟨by show 2 ≤ sizeLine; decide, [.int i tk, y], .cons ⟨_, rfl⟩ (.cons ru .nil), ⟨_, hT2, rfl, _, rfl⟩⟩
    have I1 : Inv X pins σ (upd H s.heap.objs.size (.tup [.int (i : Nat), x])) { s with heap := h'', toks := tk + 1 } :=
      I.turnedNew (ch := [e, it]) (fun b ob hb q => (sb.2 b (fun z => hb (by simp [z]))).trans (hk b ob (fun z => hb (by simp [z])) (fun z => hb (by simp [z])) q)) hf (Nat.le_refl _) new
    have e1 : ((i + 1 : Nat) : Int) = (i : Int) + 1 := by omega
    refine ⟨.ref s.heap.objs.size, _, I1, rfl, ⟨_, x, rfl, I.hok.fresh (Nat.le_refl _), rfl, fun ys hy => ?_⟩, ⟨⟨y, by rw [e1]; exact he'⟩, hst.1.at fun o q => (sb.2 it (Ne.symm hne)).trans q, hne, hai, hea⟩, fun b hb => ?_⟩
    · rw [I.tuple_inj hy hq]
      exact hx
    · have hb' : b < s.heap.objs.size := by
        rcases (show b = e ∨ b = it by simpa using hb) with z | z
        · rw [z]; exact lte
        · rw [z]; exact ltit
      rw [upd_ne (Nat.ne_of_lt hb')]
      exact (hf b hb).1
  done := by
    intro X hP hw hK hc i pins s σ H E I hf st hg
    subst hP hw hK
    obtain ⟨⟨old, he⟩, hit, hne, hai, hea⟩ := st
    obtain ⟨xs, hq, hx⟩ := hg
    obtain ⟨its, rv, p, hz⟩ := I.tuple hq
    obtain ⟨f0, f1, f2, f3, f4, f5⟩ := hf it (by simp)
    have hl := rv.length
    have hn : its.toArray[i]? = none := by simp; omega
    have D : Draws X.prog X.w X.A.in1 it [it, a] i (fun _ _ => True) (fun k h => k = i ∧ h.IsTupleIter it a i ∧ h.IsTuple a its.toArray) :=
      ⟨fun _ _ st => let ⟨o, ho, _⟩ := st.2.1; ⟨o, ho⟩, fun _ _ _ st hk => ⟨st.1, st.2.1.at fun o q => hk it (by simp) o q, st.2.2.at fun o q => hk a (by simp) o q⟩,
        fun k s Q E hi st hQ => absurd st.1 (Nat.ne_of_lt hi), fun s Q E st hE => wpAny_nextOf_tuple_end (show X.A.in1.handled = none from I.ok.hd hc) st.2.1 st.2.2 hn hE⟩
    exact wpAny_pyNext_enum_endD D he ⟨rfl, hit, p⟩ fun h' eb => ⟨rfl, I.turned (t' := s.toks) (fun b o hb q => eb b o hb q) f0 f1 f3 f4 f5⟩
  self := fun A i s Q E st h => let ⟨⟨_, he⟩, _⟩ := st; wpAny_pyIter_enum he h
def iEnumT (K : PySem.W.Frag) (ta : TA) : TI := fun σ H R => ta σ H fun vs H1 => ∃ a xs, vs = [.ref a] ∧ SqT K H1 a xs ∧ R (IteT K a) H1
theorem pi_enumT {X : Cx} {e : Expr} {ta : TA} {p pos tpos : Pos} {elts : List Expr} {kk : Nat} (hg : Gl X "enumerate") (hm : X.mg "enumerate" = none) (ha : PA X [e] ta) (hs : starEach [e] X.env = [(false, eval e X.env)] := by rfl) :
    PI X (.Tuple elts kk tpos) (.Call (.Name "enumerate" p) [e] [] pos) (iEnumT X.K ta) := by
  refine ⟨fun pins s σ H R I h => Call_ (ld_blt I hg hm boot_enumerate (PyProof.Rows.callWith_type1 (thn (ha.run pos pins s σ H _ I h) fun us s1 ⟨vs, H1, I1, r1, q1⟩ => ?_) hs rfl))⟩
  obtain ⟨a, xs, ex, hq, q⟩ := q1
  subst ex
  cases r1 with
  | cons r rr =>
    cases rr
    cases r
    obtain ⟨its, rv, tp, hz⟩ := I1.tuple hq
    have la : a < s1.heap.objs.size := by obtain ⟨_, z, _⟩ := tp; exact Heap.lt_size z
    refine enumT_call (show s1.heap.IsTuple a its.toArray from tp) fun h' he hit hk => wpAny_pyIter_enum he ?_
    refine ⟨s1.heap.objs.size + 1, [s1.heap.objs.size + 1, s1.heap.objs.size], _, _, H1, rfl, I1.kept (t' := s1.toks) hk, turn_enumT a (s1.heap.objs.size + 1) s1.heap.objs.size, ⟨⟨.none, he⟩, hit, Nat.succ_ne_self _, Nat.ne_of_lt la, Nat.ne_of_gt (Nat.lt_succ_of_lt la)⟩, fun b hb => ?_, q⟩
    have lb : s1.heap.objs.size ≤ b := by
      rcases (show b = s1.heap.objs.size + 1 ∨ b = s1.heap.objs.size by simpa using hb) with z | z <;> rw [z]
      · exact Nat.le_succ _
      · exact Nat.le_refl _
    exact I1.fpOk lb (I1.hok.fresh lb)
section
variable {X : Cx} {F : Fx} {ρ : Ev} {es : List Expr} {ds : List D} {K : PySem.W.Frag}
def enumD (ds : List D) : List D := zipD ((List.range ds.length).map fun (i : Nat) => PyData.int (i : Nat)) ds
theorem enumD_len (ds : List D) : (enumD ds).length = ds.length := by
  unfold enumD zipD
  rw [List.length_zipWith, List.length_map, List.length_range, Nat.min_self]
theorem enumD_get {j : Nat} {d : D} (e : (enumD ds)[j]? = some d) : ∃ x, ds[j]? = some x ∧ d = .tuple [.int (j : Nat), x] := by
  obtain ⟨u, x, h1, h2, rfl⟩ := zipD_get e
  obtain ⟨i, h3, rfl⟩ := map_at h1
  have hj : j < ds.length := (List.getElem?_eq_some_iff.mp h2).1
  rw [List.getElem?_range hj] at h3
  cases h3
  exact ⟨x, h2, rfl⟩
theorem walks_enumT {G1 : Hp} {a : Addr} {vs : List V} (ha : G1 a = some (.tup vs)) (ra : RpA G1 vs ds) : Walks (IteT K a) G1 (enumD ds) := fun G' H' s1 s2 j => by
  have hA : SqT K H' a vs := SqT.of (s2 a _ (s1 a _ ha))
  rw [enumD_len]
  refine ⟨fun hj => ?_, fun hj => ⟨vs, hA, by rw [ra.len]; exact hj⟩, fun x H'' d e y => ?_⟩
  · obtain ⟨v, e1, _⟩ := ra.get (List.getElem?_eq_getElem hj)
    exact ⟨vs, v, hA, e1⟩
  · obtain ⟨T, v, rfl, hT, rfl, f1⟩ := y
    obtain ⟨dx, ex, rfl⟩ := enumD_get e
    obtain ⟨v', e1, r1⟩ := ra.get ex
    have g1 := f1 vs hA
    rw [e1] at g1
    cases g1
    have n := Nx.new (o := .tup [.int (j : Nat), v]) s2 hT
    exact ⟨_, n, .tup upd_same (.cons (.int _) (.one ((r1.up s1).up (n.up s2))))⟩
theorem dw_enumT (h : PDs X F ρ es [.tuple ds]) : DW F ρ (iEnumT X.K (tA X es)) (enumD ds) := fun G σ H I R q => h G σ H I _ fun d v G1 H1 e I1 s1 r1 => by
  subst e
  cases r1 with
  | cons r rr =>
    cases rr
    obtain ⟨a, vs, rfl, h1, h2⟩ := r.tupI
    exact ⟨a, vs, rfl, SqT.of (I1.sub _ _ h1), q _ G1 H1 I1 s1 (walks_enumT h1 h2)⟩
end
end Pd
/-! Pd13: a dict of the def's own: in, update; t < u. -/
namespace Pd
open PySem PySem.Spec PyProof.Rows L2
/-! d.update(e), two dicts with keys ints -/
section
variable {X : Cx} {pins : List (Addr × Obj)} {σ : L2.St} {H : Hp} {s : Shared} {a b : Addr} {kvs more : List (Key × V)} {A : Around} {E : Value → Shared → Prop}
theorem dupd_run {Q : Value → Shared → Prop} (I : Inv X pins σ H s) (ea : H a = some (.dK kvs)) (eb : H b = some (.dK more)) (hab : a ≠ b) (hz : kvs.length + more.length ≤ sizeLine) (h : ∀ s', Inv X pins σ (upd H a (.dK (mergeK kvs more))) s' → Q .none s') :
    wpAny (model X.prog X.w) X.A (call (.builtin "dict.update") [.ref a, .ref b]) Q E s := by
  obtain ⟨za, hda, vs, ra, da⟩ := dk_of I.hok ea
  obtain ⟨zb, hdb, rs, rb, db⟩ := dk_of I.hok eb
  refine call_meetsIn PySem.F.slot_dict_update da.typeIs PySem.F.entry_dict_update (PySem.F.args_dict_update_2 _ _) (meets_dict_update (mixKind X.prog X.w) a b hab hdb) ⟨vs, rs, da, db, by rw [← ra.length, ← rb.length]; exact hz, fun h' da' _ hs => h _ ?_⟩
  have he : ∃ q, h'.get? a = some q := let ⟨q, _, _, hq, _⟩ := da'; ⟨q, hq⟩
  exact d_write (t' := s.toks) I (by rw [ea]; exact True.intro) hs he (dk_new (Nat.le_trans (length_mergeK more kvs) hz) hda (rb.merge ra) da')
end
def tDUpd (td te : TE) : TE := fun σ H Q => td σ H fun x H1 => ∃ a, x = .ref a ∧ IsD H1 a ∧ te σ H1 fun y H2 => ∃ b kvs more, y = .ref b ∧ a ≠ b ∧ H2 a = some (.dK kvs) ∧ H2 b = some (.dK more) ∧ kvs.length + more.length ≤ sizeLine ∧ Q .non (upd H2 a (.dK (mergeK kvs more)))
theorem pe_dupd {X : Cx} {o e : Expr} {apos cpos : Pos} {td te : TE} (ho : PE X o td) (he : PE X e te) (m : M1 X o "update" apos e cpos) : PE X (.Call (.Attribute o "update" apos) [e] [] cpos) (tDUpd td te) := by
  refine ⟨fun pins s σ H Q I h => wpAny_Call_method m.base m.few m.line PySem.F.plainAttrs_dict PySem.F.slot_dict_update PySem.F.type_dict_update (thn (ho.run pins s σ H _ I h) fun u s1 ⟨x, H1, I1, rx, a, ex, d, q1⟩ => ?_)⟩
  subst ex
  obtain rfl : u = Value.ref a := rx
  obtain ⟨t1, t2, _⟩ := isD_at I1 d
  refine ⟨t1, t2, ?_⟩
  rw [m.trees]
  refine Calls.callWith_builtin rfl (Calls.evalArgs_plain (Calls.spliced_cons (thn (he.run pins s1 σ H1 _ I1 q1) fun iv s2 ⟨y, H2, I2, ry, b, kvs, more, ey, hab, ea, eb, hz, q2⟩ => Calls.spliced_nil ?_)))
  subst ey
  obtain rfl : iv = Value.ref b := ry
  exact dupd_run I2 ea eb hab hz fun s3 I3 => ⟨.non, _, I3, rfl, q2⟩
/-! such a dict's keys -/
theorem valV_dic (i : Int) : ∀ ks : List Int, valV (dicKv ks) (.inl i) = if i ∈ ks then some (V.bl true) else none
  | [] => rfl
  | k :: ks => by
    have ih := valV_dic i ks
    show valV ((Sum.inl k, V.bl true) :: dicKv ks) _ = _
    by_cases h : k = i
    · subst h
      rw [valV_pos rfl, if_pos List.mem_cons_self]
    · rw [valV_neg (fun z => h (Sum.inl.inj z)), ih]
      have e : (i ∈ k :: ks) = (i ∈ ks) := by
        apply propext
        rw [List.mem_cons]
        exact ⟨fun z => z.elim (fun q => absurd q.symm h) id, .inr⟩
      simp only [e]
theorem dic_add {ks : List Int} {a : Int} (h : a ∉ ks) : putK (dicKv ks) (.inl a) (V.bl true) = dicKv (ks ++ [a]) := by
  rw [putK_new _ (by rw [valV_dic, if_neg h])]
  unfold dicKv
  rw [List.map_append]
  rfl
theorem dic_two {ks : List Int} {a b : Int} (ha : a ∉ ks) (hb : b ∉ ks) (hab : a ≠ b) : mergeK (dicKv ks) [(.inl a, V.bl true), (.inl b, V.bl true)] = dicKv (ks ++ [a, b]) := by
  show putK (putK (dicKv ks) _ _) _ _ = _
  rw [dic_add ha, dic_add (by simp [hb]; exact fun z => hab z.symm), List.append_assoc]
  rfl
section
variable {X : Cx} {F : Fx} {ρ : Ev} {G H : Hp} {σ : L2.St} {K : PySem.W.Frag} {mg : Str → Option Value} {N : List Str} {sc scope : Scope} {k : Nat} {R : D → Ev → Prop} {a b e e1 e2 : Expr} {pos p1 : Pos} {ks : List Int} {n m : Int}
/-- n in d -/
theorem pb_in_dic (B : Bd X K mg N sc k) (i : Nat) {x : Str} (ha : PD X F ρ a (.int n)) (ho : ρ[i]? = some (.dic ks)) (hN : N[i]? = some x) (hv : Vis sc x) (hd : (x == ("__debug__" : Str)) = false := by decide) (hcd : (x == ("__classdict__" : Str)) = false := by decide)
    (hm : behindInMarks .In (.Name x p1) = false := by rfl) : PB X F ρ (.Compare a [.In] [.Name x p1] pos) fun q => q = decide (n ∈ ks) := fun G σ H I Q q =>
  tT_of (pt_cmp (pc_din (by have := B.u64; omega) cE (pe_var (i := i) (by rw [B.hN]; exact hN) (by rw [B.hsc]; exact hv) hd hcd)) hm) (ha G σ H I _ fun d v G1 H1 ed I1 s1 r1 => by
    subst ed
    obtain ⟨p, k1, k2, _⟩ := I1.sl i _ ho
    have ev := r1.intI
    subst ev
    refine ⟨.ref p, some_join k1, p, _, rfl, DGet.k (k := .inl n) k2, (valV (dicKv ks) (.inl n)).isSome, rfl, q _ G1 H1 ?_ I1 s1⟩
    rw [valV_dic]
    by_cases h : n ∈ ks
    · rw [if_pos h, decide_eq_true h]; rfl
    · rw [if_neg h, decide_eq_false h]; rfl)
/-- such an object changes, its slot too -/
theorem SI.writeDic (I : SI F ρ G σ H) {i : Nat} {js : List Int} {p : Addr} (e : ρ[i]? = some (.dic ks)) (hone : ∀ (j : Nat) (ks' : List Int), j ≠ i → ρ[j]? ≠ some (.dic ks')) (h1 : σ[i]?.join = some (.ref p)) : SI F (ρ.set i (.dic js)) G σ (upd H p (.dK (dicKv js))) := by
  obtain ⟨a, e1, e2, e3, e4⟩ := I.sl i _ e
  rw [h1] at e1
  cases e1
  have hi : i < ρ.length := (List.getElem?_eq_some_iff.mp e).1
  have W : SI F (ρ.set i .un) G σ H := I.weak (by rw [List.length_set]) fun j s q => by
    by_cases z : i = j
    · subst z
      rw [List.getElem?_set_self hi] at q
      exact .inl (Option.some.inj q).symm
    · rw [List.getElem?_set_ne z] at q
      exact .inr q
  have A : Apart F (ρ.set i .un) σ p := by
   refine ⟨fun z => F.hw p z e4, e4, fun j fs q z => ?_, fun j ks' q => ?_⟩
   ·
     by_cases y : i = j
     · subst y
       rw [List.getElem?_set_self hi] at q
       cases q
     · rw [List.getElem?_set_ne y] at q
       obtain ⟨c, us, f1, f2, _⟩ := I.sl j _ q
       rw [z] at f1
       cases f1
       rw [e2] at f2
       cases f2
   · by_cases y : i = j
     · subst y
       rw [List.getElem?_set_self hi] at q
       cases q
     · rw [List.getElem?_set_ne y] at q
       exact absurd q (hone j ks' (Ne.symm y))
  have T := W.touch A e3 (.dK (dicKv js))
  have hs : σ.set i (some (.ref p)) = σ := by
    have q := some_join h1
    obtain ⟨hl, e5⟩ := List.getElem?_eq_some_iff.mp q
    rw [← e5]
    exact List.set_getElem_self hl
  have S := T.set (i := i) (s := .dic js) (v := .ref p) ⟨p, rfl, upd_same, e3, e4⟩
  rw [List.set_set, hs] at S
  exact S
/-- d.update({n: True, m: True}) -/
theorem s_dupd (B : Bd X K mg N sc k) (i : Nat) {x : Str} {apos cpos dpos q1 q2 : Pos} {j1 j2 : Nat} (ho : ρ[i]? = some (.dic ks)) (hone : ∀ (j : Nat) (ks' : List Int), j ≠ i → ρ[j]? ≠ some (.dic ks')) (hN : N[i]? = some x) (hv : Vis sc x) (h1 : PD X F ρ e1 (.int n)) (h2 : PD X F ρ e2 (.int m))
    (hn : n ∉ ks) (hm : m ∉ ks) (hnm : n ≠ m) (hz : ks.length + 2 ≤ sizeLine) (mm : M1 X (.Name x p1) "update" apos (.Dict [some e1, some e2] [.Constant (.bool true) j1 q1, .Constant (.bool true) j2 q2] dpos) cpos) (hd : (x == ("__debug__" : Str)) = false := by decide) (hcd : (x == ("__classdict__" : Str)) = false := by decide)
    (hs : swapsWith (.Call (.Attribute (.Name x p1) "update" apos) [.Dict [some e1, some e2] [.Constant (.bool true) j1 q1, .Constant (.bool true) j2 q2] dpos] [] cpos) none pos.line X.env = pure false := by rfl) :
    S1 X F ρ (.Expr (.Call (.Attribute (.Name x p1) "update" apos) [.Dict [some e1, some e2] [.Constant (.bool true) j1 q1, .Constant (.bool true) j2 q2] dpos] [] cpos) pos) (fun ρ' => ρ' = ρ.set i (.dic (ks ++ [n, m]))) R := fun G σ H I E nx r => by
  obtain ⟨p, k1, k2, k3, k4⟩ := I.sl i _ ho
  have np : F.w ≠ some p := fun z => F.hw p z k4
  refine tS_of (ps_expr (pe_dupd (pe_var (i := i) (by rw [B.hN]; exact hN) (by rw [B.hsc]; exact hv) hd hcd) (pe_disp (pps_cons cE pe_bl (pps_cons cE pe_bl pps_nil)) rfl rfl (by simp) (by simp)) mm) hs) ?_
  refine ⟨.ref p, some_join k1, p, rfl, .inl ⟨_, .inl k2⟩, fun b hb => ?_⟩
  have A := I.apart hb
  have n0 := Nx.loose (o := .dK []) I.sub hb
  have hbp : p ≠ b := ne_of_none k2 hb
  refine h1 G σ _ (I.nx n0) _ fun d1 v1 G1 H1 ed1 I1 s1 r1 => h2 G1 σ H1 I1 _ fun d2 v2 G2 H2 ed2 I2 s2 r2 => ?_
  subst ed1 ed2
  have s12 := s1.trans s2
  have hH2b : H2 b = some (.dK []) := s12.keep b _ upd_same A.w
  have hG2b : G2 b = none := by rw [s12.old b _ upd_same A.w]; exact I.sub.free hb
  have hH2p : H2 p = some (.dK (dicKv ks)) := s12.keep p _ (by rw [upd_ne hbp]; exact k2) np
  refine ⟨hH2b, [(.inl n, .bl true), (.inl m, .bl true)], ?_, by simp, ?_⟩
  · rw [(r1.up s2.up).intI, r2.intI]
    rfl
  · have e0 : mergeK [] [(Sum.inl n, V.bl true), (Sum.inl m, V.bl true)] = [((Sum.inl n : Key), V.bl true), (Sum.inl m, V.bl true)] := dic_two (ks := []) (by simp) (by simp) hnm
    rw [e0]
    refine ⟨b, dicKv ks, _, rfl, hbp, by rw [upd_ne hbp]; exact hH2p, upd_same, ?_, ?_⟩
    · unfold dicKv
      rw [List.length_map]
      exact hz
    · rw [dic_two hn hm hnm]
      have T := I2.touch A hG2b (.dK [(Sum.inl n, V.bl true), (Sum.inl m, V.bl true)])
      exact nx _ G2 σ _ rfl (T.writeDic ho hone k1) ((I.up n0).trans s12.up)
/-- t < u of tuples of ints -/
theorem pb_ltT (B : Bd X K mg N sc k) {ns ms : List Int} (ha : PD X F ρ a (.tuple (ns.map .int))) (hb : PD X F ρ b (.tuple (ms.map .int))) : PB X F ρ (.Compare a [.Lt] [b] pos) fun q => q = HT.lexLt ns ms :=
  pb_cmp1 (op_ltT (by have := B.u64; omega)) ha hb (fun G H v u Q s r1 r2 q => by
    obtain ⟨p1, vs, rfl, h1, h2⟩ := r1.tupI
    obtain ⟨p2, us, rfl, h3, h4⟩ := r2.tupI
    have e1 := h2.ints
    have e2 := h4.ints
    subst e1 e2
    exact ⟨p1, p2, ns, ms, rfl, rfl, SqT.of (s _ _ h1), SqT.of (s _ _ h3), q _ _ G H rfl (Nx.refl s) (.bl _)⟩) (nomark _)
end
end Pd
/-! Pd14: defs that change one object handed to them. -/
namespace Pd
open PySem PySem.Spec PyProof.Rows L2
/-- a callee that changes the object at m alone -/
structure NxM (m : Addr) (G H G' H' : Hp) : Prop where
  keep : ∀ a o, H a = some o → a ≠ m → H' a = some o
  sub : Same G' H'
  old : ∀ a o, H a = some o → G' a = G a
  wt : H' m ≠ none
section
variable {F : Fx} {ρ ρ' : Ev} {G H G' H' : Hp} {σ : L2.St} {m : Addr}
theorem NxM.up (n : NxM m G H G' H') (h : Same G H) : Same G G' := fun a o e => by rw [n.old a o (h a o e)]; exact e
/-- that object is none that is spoken of here -/
theorem SI.nxa (I : SI F ρ G σ H) (n : NxM m G H G' H') (A : Apart F ρ σ m) : SI F ρ G' σ H' where
  sub := n.sub
  keep := fun a o e z => n.keep a o (I.keep a o e z) (ne_of_none e A.h)
  wt := fun a z => by
    cases q : H a with
    | none => exact absurd q (I.wt a z)
    | some x => rw [n.keep a x q fun y => A.w (by rw [← y]; exact z)]; exact fun h => nomatch h
  old := fun a o e => by
    obtain ⟨u, q⟩ := I.old' e
    rw [n.old a u q, I.old a o e]
  len := I.len
  sl := fun i s e => by
    have k := I.sl i s e
    have u := n.up I.sub
    cases s with
    | un => trivial
    | dat d => obtain ⟨v, e, r⟩ := k; exact ⟨v, e, r.up u⟩
    | own ds =>
      obtain ⟨a, vs, e1, h1, h2, h3, r⟩ := k
      have na : a ≠ m := fun q => A.own i ds e (by rw [← q]; exact e1)
      exact ⟨a, vs, e1, n.keep a _ h1 na, by rw [n.old _ _ h1]; exact h2, h3, r.up u⟩
    | res c =>
      obtain ⟨a, e1, h1, h2, r⟩ := k
      have na : a ≠ m := fun q => A.w (by rw [← q]; exact h1)
      cases q : H a with
      | none => exact absurd q (I.wt a h1)
      | some x => exact ⟨a, e1, h1, by rw [n.old _ _ q]; exact h2, F.Rm c G H a G' H' r (by rw [n.keep _ _ q na, q]) u⟩
    | dic ks =>
      obtain ⟨a, e1, h1, h2, h3⟩ := k
      have na : a ≠ m := fun q => A.dic i ks e (by rw [← q]; exact e1)
      exact ⟨a, e1, n.keep a _ h1 na, by rw [n.old _ _ h1]; exact h2, h3⟩
/-- that object is the one that the def may change -/
theorem SI.nxw (I : SI F ρ G σ H) (n : NxM m G H G' H') (hw : F.w = some m) (hl : ρ'.length = ρ.length) (h : ∀ (i : Nat) (s : Sl), ρ'[i]? = some s → (∃ c c0, s = .res c ∧ F.R c G' H' m ∧ ρ[i]? = some (Sl.res c0)) ∨ (notRes s ∧ ρ[i]? = some s)) : SI F ρ' G' σ H' where
  sub := n.sub
  keep := fun a o e z => n.keep a o (I.keep a o e z) fun y => z (by rw [y]; exact hw)
  wt := fun a z => by
    rw [hw] at z
    cases z
    exact n.wt
  old := fun a o e => by
    obtain ⟨u, q⟩ := I.old' e
    rw [n.old a u q, I.old a o e]
  len := by rw [hl]; exact I.len
  sl := fun i s e => by
    have u := n.up I.sub
    rcases h i s e with ⟨c, c0, rfl, hR, e0⟩ | ⟨nr, e0⟩
    · obtain ⟨a, e1, h1, h2, _⟩ := I.sl i _ e0
      rw [hw] at h1
      cases h1
      cases q : H m with
      | none => exact absurd q (I.wt m hw)
      | some x => exact ⟨m, e1, hw, by rw [n.old _ _ q]; exact h2, hR⟩
    · have k := I.sl i s e0
      cases s with
      | un => trivial
      | dat d => obtain ⟨v, e, r⟩ := k; exact ⟨v, e, r.up u⟩
      | own ds =>
        obtain ⟨a, vs, e1, h1, h2, h3, r⟩ := k
        have na : a ≠ m := fun q => F.hw m hw (by rw [← q]; exact h3)
        exact ⟨a, vs, e1, n.keep a _ h1 na, by rw [n.old _ _ h1]; exact h2, h3, r.up u⟩
      | res c => exact nr.elim
      | dic ks =>
        obtain ⟨a, e1, h1, h2, h3⟩ := k
        have na : a ≠ m := fun q => F.hw m hw (by rw [← q]; exact h3)
        exact ⟨a, e1, n.keep a _ h1 na, by rw [n.old _ _ h1]; exact h2, h3⟩
theorem NxM.stp (n : NxM m G H G' H') (h : Same G H) (hw : F.w = some m) : Stp F G H G' H' := ⟨fun a o e z => n.keep a o e fun y => z (by rw [y]; exact hw), fun a o e _ => n.old a o e, n.up h⟩
/-- slots by values -/
inductive Sls (F : Fx) (G H : Hp) : List Sl → List V → Prop
  | nil : Sls F G H [] []
  | cons {s : Sl} {v : V} {ss : List Sl} {vs : List V} : SlOk F G H s (some v) → Sls F G H ss vs → Sls F G H (s :: ss) (v :: vs)
theorem Sls.len {ss : List Sl} {vs : List V} (h : Sls F G H ss vs) : vs.length = ss.length := by
  induction h with
  | nil => rfl
  | cons _ _ ih => rw [List.length_cons, List.length_cons, ih]
theorem Sls.get {ss : List Sl} {vs : List V} (h : Sls F G H ss vs) : ∀ (i : Nat) (s : Sl), ss[i]? = some s → ∃ v, vs[i]? = some v ∧ SlOk F G H s (some v) := by
  induction h with
  | nil => intro i s e; simp at e
  | cons k _ ih =>
    intro i s e
    cases i with
    | zero =>
      have e' := Option.some.inj e
      subst e'
      exact ⟨_, rfl, k⟩
    | succ i => exact ih i s e
theorem Sls.dats : ∀ {ds : List D} {vs : List V}, RpA G vs ds → Sls F G H (ds.map .dat) vs
  | [], _, r => by cases r; exact .nil
  | d :: ds, _, r => by
    cases r with
    | cons h1 h2 => exact .cons ⟨_, rfl, h1⟩ (Sls.dats h2)
theorem Sls.app {s1 s2 : List Sl} {v1 v2 : List V} (h : Sls F G H s1 v1) (k : Sls F G H s2 v2) : Sls F G H (s1 ++ s2) (v1 ++ v2) := by
  induction h with
  | nil => exact k
  | cons a _ ih => exact .cons a ih
theorem Sls.start {ss : List Sl} {vs : List V} {N : List Str} (h : Sls F G H ss vs) : ∀ (i : Nat) (s : Sl), (ss ++ List.replicate (N.length - ss.length) .un)[i]? = some s → SlOk F G H s ((L2.start N vs)[i]?.join) := fun i s e => by
  unfold L2.start
  by_cases hi : i < ss.length
  · rw [List.getElem?_append_left hi] at e
    obtain ⟨v, e1, k⟩ := h.get i s e
    rw [List.getElem?_append_left (by rw [List.length_map, h.len]; exact hi), List.getElem?_map, e1]
    exact k
  · rw [List.getElem?_append_right (by omega), List.getElem?_replicate] at e
    split at e
    · cases e; trivial
    · cases e
end
/-- the data ahead of the object and behind it, what it holds; what comes back and what it holds then -/
structure CtrM (α : Type) where
  pre : α → List D
  con : α → List D
  post : α → List D
  ok : α → Prop
  res : α → D → List D → Prop
abbrev Rel := List D → Hp → Hp → Addr → Prop
def RelM (R : Rel) : Prop := ∀ c G H a G' H', R c G H a → H' a = H a → Same G G' → R c G' H' a
def spM {α : Type} (R : Rel) (c : CtrM α) : Sp := fun vs H Q _ => ∃ a G m us ws, vs = us ++ .ref m :: ws ∧ c.ok a ∧ Same G H ∧ RpA G us (c.pre a) ∧ RpA G ws (c.post a) ∧ G m = none ∧ H m ≠ none ∧ R (c.con a) G H m ∧
  ∀ d v c' G' H', c.res a d c' → NxM m G H G' H' → R c' G' H' m → Rp G' v d → Q v H'
def fxM (R : Rel) (Rm : RelM R) (G H : Hp) (m : Addr) (h : H m ≠ none) : Fx := ⟨G, H, some m, R, Rm, fun a e => by cases e; exact h⟩
def slM (pre con post : List D) : Ev := pre.map Sl.dat ++ (Sl.res con :: post.map Sl.dat)
def evM (N : List Str) (pre con post : List D) : Ev := slM pre con post ++ List.replicate (N.length - (slM pre con post).length) Sl.un
section
variable {P : Program} {w : World} {K : PySem.W.Frag} {mg : Str → Option Value} {base : Heap} {k : Nat} {f : Addr} {fd : FuncData} {ps : List Str} {N : List Str} {x qual : Str} {st : Stmt} {α : Type} {R : Rel}
theorem fnM {c : CtrM α} (Rm : RelM R) (Fu : Fun K x qual st f fd) (S : FnScope N ps (defScope st)) (hl : ∀ a, c.ok a → (c.pre a).length + 1 + (c.post a).length = ps.length)
    (body : ∀ X F a, Fr1 P w K mg base N (defScope st) k X → F.R = R → (∃ m, F.w = some m) → c.ok a → SD X F (evM N (c.pre a) (c.con a) (c.post a)) (defBody st) (fun ρ' => ∃ (i : Nat) (c' : List D), ρ'[i]? = some (Sl.res c') ∧ c.res a .none c') fun d ρ' => ∃ (i : Nat) (c' : List D), ρ'[i]? = some (Sl.res c') ∧ c.res a d c') :
    FnG P w K mg base (k + 1) f fd ps (spM R c) := by
  have hpl : ps.length ≤ N.length := by have := congrArg List.length S.pre; rw [List.length_take] at this; omega
  refine fnG_of Fu S (fun vs H Q E h => ?_) fun cdv A outer s H vs Q hr hg h => ?_
  · obtain ⟨a, G, m, us, ws, rfl, pr, _, r1, r2, _⟩ := h
    rw [List.length_append, List.length_cons, r1.len, r2.len, ← hl a pr]
    omega
  · obtain ⟨a, G, m, us, ws, rfl, pr, sub, r1, r2, gm, hm, rR, q⟩ := h
    have B : Fr1 P w K mg base N (defScope st) k (bx P w K mg base N qual st f cdv A outer s H) := ⟨bd_of S hr hg, rfl, rfl, rfl, fun _ => rfl, rfl⟩
    have hL := hl a pr
    have SS : Sls (fxM R Rm G H m hm) G H (slM (c.pre a) (c.con a) (c.post a)) (us ++ .ref m :: ws) := (Sls.dats r1).app (.cons ⟨m, rfl, rfl, gm, rR⟩ (.dats r2))
    have I : SI (fxM R Rm G H m hm) (evM N (c.pre a) (c.con a) (c.post a)) G (start N (us ++ .ref m :: ws)) H := by
      refine ⟨sub, fun a o e _ => e, fun b z => by cases z; exact hm, fun _ _ _ => rfl, ?_, SS.start (N := N)⟩
      unfold L2.start evM slM
      simp only [List.length_append, List.length_map, List.length_replicate, List.length_cons, r1.len, r2.len]
    have fin : ∀ {ρ' G' σ' H' i c'}, SI (fxM R Rm G H m hm) ρ' G' σ' H' → ρ'[i]? = some (Sl.res c') → NxM m G H G' H' ∧ R c' G' H' m := fun {ρ' G' σ' H' i c'} J e => by
      refine ⟨⟨fun a o e z => J.keep a o e fun y => z (by cases y; rfl), J.sub, J.old, J.wt m rfl⟩, ?_⟩
      obtain ⟨b, _, hb, _, hR⟩ := J.sl i _ e
      cases hb
      exact hR
    refine body _ (fxM R Rm G H m hm) a B rfl ⟨m, rfl⟩ pr G _ H I { nx := fun _ H' => Q .non H', rt := Q } (fun ρ' G' σ' H' n J _ => ?_) fun d v ρ' G' σ' H' n J rv => ?_
    · obtain ⟨i, c', e, hc⟩ := n
      exact q .none .non c' G' H' hc (fin J e).1 (fin J e).2 .non
    · obtain ⟨i, c', e, hc⟩ := n
      exact q d v c' G' H' hc (fin J e).1 (fin J e).2 rv
theorem Df.fnM {c : CtrM α} (Rm : RelM R) (d : Df K mg x st ps) (S : FnScope N ps (defScope st)) (hl : ∀ a, c.ok a → (c.pre a).length + 1 + (c.post a).length = ps.length)
    (body : ∀ X F a, Fr1 P w K mg base N (defScope st) k X → F.R = R → (∃ m, F.w = some m) → c.ok a → SD X F (evM N (c.pre a) (c.con a) (c.post a)) (defBody st) (fun ρ' => ∃ (i : Nat) (c' : List D), ρ'[i]? = some (Sl.res c') ∧ c.res a .none c') fun d ρ' => ∃ (i : Nat) (c' : List D), ρ'[i]? = some (Sl.res c') ∧ c.res a d c') :
    Cal P w K mg base (k + 1) x ps (spM R c) := d.cal fun f fd F => Pd.fnM Rm F S hl body
theorem Df.rcM {c : Nat → CtrM α} {b : Nat} (Rm : RelM R) (d : Df K mg x st ps) (S : FnScope N ps (defScope st)) (hl : ∀ h a, (c h).ok a → ((c h).pre a).length + 1 + ((c h).post a).length = ps.length) (h0 : ∀ a, ¬ (c 0).ok a)
    (body : ∀ h X F a, Cal P w K mg base (h + b) x ps (spM R (c h)) → Fr1 P w K mg base N (defScope st) (h + b) X → F.R = R → (∃ m, F.w = some m) → (c (h + 1)).ok a →
      SD X F (evM N ((c (h + 1)).pre a) ((c (h + 1)).con a) ((c (h + 1)).post a)) (defBody st) (fun ρ' => ∃ (i : Nat) (c' : List D), ρ'[i]? = some (Sl.res c') ∧ (c (h + 1)).res a .none c') fun d ρ' => ∃ (i : Nat) (c' : List D), ρ'[i]? = some (Sl.res c') ∧ (c (h + 1)).res a d c') :
    ∀ h, Cal P w K mg base (h + b) x ps (spM R (c h))
  | 0 => d.cal fun f fd F => ⟨fun vs H Q E q => by obtain ⟨a, G, m, us, ws, _, o, _⟩ := q; exact (h0 a o).elim, fun A outer s H args us vs Q _ _ _ _ _ q => by obtain ⟨a, G, m, us, ws, _, o, _⟩ := q; exact (h0 a o).elim⟩
  | h + 1 => by
    have C := Df.rcM Rm d S hl h0 body h
    have e : h + 1 + b = h + b + 1 := by omega
    rw [e]
    exact d.fnM Rm S (hl (h + 1)) fun X F a B hF hm ok => body h X F a C B hF hm ok
end
section
variable {X : Cx} {F : Fx} {ρ : Ev} {P : Program} {w : World} {K : PySem.W.Frag} {mg : Str → Option Value} {base : Heap} {N : List Str} {sc : Scope} {k : Nat} {ps : List Str} {x y : Str} {p pos pos' p1 : Pos} {e e1 e2 : Expr} {es : List Expr} {α : Type} {R : Rel} {d1 d2 : D}
/-- f(m, ..), m the object that may change; what it is known to hold stays -/
theorem pn_callM {c : CtrM α} {j : Nat} {Ps : List D → Prop} {Pq : D → Prop} (T : At P w base X) (B : Bd X K mg N sc k) (C : Cal P w K mg base j x ps (spM R c)) (hj : j ≤ k) (hg : sc.names.lookup x = some .globalImplicit) (hR : F.R = R) (i : Nat) (ho : ρ[i]? = some (Sl.res [])) (hall : ∀ (j : Nat) (c : List D), ρ[j]? = some (Sl.res c) → c = []) (hN : N[i]? = some y) (hv : Vis sc y)
    (ha : PNs X F ρ es Ps) (h : ∀ ds, Ps ds → ∃ a, c.pre a = [] ∧ c.con a = [] ∧ ds = c.post a ∧ c.ok a ∧ ∀ d c', c.res a d c' → c' = [] ∧ Pq d)
    (hd : (y == ("__debug__" : Str)) = false := by decide) (hcd : (y == ("__classdict__" : Str)) = false := by decide) (hdb : (x == ("__debug__" : Str)) = false := by decide) (he : starEach (.Name y p1 :: es) X.env = (false, eval (.Name y p1) X.env) :: starEach es X.env := by rfl)
    (hpl : (backTo pos (starEach es X.env)).any (·.1) = false := by rfl) : PN X F ρ (.Call (.Name x p) (.Name y p1 :: es) [] pos) Pq := fun G σ H I Q q => by
  obtain ⟨f, fd, FG, hm, hk, hb⟩ := C.ex
  have FG' : FnG X.prog X.w X.K X.mg X.base j f fd ps (spM R c) := by rw [T.hP, T.hw, T.hb, B.hK, B.hmg]; exact FG
  obtain ⟨m, k1, k2, _⟩ := I.sl i _ ho
  refine tE_call FG' (B.room.mono hj) B.guards (B.gl hg) (by rw [B.hmg]; exact hm) (by rw [B.hK]; exact hk) (by rw [B.hK]; exact hb) ?_ hdb he hpl
  refine tA_of (pa_cons (pe_var (i := i) (by rw [B.hN]; exact hN) (by rw [B.hsc]; exact hv) hd hcd) cA he) ⟨.ref m, some_join k1, ha G σ H I _ fun ds vs G1 H1 pd I1 s1 r1 => ?_⟩
  obtain ⟨a, ep, ec, ea, oa, ra⟩ := h ds pd
  subst ea
  obtain ⟨m', k3, k4, k5, k6⟩ := I1.sl i _ ho
  rw [k2] at k4
  cases k4
  refine ⟨a, G1, m, [], vs, rfl, oa, I1.sub, by rw [ep]; exact .nil, r1, k5, I1.wt m k2, by rw [ec, ← hR]; exact k6, fun d v c' G2 H2 po n rR rv => ?_⟩
  obtain ⟨e', pq⟩ := ra d c' po
  subst e'
  refine q d v G2 H2 pq (I1.nxw n k2 rfl fun l s es => ?_) (s1.trans (n.stp I1.sub k2)) rv
  cases s with
  | res c' => exact .inl ⟨c', c', rfl, by rw [hall l c' es, hR]; exact rR, es⟩
  | un => exact .inr ⟨trivial, es⟩
  | dat d => exact .inr ⟨trivial, es⟩
  | own d => exact .inr ⟨trivial, es⟩
  | dic d => exact .inr ⟨trivial, es⟩
/-- f(e, e, m) as a statement -/
theorem s_callM {c : CtrM α} {j : Nat} {Rr : D → Ev → Prop} {cc : List D} (a : α) (T : At P w base X) (B : Bd X K mg N sc k) (C : Cal P w K mg base j x ps (spM R c)) (hj : j ≤ k) (hg : sc.names.lookup x = some .globalImplicit) (hR : F.R = R) (i : Nat) (ho : ρ[i]? = some (Sl.res cc)) (hone : ∀ (j : Nat) (c' : List D), j ≠ i → ρ[j]? ≠ some (.res c')) (hN : N[i]? = some y) (hv : Vis sc y)
    (h1 : PD X F ρ e1 d1) (h2 : PD X F ρ e2 d2) (hpre : c.pre a = [d1, d2]) (hpost : c.post a = []) (hcon : c.con a = cc) (hok : c.ok a)
    (hd : (y == ("__debug__" : Str)) = false := by decide) (hcd : (y == ("__classdict__" : Str)) = false := by decide) (hdb : (x == ("__debug__" : Str)) = false := by decide) (hs1 : starEach [e1, e2, .Name y p1] X.env = (false, eval e1 X.env) :: starEach [e2, .Name y p1] X.env := by rfl)
    (hs2 : starEach [e2, .Name y p1] X.env = (false, eval e2 X.env) :: starEach [.Name y p1] X.env := by rfl) (hs3 : starEach [.Name y p1] X.env = (false, eval (.Name y p1) X.env) :: starEach [] X.env := by rfl)
    (hpl : (backTo pos (starEach [e2, .Name y p1] X.env)).any (·.1) = false := by rfl) (hs : swapsWith (.Call (.Name x p) [e1, e2, .Name y p1] [] pos) none pos'.line X.env = pure false := by rfl) :
    S1 X F ρ (.Expr (.Call (.Name x p) [e1, e2, .Name y p1] [] pos) pos') (fun ρ' => ∃ d c', c.res a d c' ∧ ρ' = ρ.set i (.res c')) Rr := fun G σ H I E nx r => by
  obtain ⟨f, fd, FG, hm, hk, hb⟩ := C.ex
  have FG' : FnG X.prog X.w X.K X.mg X.base j f fd ps (spM R c) := by rw [T.hP, T.hw, T.hb, B.hK, B.hmg]; exact FG
  refine tS_of (ps_expr cE hs) ?_
  refine tE_call FG' (B.room.mono hj) B.guards (B.gl hg) (by rw [B.hmg]; exact hm) (by rw [B.hK]; exact hk) (by rw [B.hK]; exact hb) ?_ hdb hs1 hpl
  refine tA_of (pa_cons cE (pa_cons cE (pa_cons (pe_var (i := i) (by rw [B.hN]; exact hN) (by rw [B.hsc]; exact hv) hd hcd) pa_nil hs3) hs2) hs1) ?_
  refine h1 G σ H I _ fun z1 v1 G1 H1 e1' I1 s1 r1 => h2 G1 σ H1 I1 _ fun z2 v2 G2 H2 e2' I2 s2 r2 => ?_
  subst e1' e2'
  obtain ⟨m, k1, k2, k3, k4⟩ := I2.sl i _ ho
  refine ⟨.ref m, some_join k1, a, G2, m, [v1, v2], [], rfl, hok, I2.sub, by rw [hpre]; exact .cons (r1.up s2.up) (.one r2), by rw [hpost]; exact .nil, k3, I2.wt m k2, by rw [hcon, ← hR]; exact k4, fun d v c' G3 H3 po n rR rv => ?_⟩
  have hi : i < ρ.length := (List.getElem?_eq_some_iff.mp ho).1
  refine nx _ G3 σ H3 ⟨d, c', po, rfl⟩ (I2.nxw n k2 (by rw [List.length_set]) fun l s es => ?_) ((s1.trans s2).up.trans (n.up I2.sub))
  by_cases z : i = l
  · subst z
    rw [List.getElem?_set_self hi] at es
    cases es
    exact .inl ⟨c', cc, rfl, by rw [hR]; exact rR, ho⟩
  · rw [List.getElem?_set_ne z] at es
    cases s with
    | res c0 => exact absurd es (hone l c0 (Ne.symm z))
    | un => exact .inr ⟨trivial, es⟩
    | dat d => exact .inr ⟨trivial, es⟩
    | own d => exact .inr ⟨trivial, es⟩
    | dic d => exact .inr ⟨trivial, es⟩
end
end Pd
/-! Pd15: a call that is handed a new list. -/
namespace Pd
open PySem PySem.Spec PyProof.Rows L2
section
variable {X : Cx} {F : Fx} {ρ : Ev} {P : Program} {w : World} {K : PySem.W.Frag} {mg : Str → Option Value} {base : Heap} {N : List Str} {sc : Scope} {k : Nat} {ps : List Str} {x y : Str} {p pos pos' p1 : Pos} {e e1 e2 : Expr} {es : List Expr} {α : Type} {R : Rel} {d1 d2 : D}
theorem s_callNew {c : CtrM α} {j : Nat} {Rr : D → Ev → Prop} (a : α) (T : At P w base X) (B : Bd X K mg N sc k) (C : Cal P w K mg base j x ps (spM R c)) (hj : j ≤ k) (hg : sc.names.lookup x = some .globalImplicit)
    (h1 : PD X F ρ e1 d1) (h2 : PD X F ρ e2 d2) (hpre : c.pre a = [d1, d2]) (hpost : c.post a = []) (hok : c.ok a) (hR : ∀ G H m, H m = some (.lst []) → R (c.con a) G H m)
    (hdb : (x == ("__debug__" : Str)) = false := by decide) (hs1 : starEach [e1, e2, .List [] p1] X.env = (false, eval e1 X.env) :: starEach [e2, .List [] p1] X.env := by rfl)
    (hs2 : starEach [e2, .List [] p1] X.env = (false, eval e2 X.env) :: starEach [.List [] p1] X.env := by rfl) (hs3 : starEach [.List [] p1] X.env = (false, eval (.List [] p1) X.env) :: starEach [] X.env := by rfl)
    (hpl : (backTo pos (starEach [e2, .List [] p1] X.env)).any (·.1) = false := by rfl) (hs : swapsWith (.Call (.Name x p) [e1, e2, .List [] p1] [] pos) none pos'.line X.env = pure false := by rfl) :
    S1 X F ρ (.Expr (.Call (.Name x p) [e1, e2, .List [] p1] [] pos) pos') (fun ρ' => ρ' = ρ) Rr := fun G σ H I E nx r => by
  obtain ⟨f, fd, FG, hm, hk, hb⟩ := C.ex
  have FG' : FnG X.prog X.w X.K X.mg X.base j f fd ps (spM R c) := by rw [T.hP, T.hw, T.hb, B.hK, B.hmg]; exact FG
  refine tS_of (ps_expr cE hs) ?_
  refine tE_call FG' (B.room.mono hj) B.guards (B.gl hg) (by rw [B.hmg]; exact hm) (by rw [B.hK]; exact hk) (by rw [B.hK]; exact hb) ?_ hdb hs1 hpl
  refine tA_of (pa_cons cE (pa_cons cE (pa_cons (pe_lst pa_nil) pa_nil hs3) hs2) hs1) ?_
  refine h1 G σ H I _ fun z1 v1 G1 H1 e1' I1 s1 r1 => h2 G1 σ H1 I1 _ fun z2 v2 G2 H2 e2' I2 s2 r2 => ?_
  subst e1' e2'
  refine ⟨Nat.zero_le _, fun m hm => ?_⟩
  have A := I2.apart hm
  have n0 := Nx.loose (o := .lst []) I2.sub hm
  refine ⟨a, G2, m, [v1, v2], [], rfl, hok, n0.sub, by rw [hpre]; exact .cons (r1.up s2.up) (.one r2), by rw [hpost]; exact .nil, I2.sub.free hm, by rw [upd_same]; exact fun z => (nomatch z), hR _ _ _ upd_same, fun d v c' G3 H3 po n rR rv => ?_⟩
  exact nx _ G3 σ H3 rfl ((I2.nx n0).nxa n A) ((s1.trans s2).up.trans (n.up n0.sub))
end
end Pd
/-! Fm0: told trees of lays in plain Lean: the definitions. -/
namespace Dc
abbrev J := Int × Int
structure Lay where
  n : Int
  js : List J
  deriving DecidableEq
inductive T where
  | leaf (l : Lay)
  | fork (a b : T)
inductive M where
  | leaf (l : Lay)
  | fork (l : Lay) (a b : M)
def T.leaves : T → List Lay
  | .leaf l => [l]
  | .fork a b => a.leaves ++ b.leaves
def T.depth : T → Nat
  | .leaf _ => 0
  | .fork a b => max a.depth b.depth + 1
def T.n : T → Int
  | .leaf l => l.n
  | .fork a _ => a.n
def M.top : M → Lay
  | .leaf l => l
  | .fork l _ _ => l
def Lay.has (l : Lay) (j : J) : Bool := decide (j ∈ l.js)
/-- what is best at a fork: none: either does -/
def comb : Option Bool → Option Bool → Option Bool
  | none, y => y
  | x, none => x
  | some p, some q => if p = q then some p else none
def extra : Option Bool → Option Bool → Nat
  | some p, some q => if p = q then 0 else 1
  | _, _ => 0
def best : T → J → Option Bool × Nat
  | .leaf l, j => (some (l.has j), 0)
  | .fork a b, j => (comb (best a j).1 (best b j).1, (best a j).2 + (best b j).2 + extra (best a j).1 (best b j).1)
def ltJ (a b : J) : Prop := a.1 < b.1 ∨ (a.1 = b.1 ∧ a.2 < b.2)
instance : DecidableRel ltJ := fun a b => inferInstanceAs (Decidable (_ ∨ _))
def leJ (a b : J) : Bool := decide (a.1 < b.1 ∨ (a.1 = b.1 ∧ a.2 ≤ b.2))
def firsts (ls : List Lay) : List J := ls.foldl (fun acc l => acc ++ l.js.filter fun j => !decide (j ∈ acc)) []
def joints (t : T) : List J := (firsts t.leaves).mergeSort leJ
def want (t : T) (ab : List J) (j : J) : Bool := decide ((best t j).1 = some true) || (decide ((best t j).1 = none) && decide (j ∈ ab))
/-- the plain labels below a lay with the joints ab -/
def plain : T → List J → M
  | .leaf l, _ => .leaf l
  | .fork a b, ab =>
    let s := (joints (.fork a b)).filter (want (.fork a b) ab)
    .fork ⟨a.n, s⟩ (plain a s) (plain b s)
/-- the same, picked of more joints -/
def labelled : T → List J → List J → M
  | .leaf l, _, _ => .leaf l
  | .fork a b, ab, ev =>
    let s := ev.filter (want (.fork a b) ab)
    .fork ⟨a.n, s⟩ (labelled a s ev) (labelled b s ev)
def gap (a b : Lay) : Int := (a.js.length : Int) + b.js.length - 2 * ((a.js.filter b.has).length : Int)
def summed : M → Int
  | .leaf _ => 0
  | .fork l a b => gap l a.top + summed a + (gap l b.top + summed b)
def cost (t : T) : Nat := ((joints t).map fun j => (best t j).2).sum
def share (j k : J) : Prop := j.1 = k.1 ∨ j.1 = k.2 ∨ j.2 = k.1 ∨ j.2 = k.2
instance : DecidableRel share := fun a b => inferInstanceAs (Decidable (_ ∨ _))
def okJ (n : Int) (j : J) : Prop := 0 ≤ j.1 ∧ j.1 < j.2 ∧ j.2 < 2 * n
instance (n : Int) : DecidablePred (okJ n) := fun a => inferInstanceAs (Decidable (_ ∧ _))
structure Lay.ok (l : Lay) : Prop where
  n1 : 1 ≤ l.n
  n2 : l.n ≤ 12
  js : ∀ j ∈ l.js, okJ l.n j
  up : l.js.Pairwise ltJ
  ap : l.js.Pairwise fun a b => ¬ share a b
def T.ok (n : Int) : T → Prop
  | .leaf l => l.ok ∧ l.n = n
  | .fork a b => a.ok n ∧ b.ok n
/-- labels of a tree: as many links, good lays at the forks -/
def M.fits (n : Int) : T → M → Prop
  | .leaf l, .leaf l' => l' = l
  | .fork a b, .fork l x y => l.ok ∧ l.n = n ∧ M.fits n a x ∧ M.fits n b y
  | _, _ => False
/-! the search over all lays -/
def minI (xs : List Int) : Int := xs.min?.getD 0
def val (ev : List Lay) : T → Lay → Option Int
  | .leaf l, L => if L = l then some 0 else none
  | .fork a b, L => some (minI (ev.filterMap fun L' => (val ev a L').map (· + gap L L')) + minI (ev.filterMap fun L' => (val ev b L').map (· + gap L L')))
end Dc
/-! Fm1: joints in order; states; plain labels are lays. -/
namespace Dc
theorem ltJ_irrefl (a : J) : ¬ ltJ a a := by unfold ltJ; omega
theorem ltJ_trans {a b c : J} (h : ltJ a b) (k : ltJ b c) : ltJ a c := by unfold ltJ at *; omega
theorem ltJ_tri (a b : J) : ltJ a b ∨ a = b ∨ ltJ b a := by
  unfold ltJ
  by_cases h1 : a.1 = b.1
  · by_cases h2 : a.2 = b.2
    · exact .inr (.inl (Prod.ext h1 h2))
    · omega
  · omega
theorem eq_of_sorted : ∀ {l1 l2 : List J}, l1.Pairwise ltJ → l2.Pairwise ltJ → (∀ j, j ∈ l1 ↔ j ∈ l2) → l1 = l2
  | [], [], _, _, _ => rfl
  | [], b :: l2, _, _, h => absurd ((h b).mpr List.mem_cons_self) (by simp)
  | a :: l1, [], _, _, h => absurd ((h a).mp List.mem_cons_self) (by simp)
  | a :: l1, b :: l2, h1, h2, h => by
    rw [List.pairwise_cons] at h1 h2
    have e : a = b := by
      have ha := (h a).mp List.mem_cons_self
      have hb := (h b).mpr List.mem_cons_self
      rcases List.mem_cons.mp ha with q | q
      · exact q
      · rcases List.mem_cons.mp hb with r | r
        · exact r.symm
        · exact absurd (ltJ_trans (h1.1 b r) (h2.1 a q)) (ltJ_irrefl a)
    subst e
    congr 1
    refine eq_of_sorted h1.2 h2.2 fun j => ⟨fun hj => ?_, fun hj => ?_⟩
    · rcases List.mem_cons.mp ((h j).mp (List.mem_cons_of_mem _ hj)) with q | q
      · subst q; exact absurd (h1.1 j hj) (ltJ_irrefl j)
      · exact q
    · rcases List.mem_cons.mp ((h j).mpr (List.mem_cons_of_mem _ hj)) with q | q
      · subst q; exact absurd (h2.1 j hj) (ltJ_irrefl j)
      · exact q
theorem nodup_of_sorted {l : List J} (h : l.Pairwise ltJ) : l.Nodup := List.Pairwise.imp (R := ltJ) (S := (· ≠ ·)) (fun {a b} (hab : ltJ a b) (e : a = b) => ltJ_irrefl a (by rw [← e] at hab; exact hab)) h
theorem leJ_trans (a b c : J) (h : leJ a b = true) (k : leJ b c = true) : leJ a c = true := by
  unfold leJ at *
  simp only [decide_eq_true_eq] at *
  omega
theorem leJ_total (a b : J) : (leJ a b || leJ b a) = true := by
  unfold leJ
  simp only [Bool.or_eq_true, decide_eq_true_eq]
  omega
theorem lt_of_le {a b : J} (h : leJ a b = true) (n : a ≠ b) : ltJ a b := by
  unfold leJ at h
  unfold ltJ
  simp only [decide_eq_true_eq] at h
  rcases h with h | ⟨h1, h2⟩
  · exact .inl h
  · refine .inr ⟨h1, ?_⟩
    have : a.2 ≠ b.2 := fun e => n (Prod.ext h1 e)
    omega
theorem pw_and {R S : J → J → Prop} : ∀ {l : List J}, l.Pairwise R → l.Pairwise S → l.Pairwise fun a b => R a b ∧ S a b
  | [], _, _ => .nil
  | a :: l, h, k => by
    rw [List.pairwise_cons] at *
    exact ⟨fun b hb => ⟨h.1 b hb, k.1 b hb⟩, pw_and h.2 k.2⟩
theorem sort_sorted {l : List J} (h : l.Nodup) : (l.mergeSort leJ).Pairwise ltJ := by
  have h1 := List.pairwise_mergeSort leJ_trans leJ_total l
  have h2 : (l.mergeSort leJ).Nodup := (List.mergeSort_perm l leJ).symm.nodup h
  exact (pw_and h1 h2).imp fun ⟨a, b⟩ => lt_of_le a b
theorem sort_mem {l : List J} {j : J} : j ∈ l.mergeSort leJ ↔ j ∈ l := (List.mergeSort_perm l leJ).mem_iff
/-! firsts -/
theorem firsts_go : ∀ (ls : List Lay) (acc : List J), (∀ l ∈ ls, l.js.Nodup) → acc.Nodup →
    (ls.foldl (fun acc l => acc ++ l.js.filter fun j => !decide (j ∈ acc)) acc).Nodup ∧ ∀ j, j ∈ ls.foldl (fun acc l => acc ++ l.js.filter fun j => !decide (j ∈ acc)) acc ↔ j ∈ acc ∨ ∃ l ∈ ls, j ∈ l.js
  | [], acc, _, h => ⟨h, fun j => by simp⟩
  | l :: ls, acc, hl, h => by
    have n1 : (acc ++ l.js.filter fun j => !decide (j ∈ acc)).Nodup := by
      rw [List.nodup_append]
      refine ⟨h, (hl l List.mem_cons_self).filter _, fun a ha b hb e => ?_⟩
      subst e
      have := (List.mem_filter.mp hb).2
      simp [ha] at this
    obtain ⟨a, b⟩ := firsts_go ls _ (fun m hm => hl m (List.mem_cons_of_mem _ hm)) n1
    refine ⟨a, fun j => ?_⟩
    rw [List.foldl_cons, b j]
    simp only [List.mem_append, List.mem_filter, Bool.not_eq_true', decide_eq_false_iff_not, List.mem_cons, exists_eq_or_imp]
    constructor
    · rintro ((h1 | ⟨h1, h2⟩) | h1)
      · exact .inl h1
      · exact .inr (.inl h1)
      · exact .inr (.inr h1)
    · rintro (h1 | h1 | h1)
      · exact .inl (.inl h1)
      · by_cases q : j ∈ acc
        · exact .inl (.inl q)
        · exact .inl (.inr ⟨h1, q⟩)
      · exact .inr h1
theorem firsts_nodup {ls : List Lay} (h : ∀ l ∈ ls, l.js.Nodup) : (firsts ls).Nodup := (firsts_go ls [] h List.nodup_nil).1
theorem firsts_mem {ls : List Lay} (h : ∀ l ∈ ls, l.js.Nodup) (j : J) : j ∈ firsts ls ↔ ∃ l ∈ ls, j ∈ l.js := by
  have q := (firsts_go ls [] h List.nodup_nil).2 j
  unfold firsts
  rw [q]
  simp
/-! trees of good lays -/
theorem ok_leaves {n : Int} : ∀ {t : T}, t.ok n → ∀ l ∈ t.leaves, l.ok ∧ l.n = n
  | .leaf l, h, m, hm => by
    have e : m = l := by simpa [T.leaves] using hm
    subst e; exact h
  | .fork a b, h, m, hm => by
    rcases List.mem_append.mp (show m ∈ a.leaves ++ b.leaves from hm) with q | q
    · exact ok_leaves h.1 m q
    · exact ok_leaves h.2 m q
theorem ok_n {n : Int} : ∀ {t : T}, t.ok n → t.n = n
  | .leaf l, h => h.2
  | .fork a b, h => ok_n (t := a) h.1
theorem ok_nd {n : Int} {t : T} (h : t.ok n) : ∀ l ∈ t.leaves, l.js.Nodup := fun l hl => nodup_of_sorted (ok_leaves h l hl).1.up
theorem joints_sorted {n : Int} {t : T} (h : t.ok n) : (joints t).Pairwise ltJ := sort_sorted (firsts_nodup (ok_nd h))
theorem joints_mem {n : Int} {t : T} (h : t.ok n) (j : J) : j ∈ joints t ↔ ∃ l ∈ t.leaves, j ∈ l.js := by
  unfold joints
  rw [sort_mem, firsts_mem (ok_nd h)]
theorem joints_ok {n : Int} {t : T} (h : t.ok n) {j : J} (hj : j ∈ joints t) : okJ n j := by
  obtain ⟨l, h1, h2⟩ := (joints_mem h j).mp hj
  obtain ⟨a, b⟩ := ok_leaves h l h1
  rw [← b]; exact a.js j h2
/-- a joint of no lay is best absent -/
theorem best_out : ∀ {t : T} {j : J}, (∀ l ∈ t.leaves, j ∉ l.js) → best t j = (some false, 0)
  | .leaf l, j, h => by
    have := h l (by simp [T.leaves])
    simp [best, Lay.has, this]
  | .fork a b, j, h => by
    have h1 := best_out (t := a) (j := j) fun l hl => h l (List.mem_append_left _ hl)
    have h2 := best_out (t := b) (j := j) fun l hl => h l (List.mem_append_right _ hl)
    simp [best, h1, h2, comb, extra]
theorem want_out {t : T} {ab : List J} {j : J} (h : ∀ l ∈ t.leaves, j ∉ l.js) : want t ab j = false := by
  simp [want, best_out h]
/-! picked of more joints -/
theorem labelled_eq {n : Int} {ev : List J} (hev : ev.Pairwise ltJ) : ∀ {t : T} (ab : List J), t.ok n → (∀ j ∈ joints t, j ∈ ev) → labelled t ab ev = plain t ab
  | .leaf l, _, _, _ => rfl
  | .fork a b, ab, h, hj => by
    have ja : ∀ j ∈ joints a, j ∈ ev := fun j q => hj j ((joints_mem h j).mpr (let ⟨l, h1, h2⟩ := (joints_mem h.1 j).mp q; ⟨l, List.mem_append_left _ h1, h2⟩))
    have jb : ∀ j ∈ joints b, j ∈ ev := fun j q => hj j ((joints_mem h j).mpr (let ⟨l, h1, h2⟩ := (joints_mem h.2 j).mp q; ⟨l, List.mem_append_right _ h1, h2⟩))
    have e : ev.filter (want (.fork a b) ab) = (joints (.fork a b)).filter (want (.fork a b) ab) := by
      refine eq_of_sorted (hev.filter _) ((joints_sorted h).filter _) fun j => ?_
      rw [List.mem_filter, List.mem_filter]
      refine ⟨fun ⟨_, q⟩ => ⟨?_, q⟩, fun ⟨p, q⟩ => ⟨hj j p, q⟩⟩
      rw [joints_mem h j]
      apply Classical.byContradiction
      intro z
      have : want (.fork a b) ab j = false := want_out fun l hl hm => z ⟨l, hl, hm⟩
      rw [this] at q; cases q
    show M.fork ⟨a.n, ev.filter (want (.fork a b) ab)⟩ _ _ = M.fork ⟨a.n, _⟩ _ _
    rw [e, labelled_eq hev _ h.1 ja, labelled_eq hev _ h.2 jb]
/-! states as signs -/
def sgn : Option Bool → Int
  | some true => 1
  | none => 0
  | some false => -1
theorem comb_mono {x y x' y' : Option Bool} (h : sgn x ≤ - sgn x') (k : sgn y ≤ - sgn y') : sgn (comb x y) ≤ - sgn (comb x' y') := by
  rcases x with _ | _ | _ <;> rcases y with _ | _ | _ <;> rcases x' with _ | _ | _ <;> rcases y' with _ | _ | _ <;> simp [sgn, comb] at * 
theorem best_apart : ∀ {t : T} {j k : J}, (∀ l ∈ t.leaves, ¬ (j ∈ l.js ∧ k ∈ l.js)) → sgn (best t j).1 ≤ - sgn (best t k).1
  | .leaf l, j, k, h => by
    have := h l (by simp [T.leaves])
    by_cases h1 : j ∈ l.js <;> by_cases h2 : k ∈ l.js <;> simp_all [best, Lay.has, sgn]
  | .fork a b, j, k, h => comb_mono (best_apart fun l hl => h l (List.mem_append_left _ hl)) (best_apart fun l hl => h l (List.mem_append_right _ hl))
theorem share_symm {a b : J} (h : share a b) : share b a := by unfold share at *; omega
theorem apart_of {n : Int} {t : T} (h : t.ok n) {j k : J} (s : share j k) (ne : j ≠ k) : ∀ l ∈ t.leaves, ¬ (j ∈ l.js ∧ k ∈ l.js) := fun l hl ⟨h1, h2⟩ => by
  have p := (ok_leaves h l hl).1.ap
  have key : ∀ {js : List J}, js.Pairwise (fun a b => ¬ share a b) → j ∈ js → k ∈ js → False := by
    intro js
    induction js with
    | nil => intro _ q; cases q
    | cons a js ih =>
      intro p q r
      rw [List.pairwise_cons] at p
      rcases List.mem_cons.mp q with e | q2
      · rcases List.mem_cons.mp r with e2 | r2
        · exact ne (e.trans e2.symm)
        · exact p.1 k r2 (e ▸ s)
      · rcases List.mem_cons.mp r with e2 | r2
        · exact p.1 j q2 (share_symm (e2 ▸ s))
        · exact ih p.2 q2 r2
  exact key p h1 h2
/-- labels in which no two joints share an end -/
def Free (ab : List J) : Prop := ∀ j ∈ ab, ∀ k ∈ ab, share j k → j = k
theorem want_free {n : Int} {t : T} {ab : List J} (h : t.ok n) (f : Free ab) {j k : J} (hj : want t ab j = true) (hk : want t ab k = true) (s : share j k) : j = k := by
  apply Classical.byContradiction
  intro ne
  have q := best_apart (t := t) (j := j) (k := k) (apart_of h s ne)
  unfold want at hj hk
  simp only [Bool.or_eq_true, Bool.and_eq_true, decide_eq_true_eq] at hj hk
  rcases hj with h1 | ⟨h1, h2⟩
  · rcases hk with h3 | ⟨h3, h4⟩
    · rw [h1, h3] at q; simp [sgn] at q
    · rw [h1, h3] at q; simp [sgn] at q
  · rcases hk with h3 | ⟨h3, h4⟩
    · rw [h1, h3] at q; simp [sgn] at q
    · exact ne (f j h2 k h4 s)
theorem pw_of_free : ∀ {l : List J}, l.Nodup → Free l → l.Pairwise fun a b => ¬ share a b
  | [], _, _ => .nil
  | a :: l, h, f => by
    rw [List.nodup_cons] at h
    rw [List.pairwise_cons]
    refine ⟨fun b hb s => ?_, pw_of_free h.2 fun j hj k hk => f j (List.mem_cons_of_mem _ hj) k (List.mem_cons_of_mem _ hk)⟩
    have e := f a List.mem_cons_self b (List.mem_cons_of_mem _ hb) s
    subst e
    exact h.1 hb
theorem free_filter {n : Int} {t : T} {ab l : List J} (h : t.ok n) (f : Free ab) : Free (l.filter (want t ab)) := fun j hj k hk s =>
  want_free h f (List.mem_filter.mp hj).2 (List.mem_filter.mp hk).2 s
/-- the plain labels are lays -/
theorem plain_fits {n : Int} (h1 : 1 ≤ n) (h2 : n ≤ 12) : ∀ {t : T} {ab : List J}, t.ok n → Free ab → (plain t ab).fits n t
  | .leaf l, _, _, _ => rfl
  | .fork a b, ab, h, f => by
    have hs := joints_sorted h
    have fs : Free ((joints (.fork a b)).filter (want (.fork a b) ab)) := free_filter h f
    have en : a.n = n := ok_n h.1
    refine ⟨⟨by show 1 ≤ a.n; omega, by show a.n ≤ 12; omega, fun j hj => ?_, hs.filter _, pw_of_free (nodup_of_sorted (hs.filter _)) fs⟩, en, plain_fits h1 h2 h.1 fs, plain_fits h1 h2 h.2 fs⟩
    show okJ a.n j
    rw [en]
    exact joints_ok h (List.mem_filter.mp hj).1
theorem free_nil : Free [] := fun _ h => by cases h
end Dc
/-! Fm2: sums joint by joint; the least sum; the search over all lays. -/
namespace Dc
def b2n (b : Bool) : Int := if b then 1 else 0
/-- the sum over joints -/
def sumJ (U : List J) (f : J → Int) : Int := (U.map f).sum
theorem sumJ_nil (f : J → Int) : sumJ [] f = 0 := rfl
theorem sumJ_cons (u : J) (U : List J) (f : J → Int) : sumJ (u :: U) f = f u + sumJ U f := by simp [sumJ]
theorem sumJ_zero (U : List J) : (sumJ U fun _ => 0) = 0 := by
  induction U with
  | nil => rfl
  | cons u U ih => rw [sumJ_cons, ih]; rfl
theorem perm_sum {l m : List Int} (p : l.Perm m) : l.sum = m.sum := by
  induction p with
  | nil => rfl
  | cons x _ ih => rw [List.sum_cons, List.sum_cons, ih]
  | swap x y l => simp only [List.sum_cons]; omega
  | trans _ _ a b => exact a.trans b
theorem sumJ_add (U : List J) (f g : J → Int) : sumJ U (fun j => f j + g j) = sumJ U f + sumJ U g := by
  induction U with
  | nil => simp [sumJ]
  | cons u U ih => rw [sumJ_cons, sumJ_cons, sumJ_cons, ih]; omega
theorem sumJ_congr {U : List J} {f g : J → Int} (h : ∀ j ∈ U, f j = g j) : sumJ U f = sumJ U g := by
  induction U with
  | nil => rfl
  | cons u U ih => rw [sumJ_cons, sumJ_cons, h u List.mem_cons_self, ih fun j hj => h j (List.mem_cons_of_mem _ hj)]
theorem sumJ_le {U : List J} {f g : J → Int} (h : ∀ j ∈ U, f j ≤ g j) : sumJ U f ≤ sumJ U g := by
  induction U with
  | nil => exact Int.le_refl _
  | cons u U ih =>
    rw [sumJ_cons, sumJ_cons]
    have := h u List.mem_cons_self
    have := ih fun j hj => h j (List.mem_cons_of_mem _ hj)
    omega
theorem sumJ_filter (U : List J) (p : J → Bool) : ((U.filter p).length : Int) = sumJ U fun j => b2n (p j) := by
  induction U with
  | nil => rfl
  | cons u U ih =>
    rw [sumJ_cons, ← ih]
    cases h : p u with
    | true => rw [List.filter_cons_of_pos h]; simp [b2n]; omega
    | false => rw [List.filter_cons_of_neg (by rw [h]; decide)]; simp [b2n]
theorem len_of {l m : List J} (h1 : l.Nodup) (h2 : m.Nodup) (h : ∀ j, j ∈ l ↔ j ∈ m) : l.length = m.length :=
  Nat.le_antisymm (h1.length_le_of_subset fun j hj => (h j).mp hj) (h2.length_le_of_subset fun j hj => (h j).mpr hj)
theorem len_sum {U js : List J} (hU : U.Nodup) (h : js.Nodup) (hs : ∀ j ∈ js, j ∈ U) : (js.length : Int) = sumJ U fun j => b2n (decide (j ∈ js)) := by
  rw [← sumJ_filter]
  rw [len_of h (hU.filter _) fun j => ⟨fun hj => List.mem_filter.mpr ⟨hs j hj, decide_eq_true hj⟩, fun hj => of_decide_eq_true (List.mem_filter.mp hj).2⟩]
def diff (a b : Lay) (j : J) : Int := b2n (a.has j != b.has j)
theorem gap_sum {U : List J} {a b : Lay} (hU : U.Nodup) (ha : a.js.Nodup) (hb : b.js.Nodup) (sa : ∀ j ∈ a.js, j ∈ U) (sb : ∀ j ∈ b.js, j ∈ U) : gap a b = sumJ U (diff a b) := by
  have h1 := len_sum hU ha sa
  have h2 := len_sum hU hb sb
  have h3 : ((a.js.filter b.has).length : Int) = sumJ U fun j => b2n (decide (j ∈ a.js.filter b.has)) := len_sum hU (ha.filter _) fun j hj => sa j (List.mem_filter.mp hj).1
  have h4 : sumJ U (diff a b) + (sumJ U (fun j => b2n (decide (j ∈ a.js.filter b.has))) + sumJ U (fun j => b2n (decide (j ∈ a.js.filter b.has)))) = sumJ U (fun j => b2n (decide (j ∈ a.js))) + sumJ U (fun j => b2n (decide (j ∈ b.js))) := by
    rw [← sumJ_add, ← sumJ_add, ← sumJ_add]
    refine sumJ_congr fun j _ => ?_
    have e : decide (j ∈ a.js.filter b.has) = (a.has j && b.has j) := by
      simp only [List.mem_filter, Lay.has, Bool.decide_and, decide_eq_true_eq]
    rw [e]
    show b2n (a.has j != b.has j) + (b2n _ + b2n _) = b2n (a.has j) + b2n (b.has j)
    cases a.has j <;> cases b.has j <;> rfl
  unfold gap
  omega
theorem diff_out {a b : Lay} {j : J} (h1 : j ∉ a.js) (h2 : j ∉ b.js) : diff a b j = 0 := by simp [diff, Lay.has, h1, h2, b2n]
/-! how often a joint changes -/
def ch : M → J → Int
  | .leaf _, _ => 0
  | .fork l a b, j => diff l a.top j + ch a j + (diff l b.top j + ch b j)
/-- all lays of labels lie among U -/
def M.within (U : List J) : M → Prop
  | .leaf l => l.js.Nodup ∧ ∀ j ∈ l.js, j ∈ U
  | .fork l a b => (l.js.Nodup ∧ ∀ j ∈ l.js, j ∈ U) ∧ a.within U ∧ b.within U
theorem within_top {U : List J} {m : M} (h : m.within U) : m.top.js.Nodup ∧ ∀ j ∈ m.top.js, j ∈ U := by
  cases m with
  | leaf l => exact h
  | fork l a b => exact h.1
theorem summed_sum {U : List J} (hU : U.Nodup) : ∀ {m : M}, m.within U → summed m = sumJ U (ch m)
  | .leaf l, _ => by
    exact (sumJ_zero U).symm
  | .fork l a b, h => by
    obtain ⟨⟨h1, h2⟩, h3, h4⟩ := h
    obtain ⟨a1, a2⟩ := within_top h3
    obtain ⟨b1, b2⟩ := within_top h4
    show gap l a.top + summed a + (gap l b.top + summed b) = sumJ U fun j => diff l a.top j + ch a j + (diff l b.top j + ch b j)
    rw [sumJ_add, sumJ_add, sumJ_add, summed_sum hU h3, summed_sum hU h4, gap_sum hU h1 a1 h2 a2, gap_sum hU h1 b1 h2 b2]
/-! the plain labels change as often as they must -/
def lab (s : Option Bool) (p : Bool) : Bool := s.getD p
theorem plain_has {n : Int} {t : T} {ab : List J} {j : J} (h : t.ok n) : (plain t ab).top.has j = lab (best t j).1 (decide (j ∈ ab)) := by
  cases t with
  | leaf l => simp [plain, M.top, best, lab]
  | fork a b =>
    show decide (j ∈ (joints (.fork a b)).filter (want (.fork a b) ab)) = _
    by_cases hj : j ∈ joints (.fork a b)
    · have e : decide (j ∈ (joints (.fork a b)).filter (want (.fork a b) ab)) = want (.fork a b) ab j := by
        simp only [List.mem_filter, hj, true_and, Bool.decide_eq_true]
      rw [e]
      unfold want lab
      rcases (best (.fork a b) j).1 with _ | _ | _ <;> simp
    · have e : best (.fork a b) j = (some false, 0) := best_out fun l hl hm => hj ((joints_mem h j).mpr ⟨l, hl, hm⟩)
      have e2 : j ∉ (joints (.fork a b)).filter (want (.fork a b) ab) := fun q => hj (List.mem_filter.mp q).1
      simp [e2, e, lab]
theorem ch_plain {n : Int} : ∀ {t : T} {ab : List J} {j : J}, t.ok n → ch (plain t ab) j = ((best t j).2 : Int)
  | .leaf l, _, _, _ => rfl
  | .fork a b, ab, j, h => by
    have ht := plain_has (ab := ab) (j := j) h
    have e : plain (.fork a b) ab = .fork ⟨a.n, (joints (.fork a b)).filter (want (.fork a b) ab)⟩ (plain a ((joints (.fork a b)).filter (want (.fork a b) ab))) (plain b ((joints (.fork a b)).filter (want (.fork a b) ab))) := rfl
    rw [e] at ht ⊢
    generalize hs : (joints (.fork a b)).filter (want (.fork a b) ab) = s at *
    have ha := plain_has (ab := s) (j := j) h.1
    have hb := plain_has (ab := s) (j := j) h.2
    show diff ⟨a.n, s⟩ (plain a s).top j + ch (plain a s) j + (diff ⟨a.n, s⟩ (plain b s).top j + ch (plain b s) j) = (((best a j).2 + (best b j).2 + extra (best a j).1 (best b j).1 : Nat) : Int)
    rw [ch_plain h.1, ch_plain h.2]
    have hl : (⟨a.n, s⟩ : Lay).has j = decide (j ∈ s) := rfl
    have ht' : decide (j ∈ s) = lab (comb (best a j).1 (best b j).1) (decide (j ∈ ab)) := ht
    unfold diff
    rw [ha, hb, hl, ht']
    have key : ∀ (x y : Option Bool) (p : Bool), b2n (lab (comb x y) p != lab x (lab (comb x y) p)) + b2n (lab (comb x y) p != lab y (lab (comb x y) p)) = (extra x y : Int) := by
      intro x y p
      rcases x with _ | _ | _ <;> rcases y with _ | _ | _ <;> cases p <;> rfl
    have := key (best a j).1 (best b j).1 (decide (j ∈ ab))
    omega
/-! no labels change less often -/
def pen (s : Option Bool) (p : Bool) : Int := match s with
  | none => 0
  | some q => b2n (q != p)
theorem pen_nn (s : Option Bool) (p : Bool) : 0 ≤ pen s p := by
  rcases s with _ | _ | _ <;> cases p <;> simp [pen, b2n]
theorem pen_step (x y : Option Bool) (l p q : Bool) : (extra x y : Int) + pen (comb x y) l ≤ b2n (l != p) + pen x p + (b2n (l != q) + pen y q) := by
  rcases x with _ | _ | _ <;> rcases y with _ | _ | _ <;> cases l <;> cases p <;> cases q <;> decide
def low (t : T) (L : Lay) (j : J) : Int := ((best t j).2 : Int) + pen (best t j).1 (L.has j)
theorem low_step {a b : T} {L La Lb : Lay} {j : J} : low (.fork a b) L j ≤ diff L La j + low a La j + (diff L Lb j + low b Lb j) := by
  have := pen_step (best a j).1 (best b j).1 (L.has j) (La.has j) (Lb.has j)
  unfold low diff
  show (((best a j).2 + (best b j).2 + extra (best a j).1 (best b j).1 : Nat) : Int) + pen (comb (best a j).1 (best b j).1) (L.has j) ≤ _
  omega
/-! the cost -/
theorem cost_sum {n : Int} {U : List J} {t : T} (h : t.ok n) (hU : U.Nodup) (hs : ∀ j ∈ joints t, j ∈ U) : (cost t : Int) = sumJ U fun j => ((best t j).2 : Int) := by
  have e1 : (cost t : Int) = sumJ (joints t) fun j => ((best t j).2 : Int) := by
    unfold cost sumJ
    induction joints t with
    | nil => rfl
    | cons a l ih => simp only [List.map_cons, List.sum_cons]; omega
  have key : ∀ (W js : List J), W.Nodup → js.Nodup → (∀ j ∈ js, j ∈ W) → ∀ f : J → Int, (∀ j, j ∉ js → f j = 0) → sumJ js f = sumJ W f := by
    intro W
    induction W with
    | nil =>
      intro js _ _ hjs f _
      cases js with
      | nil => rfl
      | cons j js => exact absurd (hjs j List.mem_cons_self) (by simp)
    | cons w W ih =>
      intro js hW hj hjs f hf
      rw [List.nodup_cons] at hW
      by_cases hw : w ∈ js
      · have e2 : sumJ js f = f w + sumJ (js.erase w) f := by
          have p := List.perm_cons_erase hw
          have : (js.map f).sum = ((w :: js.erase w).map f).sum := perm_sum (p.map f)
          unfold sumJ
          rw [this]; simp
        have e3 : sumJ (js.erase w) f = sumJ W f := by
          have n2 : (js.erase w).Nodup := hj.erase w
          have hwe : w ∉ js.erase w := by
            intro q
            exact ((hj.mem_erase_iff).mp q).1 rfl
          have g : sumJ (js.erase w) f = sumJ (js.erase w) fun j => if j = w then 0 else f j := sumJ_congr fun j q => by
            have : j ≠ w := fun e => hwe (e ▸ q)
            simp [this]
          have g2 : sumJ W f = sumJ W fun j => if j = w then 0 else f j := sumJ_congr fun j q => by
            have : j ≠ w := fun e => hW.1 (e ▸ q)
            simp [this]
          rw [g, g2]
          refine ih _ hW.2 n2 (fun j q => ?_) _ fun j q => ?_
          · have q1 := (hj.mem_erase_iff).mp q
            rcases List.mem_cons.mp (hjs j q1.2) with e | e
            · exact absurd e q1.1
            · exact e
          · by_cases e : j = w
            · simp [e]
            · simp only [e, if_false]
              exact hf j fun z => q ((hj.mem_erase_iff).mpr ⟨e, z⟩)
        rw [e2, e3, sumJ_cons]
      · have e2 : sumJ js f = sumJ W f := ih js hW.2 hj (fun j q => by
          rcases List.mem_cons.mp (hjs j q) with e | e
          · exact absurd (e ▸ q) hw
          · exact e) f hf
        rw [e2, sumJ_cons, hf w hw]; omega
  rw [e1]
  refine key U _ hU (nodup_of_sorted (joints_sorted h)) hs _ fun j hj => ?_
  rw [best_out fun l hl hm => hj ((joints_mem h j).mpr ⟨l, hl, hm⟩)]
  rfl
theorem plain_within {n : Int} {U : List J} : ∀ {t : T} {ab : List J}, t.ok n → (∀ j ∈ joints t, j ∈ U) → (plain t ab).within U
  | .leaf l, _, h, hs => ⟨nodup_of_sorted h.1.up, fun j hj => hs j ((joints_mem h j).mpr ⟨l, by simp [T.leaves], hj⟩)⟩
  | .fork a b, ab, h, hs => by
    have ja : ∀ j ∈ joints a, j ∈ U := fun j q => hs j ((joints_mem h j).mpr (let ⟨l, h1, h2⟩ := (joints_mem h.1 j).mp q; ⟨l, List.mem_append_left _ h1, h2⟩))
    have jb : ∀ j ∈ joints b, j ∈ U := fun j q => hs j ((joints_mem h j).mpr (let ⟨l, h1, h2⟩ := (joints_mem h.2 j).mp q; ⟨l, List.mem_append_right _ h1, h2⟩))
    exact ⟨⟨nodup_of_sorted ((joints_sorted h).filter _), fun j hj => hs j (List.mem_filter.mp hj).1⟩, plain_within h.1 ja, plain_within h.2 jb⟩
/-- the plain labels' sum is the cost -/
theorem summed_plain {n : Int} {t : T} {ab : List J} (h : t.ok n) : summed (plain t ab) = cost t := by
  have hU := nodup_of_sorted (joints_sorted h)
  rw [summed_sum hU (plain_within h fun _ q => q), cost_sum h hU fun _ q => q]
  exact sumJ_congr fun j _ => ch_plain h
end Dc
/-! Fm3: the search over all lays comes to the cost; all lays of one or two links. -/
namespace Dc
theorem minI_spec {xs : List Int} (h : xs ≠ []) : minI xs ∈ xs ∧ ∀ y ∈ xs, minI xs ≤ y := by
  unfold minI
  cases e : xs.min? with
  | none => exact absurd (List.min?_eq_none_iff.mp e) h
  | some m =>
    have := List.min?_eq_some_iff.mp e
    exact this
theorem minI_of {xs : List Int} {m : Int} (h1 : m ∈ xs) (h2 : ∀ y ∈ xs, m ≤ y) : m = minI xs := by
  have h : xs ≠ [] := fun e => by rw [e] at h1; cases h1
  obtain ⟨a, b⟩ := minI_spec h
  have := h2 _ a
  have := b _ h1
  omega
def cand (ev : List Lay) (c : T) (L : Lay) : List Int := ev.filterMap fun L' => (val ev c L').map (· + gap L L')
theorem val_fork (ev : List Lay) (a b : T) (L : Lay) : val ev (.fork a b) L = some (minI (cand ev a L) + minI (cand ev b L)) := rfl
theorem cand_mem {ev : List Lay} {c : T} {L : Lay} {y : Int} : y ∈ cand ev c L ↔ ∃ L' ∈ ev, ∃ v, val ev c L' = some v ∧ y = v + gap L L' := by
  unfold cand
  rw [List.mem_filterMap]
  constructor
  · rintro ⟨L', h1, h2⟩
    cases e : val ev c L' with
    | none => rw [e] at h2; cases h2
    | some v => rw [e] at h2; exact ⟨L', h1, v, e, (Option.some.inj h2).symm⟩
  · rintro ⟨L', h1, v, h2, rfl⟩
    exact ⟨L', h1, by rw [h2]; rfl⟩
theorem cand_ne {ev : List Lay} {c : T} {L : Lay} (h : ∀ l ∈ c.leaves, l ∈ ev) : cand ev c L ≠ [] := by
  have key : ∃ L' ∈ ev, ∃ v, val ev c L' = some v := by
    cases c with
    | leaf l => exact ⟨l, h l (by simp [T.leaves]), 0, by simp [val]⟩
    | fork a b =>
      have : ∃ l, l ∈ (T.fork a b).leaves := by
        have g : ∀ t : T, ∃ l, l ∈ t.leaves := by
          intro t
          induction t with
          | leaf l => exact ⟨l, by simp [T.leaves]⟩
          | fork a b ih _ =>
            obtain ⟨l, hl⟩ := ih
            exact ⟨l, List.mem_append_left _ hl⟩
        exact g _
      obtain ⟨l, hl⟩ := this
      exact ⟨l, h l hl, _, val_fork ev a b l⟩
  obtain ⟨L', h1, v, h2⟩ := key
  intro e
  have q := (cand_mem (L := L)).mpr ⟨L', h1, v, h2, rfl⟩
  rw [e] at q; cases q
theorem val_ge {ev : List Lay} {U : List J} (hU : U.Nodup) (hev : ∀ L ∈ ev, L.js.Nodup ∧ ∀ j ∈ L.js, j ∈ U) : ∀ {t : T} {L : Lay} {v : Int}, (∀ l ∈ t.leaves, l ∈ ev) → L ∈ ev → val ev t L = some v → sumJ U (low t L) ≤ v
  | .leaf l, L, v, _, _, e => by
    unfold val at e
    split at e
    · rename_i h
      subst h
      cases e
      rw [show sumJ U (low (.leaf L) L) = sumJ U fun _ => 0 from sumJ_congr fun j _ => by simp [low, best, pen, b2n]]
      rw [sumJ_zero]; exact Int.le_refl _
    · cases e
  | .fork a b, L, v, hl, hL, e => by
    rw [val_fork] at e
    cases e
    have la : ∀ l ∈ a.leaves, l ∈ ev := fun l q => hl l (List.mem_append_left _ q)
    have lb : ∀ l ∈ b.leaves, l ∈ ev := fun l q => hl l (List.mem_append_right _ q)
    obtain ⟨La, ha, va, ea, qa⟩ := cand_mem.mp (minI_spec (cand_ne (L := L) la)).1
    obtain ⟨Lb, hb, vb, eb, qb⟩ := cand_mem.mp (minI_spec (cand_ne (L := L) lb)).1
    have ga := val_ge hU hev la ha ea
    have gb := val_ge hU hev lb hb eb
    obtain ⟨nL, sL⟩ := hev L hL
    obtain ⟨nA, sA⟩ := hev La ha
    obtain ⟨nB, sB⟩ := hev Lb hb
    have dA := gap_sum hU nL nA sL sA
    have dB := gap_sum hU nL nB sL sB
    have step : sumJ U (low (.fork a b) L) ≤ sumJ U (fun j => diff L La j + low a La j + (diff L Lb j + low b Lb j)) := sumJ_le fun j _ => low_step
    rw [sumJ_add, sumJ_add, sumJ_add] at step
    have e1 : sumJ U (fun j => diff L La j) = sumJ U (diff L La) := rfl
    have e2 : sumJ U (fun j => low a La j) = sumJ U (low a La) := rfl
    have e3 : sumJ U (fun j => diff L Lb j) = sumJ U (diff L Lb) := rfl
    have e4 : sumJ U (fun j => low b Lb j) = sumJ U (low b Lb) := rfl
    omega
def M.inn (ev : List Lay) : M → Prop
  | .leaf l => l ∈ ev
  | .fork l a b => l ∈ ev ∧ a.inn ev ∧ b.inn ev
theorem inn_top {ev : List Lay} {m : M} (h : m.inn ev) : m.top ∈ ev := by
  cases m with
  | leaf l => exact h
  | fork l a b => exact h.1
theorem val_le {ev : List Lay} {n : Int} : ∀ {t : T} {m : M}, m.fits n t → m.inn ev → (∀ l ∈ t.leaves, l ∈ ev) → ∃ v, val ev t m.top = some v ∧ v ≤ summed m
  | .leaf l, .leaf l', h, _, _ => ⟨0, by
    have e : l' = l := h
    simp [val, M.top, e], Int.le_refl _⟩
  | .leaf l, .fork _ _ _, h, _, _ => h.elim
  | .fork a b, .leaf _, h, _, _ => h.elim
  | .fork a b, .fork L x y, h, hi, hl => by
    have la : ∀ l ∈ a.leaves, l ∈ ev := fun l q => hl l (List.mem_append_left _ q)
    have lb : ∀ l ∈ b.leaves, l ∈ ev := fun l q => hl l (List.mem_append_right _ q)
    obtain ⟨va, ea, qa⟩ := val_le h.2.2.1 hi.2.1 la
    obtain ⟨vb, eb, qb⟩ := val_le h.2.2.2 hi.2.2 lb
    have ma := (minI_spec (cand_ne (L := L) la)).2 _ (cand_mem.mpr ⟨x.top, inn_top hi.2.1, va, ea, rfl⟩)
    have mb := (minI_spec (cand_ne (L := L) lb)).2 _ (cand_mem.mpr ⟨y.top, inn_top hi.2.2, vb, eb, rfl⟩)
    refine ⟨_, val_fork ev a b L, ?_⟩
    show _ ≤ gap L x.top + summed x + (gap L y.top + summed y)
    omega
/-- all lays of so many links -/
structure AllL (n : Int) (ev : List Lay) : Prop where
  ok : ∀ L ∈ ev, L.ok ∧ L.n = n
  all : ∀ L : Lay, L.ok → L.n = n → L ∈ ev
theorem fits_inn {n : Int} {ev : List Lay} (A : AllL n ev) : ∀ {t : T} {m : M}, t.ok n → m.fits n t → m.inn ev
  | .leaf l, .leaf l', h, f => by
    have e : l' = l := f
    subst e
    exact A.all l' h.1 h.2
  | .leaf l, .fork _ _ _, _, h => h.elim
  | .fork a b, .leaf _, _, h => h.elim
  | .fork a b, .fork L x y, h, f => ⟨A.all L f.1 f.2.1, fits_inn A h.1 f.2.2.1, fits_inn A h.2 f.2.2.2⟩
/-- the search comes to the cost -/
theorem search_cost {n : Int} {ev : List Lay} {t : T} {m : Int} (h1 : 1 ≤ n) (h2 : n ≤ 12) (A : AllL n ev) (h : t.ok n) (hm : ∃ L ∈ ev, val ev t L = some m) (hle : ∀ L ∈ ev, ∀ v, val ev t L = some v → m ≤ v) : m = cost t := by
  have nd : ∀ L ∈ ev, L.js.Nodup := fun L hL => nodup_of_sorted (A.ok L hL).1.up
  have hU : (firsts ev).Nodup := firsts_nodup nd
  have hev : ∀ L ∈ ev, L.js.Nodup ∧ ∀ j ∈ L.js, j ∈ firsts ev := fun L hL => ⟨nd L hL, fun j hj => (firsts_mem nd j).mpr ⟨L, hL, hj⟩⟩
  have lv : ∀ l ∈ t.leaves, l ∈ ev := fun l hl => A.all l (ok_leaves h l hl).1 (ok_leaves h l hl).2
  have js : ∀ j ∈ joints t, j ∈ firsts ev := fun j hj => by
    obtain ⟨l, a, b⟩ := (joints_mem h j).mp hj
    exact (firsts_mem nd j).mpr ⟨l, lv l a, b⟩
  obtain ⟨L, hL, e⟩ := hm
  have g := val_ge hU hev lv hL e
  have c := cost_sum h hU js
  have le1 : sumJ (firsts ev) (fun j => ((best t j).2 : Int)) ≤ sumJ (firsts ev) (low t L) := sumJ_le fun j _ => by
    have := pen_nn (best t j).1 (L.has j)
    unfold low; omega
  have f := plain_fits (ab := []) h1 h2 h free_nil
  have i := fits_inn A h f
  obtain ⟨v, e2, q⟩ := val_le f i lv
  have := hle _ (inn_top i) v e2
  rw [summed_plain h] at q
  omega
/-! all lays, as the law makes them -/
def ends (js : List J) : List Int := js.map (·.1) ++ js.map (·.2)
def rangeI (lo : Int) (n : Nat) : List Int := (List.range n).map fun (i : Nat) => lo + (i : Int)
def matesOf (n : Nat) (e : Nat) (js : List J) : List Int := (rangeI ((e : Int) + 1) (n - (e + 1))).filter fun m => !decide (m ∈ ends js)
def stepA (n : Nat) (found : List (List J)) (e : Nat) : List (List J) := found ++ found.flatMap fun js => (matesOf n e js).map fun m => ((e : Int), m) :: js
/-- k ends are done, the greatest first -/
def allJ (n : Nat) : Nat → List (List J)
  | 0 => [[]]
  | k + 1 => stepA n (allJ n k) (n - 1 - k)
def allL (n : Nat) : List Lay := (allJ (2 * n) (2 * n)).map fun js => ⟨n, js.mergeSort leJ⟩
theorem allL_eq {n : Nat} (h : ∀ js ∈ allJ (2 * n) (2 * n), js.Pairwise fun a b => leJ a b = true) : allL n = (allJ (2 * n) (2 * n)).map fun js => ⟨n, js⟩ := by
  unfold allL
  refine List.map_congr_left fun js hj => ?_
  rw [List.mergeSort_of_pairwise (h js hj)]
def raw (n : Nat) : List Lay := (allJ (2 * n) (2 * n)).map fun js => ⟨n, js⟩
def okB (n : Int) (js : List J) : Bool := decide (1 ≤ n) && decide (n ≤ 12) && decide (∀ j ∈ js, okJ n j) && decide (js.Pairwise ltJ) && decide (js.Pairwise fun a b => ¬ share a b)
theorem ok_of {l : Lay} (h : okB l.n l.js = true) : l.ok := by
  unfold okB at h
  simp only [Bool.and_eq_true, decide_eq_true_eq] at h
  exact ⟨h.1.1.1.1, h.1.1.1.2, h.1.1.2, h.1.2, h.2⟩
theorem okB_of {l : Lay} (h : l.ok) : okB l.n l.js = true := by
  unfold okB
  simp only [Bool.and_eq_true, decide_eq_true_eq]
  exact ⟨⟨⟨⟨h.n1, h.n2⟩, h.js⟩, h.up⟩, h.ap⟩
def U1 : List J := [(0, 1)]
def U2 : List J := [(0, 1), (0, 2), (0, 3), (1, 2), (1, 3), (2, 3)]
def pick (b : Bool) (j : J) : List J := if b then [j] else []
theorem filter_pick (f : J → Bool) : ∀ U : List J, U.filter f = (U.map fun j => pick (f j) j).flatten
  | [] => rfl
  | u :: U => by
    rw [List.map_cons, List.flatten_cons, ← filter_pick f U]
    cases h : f u with
    | true => rw [List.filter_cons_of_pos h]; rfl
    | false => rw [List.filter_cons_of_neg (by rw [h]; decide)]; rfl
theorem js_pick {L : Lay} (h : L.ok) {U : List J} (hU : U.Pairwise ltJ) (hs : ∀ j, okJ L.n j → j ∈ U) : L.js = (U.map fun j => pick (decide (j ∈ L.js)) j).flatten := by
  have e : L.js = U.filter fun j => decide (j ∈ L.js) := by
    refine eq_of_sorted h.up (hU.filter _) fun j => ?_
    rw [List.mem_filter]
    exact ⟨fun hj => ⟨hs j (h.js j hj), decide_eq_true hj⟩, fun hj => of_decide_eq_true hj.2⟩
  exact e.trans (filter_pick _ U)
theorem in1 (j : J) (h : okJ 1 j) : j ∈ U1 := by
  obtain ⟨a, b⟩ := j
  obtain ⟨h1, h2, h3⟩ := h
  have ha : a = 0 := by simp only at *; omega
  have hb : b = 1 := by simp only at *; omega
  subst ha hb
  decide
theorem in2 (j : J) (h : okJ 2 j) : j ∈ U2 := by
  obtain ⟨a, b⟩ := j
  obtain ⟨h1, h2, h3⟩ := h
  simp only at *
  have : (a = 0 ∧ b = 1) ∨ (a = 0 ∧ b = 2) ∨ (a = 0 ∧ b = 3) ∨ (a = 1 ∧ b = 2) ∨ (a = 1 ∧ b = 3) ∨ (a = 2 ∧ b = 3) := by omega
  rcases this with ⟨rfl, rfl⟩ | ⟨rfl, rfl⟩ | ⟨rfl, rfl⟩ | ⟨rfl, rfl⟩ | ⟨rfl, rfl⟩ | ⟨rfl, rfl⟩ <;> decide
theorem raw1 : (∀ L ∈ raw 1, okB L.n L.js = true ∧ L.n = 1) ∧ ∀ b : Bool, (⟨1, pick b (0, 1) ++ []⟩ : Lay) ∈ raw 1 := by decide
theorem raw2a : ∀ L ∈ raw 2, okB L.n L.js = true ∧ L.n = 2 := by decide
theorem raw2b : ∀ b1 b2 b3 b4 b5 b6 : Bool, okB 2 (pick b1 (0, 1) ++ (pick b2 (0, 2) ++ (pick b3 (0, 3) ++ (pick b4 (1, 2) ++ (pick b5 (1, 3) ++ (pick b6 (2, 3) ++ [])))))) = true →
    (⟨2, pick b1 (0, 1) ++ (pick b2 (0, 2) ++ (pick b3 (0, 3) ++ (pick b4 (1, 2) ++ (pick b5 (1, 3) ++ (pick b6 (2, 3) ++ [])))))⟩ : Lay) ∈ raw 2 := by decide +kernel
theorem AllL.of_mem {n : Int} {a b : List Lay} (h : AllL n a) (e : ∀ L, L ∈ b ↔ L ∈ a) : AllL n b := ⟨fun L q => h.ok L ((e L).mp q), fun L q r => (e L).mpr (h.all L q r)⟩
theorem all_raw1 : AllL 1 (raw 1) := ⟨fun L hL => ⟨ok_of (raw1.1 L hL).1, (raw1.1 L hL).2⟩, fun L h e => by
  have q := js_pick h (U := U1) (by decide) (by rw [e]; exact in1)
  obtain ⟨n, js⟩ := L
  have e' : n = 1 := e
  subst e'
  have q' : js = pick (decide ((0, 1) ∈ js)) (0, 1) ++ [] := q
  rw [q']
  exact raw1.2 _⟩
theorem all_raw2 : AllL 2 (raw 2) := ⟨fun L hL => ⟨ok_of (raw2a L hL).1, (raw2a L hL).2⟩, fun L h e => by
  have q := js_pick h (U := U2) (by decide) (by rw [e]; exact in2)
  have k := okB_of h
  obtain ⟨n, js⟩ := L
  have e' : n = 2 := e
  subst e'
  have q' : js = pick (decide ((0, 1) ∈ js)) (0, 1) ++ (pick (decide ((0, 2) ∈ js)) (0, 2) ++ (pick (decide ((0, 3) ∈ js)) (0, 3) ++ (pick (decide ((1, 2) ∈ js)) (1, 2) ++ (pick (decide ((1, 3) ∈ js)) (1, 3) ++ (pick (decide ((2, 3) ∈ js)) (2, 3) ++ []))))) := q
  have k' : okB 2 js = true := k
  generalize decide ((0, 1) ∈ js) = b1 at q'
  generalize decide ((0, 2) ∈ js) = b2 at q'
  generalize decide ((0, 3) ∈ js) = b3 at q'
  generalize decide ((1, 2) ∈ js) = b4 at q'
  generalize decide ((1, 3) ∈ js) = b5 at q'
  generalize decide ((2, 3) ∈ js) = b6 at q'
  rw [q'] at k' ⊢
  exact raw2b b1 b2 b3 b4 b5 b6 k'⟩
theorem up1 : ∀ js ∈ allJ (2 * 1) (2 * 1), js.Pairwise fun a b => leJ a b = true := by decide
theorem up2 : ∀ js ∈ allJ (2 * 2) (2 * 2), js.Pairwise fun a b => leJ a b = true := by decide
/-- the law's own list of all lays -/
theorem all_lays {n : Nat} (h : n = 1 ∨ n = 2) : AllL n (allL n) := by
  rcases h with rfl | rfl
  · rw [allL_eq up1]; exact all_raw1
  · rw [allL_eq up2]; exact all_raw2
end Dc
/-! Fd: joints, lays, trees, labels as data. -/
namespace Dc
open PySem Pd
def eJ (j : J) : D := .tuple [.int j.1, .int j.2]
def eL (l : Lay) : D := .tuple [.int l.n, .tuple (l.js.map eJ)]
def eT : T → D
  | .leaf l => eL l
  | .fork a b => .tuple [.str "fork", eT a, eT b]
def eM : M → D
  | .leaf l => eL l
  | .fork l a b => .tuple [.str "fork", eL l, eM a, eM b]
/-! order, equality -/
theorem le_eJ (a b : J) : PySem.W.dataLe false id (eJ a) (eJ b) = leJ a b :=
  congrFun (congrFun (PySem.W.dataLe_ii (β := J) (fun j => j.1) (fun j => j.2)) a) b
theorem sort_eJ (js : List J) : sortD (js.map eJ) = (js.mergeSort leJ).map eJ := by
  unfold sortD
  exact (List.map_mergeSort fun a _ b _ => (le_eJ a b).symm).symm
theorem eqv_eJ (a b : J) : PyData.eqv (eJ a) (eJ b) = decide (a = b) := by
  obtain ⟨a1, a2⟩ := a
  obtain ⟨b1, b2⟩ := b
  simp [eJ, PyData.eqv, PyData.eqvAll, Bool.decide_and, Bool.beq_eq_decide_eq]
theorem eqvAll_eJ : ∀ a b : List J, PyData.eqvAll (a.map eJ) (b.map eJ) = decide (a = b)
  | [], [] => by simp [PyData.eqvAll]
  | [], _ :: _ => by simp [PyData.eqvAll]
  | _ :: _, [] => by simp [PyData.eqvAll]
  | x :: a, y :: b => by
    rw [List.map_cons, List.map_cons, PyData.eqvAll, eqv_eJ, eqvAll_eJ a b]
    simp [Bool.decide_and]
theorem eqv_eL (a b : Lay) : PyData.eqv (eL a) (eL b) = decide (a = b) := by
  obtain ⟨a1, a2⟩ := a
  obtain ⟨b1, b2⟩ := b
  simp [eL, PyData.eqv, PyData.eqvAll, eqvAll_eJ, Bool.decide_and, Bool.beq_eq_decide_eq]
theorem any_eJ (js : List J) (j : J) : ((js.map eJ).any fun z => PyData.eqv z (eJ j)) = decide (j ∈ js) := by
  induction js with
  | nil => simp
  | cons a js ih =>
    rw [List.map_cons, List.any_cons, ih, eqv_eJ]
    simp only [List.mem_cons, Bool.decide_or]
    congr 1
    exact decide_eq_decide.mpr ⟨fun h => h.symm, fun h => h.symm⟩
/-! data that are told without harm: how deep, how much -/
structure Nc (dep b : Nat) (d : D) : Prop where
  lay : d.canLay0 = true
  sh : d.showable = true
  ls : d.leavesShort 13 = true
  dep : d.depth ≤ dep
  bk : d.bulk ≤ b
theorem Nc.mono {p q a b : Nat} {d : D} (h : Nc p a d) (h1 : p ≤ q) (h2 : a ≤ b) : Nc q b d := ⟨h.lay, h.sh, h.ls, Nat.le_trans h.dep h1, Nat.le_trans h.bk h2⟩
theorem Nc.shaped {p b : Nat} {d : D} (h : Nc p b d) (hp : p ≤ 64) : SeqAt.shaped d = true := by
  have := h.dep
  unfold SeqAt.shaped
  rw [h.lay, Bool.true_and]
  exact decide_eq_true (by omega)
theorem Nc.told {p b : Nat} {d : D} (h : Nc p b d) (hp : p ≤ 64) (hb : b ≤ 2 ^ 20) : Sh d :=
  ⟨h.sh, PyData.hasDict_of_canLay d h.lay, Nat.le_trans h.dep hp, PyData.shown_fits_bulk (by decide) (by decide) h.ls (Nat.le_trans h.bk hb)⟩
theorem int_len {i : Int} (h : i.natAbs < 10 ^ 9) : (PyData.shown (.int i)).length ≤ 13 := PyData.shown_int_le2 (by omega) (by omega)
theorem Nc.int {i : Int} (h : i.natAbs < 10 ^ 9) : Nc 0 0 (.int i) := by
  refine ⟨by simp [PyData.canLay0], ?_, ?_, by simp [PyData.depth], by simp [PyData.bulk]⟩
  · simp only [PyData.showable, decide_eq_true_eq]
    have : i.natAbs.log2 ≤ 30 := by
      by_cases z : i.natAbs = 0
      · rw [z]; decide
      · have := (Nat.log2_lt z).mpr (show i.natAbs < 2 ^ 31 by omega)
        omega
    omega
  · simp only [PyData.leavesShort, decide_eq_true_eq]
    exact int_len h
theorem Nc.bool (b : Bool) : Nc 0 0 (.bool b) := ⟨by simp [PyData.canLay0], by simp [PyData.showable], by simp [PyData.leavesShort], by simp [PyData.depth], by simp [PyData.bulk]⟩
theorem Nc.none : Nc 0 0 .none := ⟨by simp [PyData.canLay0], by simp [PyData.showable], by simp [PyData.leavesShort], by simp [PyData.depth], by simp [PyData.bulk]⟩
theorem Nc.word : Nc 0 4 (.str "fork") := ⟨by decide +kernel, by decide +kernel, by decide +kernel, by decide +kernel, by decide +kernel⟩
/-- rows of such -/
structure NcA (dep b : Nat) (ds : List D) : Prop where
  lay : PyData.canLayAll0 ds = true
  sh : PyData.showableAll ds = true
  ls : PyData.leavesShortAll 13 ds = true
  dep : PyData.depthAll ds ≤ dep
  bk : PyData.bulkAll ds ≤ b
theorem NcA.nil {dep : Nat} : NcA dep 0 [] := ⟨by simp [PyData.canLayAll0], by simp [PyData.showableAll], by simp [PyData.leavesShortAll], by simp [PyData.depthAll], by simp [PyData.bulkAll]⟩
theorem NcA.cons {dep a b : Nat} {d : D} {ds : List D} (h : Nc dep a d) (t : NcA dep b ds) : NcA dep (a + 1 + b) (d :: ds) := by
  refine ⟨by simp [PyData.canLayAll0, h.lay, t.lay], by simp [PyData.showableAll, h.sh, t.sh], by simp [PyData.leavesShortAll, h.ls, t.ls], ?_, ?_⟩
  · have := h.dep; have := t.dep
    simp only [PyData.depthAll]; omega
  · have := h.bk; have := t.bk
    simp only [PyData.bulkAll]; omega
theorem NcA.mono {p q a b : Nat} {ds : List D} (h : NcA p a ds) (h1 : p ≤ q) (h2 : a ≤ b) : NcA q b ds := ⟨h.lay, h.sh, h.ls, Nat.le_trans h.dep h1, Nat.le_trans h.bk h2⟩
theorem NcA.map {α : Type} {dep b : Nat} {f : α → D} : ∀ {xs : List α}, (∀ x ∈ xs, Nc dep b (f x)) → NcA dep ((b + 1) * xs.length) (xs.map f)
  | [], _ => by simpa using NcA.nil
  | x :: xs, h => (NcA.cons (h x List.mem_cons_self) (NcA.map fun y hy => h y (List.mem_cons_of_mem _ hy))).mono (Nat.le_refl _) (by rw [List.length_cons, Nat.mul_add]; omega)
theorem NcA.tup {dep b : Nat} {ds : List D} (h : NcA dep b ds) : Nc (dep + 1) b (.tuple ds) := by
  refine ⟨by simp [PyData.canLay0, h.lay], by simp [PyData.showable, h.sh], by simp [PyData.leavesShort, h.ls], ?_, ?_⟩
  · have := h.dep; simp only [PyData.depth]; omega
  · have := h.bk; simp only [PyData.bulk]; omega
theorem NcA.lst {dep b : Nat} {ds : List D} (h : NcA dep b ds) : Nc (dep + 1) b (.list ds) := by
  refine ⟨by simp [PyData.canLay0, h.lay], by simp [PyData.showable, h.sh], by simp [PyData.leavesShort, h.ls], ?_, ?_⟩
  · have := h.dep; simp only [PyData.depth]; omega
  · have := h.bk; simp only [PyData.bulk]; omega
/-! joints, lays, trees, labels -/
theorem nc_eJ {n : Int} (hn : n ≤ 12) {j : J} (h : okJ n j) : Nc 1 2 (eJ j) := by
  obtain ⟨h1, h2, h3⟩ := h
  exact ((NcA.cons (Nc.int (by omega)) (NcA.cons (Nc.int (by omega)) NcA.nil)).tup).mono (Nat.le_refl _) (Nat.le_refl _)
def grid : List J := (List.range 24).flatMap fun (a : Nat) => (List.range 24).map fun (b : Nat) => ((a : Int), (b : Int))
theorem grid_len : grid.length = 576 := by
  unfold grid
  rw [List.length_flatMap]
  simp only [List.length_map, List.length_range]
  decide
theorem in_grid {n : Int} (hn : n ≤ 12) {j : J} (h : okJ n j) : j ∈ grid := by
  obtain ⟨h1, h2, h3⟩ := h
  unfold grid
  rw [List.mem_flatMap]
  refine ⟨j.1.toNat, List.mem_range.mpr (by omega), List.mem_map.mpr ⟨j.2.toNat, List.mem_range.mpr (by omega), ?_⟩⟩
  exact Prod.ext (by show ((j.1.toNat : Nat) : Int) = j.1; omega) (by show ((j.2.toNat : Nat) : Int) = j.2; omega)
theorem few {n : Int} (hn : n ≤ 12) {js : List J} (h : js.Nodup) (ok : ∀ j ∈ js, okJ n j) : js.length ≤ 576 := by
  have := h.length_le_of_subset (l₂ := grid) fun j hj => in_grid hn (ok j hj)
  rw [grid_len] at this
  exact this
theorem ok_few {l : Lay} (h : l.ok) : l.js.length ≤ 576 := few h.n2 (nodup_of_sorted h.up) h.js
theorem nc_js {n : Int} (hn : n ≤ 12) {js : List J} (h : js.Nodup) (ok : ∀ j ∈ js, okJ n j) : NcA 1 1728 (js.map eJ) :=
  (NcA.map fun j hj => nc_eJ hn (ok j hj)).mono (Nat.le_refl _) (by have := few hn h ok; omega)
theorem nc_eL {l : Lay} (h : l.ok) : Nc 3 1730 (eL l) := by
  have h1 := h.n1
  have h2 := h.n2
  exact (NcA.cons ((Nc.int (by omega)).mono (Nat.zero_le 2) (Nat.le_refl _)) (NcA.cons (nc_js h.n2 (nodup_of_sorted h.up) h.js).tup NcA.nil)).tup.mono (Nat.le_refl _) (by omega)
theorem leaves_pos : ∀ t : T, 1 ≤ t.leaves.length
  | .leaf _ => Nat.le_refl _
  | .fork a b => by
    have := leaves_pos a
    show 1 ≤ (a.leaves ++ b.leaves).length
    rw [List.length_append]; omega
theorem nc_eT {n : Int} : ∀ {t : T}, t.ok n → Nc (t.depth + 3) (1740 * t.leaves.length - 10) (eT t)
  | .leaf l, h => (nc_eL h.1).mono (Nat.le_add_left _ _) (by simp [T.leaves])
  | .fork a b, h => by
    have ha := (nc_eT h.1).mono (Nat.add_le_add_right (Nat.le_max_left a.depth b.depth) 3) (Nat.le_refl _)
    have hb := (nc_eT h.2).mono (Nat.add_le_add_right (Nat.le_max_right a.depth b.depth) 3) (Nat.le_refl _)
    refine (NcA.cons (Nc.word.mono (Nat.zero_le _) (Nat.le_refl _)) (NcA.cons ha (NcA.cons hb NcA.nil))).tup.mono (by show max a.depth b.depth + 3 + 1 ≤ max a.depth b.depth + 1 + 3; omega) ?_
    have := leaves_pos a
    have := leaves_pos b
    show _ ≤ 1740 * (a.leaves ++ b.leaves).length - 10
    rw [List.length_append]; omega
theorem nc_eM {n : Int} : ∀ {t : T} {m : M}, t.ok n → m.fits n t → Nc (t.depth + 3) (3480 * t.leaves.length - 1750) (eM m)
  | .leaf l, .leaf l', h, f => by
    have e : l' = l := f
    subst e
    exact (nc_eL h.1).mono (Nat.le_add_left _ _) (by simp [T.leaves])
  | .leaf l, .fork _ _ _, _, f => f.elim
  | .fork a b, .leaf _, _, f => f.elim
  | .fork a b, .fork L x y, h, f => by
    have ha := (nc_eM h.1 f.2.2.1).mono (Nat.add_le_add_right (Nat.le_max_left a.depth b.depth) 3) (Nat.le_refl _)
    have hb := (nc_eM h.2 f.2.2.2).mono (Nat.add_le_add_right (Nat.le_max_right a.depth b.depth) 3) (Nat.le_refl _)
    refine (NcA.cons (Nc.word.mono (Nat.zero_le _) (Nat.le_refl _)) (NcA.cons ((nc_eL f.1).mono (Nat.le_add_left _ _) (Nat.le_refl _)) (NcA.cons ha (NcA.cons hb NcA.nil)))).tup.mono (by show max a.depth b.depth + 3 + 1 ≤ max a.depth b.depth + 1 + 3; omega) ?_
    have := leaves_pos a
    have := leaves_pos b
    show _ ≤ 3480 * (a.leaves ++ b.leaves).length - 1750
    rw [List.length_append]; omega
/-! how great the sums are -/
theorem best_le (j : J) : ∀ t : T, (best t j).2 + 1 ≤ t.leaves.length
  | .leaf _ => Nat.le_refl _
  | .fork a b => by
    have := best_le j a
    have := best_le j b
    have e : extra (best a j).1 (best b j).1 ≤ 1 := by
      rcases (best a j).1 with _ | _ | _ <;> rcases (best b j).1 with _ | _ | _ <;> decide
    show (best a j).2 + (best b j).2 + extra (best a j).1 (best b j).1 + 1 ≤ (a.leaves ++ b.leaves).length
    rw [List.length_append]; omega
theorem sum_bound {f : J → Nat} {B : Nat} : ∀ {l : List J}, (∀ j ∈ l, f j ≤ B) → (l.map f).sum ≤ B * l.length
  | [], _ => by simp
  | j :: l, h => by
    have := h j List.mem_cons_self
    have := sum_bound (l := l) fun k hk => h k (List.mem_cons_of_mem _ hk)
    rw [List.map_cons, List.sum_cons, List.length_cons, Nat.mul_add]; omega
theorem joints_few {n : Int} (hn : n ≤ 12) {t : T} (h : t.ok n) : (joints t).length ≤ 576 := few hn (nodup_of_sorted (joints_sorted h)) fun j hj => joints_ok h hj
theorem cost_le {n : Int} (hn : n ≤ 12) {t : T} (h : t.ok n) (h8 : t.leaves.length ≤ 8) : cost t ≤ 8 * 576 := by
  have h1 := joints_few hn h
  have h2 := sum_bound (f := fun j => (best t j).2) (B := 8) (l := joints t) fun j _ => by have := best_le j t; omega
  unfold cost
  omega
theorem gap_le {a b : Lay} (ha : a.js.length ≤ 576) (hb : b.js.length ≤ 576) : (gap a b).natAbs ≤ 2304 := by
  have : (a.js.filter b.has).length ≤ a.js.length := List.length_filter_le _ _
  unfold gap; omega
theorem top_few {n : Int} {t : T} {m : M} (h : t.ok n) (f : m.fits n t) : m.top.js.length ≤ 576 := by
  cases t with
  | leaf l => cases m with
    | leaf l' =>
      have e : l' = l := f
      subst e; exact ok_few h.1
    | fork _ _ _ => exact f.elim
  | fork a b => cases m with
    | leaf _ => exact f.elim
    | fork L x y => exact ok_few f.1
theorem summed_le {n : Int} : ∀ {t : T} {m : M}, t.ok n → m.fits n t → (summed m).natAbs + 4608 ≤ 4608 * t.leaves.length
  | .leaf l, .leaf l', _, _ => by show (0 : Int).natAbs + 4608 ≤ 4608 * 1; omega
  | .leaf l, .fork _ _ _, _, f => f.elim
  | .fork a b, .leaf _, _, f => f.elim
  | .fork a b, .fork L x y, h, f => by
    have ha := summed_le h.1 f.2.2.1
    have hb := summed_le h.2 f.2.2.2
    have ga := gap_le (ok_few f.1) (top_few h.1 f.2.2.1)
    have gb := gap_le (ok_few f.1) (top_few h.2 f.2.2.2)
    have la := leaves_pos a
    have lb := leaves_pos b
    show (gap L x.top + summed x + (gap L y.top + summed y)).natAbs + 4608 ≤ 4608 * (a.leaves ++ b.leaves).length
    rw [List.length_append]
    omega
theorem depth_le : ∀ t : T, t.depth + 1 ≤ t.leaves.length
  | .leaf _ => Nat.le_refl _
  | .fork a b => by
    have := depth_le a
    have := depth_le b
    show max a.depth b.depth + 1 + 1 ≤ (a.leaves ++ b.leaves).length
    rw [List.length_append]; omega
end Dc
/-! Tx: the defs of the text, their names by slots (printed by gentx.py). -/
namespace Dc
open PySem L2 Pd
def topS (i : Nat) : Stmt := PySem.Challenge.pw_doublecut_k45_whole_told_trees.main.body.getD i (.Pass ⟨0, 0, 0, 0⟩)
abbrev s_is_whole : Stmt := topS 6
abbrev n_is_whole : List Str := ["value", "least", "most"]
abbrev p_is_whole : List Str := ["value", "least", "most"]
theorem sc_is_whole : FnScope n_is_whole p_is_whole (defScope s_is_whole) := ⟨rfl, rfl, rfl, by decide +kernel, rfl, by decide +kernel, by decide +kernel⟩
abbrev s_is_joint : Stmt := topS 7
abbrev n_is_joint : List Str := ["links", "value", "end"]
abbrev p_is_joint : List Str := ["links", "value"]
theorem sc_is_joint : FnScope n_is_joint p_is_joint (defScope s_is_joint) := ⟨rfl, rfl, rfl, by decide +kernel, rfl, by decide +kernel, by decide +kernel⟩
abbrev s_wrong_place : Stmt := topS 8
abbrev n_wrong_place : List Str := ["value", "used", "last", "number", "joint"]
abbrev p_wrong_place : List Str := ["value"]
theorem sc_wrong_place : FnScope n_wrong_place p_wrong_place (defScope s_wrong_place) := ⟨rfl, rfl, rfl, by decide +kernel, rfl, by decide +kernel, by decide +kernel⟩
abbrev s_is_lay : Stmt := topS 9
abbrev n_is_lay : List Str := ["value"]
abbrev p_is_lay : List Str := ["value"]
theorem sc_is_lay : FnScope n_is_lay p_is_lay (defScope s_is_lay) := ⟨rfl, rfl, rfl, by decide +kernel, rfl, by decide +kernel, by decide +kernel⟩
abbrev s_number_in : Stmt := topS 11
abbrev n_number_in : List Str := ["one", "other", "both", "joint"]
abbrev p_number_in : List Str := ["one", "other"]
theorem sc_number_in : FnScope n_number_in p_number_in (defScope s_number_in) := ⟨rfl, rfl, rfl, by decide +kernel, rfl, by decide +kernel, by decide +kernel⟩
abbrev s_is_fork : Stmt := topS 19
abbrev n_is_fork : List Str := ["value", "many"]
abbrev p_is_fork : List Str := ["value", "many"]
theorem sc_is_fork : FnScope n_is_fork p_is_fork (defScope s_is_fork) := ⟨rfl, rfl, rfl, by decide +kernel, rfl, by decide +kernel, by decide +kernel⟩
abbrev s_gather : Stmt := topS 20
abbrev n_gather : List Str := ["value", "path", "found"]
abbrev p_gather : List Str := ["value", "path", "found"]
theorem sc_gather : FnScope n_gather p_gather (defScope s_gather) := ⟨rfl, rfl, rfl, by decide +kernel, rfl, by decide +kernel, by decide +kernel⟩
abbrev s_leaves_in : Stmt := topS 21
abbrev n_leaves_in : List Str := ["tree"]
abbrev p_leaves_in : List Str := ["tree"]
theorem sc_leaves_in : FnScope n_leaves_in p_leaves_in (defScope s_leaves_in) := ⟨rfl, rfl, rfl, by decide +kernel, rfl, by decide +kernel, by decide +kernel⟩
abbrev s_need_tree : Stmt := topS 22
abbrev n_need_tree : List Str := ["tree"]
abbrev p_need_tree : List Str := ["tree"]
theorem sc_need_tree : FnScope n_need_tree p_need_tree (defScope s_need_tree) := ⟨rfl, rfl, rfl, by decide +kernel, rfl, by decide +kernel, by decide +kernel⟩
abbrev s_leaves : Stmt := topS 23
abbrev n_leaves : List Str := ["tree"]
abbrev p_leaves : List Str := ["tree"]
theorem sc_leaves : FnScope n_leaves p_leaves (defScope s_leaves) := ⟨rfl, rfl, rfl, by decide +kernel, rfl, by decide +kernel, by decide +kernel⟩
abbrev s_state_of : Stmt := topS 24
abbrev n_state_of : List Str := ["near", "far"]
abbrev p_state_of : List Str := ["near", "far"]
theorem sc_state_of : FnScope n_state_of p_state_of (defScope s_state_of) := ⟨rfl, rfl, rfl, by decide +kernel, rfl, by decide +kernel, by decide +kernel⟩
abbrev s_looked : Stmt := topS 25
abbrev n_looked : List Str := ["tree", "joint", "begin", "near", "far", "state", "some"]
abbrev p_looked : List Str := ["tree", "joint", "begin"]
theorem sc_looked : FnScope n_looked p_looked (defScope s_looked) := ⟨rfl, rfl, rfl, by decide +kernel, rfl, by decide +kernel, by decide +kernel⟩
abbrev s_joints_of : Stmt := topS 26
abbrev n_joints_of : List Str := ["tree", "lay", "joint"]
abbrev p_joints_of : List Str := ["tree"]
theorem sc_joints_of : FnScope n_joints_of p_joints_of (defScope s_joints_of) := ⟨rfl, rfl, rfl, by decide +kernel, rfl, by decide +kernel, by decide +kernel⟩
abbrev s_ways_in : Stmt := topS 27
abbrev n_ways_in : List Str := ["tree", "found", "joint"]
abbrev p_ways_in : List Str := ["tree"]
theorem sc_ways_in : FnScope n_ways_in p_ways_in (defScope s_ways_in) := ⟨rfl, rfl, rfl, by decide +kernel, rfl, by decide +kernel, by decide +kernel⟩
abbrev s_tree_sum : Stmt := topS 28
abbrev n_tree_sum : List Str := ["tree"]
abbrev p_tree_sum : List Str := ["tree"]
theorem sc_tree_sum : FnScope n_tree_sum p_tree_sum (defScope s_tree_sum) := ⟨rfl, rfl, rfl, by decide +kernel, rfl, by decide +kernel, by decide +kernel⟩
abbrev s_labelled : Stmt := topS 29
abbrev n_labelled : List Str := ["tree", "above", "every", "some", "joint", "state"]
abbrev p_labelled : List Str := ["tree", "above", "every"]
theorem sc_labelled : FnScope n_labelled p_labelled (defScope s_labelled) := ⟨rfl, rfl, rfl, by decide +kernel, rfl, by decide +kernel, by decide +kernel⟩
abbrev s_tree_labels : Stmt := topS 30
abbrev n_tree_labels : List Str := ["tree"]
abbrev p_tree_labels : List Str := ["tree"]
theorem sc_tree_labels : FnScope n_tree_labels p_tree_labels (defScope s_tree_labels) := ⟨rfl, rfl, rfl, by decide +kernel, rfl, by decide +kernel, by decide +kernel⟩
abbrev s_top_of : Stmt := topS 31
abbrev n_top_of : List Str := ["labels"]
abbrev p_top_of : List Str := ["labels"]
theorem sc_top_of : FnScope n_top_of p_top_of (defScope s_top_of) := ⟨rfl, rfl, rfl, by decide +kernel, rfl, by decide +kernel, by decide +kernel⟩
abbrev s_are_labels : Stmt := topS 32
abbrev n_are_labels : List Str := ["tree", "value"]
abbrev p_are_labels : List Str := ["tree", "value"]
theorem sc_are_labels : FnScope n_are_labels p_are_labels (defScope s_are_labels) := ⟨rfl, rfl, rfl, by decide +kernel, rfl, by decide +kernel, by decide +kernel⟩
abbrev s_sum_of : Stmt := topS 33
abbrev n_sum_of : List Str := ["labels", "kids", "kid"]
abbrev p_sum_of : List Str := ["labels"]
theorem sc_sum_of : FnScope n_sum_of p_sum_of (defScope s_sum_of) := ⟨rfl, rfl, rfl, by decide +kernel, rfl, by decide +kernel, by decide +kernel⟩
abbrev s_labels_sum : Stmt := topS 34
abbrev n_labels_sum : List Str := ["tree", "labels"]
abbrev p_labels_sum : List Str := ["tree", "labels"]
theorem sc_labels_sum : FnScope n_labels_sum p_labels_sum (defScope s_labels_sum) := ⟨rfl, rfl, rfl, by decide +kernel, rfl, by decide +kernel, by decide +kernel⟩
abbrev s_are_least : Stmt := topS 35
abbrev n_are_least : List Str := ["tree", "value"]
abbrev p_are_least : List Str := ["tree", "value"]
theorem sc_are_least : FnScope n_are_least p_are_least (defScope s_are_least) := ⟨rfl, rfl, rfl, by decide +kernel, rfl, by decide +kernel, by decide +kernel⟩
abbrev s_L_begun : Stmt := topS 37
abbrev n_L_begun : List Str := ["_law_script", "_law_mixed", "_law_cell", "_law_great"]
abbrev p_L_begun : List Str := ["_law_script"]
theorem sc_L_begun : FnScope n_L_begun p_L_begun (defScope s_L_begun) := ⟨rfl, rfl, rfl, by decide +kernel, rfl, by decide +kernel, by decide +kernel⟩
abbrev s_L_draw : Stmt := topS 38
abbrev n_L_draw : List Str := ["_law_m", "_law_limit", "_law_cell"]
abbrev p_L_draw : List Str := ["_law_m", "_law_limit"]
theorem sc_L_draw : FnScope n_L_draw p_L_draw (defScope s_L_draw) := ⟨rfl, rfl, rfl, by decide +kernel, rfl, by decide +kernel, by decide +kernel⟩
abbrev s_L_of : Stmt := topS 39
abbrev n_L_of : List Str := ["_law_m", "_law_some"]
abbrev p_L_of : List Str := ["_law_m", "_law_some"]
theorem sc_L_of : FnScope n_L_of p_L_of (defScope s_L_of) := ⟨rfl, rfl, rfl, by decide +kernel, rfl, by decide +kernel, by decide +kernel⟩
abbrev s_L_like : Stmt := topS 40
abbrev n_L_like : List Str := ["_law_told", "_law_due"]
abbrev p_L_like : List Str := ["_law_told", "_law_due"]
theorem sc_L_like : FnScope n_L_like p_L_like (defScope s_L_like) := ⟨rfl, rfl, rfl, by decide +kernel, rfl, by decide +kernel, by decide +kernel⟩
abbrev s_L_lay : Stmt := topS 41
abbrev n_L_lay : List Str := ["_law_m", "_law_links", "_law_left", "_law_joints_so", "_law_share", "_law_turn", "_law_end", "_law_mate", "_law_other"]
abbrev p_L_lay : List Str := ["_law_m", "_law_links"]
theorem sc_L_lay : FnScope n_L_lay p_L_lay (defScope s_L_lay) := ⟨rfl, rfl, rfl, by decide +kernel, rfl, by decide +kernel, by decide +kernel⟩
abbrev s_L_all : Stmt := topS 42
abbrev n_L_all : List Str := ["_law_links", "_law_found", "_law_end", "_law_longer", "_law_joints_so", "_law_taken", "_law_mate", "_law_joint"]
abbrev p_L_all : List Str := ["_law_links"]
theorem sc_L_all : FnScope n_L_all p_L_all (defScope s_L_all) := ⟨rfl, rfl, rfl, by decide +kernel, rfl, by decide +kernel, by decide +kernel⟩
abbrev s_L_gap : Stmt := topS 43
abbrev n_L_gap : List Str := ["_law_one", "_law_other", "_law_both", "_law_joint"]
abbrev p_L_gap : List Str := ["_law_one", "_law_other"]
theorem sc_L_gap : FnScope n_L_gap p_L_gap (defScope s_L_gap) := ⟨rfl, rfl, rfl, by decide +kernel, rfl, by decide +kernel, by decide +kernel⟩
abbrev s_L_tree : Stmt := topS 44
abbrev n_L_tree : List Str := ["_law_m", "_law_many", "_law_links", "_law_left"]
abbrev p_L_tree : List Str := ["_law_m", "_law_many", "_law_links"]
theorem sc_L_tree : FnScope n_L_tree p_L_tree (defScope s_L_tree) := ⟨rfl, rfl, rfl, by decide +kernel, rfl, by decide +kernel, by decide +kernel⟩
abbrev s_L_leaves : Stmt := topS 45
abbrev n_L_leaves : List Str := ["_law_tree_so"]
abbrev p_L_leaves : List Str := ["_law_tree_so"]
theorem sc_L_leaves : FnScope n_L_leaves p_L_leaves (defScope s_L_leaves) := ⟨rfl, rfl, rfl, by decide +kernel, rfl, by decide +kernel, by decide +kernel⟩
abbrev s_L_best : Stmt := topS 46
abbrev n_L_best : List Str := ["_law_tree_so", "_law_joint", "_law_near", "_law_far", "_law_both", "_law_one"]
abbrev p_L_best : List Str := ["_law_tree_so", "_law_joint"]
theorem sc_L_best : FnScope n_L_best p_L_best (defScope s_L_best) := ⟨rfl, rfl, rfl, by decide +kernel, rfl, by decide +kernel, by decide +kernel⟩
abbrev s_L_joints : Stmt := topS 47
abbrev n_L_joints : List Str := ["_law_tree_so", "_law_found", "_law_lay_here", "_law_joint"]
abbrev p_L_joints : List Str := ["_law_tree_so"]
theorem sc_L_joints : FnScope n_L_joints p_L_joints (defScope s_L_joints) := ⟨rfl, rfl, rfl, by decide +kernel, rfl, by decide +kernel, by decide +kernel⟩
abbrev s_L_plain : Stmt := topS 48
abbrev n_L_plain : List Str := ["_law_tree_so", "_law_above", "_law_some", "_law_joint", "_law_best_here", "_law_top"]
abbrev p_L_plain : List Str := ["_law_tree_so", "_law_above"]
theorem sc_L_plain : FnScope n_L_plain p_L_plain (defScope s_L_plain) := ⟨rfl, rfl, rfl, by decide +kernel, rfl, by decide +kernel, by decide +kernel⟩
abbrev s_L_is_lay : Stmt := topS 49
abbrev n_L_is_lay : List Str := ["_law_thing", "_law_ends", "_law_joint", "_law_end"]
abbrev p_L_is_lay : List Str := ["_law_thing"]
theorem sc_L_is_lay : FnScope n_L_is_lay p_L_is_lay (defScope s_L_is_lay) := ⟨rfl, rfl, rfl, by decide +kernel, rfl, by decide +kernel, by decide +kernel⟩
abbrev s_L_are_labels : Stmt := topS 50
abbrev n_L_are_labels : List Str := ["_law_tree_so", "_law_thing"]
abbrev p_L_are_labels : List Str := ["_law_tree_so", "_law_thing"]
theorem sc_L_are_labels : FnScope n_L_are_labels p_L_are_labels (defScope s_L_are_labels) := ⟨rfl, rfl, rfl, by decide +kernel, rfl, by decide +kernel, by decide +kernel⟩
abbrev s_L_summed : Stmt := topS 51
abbrev n_L_summed : List Str := ["_law_marks", "_law_found", "_law_kid"]
abbrev p_L_summed : List Str := ["_law_marks"]
theorem sc_L_summed : FnScope n_L_summed p_L_summed (defScope s_L_summed) := ⟨rfl, rfl, rfl, by decide +kernel, rfl, by decide +kernel, by decide +kernel⟩
abbrev s_L_sums : Stmt := topS 52
abbrev n_L_sums : List Str := ["_law_tree_so", "_law_every", "_law_parts", "_law_found", "_law_lay_here", "_law_total", "_law_part", "_law_own", "_law_far"]
abbrev p_L_sums : List Str := ["_law_tree_so", "_law_every"]
theorem sc_L_sums : FnScope n_L_sums p_L_sums (defScope s_L_sums) := ⟨rfl, rfl, rfl, by decide +kernel, rfl, by decide +kernel, by decide +kernel⟩
abbrev s_L_others_right : Stmt := topS 53
abbrev n_L_others_right : List Str := ["_law_m", "_law_tree_so", "_law_marks", "_law_due", "_law_top", "_law_other", "_law_told", "_law_odds", "_law_odd"]
abbrev p_L_others_right : List Str := ["_law_m", "_law_tree_so", "_law_marks", "_law_due"]
theorem sc_L_others_right : FnScope n_L_others_right p_L_others_right (defScope s_L_others_right) := ⟨rfl, rfl, rfl, by decide +kernel, rfl, by decide +kernel, by decide +kernel⟩
abbrev s_L_right : Stmt := topS 54
abbrev n_L_right : List Str := ["_law_m", "_law_tree_so", "_law_kept_so", "_law_marks", "_law_due", "_law_turn", "_law_told", "_law_joint"]
abbrev p_L_right : List Str := ["_law_m", "_law_tree_so"]
theorem sc_L_right : FnScope n_L_right p_L_right (defScope s_L_right) := ⟨rfl, rfl, rfl, by decide +kernel, rfl, by decide +kernel, by decide +kernel⟩
abbrev s_law : Stmt := topS 55
abbrev n_law : List Str := ["_law_script", "_law_m", "_law_turn", "_law_links", "_law_tree_so", "_law_sums_here", "_law_one", "_law_none", "_law_told", "_law_due", "_law_total"]
abbrev p_law : List Str := ["_law_script"]
theorem sc_law : FnScope n_law p_law (defScope s_law) := ⟨rfl, rfl, rfl, by decide +kernel, rfl, by decide +kernel, by decide +kernel⟩
end Dc
/-! W1: is_whole, is_joint, is_fork, number_in. -/
namespace Dc
open PySem L2 Pd PyProof.Rows
variable {P : Program} {w : World} {K : PySem.W.Frag} {mg : Str → Option Value} {base : Heap} {f : Addr} {fd : FuncData}

def isWhole : D → Int → Int → Bool
  | .int i, lo, hi => decide (lo ≤ i) && decide (i ≤ hi)
  | _, _, _ => false
def isIntD : D → Bool
  | .int _ => true
  | .bool _ => true
  | _ => false
def isBoolD : D → Bool
  | .bool _ => true
  | _ => false
def isStrD : D → Bool
  | .str _ => true
  | _ => false
def isTupD : D → Bool
  | .tuple _ => true
  | _ => false
def noDict : D → Prop
  | .dict _ => False
  | _ => True
theorem kit_int {d : D} (h : noDict d) : kitB (tyD d) "int" = some (isIntD d) := by cases d <;> first | (exact h.elim) | (simp only [tyD, isIntD, isBoolD, isStrD, isTupD]; decide +kernel)
theorem kit_bool {d : D} (h : noDict d) : kitB (tyD d) "bool" = some (isBoolD d) := by cases d <;> first | (exact h.elim) | (simp only [tyD, isIntD, isBoolD, isStrD, isTupD]; decide +kernel)
theorem kit_str {d : D} (h : noDict d) : kitB (tyD d) "str" = some (isStrD d) := by cases d <;> first | (exact h.elim) | (simp only [tyD, isIntD, isBoolD, isStrD, isTupD]; decide +kernel)
theorem kit_tup {d : D} (h : noDict d) : kitB (tyD d) "tuple" = some (isTupD d) := by cases d <;> first | (exact h.elim) | (simp only [tyD, isIntD, isBoolD, isStrD, isTupD]; decide +kernel)
theorem boot_bool' : bootBuiltins ("bool" : Str) = some (.type "bool") := by decide +kernel
theorem boot_str' : bootBuiltins ("str" : Str) = some (.type "str") := by decide +kernel

def cWhole : Ctr (D × Int × Int) := ⟨fun a => [a.1, .int a.2.1, .int a.2.2], fun a => noDict a.1, fun a r => r = .bool (isWhole a.1 a.2.1 a.2.2)⟩
theorem ok_is_whole (Fu : Df K mg "is_whole" s_is_whole p_is_whole) (T : Bt mg) : Cal P w K mg base 1 "is_whole" p_is_whole (spP cWhole) := by
  refine Fu.fn sc_is_whole (fun a _ => rfl) fun X F a B0 _ ha => ?_
  have B := B0.toBd
  obtain ⟨d, lo, hi⟩ := a
  refine sd_start (ρ1 := [.dat d, .dat (.int lo), .dat (.int hi)]) rfl (sd_one (s_ret ?_))
  refine (pd_and (pd_isi B T (kit_int ha) rfl rfl T.int PyProof.Rows.boot_int (gv B 0 rfl)) fun h1 => pd_and (pd_not (pd_isi B T (kit_bool ha) rfl rfl T.bool boot_bool' (gv B 0 rfl))) fun h2 => pd_and1 (x := isWhole d lo hi) ?_).imp fun r e => ?_
  · cases d with
    | int i => exact pd_lele (gv B 1 rfl) (gv B 0 rfl) (gv B 2 rfl)
    | bool b => cases h2
    | _ => cases h1
  · show r = _
    rw [e]
    cases d <;> rfl
end Dc
/-! W2: is_joint. -/
namespace Dc
open PySem L2 Pd PyProof.Rows
variable {P : Program} {w : World} {K : PySem.W.Frag} {mg : Str → Option Value} {base : Heap} {f : Addr} {fd : FuncData}
def cJoint : Ctr (Int × J) := ⟨fun a => [.int a.1, eJ a.2], fun a => okJ a.1 a.2, fun a r => r = .bool true⟩
theorem line_lt {n : Nat} (h : n ≤ 100000) : n < sizeLine := Nat.lt_of_le_of_lt h (by decide)
theorem ok_is_joint (Fu : Df K mg "is_joint" s_is_joint p_is_joint) (T : Bt mg) (C : Cal P w K mg base 1 "is_whole" p_is_whole (spP cWhole)) : Cal P w K mg base 2 "is_joint" p_is_joint (spP cJoint) := by
  refine Fu.fn sc_is_joint (fun a _ => rfl) fun X F a B0 _ ha => ?_
  have B := B0.toBd
  obtain ⟨n, j1, j2⟩ := a
  obtain ⟨h1, h2, h3⟩ := ha
  simp only at h1 h2 h3
  refine sd_start (ρ1 := [.dat (.int n), .dat (.tuple [.int j1, .int j2]), .un]) rfl (sd_cons (s_ifd (Nn := fun ρ' => ρ' = [.dat (.int n), .dat (.tuple [.int j1, .int j2]), .un])
    (PBW.pb (tb_or (tb_not (pb_of (pd_isi B T (kit_tupT _) rfl rfl T.tuple PyProof.Rows.boot_tuple (gv B 1 rfl)))) fun _ => tb_or1 (pb_neI B (pd_len B T rfl (gv B 1 rfl) (.inr rfl) rfl) pn_int)))
    (fun z => by simp at z) fun _ => sd_nil rfl) fun ρ' e => ?_)
  · subst e
    refine sd_one (s_ret ((pd_and (pd_all (bs := [true, true]) B T rfl (PO.pd (po_lc (α := Int) (enc := fun i => .int i) (xs := [j1, j2]) (keep := fun _ => true) (val := fun _ => .bool true) (own := [("end", 2)]) (Ok := fun _ => True) (Tt := gT1 2)
      B (pi_tup cE) (dw_tup (gv B 1 rfl)) (blkOk_by (by decide +kernel)) (fun X' bk => bk_name bk B 2 rfl rfl) (dg_name 2) (fun _ _ => trivial) (line_lt (n := 2) (by decide)) rfl ?_))) fun _ => pd_and1 (pd_lt (pd_ixT (n := 0) (gv B 1 rfl) rfl) (pd_ixT (n := 1) (gv B 1 rfl) rfl))).imp fun r e => ?_))
    · intro X' bk a ha ρ2 t
      subst t
      have B' := bk.bd B
      have q : isWhole (.int a) 0 (2 * n - 1) = true := by
        simp only [List.mem_cons, List.not_mem_nil, or_false] at ha
        unfold isWhole
        rw [Bool.and_eq_true, decide_eq_true_eq, decide_eq_true_eq]
        omega
      refine ⟨pbs_nil, fun _ => (pd_call (c := cWhole) (.int a, 0, 2 * n - 1) (bk.at B0.at) B' C (by decide) rfl (pds_cons (gv B' 2 rfl) (pds_cons pn_int (pds_cons (pd_sub (pd_mul pn_int (gv B' 0 rfl) (.inl (by decide))) pn_int) pns_nil))) trivial).imp fun r e => ?_⟩
      rw [show r = .bool (isWhole (.int a) 0 (2 * n - 1)) from e, q]
    · show r = _
      rw [e]
      simp [h2]
end Dc
/-! W3: is_fork, number_in, state_of, leaves_in, top_of. -/
namespace Dc
open PySem L2 Pd PyProof.Rows
variable {P : Program} {w : World} {K : PySem.W.Frag} {mg : Str → Option Value} {base : Heap}
def isFork : D → Nat → Bool
  | .tuple (.str _ :: xs), m => decide (xs.length + 1 = m)
  | _, _ => false
/-- no text but the word at the head of a tuple -/
def okFork : D → Prop
  | .dict _ => False
  | .tuple (.dict _ :: _) => False
  | .tuple (.str s :: _) => s = "fork"
  | _ => True
def cFork : Ctr (D × Nat) := ⟨fun a => [a.1, .int (a.2 : Nat)], fun a => okFork a.1 ∧ 1 ≤ a.2, fun a r => r = .bool (isFork a.1 a.2)⟩
theorem shaped_fork : SeqAt.shaped (.str "fork") = true := by decide +kernel
theorem eqv_fork : PyData.eqv (.str "fork") (.str "fork") = true := by decide +kernel
theorem ok_is_fork (Fu : Df K mg "is_fork" s_is_fork p_is_fork) (T : Bt mg) (Gl : Gc mg) : Cal P w K mg base 1 "is_fork" p_is_fork (spP cFork) := by
  refine Fu.fn sc_is_fork (fun a _ => rfl) fun X F a B0 _ ha => ?_
  have B := B0.toBd
  obtain ⟨d, m⟩ := a
  obtain ⟨ha, hm⟩ := ha
  refine sd_start (ρ1 := [.dat d, .dat (.int (m : Nat))]) rfl (sd_one (s_ret ?_))
  have nd : noDict d := by cases d <;> first | trivial | exact ha.elim
  refine (pd_and (pd_isi B T (kit_tup nd) rfl rfl T.tuple PyProof.Rows.boot_tuple (gv B 0 rfl)) fun h1 => ?_ : PD X F _ _ (.bool (isTupD d && isFork d m))).imp fun r e => ?_
  · cases d with
    | tuple xs =>
      refine PD.cast (pd_and (pd_eqI B (pd_len B T rfl (gv B 0 rfl) (.inr rfl) rfl) (gv B 1 rfl)) (y := isFork (.tuple xs) m) fun h2 => ?_) ?_
      · have h2' : xs.length = m := by
          have := of_decide_eq_true h2
          omega
        cases xs with
        | nil => exact absurd h2' (by simp; omega)
        | cons x xs =>
          have ndx : noDict x := by cases x <;> first | trivial | exact ha.elim
          refine PD.cast (pd_and (pd_isi B T (kit_str ndx) rfl rfl T.str boot_str' (pd_ixT (n := 0) (gv B 0 rfl) rfl)) (y := isFork (.tuple (x :: xs)) m) fun h3 => ?_) ?_
          · cases x with
            | str s =>
              have hs : s = "fork" := ha
              subst hs
              refine PD.cast (pd_and1 (pd_eq B (pd_ixT (n := 0) (gv B 0 rfl) rfl) (gcs B Gl.fork) shaped_fork shaped_fork)) ?_
              rw [eqv_fork]
              simp only [isFork]
              rw [List.length_cons] at h2'
              rw [decide_eq_true h2']
            | _ => cases h3
          · cases x <;> rfl
      · congr 1
        cases xs with
        | nil => simp [isFork]
        | cons x xs => cases x <;> simp [isFork] <;> omega
    | _ => cases h1
  · show r = _
    rw [e]
    cases d <;> rfl
/-! number_in -/
def cNum : Ctr (Lay × Lay) := ⟨fun a => [eL a.1, eL a.2], fun a => a.1.ok ∧ a.2.ok, fun a r => r = .int (gap a.1 a.2)⟩
theorem shaped_eJ (j : J) : SeqAt.shaped (eJ j) = true := by
  simp [SeqAt.shaped, eJ, PyData.canLay0, PyData.canLayAll0, PyData.depth, PyData.depthAll]
theorem canLay_js : ∀ js : List J, PyData.canLayAll0 (js.map eJ) = true
  | [] => by simp [PyData.canLayAll0]
  | j :: js => by simp [PyData.canLayAll0, canLay_js js, eJ, PyData.canLay0]
theorem depth_js : ∀ js : List J, PyData.depthAll (js.map eJ) ≤ 1
  | [] => by simp [PyData.depthAll]
  | j :: js => by
    have := depth_js js
    simp [PyData.depthAll, eJ, PyData.depth]
    omega
theorem shaped_jsT (js : List J) : SeqAt.shaped (.tuple (js.map eJ)) = true := by
  have := depth_js js
  simp [SeqAt.shaped, PyData.canLay0, canLay_js, PyData.depth]
  omega
theorem shaped_jsL (js : List J) : SeqAt.shaped (.list (js.map eJ)) = true := by
  have := depth_js js
  simp [SeqAt.shaped, PyData.canLay0, canLay_js, PyData.depth]
  omega
theorem ok_lt {l : Lay} (h : l.ok) : l.js.length < sizeLine := line_lt (by have := ok_few h; omega)
theorem ok_number_in (Fu : Df K mg "number_in" s_number_in p_number_in) (T : Bt mg) : Cal P w K mg base 1 "number_in" p_number_in (spP cNum) := by
  refine Fu.fn sc_number_in (fun a _ => rfl) fun X F a B0 _ ha => ?_
  have B := B0.toBd
  obtain ⟨a, b⟩ := a
  obtain ⟨oa, ob⟩ := ha
  refine sd_start (ρ1 := [.dat (.tuple [.int a.n, .tuple (a.js.map eJ)]), .dat (.tuple [.int b.n, .tuple (b.js.map eJ)]), .un, .un]) rfl (sd_cons (s_set B 2 (pd_len B T rfl (PO.pd (po_lc (α := J) (enc := eJ) (xs := a.js) (keep := b.has) (val := eJ)
    (own := [("joint", 3)]) (Ok := fun _ => True) (Tt := gT1 3) B (pi_tup cE) (dw_tup (pd_ixT (n := 1) (gv B 0 rfl) rfl)) (blkOk_by (by decide +kernel)) (fun X' bk => bk_name bk B 3 rfl rfl) (dg_name 3) (fun _ _ => trivial) (ok_lt oa) rfl ?_)) (.inl rfl) rfl) rfl (.inl rfl) B0.hfn) fun ρ' e => ?_)
  · intro X' bk j _ ρ2 t
    subst t
    have B' := bk.bd B
    exact ⟨pbs_one ((pb_cmp1 (op_inT B'.u65) (gv B' 3 rfl) (pd_ixT (n := 1) (gv B' 1 rfl) rfl) (d2_inT (shaped_eJ j) (shaped_jsT b.js)) rfl).imp fun q e => by rw [e, any_eJ]; rfl), fun _ => gv B' 3 rfl⟩
  · obtain ⟨d, rfl, rfl⟩ := e
    refine sd_one (s_ret ((pd_sub (pd_add (pd_len B T rfl (pd_ixT (n := 1) (gv B 0 rfl) rfl) (.inr rfl) rfl) (pd_len B T rfl (pd_ixT (n := 1) (gv B 1 rfl) rfl) (.inr rfl) rfl)) (pd_mul pn_int (gv B 2 rfl) (.inl (by decide)))).imp fun r e => ?_))
    show r = _
    rw [e]
    unfold gap
    simp only [List.length_map]
end Dc
/-! W4: state_of, leaves_in, looked. -/
namespace Dc
open PySem L2 Pd PyProof.Rows
variable {P : Program} {w : World} {K : PySem.W.Frag} {mg : Str → Option Value} {base : Heap}
def vS : Option Bool → Int
  | none => 2
  | some true => 1
  | some false => 0
def cState : Ctr (Option Bool × Option Bool) := ⟨fun a => [.int (vS a.1), .int (vS a.2)], fun _ => True, fun a r => r = .int (vS (comb a.1 a.2))⟩
theorem shaped_2i (i j : Int) : SeqAt.shaped (.tuple [.int i, .int j]) = true := by
  simp [SeqAt.shaped, PyData.canLay0, PyData.canLayAll0, PyData.depth, PyData.depthAll]
theorem ok_state_of (Fu : Df K mg "state_of" s_state_of p_state_of) (Gl : Gc mg) : Cal P w K mg base 1 "state_of" p_state_of (spP cState) := by
  refine Fu.fn sc_state_of (fun a _ => rfl) fun X F a B0 _ ha => ?_
  have B := B0.toBd
  obtain ⟨x, y⟩ := a
  refine sd_start (ρ1 := [.dat (.int (vS x)), .dat (.int (vS y))]) rfl (sd_cons (s_ifd (x := decide (vS x = 2) || decide (vS y = 2)) (Nn := fun ρ' => ρ' = [.dat (.int (vS x)), .dat (.int (vS y))] ∧ vS x ≠ 2 ∧ vS y ≠ 2) ?_ (fun z => sd_one (s_ret ?_)) fun z => sd_nil ⟨rfl, ?_, ?_⟩) fun ρ' e => ?_)
  · refine (pb_cmp1 (op_inT B.u65) (gci B Gl.either) (pd_tup (pds_cons (gv B 0 rfl) (pds_cons (gv B 1 rfl) pns_nil))) (d2_inT (shaped_int 2) (shaped_2i _ _)) rfl).imp fun q e => ?_
    rw [e]
    simp [eqv_int]
  · refine (pd_if (pb_eqI B (gv B 1 rfl) (gci B Gl.either)) (fun h => gv (d := .int (vS (comb x y))) B 0 ?_) fun h => gv (d := .int (vS (comb x y))) B 1 ?_).imp fun r e => e
    · have h' := of_decide_eq_true h
      rcases x with _ | _ | _ <;> rcases y with _ | _ | _ <;> first | rfl | (exact absurd h' (by decide))
    · have h' := of_decide_eq_false h
      rcases x with _ | _ | _ <;> rcases y with _ | _ | _ <;> first | rfl | (exact absurd z (by decide)) | (exact absurd rfl h')
  · intro h
    rw [h] at z
    simp at z
  · intro h
    rw [h] at z
    simp at z
  · obtain ⟨rfl, h1, h2⟩ := e
    refine sd_one (s_ret ((pd_if (pb_eqI B (gv B 0 rfl) (gv B 1 rfl)) (fun h => gv (d := .int (vS (comb x y))) B 0 ?_) fun h => (gci B Gl.either).cast (d' := .int (vS (comb x y))) ?_).imp fun r e => e))
    · have h' := of_decide_eq_true h
      rcases x with _ | _ | _ <;> rcases y with _ | _ | _ <;> first | rfl | (exact absurd rfl h1) | (exact absurd rfl h2) | (exact absurd h' (by decide))
    · have h' := of_decide_eq_false h
      rcases x with _ | _ | _ <;> rcases y with _ | _ | _ <;> first | rfl | (exact absurd rfl h1) | (exact absurd rfl h2) | (exact absurd rfl h')
/-! leaves_in -/
structure TOk (n : Int) (h : Nat) (t : T) : Prop where
  ok : t.ok n
  n1 : 1 ≤ n
  n2 : n ≤ 12
  lv : t.leaves.length ≤ 8
  dp : t.depth < h
theorem TOk.l {n : Int} {h : Nat} {a b : T} (o : TOk n (h + 1) (.fork a b)) : TOk n h a := ⟨o.ok.1, o.n1, o.n2, by
  have := o.lv
  have e : (T.fork a b).leaves.length = a.leaves.length + b.leaves.length := List.length_append
  omega, by have := o.dp; have e : (T.fork a b).depth = max a.depth b.depth + 1 := rfl; omega⟩
theorem TOk.r {n : Int} {h : Nat} {a b : T} (o : TOk n (h + 1) (.fork a b)) : TOk n h b := ⟨o.ok.2, o.n1, o.n2, by
  have := o.lv
  have e : (T.fork a b).leaves.length = a.leaves.length + b.leaves.length := List.length_append
  omega, by have := o.dp; have e : (T.fork a b).depth = max a.depth b.depth + 1 := rfl; omega⟩
theorem TOk.d8 {n : Int} {h : Nat} {t : T} (o : TOk n h t) : t.depth ≤ 7 := by
  have := depth_le t
  have := o.lv
  omega
theorem okF_T : ∀ t : T, okFork (eT t)
  | .leaf l => trivial
  | .fork a b => rfl
theorem isF_leaf (l : Lay) (m : Nat) : isFork (eL l) m = false := rfl
theorem isF_fork (a b : T) : isFork (eT (.fork a b)) 3 = true := rfl
def cLeaves (h : Nat) : Ctr (Int × T) := ⟨fun a => [eT a.2], fun a => TOk a.1 h a.2, fun a r => r = .list (a.2.leaves.map eL)⟩
/-- is_fork(tree, 3) as a test -/
theorem tb_fork {X : Cx} {F : Fx} {ρ : Ev} {N : List Str} {sc : Scope} {k m j1 : Nat} {e : Expr} {p pos p1 : Pos} {d : D} (A : At P w base X) (B : Bd X K mg N sc k) (C : Cal P w K mg base 1 "is_fork" p_is_fork (spP cFork)) (hk : 1 ≤ k) (hg : sc.names.lookup ("is_fork" : Str) = some .globalImplicit) (he : PD X F ρ e d) (hd : okFork d) (hm : 1 ≤ m)
    (hs : starEach [e, .Constant (.int (m : Nat)) j1 p1] X.env = (false, eval e X.env) :: starEach [.Constant (.int (m : Nat)) j1 p1] X.env := by rfl) (hpl : (backTo pos (starEach [.Constant (.int (m : Nat)) j1 p1] X.env)).any (·.1) = false := by rfl)
    (hi : ∀ whole, isTrue (.Call (.Name "is_fork" p) [e, .Constant (.int (m : Nat)) j1 p1] [] pos) X.env whole = (do let v ← whole; standAt pos; holding [v] (truthy v)) := by intro _; rfl) : PB X F ρ (.Call (.Name "is_fork" p) [e, .Constant (.int (m : Nat)) j1 p1] [] pos) fun q => q = isFork d m :=
  pb_of ((pd_call (c := cFork) (d, m) A B C hk hg (pds_cons he (pds_cons pn_int pns_nil) hs) ⟨hd, hm⟩ (by decide) hs hpl).imp fun r e => e) hi
theorem ok_leaves_in (Fu : Df K mg "leaves_in" s_leaves_in p_leaves_in) (C1 : Cal P w K mg base 1 "is_fork" p_is_fork (spP cFork)) : ∀ h, Cal P w K mg base (h + 1) "leaves_in" p_leaves_in (spP (cLeaves h)) := by
  refine Fu.rc sc_leaves_in (fun h a _ => rfl) (fun a o => by have := o.dp; omega) fun h X F a C B0 _ ha => ?_
  have B := B0.toBd
  obtain ⟨n, t⟩ := a
  refine sd_start (ρ1 := [.dat (eT t)]) rfl (sd_one (s_ret ((pd_if (d := .list (t.leaves.map eL)) (tb_fork (m := 3) B0.at B C1 (by omega) rfl (gv B 0 rfl) (okF_T t) (by decide)) (fun h1 => ?_) fun h1 => ?_).imp fun r e => e)))
  · cases t with
    | leaf l => cases h1
    | fork a b =>
      refine PD.cast (pd_cat (pd_callR (c := cLeaves h) (n, a) (.list (a.leaves.map eL)) (fun _ z => z) B0.at B C (Nat.le_refl _) rfl (pds_cons (pd_ixT (n := 1) (gv B 0 rfl) rfl) pns_nil) ha.l)
        (pd_callR (c := cLeaves h) (n, b) (.list (b.leaves.map eL)) (fun _ z => z) B0.at B C (Nat.le_refl _) rfl (pds_cons (pd_ixT (n := 2) (gv B 0 rfl) rfl) pns_nil) ha.r) ?_) ?_
      · have lv : (T.fork a b).leaves.length ≤ 8 := ha.lv
        have e : (T.fork a b).leaves.length = a.leaves.length + b.leaves.length := List.length_append
        rw [List.length_map, List.length_map]
        exact Nat.le_trans (by omega : _ ≤ 8) (by decide)
      · rw [← List.map_append]; rfl
  · cases t with
    | leaf l => exact pd_lst (pds_cons (gv B 0 rfl) pns_nil)
    | fork a b => cases h1
/-! looked -/
/-- the number of a lay to which a way is free; the ways -/
def look : T → J → Int → Option Int × List (Int × Int)
  | .leaf _, _, b => (some b, [])
  | .fork x y, j, b =>
    let p := look x j b
    let q := look y j (b + x.leaves.length)
    (if (comb (best x j).1 (best y j).1).isNone && (best x j).1.isSome then (none, p.2 ++ q.2 ++ [(p.1.getD 0, q.1.getD 0)])
     else ((if (best x j).1.isNone then q.1 else p.1), p.2 ++ q.2))
theorem look_some : ∀ (t : T) (j : J) (b : Int), (look t j b).1.isSome = (best t j).1.isSome
  | .leaf _, _, _ => rfl
  | .fork x y, j, b => by
    have hx := look_some x j b
    have hy := look_some y j (b + x.leaves.length)
    simp only [look, best]
    generalize (best x j).1 = s at *
    generalize (best y j).1 = r at *
    rcases s with _ | _ | _ <;> rcases r with _ | _ | _ <;> simp_all [comb]
theorem look_len : ∀ (t : T) (j : J) (b : Int), (look t j b).2.length = (best t j).2
  | .leaf _, _, _ => rfl
  | .fork x y, j, b => by
    have hx := look_len x j b
    have hy := look_len y j (b + x.leaves.length)
    simp only [look, best]
    generalize (best x j).1 = s at *
    generalize (best y j).1 = r at *
    rcases s with _ | _ | _ <;> rcases r with _ | _ | _ <;> simp_all [comb, extra] <;> omega
def eO : Option Int → D
  | none => .none
  | some i => .int i
def eW (j : J) (p : Int × Int) : D := .tuple [eJ j, .int p.1, .int p.2]
def eK (t : T) (j : J) (b : Int) : D := .tuple [.int (vS (best t j).1), eO (look t j b).1, .list ((look t j b).2.map (eW j)), .int (b + t.leaves.length)]
def cLook (h : Nat) : Ctr (Int × T × J × Int) := ⟨fun a => [eT a.2.1, eJ a.2.2.1, .int a.2.2.2], fun a => TOk a.1 h a.2.1, fun a r => r = eK a.2.1 a.2.2.1 a.2.2.2⟩
theorem vS_none (s : Option Bool) : decide (vS s = 2) = s.isNone := by rcases s with _ | _ | _ <;> rfl
theorem ok_looked (Fu : Df K mg "looked" s_looked p_looked) (Gl : Gc mg) (C1 : Cal P w K mg base 1 "is_fork" p_is_fork (spP cFork)) (C2 : Cal P w K mg base 1 "state_of" p_state_of (spP cState)) : ∀ h, Cal P w K mg base (h + 1) "looked" p_looked (spP (cLook h)) := by
  refine Fu.rc sc_looked (fun h a _ => rfl) (fun a o => by have := o.dp; omega) fun h X F a C B0 _ ha => ?_
  have B := B0.toBd
  obtain ⟨n, t, j, b⟩ := a
  refine sd_start (ρ1 := [.dat (eT t), .dat (eJ j), .dat (.int b), .un, .un, .un, .un]) rfl (sd_cons (s_ifd (Nn := fun ρ' => ρ' = [.dat (eT t), .dat (eJ j), .dat (.int b), .un, .un, .un, .un] ∧ ∃ x y, t = .fork x y) (tb_not (tb_fork (m := 3) B0.at B C1 (by omega) rfl (gv B 0 rfl) (okF_T t) (by decide)))
    (fun h1 => ?_) fun h1 => sd_nil ⟨rfl, ?_⟩) fun ρ' e => ?_)
  · cases t with
    | fork x y => cases h1
    | leaf l =>
      refine sd_one (s_ret ((pd_tup (pds_cons (pd_if (d := .int (vS (some (l.has j)))) (pb_cmp1 (op_inT B.u65) (gv B 1 rfl) (pd_ixT (n := 1) (gv B 0 rfl) rfl) (d2_inT (shaped_eJ j) (shaped_jsT l.js)) rfl) (fun z => PD.cast (gci B Gl.present) ?_) fun z => PD.cast (gci B Gl.absent) ?_)
        (pds_cons (gv B 2 rfl) (pds_cons (pd_lst pns_nil) (pds_cons (pd_add (gv B 2 rfl) pn_int) pns_nil))))).imp fun r e => e))
      · rw [any_eJ] at z
        show PyData.int 1 = PyData.int (vS (some (decide (j ∈ l.js))))
        rw [z]; rfl
      · rw [any_eJ] at z
        show PyData.int 0 = PyData.int (vS (some (decide (j ∈ l.js))))
        rw [z]; rfl
  · cases t with
    | leaf l => cases h1
    | fork x y => exact ⟨x, y, rfl⟩
  · obtain ⟨rfl, x, y, rfl⟩ := e
    have lv : (T.fork x y).leaves.length ≤ 8 := ha.lv
    have el : (T.fork x y).leaves.length = x.leaves.length + y.leaves.length := List.length_append
    refine sd_cons (s_set B 3 (P := fun d => d = eK x j b) (pd_callR (c := cLook h) (n, x, j, b) _ (fun _ z => z) B0.at B C (Nat.le_refl _) rfl (pds_cons (pd_ixT (n := 1) (gv B 0 rfl) rfl) (pds_cons (gv B 1 rfl) (pds_cons (gv B 2 rfl) pns_nil))) ha.l) rfl (.inl rfl) B0.hfn) fun ρ' e => ?_
    obtain ⟨d, rfl, rfl⟩ := e
    refine sd_cons (s_set B 4 (P := fun d => d = eK y j (b + x.leaves.length)) (pd_callR (c := cLook h) (n, y, j, b + x.leaves.length) _ (fun _ z => z) B0.at B C (Nat.le_refl _) rfl (pds_cons (pd_ixT (n := 2) (gv B 0 rfl) rfl) (pds_cons (gv B 1 rfl) (pds_cons (pd_ixT (n := 3) (gv B 3 rfl) rfl) pns_nil))) ha.r) rfl (.inl rfl) B0.hfn) fun ρ' e => ?_
    obtain ⟨d, rfl, rfl⟩ := e
    have lx := look_len x j b
    have ly := look_len y j (b + x.leaves.length)
    have bx := best_le j x
    have bY := best_le j y
    refine sd_cons (s_par B 5 6 (PN.pv (pd_callR (c := cState) ((best x j).1, (best y j).1) _ (fun _ z => z) B0.at B C2 (by omega) rfl (pds_cons (pd_ixT (n := 0) (gv B 3 rfl) rfl) (pds_cons (pd_ixT (n := 0) (gv B 4 rfl) rfl) pns_nil)) trivial))
      (PN.pv (pd_cat (pd_ixT (n := 2) (gv B 3 rfl) rfl) (pd_ixT (n := 2) (gv B 4 rfl) rfl) (by rw [List.length_map, List.length_map]; exact Nat.le_trans (by omega : _ ≤ 16) (by decide)))) (by decide) rfl rfl rfl rfl rfl) fun ρ' e => ?_
    obtain ⟨s, t, ⟨_, rfl, rfl⟩, ⟨_, rfl, rfl⟩, rfl⟩ := e
    have sx := look_some x j b
    have sy := look_some y j (b + x.leaves.length)
    have el2 : b + (x.leaves.length : Int) + y.leaves.length = b + ((T.fork x y).leaves.length : Nat) := by rw [el]; omega
    refine sd_cons (s_ifd (Nn := fun ρ' => ρ' = [.dat (eT (.fork x y)), .dat (eJ j), .dat (.int b), .dat (eK x j b), .dat (eK y j (b + x.leaves.length)), .dat (.int (vS (comb (best x j).1 (best y j).1))), .dat (.list ((look x j b).2.map (eW j) ++ (look y j (b + x.leaves.length)).2.map (eW j)))] ∧ ((comb (best x j).1 (best y j).1).isNone && (best x j).1.isSome) = false)
      (PBW.pb (tb_and (pb_eqI B (gv B 5 rfl) (gci B Gl.either)) fun _ => tb_and1 (pb_neI B (pd_ixT (n := 0) (gv B 3 rfl) rfl) (gci B Gl.either)))) (fun h1 => ?_) fun h1 => sd_nil ⟨rfl, ?_⟩) fun ρ' e => ?_
    · rw [vS_none, vS_none] at h1
      have hc : ((comb (best x j).1 (best y j).1).isNone && (best x j).1.isSome) = true := by
        rw [← h1]
        rcases (best x j).1 with _ | _ | _ <;> rfl
      have hk : look (.fork x y) j b = (none, (look x j b).2 ++ (look y j (b + x.leaves.length)).2 ++ [((look x j b).1.getD 0, (look y j (b + x.leaves.length)).1.getD 0)]) := by
        show (if _ then _ else _) = _
        rw [if_pos hc]
      have hx1 : (best x j).1.isSome = true := (Bool.and_eq_true_iff.mp hc).2
      have hy1 : (best y j).1.isSome = true := by
        have := (Bool.and_eq_true_iff.mp hc).1
        revert this hx1
        rcases (best x j).1 with _ | _ | _ <;> rcases (best y j).1 with _ | _ | _ <;> decide
      rw [hx1] at sx
      rw [hy1] at sy
      obtain ⟨p, hp⟩ := Option.isSome_iff_exists.mp sx
      obtain ⟨q, hq⟩ := Option.isSome_iff_exists.mp sy
      refine sd_one (s_ret ((pd_tup (pds_cons (gv B 5 rfl) (pds_cons pn_non (pds_cons (pd_cat (gv B 6 rfl) (pd_lst (pds_cons (pd_tup (pds_cons (gv B 1 rfl) (pds_cons (pd_ixT (n := 1) (gv B 3 rfl) rfl) (pds_cons (pd_ixT (n := 1) (gv B 4 rfl) rfl) pns_nil)))) pns_nil)) ?_) (pds_cons (pd_ixT (n := 3) (gv B 4 rfl) rfl) pns_nil))))).imp fun r e => ?_))
      · rw [List.length_append, List.length_map, List.length_map]
        exact Nat.le_trans (by simp only [List.length_cons, List.length_nil]; omega : _ ≤ 17) (by decide)
      · show r = eK (.fork x y) j b
        rw [e]
        unfold eK
        rw [hk, hp, hq, ← el2, List.map_append, List.map_append]
        rfl
    · rw [vS_none, vS_none] at h1
      rw [← h1]
      rcases (best x j).1 with _ | _ | _ <;> rfl
    · obtain ⟨rfl, h1⟩ := e
      have hk : look (.fork x y) j b = ((if (best x j).1.isNone then (look y j (b + x.leaves.length)).1 else (look x j b).1), (look x j b).2 ++ (look y j (b + x.leaves.length)).2) := by
        show (if _ then _ else _) = _
        rw [if_neg (by rw [h1]; decide)]
      refine sd_one (s_ret ((pd_tup (pds_cons (gv B 5 rfl) (pds_cons (pd_if (d := eO (look (.fork x y) j b).1) (pb_eqI B (pd_ixT (n := 0) (gv B 3 rfl) rfl) (gci B Gl.either)) (fun z => PD.cast (pd_ixT (n := 1) (gv B 4 rfl) rfl) ?_) fun z => PD.cast (pd_ixT (n := 1) (gv B 3 rfl) rfl) ?_) (pds_cons (gv B 6 rfl) (pds_cons (pd_ixT (n := 3) (gv B 4 rfl) rfl) pns_nil))))).imp fun r e => ?_))
      · rw [vS_none] at z
        rw [hk, z]; rfl
      · rw [vS_none] at z
        rw [hk, z]; rfl
      · show r = eK (.fork x y) j b
        rw [e]
        unfold eK
        rw [hk, ← el2, List.map_append]
        rfl
end Dc
/-! W5: ways_in, tree_sum, labelled, tree_labels. -/
namespace Dc
open PySem L2 Pd PyProof.Rows
variable {P : Program} {w : World} {K : PySem.W.Frag} {mg : Str → Option Value} {base : Heap}
def cTree (r : Int × T → D) : Ctr (Int × T) := ⟨fun a => [eT a.2], fun a => TOk a.1 8 a.2, fun a d => d = r a⟩
abbrev cNeed : Ctr (Int × T) := cTree fun a => eT a.2
abbrev cJoints : Ctr (Int × T) := cTree fun a => .list ((joints a.2).map eJ)
def waysOf (t : T) (js : List J) : List D := (js.map fun j => (look t j 0).2.map (eW j)).flatten
def cWays : Ctr (Int × T) := ⟨fun a => [eT a.2], fun a => TOk a.1 8 a.2, fun a d => ∃ ws, d = .list ws ∧ ws.length = cost a.2⟩
theorem waysOf_len (t : T) : ∀ js : List J, (waysOf t js).length = (js.map fun j => (best t j).2).sum
  | [] => rfl
  | j :: js => by
    have := waysOf_len t js
    unfold waysOf at *
    rw [List.map_cons, List.flatten_cons, List.length_append, List.length_map, this, look_len, List.map_cons, List.sum_cons]
theorem waysOf_mem {t : T} {js : List J} {d : D} (h : d ∈ waysOf t js) : ∃ j p, d = eW j p := by
  unfold waysOf at h
  rw [List.mem_flatten] at h
  obtain ⟨l, h1, h2⟩ := h
  obtain ⟨j, _, rfl⟩ := List.mem_map.mp h1
  obtain ⟨p, _, rfl⟩ := List.mem_map.mp h2
  exact ⟨j, p, rfl⟩
theorem waysOf_step {t : T} {js : List J} {i : Nat} {j : J} (h : js[i]? = some j) : waysOf t (js.take (i + 1)) = waysOf t (js.take i) ++ (look t j 0).2.map (eW j) := by
  unfold waysOf
  rw [List.take_add_one, h, List.map_append, List.flatten_append]
  simp
theorem map_get {α β : Type} {f : α → β} {l : List α} {i : Nat} {y : β} (h : (l.map f)[i]? = some y) : ∃ x, l[i]? = some x ∧ y = f x := by
  rw [List.getElem?_map] at h
  cases e : l[i]? with
  | none => rw [e] at h; cases h
  | some x => rw [e] at h; exact ⟨x, rfl, (Option.some.inj h).symm⟩
theorem sum_take_le {f : J → Nat} : ∀ (l : List J) (i : Nat), ((l.take i).map f).sum ≤ (l.map f).sum
  | [], i => by simp
  | j :: l, 0 => by simp
  | j :: l, i + 1 => by
    have := sum_take_le (f := f) l i
    simp only [List.take_succ_cons, List.map_cons, List.sum_cons]
    omega
theorem sd_ways {t : T} {js : List J} (h : (waysOf t js).length ≤ 100000) : Sd (waysOf t js) := by
  refine ⟨fun d hd d' hd' => ?_, .inl fun d hd => ?_, Nat.le_of_lt (line_lt h), fun d hd => ?_⟩
  · obtain ⟨j, p, rfl⟩ := waysOf_mem hd
    obtain ⟨k, q, rfl⟩ := waysOf_mem hd'
    simp [eW, eJ, PySem.W.alike, PySem.W.alikeAll]
  · obtain ⟨j, p, rfl⟩ := waysOf_mem hd
    exact ⟨_, _, rfl⟩
  · obtain ⟨j, p, rfl⟩ := waysOf_mem hd
    simp [eW, eJ, PyData.depth, PyData.depthAll]
theorem ok_ways_in (Fu : Df K mg "ways_in" s_ways_in p_ways_in) (T : Bt mg) (C1 : Cal P w K mg base 10 "joints_of" p_joints_of (spP cJoints)) (C2 : Cal P w K mg base 9 "looked" p_looked (spP (cLook 8))) : Cal P w K mg base 11 "ways_in" p_ways_in (spP cWays) := by
  refine Fu.fn sc_ways_in (fun a _ => rfl) fun X F a B0 _ ha => ?_
  have B := B0.toBd
  obtain ⟨n, t⟩ := a
  have cl : cost t ≤ 8 * 576 := cost_le ha.n2 ha.ok ha.lv
  refine sd_start (ρ1 := [.dat (eT t), .un, .un]) rfl (sd_cons (s_own B 1 po_nil rfl (.inl rfl) B0.hfn) fun ρ' e => ?_)
  obtain ⟨ds, rfl, rfl⟩ := e
  refine sd_cons (s_for (ds := (joints t).map eJ) B B0.hxe (pi_list cE) (dw_list (pd_callR (c := cJoints) (n, t) _ (fun _ z => z) B0.at B C1 (by decide) rfl (pds_cons (gv B 0 rfl) pns_nil) ha)) (pg_name (i := 2) (by rw [B.hN]; exact B.nd) (by rw [B.hN]; rfl) (.inl (by rw [B.hsc]; rfl)) (.inl (B0.hfn _))) (dg_name 2) (fun _ _ => trivial)
    (fun i ρ' => ∃ s, ρ' = [.dat (eT t), .own (waysOf t ((joints t).take i)), s] ∧ ∀ es, s ≠ .own es) ⟨.un, rfl, fun _ h => by cases h⟩ fun i d ρ1 ρ2 hd h1 h2 => ?_) fun ρ' h => ?_
  · obtain ⟨s, rfl, _⟩ := h1
    obtain ⟨j, hj, rfl⟩ := map_get hd
    subst h2
    refine sd_one ((s_ext B 1 (P := fun es => es = (look t j 0).2.map (eW j)) rfl ?_ rfl (.inl rfl) (PN.imp (pd_ixT (n := 2) (pd_callR (c := cLook 8) (n, t, j, 0) _ (fun _ z => z) B0.at B C2 (by decide) rfl (pds_cons (gv B 0 rfl) (pds_cons (gv B 2 rfl) (pds_cons pn_int pns_nil))) ha) rfl) fun d e => ⟨_, e, rfl⟩) ?_).imp (fun ρ3 h3 => ?_) fun _ _ z => z)
    · intro m es hm q
      match m, hm, q with
      | 0, _, q => cases q
      | 1, hm, _ => exact hm rfl
      | 2, _, q => cases q
      | m + 3, _, q => cases q
    · rintro es rfl
      have h1 := sum_take_le (f := fun j => (best t j).2) (joints t) i
      have h2 := best_le j t
      have h3 := ha.lv
      rw [List.length_map, look_len, waysOf_len]
      unfold cost at cl
      exact Nat.le_trans (show _ ≤ 10000 by simp only at h3; omega) (by decide)
    · obtain ⟨es, rfl, rfl⟩ := h3
      refine ⟨.dat (eJ j), ?_, fun _ h => by cases h⟩
      rw [waysOf_step hj]
      rfl
  · obtain ⟨s, rfl, hs⟩ := h
    rw [List.length_map, List.take_length]
    have wl := waysOf_len t (joints t)
    refine sd_freeze 1 rfl (fun m es hm q => ?_) (sd_one (s_ret ((PO.pd (po_sorted B T rfl (gv B 1 rfl) (.inl rfl) (sd_ways (by rw [wl]; unfold cost at cl; omega)))).imp fun r e => ?_)))
    · match m, hm, q with
      | 0, _, q => cases q
      | 1, hm, _ => exact hm rfl
      | 2, _, q => exact hs es (Option.some.inj q)
      | m + 3, _, q => cases q
    · refine ⟨_, e, ?_⟩
      unfold sortD
      rw [List.length_mergeSort, wl]
      rfl
def cSum : Ctr (Int × T) := cTree fun a => .int (cost a.2 : Nat)
theorem ok_tree_sum (Fu : Df K mg "tree_sum" s_tree_sum p_tree_sum) (T : Bt mg) (C1 : Cal P w K mg base 13 "need_tree" p_need_tree (spP cNeed)) (C2 : Cal P w K mg base 11 "ways_in" p_ways_in (spP cWays)) : Cal P w K mg base 14 "tree_sum" p_tree_sum (spP cSum) := by
  refine Fu.fn sc_tree_sum (fun a _ => rfl) fun X F a B0 _ ha => ?_
  have B := B0.toBd
  obtain ⟨n, t⟩ := a
  refine sd_start (ρ1 := [.dat (eT t)]) rfl (sd_one (s_ret ?_))
  refine pn_blt B call_len_seq rfl T.len PySem.boot_len (pns_cons (pd_call (c := cWays) (n, t) B0.at B C2 (by decide) rfl (pds_cons (pd_callR (c := cNeed) (n, t) (eT t) (fun _ z => z) B0.at B C1 (by decide) rfl (pds_cons (gv B 0 rfl) pns_nil) ha) pns_nil) ha) pns_nil (Pr := fun xs => ∃ ws, xs = [.list ws] ∧ ws.length = cost t) ?_) ?_
  · rintro x xs ⟨ws, rfl, h⟩ rfl
    exact ⟨ws, rfl, h⟩
  · rintro xs ⟨ws, rfl, h⟩ G H vs Q s r q
    cases r with
    | cons r rr =>
      cases rr
      obtain ⟨l, us, rfl, h1, h2⟩ := r.listI
      exact ⟨l, us, rfl, .inl (SqL.of (s _ _ h1)), q _ _ G H rfl (Nx.refl s) (by rw [h2.len, h]; exact .int _)⟩
end Dc
/-! W6: labelled, tree_labels, leaves, top_of, sum_of. -/
namespace Dc
open PySem L2 Pd PyProof.Rows
variable {P : Program} {w : World} {K : PySem.W.Frag} {mg : Str → Option Value} {base : Heap}
/-- a target that is a name of the def -/
theorem fg {X : Cx} {N : List Str} {sc : Scope} {k : Nat} (B0 : Fr1 P w K mg base N sc k X) (i : Nat) {x : Str} {pos : Pos} (hN : N[i]? = some x) (hx : Loc sc x) : PG X (.Name x pos) (gName i) :=
  pg_name (by rw [B0.hN]; exact B0.nd) (by rw [B0.hN]; exact hN) (by rw [B0.hsc]; exact hx) (.inl (B0.hfn _))
/-- only slot i is a list of the def's own -/
def oneB : Ev → Nat → Bool
  | [], _ => true
  | .own _ :: ρ, 0 => oneB' ρ
  | _ :: ρ, 0 => oneB' ρ
  | .own _ :: _, _ + 1 => false
  | _ :: ρ, i + 1 => oneB ρ i
where oneB' : Ev → Bool
  | [] => true
  | .own _ :: _ => false
  | _ :: ρ => oneB' ρ
theorem oneB'_ok : ∀ {ρ : Ev}, oneB.oneB' ρ = true → ∀ (j : Nat) (es : List D), ρ[j]? ≠ some (.own es)
  | [], _, j, es, q => by simp at q
  | s :: ρ, h, 0, es, q => by
    have e : s = .own es := Option.some.inj q
    subst e; cases h
  | s :: ρ, h, j + 1, es, q => by
    refine oneB'_ok (ρ := ρ) ?_ j es q
    cases s <;> first | exact h | cases h
theorem one_ok : ∀ {ρ : Ev} {i : Nat}, oneB ρ i = true → OneOwn ρ i
  | [], i, _, j, es, _, q => by simp at q
  | s :: ρ, 0, h, 0, es, hj, q => hj rfl
  | s :: ρ, 0, h, j + 1, es, _, q => oneB'_ok (ρ := ρ) (by cases s <;> exact h) j es q
  | s :: ρ, i + 1, h, 0, es, _, q => by
    have e : s = .own es := Option.some.inj q
    subst e; cases h
  | s :: ρ, i + 1, h, j + 1, es, hj, q => by
    refine one_ok (ρ := ρ) (i := i) ?_ j es (fun z => hj (by rw [z])) q
    cases s <;> first | exact h | cases h
theorem leaves_head : ∀ t : T, ∃ l ls, t.leaves = l :: ls ∧ l.n = t.n
  | .leaf l => ⟨l, [], rfl, rfl⟩
  | .fork a b => by
    obtain ⟨l, ls, e, h⟩ := leaves_head a
    exact ⟨l, ls ++ b.leaves, by show a.leaves ++ b.leaves = _; rw [e]; rfl, h⟩
def cLab (h : Nat) : Ctr (Int × T × List J × List J) := ⟨fun a => [eT a.2.1, .list (a.2.2.1.map eJ), .list (a.2.2.2.map eJ)], fun a => TOk a.1 h a.2.1 ∧ a.2.2.2.length ≤ 576, fun a r => r = eM (labelled a.2.1 a.2.2.1 a.2.2.2)⟩
theorem TOk.up {n : Int} {h k : Nat} {t : T} (o : TOk n h t) (hk : h ≤ k) : TOk n k t := ⟨o.ok, o.n1, o.n2, o.lv, Nat.lt_of_lt_of_le o.dp hk⟩
theorem TOk.to8 {n : Int} {h : Nat} {t : T} (o : TOk n h t) : TOk n 8 t := ⟨o.ok, o.n1, o.n2, o.lv, by have := o.d8; omega⟩
theorem take_filter {p : J → Bool} {js : List J} {i : Nat} {j : J} (h : js[i]? = some j) : (js.take (i + 1)).filter p = (js.take i).filter p ++ (if p j then [j] else []) := by
  rw [List.take_add_one, h, List.filter_append]
  congr 1
  cases hk : p j <;> simp [hk]
theorem vS_one (s : Option Bool) : decide (vS s = 1) = decide (s = some true) := by rcases s with _ | _ | _ <;> rfl
theorem vS_two (s : Option Bool) : decide (vS s = 2) = decide (s = none) := by rcases s with _ | _ | _ <;> rfl
theorem ok_labelled (Fu : Df K mg "labelled" s_labelled p_labelled) (T' : Bt mg) (Gl : Gc mg) (C1 : Cal P w K mg base 1 "is_fork" p_is_fork (spP cFork)) (C2 : Cal P w K mg base 9 "looked" p_looked (spP (cLook 8))) (C3 : Cal P w K mg base 9 "leaves_in" p_leaves_in (spP (cLeaves 8))) :
    ∀ h, Cal P w K mg base (h + 9) "labelled" p_labelled (spP (cLab h)) := by
  refine Fu.rc sc_labelled (fun h a _ => rfl) (fun a o => by have := o.1.dp; omega) fun h X F a C B0 _ ha => ?_
  have B := B0.toBd
  obtain ⟨n, t, ab, ev⟩ := a
  obtain ⟨ha, hev⟩ := ha
  simp only at ha hev
  refine sd_start (ρ1 := [.dat (eT t), .dat (.list (ab.map eJ)), .dat (.list (ev.map eJ)), .un, .un, .un]) rfl (sd_cons (s_ifd (Nn := fun ρ' => ρ' = [.dat (eT t), .dat (.list (ab.map eJ)), .dat (.list (ev.map eJ)), .un, .un, .un] ∧ ∃ x y, t = .fork x y) (tb_not (tb_fork (m := 3) B0.at B C1 (by omega) rfl (gv B 0 rfl) (okF_T t) (by decide)))
    (fun h1 => ?_) fun h1 => sd_nil ⟨rfl, ?_⟩) fun ρ' e => ?_)
  · cases t with
    | fork x y => cases h1
    | leaf l => exact sd_one (s_ret (gv B 0 rfl))
  · cases t with
    | leaf l => cases h1
    | fork x y => exact ⟨x, y, rfl⟩
  · obtain ⟨rfl, x, y, rfl⟩ := e
    refine sd_cons (s_own B 3 po_nil rfl (.inl rfl) B0.hfn) fun ρ' e => ?_
    obtain ⟨ds, rfl, rfl⟩ := e
    refine sd_cons (s_for (ds := ev.map eJ) B B0.hxe (pi_list cE) (dw_list (gv B 2 rfl)) (fg B0 4 rfl (.inl rfl)) (dg_name 4) (fun _ _ => trivial)
      (fun i ρ' => ∃ s u, ρ' = [.dat (eT (.fork x y)), .dat (.list (ab.map eJ)), .dat (.list (ev.map eJ)), .own (((ev.take i).filter (want (.fork x y) ab)).map eJ), s, u] ∧ oneB.oneB' [s, u] = true) ⟨.un, .un, rfl, rfl⟩ fun i d ρ1 ρ2 hd h1 h2 => ?_) fun ρ' h => ?_
    · obtain ⟨s, u, rfl, _⟩ := h1
      obtain ⟨j, hj, rfl⟩ := map_get hd
      subst h2
      refine sd_cons (s_set B 5 (P := fun d => d = .int (vS (best (.fork x y) j).1)) (pd_ixT (n := 0) (pd_callR (c := cLook 8) (n, .fork x y, j, 0) _ (fun _ z => z) B0.at B C2 (by omega) rfl (pds_cons (gv B 0 rfl) (pds_cons (gv B 4 rfl) (pds_cons pn_int pns_nil))) ha.to8) rfl) rfl (.inl rfl) B0.hfn) fun ρ' e => ?_
      obtain ⟨d, rfl, rfl⟩ := e
      have flen : (((ev.take i).filter (want (.fork x y) ab)).map eJ).length < sizeLine := by
        rw [List.length_map]
        have h1 := List.length_filter_le (want (.fork x y) ab) (ev.take i)
        have h2 := List.length_take_le' i ev
        exact line_lt (by omega)
      refine sd_one (s_ifd (Nn := fun ρ' => ∃ s u, ρ' = [.dat (eT (.fork x y)), .dat (.list (ab.map eJ)), .dat (.list (ev.map eJ)), .own (((ev.take (i + 1)).filter (want (.fork x y) ab)).map eJ), s, u] ∧ oneB.oneB' [s, u] = true)
        (PBW.pb (tb_or (pb_eqI B (gv B 5 rfl) (gci B Gl.present)) fun _ => tb_or1 (PBW.pb (tb_and (pb_eqI B (gv B 5 rfl) (gci B Gl.either)) fun _ => tb_and1 (pb_cmp1 (op_inD B.u65) (gv B 4 rfl) (gv B 1 rfl) (d2_inL (shaped_eJ j) (shaped_jsL ab)) rfl))))) (fun h1 => ?_) fun h1 => sd_nil ?_)
      · rw [any_eJ, vS_one, vS_two] at h1
        have hw : want (.fork x y) ab j = true := h1
        refine sd_one ((s_app B 3 rfl (one_ok rfl) rfl (.inl rfl) (gv B 4 rfl) flen).imp (fun ρ3 h3 => ?_) fun _ _ z => z)
        obtain ⟨d, rfl, rfl⟩ := h3
        refine ⟨.dat (eJ j), .dat (.int (vS (best (.fork x y) j).1)), ?_, rfl⟩
        rw [take_filter hj, hw, if_pos rfl, List.map_append]
        rfl
      · rw [any_eJ, vS_one, vS_two] at h1
        have hw : want (.fork x y) ab j = false := h1
        refine ⟨.dat (eJ j), .dat (.int (vS (best (.fork x y) j).1)), ?_, rfl⟩
        rw [take_filter hj, hw, if_neg (by decide), List.append_nil]
        rfl
    · obtain ⟨s, u, rfl, hs⟩ := h
      rw [List.length_map, List.take_length]
      obtain ⟨l, ls, el, en⟩ := leaves_head (.fork x y)
      refine sd_freeze 3 rfl (one_ok (i := 3) (by exact hs)) (sd_one (s_ret ((pd_tup (pds_cons (gcs B Gl.fork) (pds_cons (pd_tup (pds_cons (pd_ixT (n := 0) (pd_ixL (n := 0) (d := eL l) (pd_callR (c := cLeaves 8) (n, .fork x y) _ (fun _ z => z) B0.at B C3 (by omega) rfl (pds_cons (gv B 0 rfl) pns_nil) ha.to8) ?_) rfl)
        (pds_cons (pd_tuple B T' rfl (gv B 3 rfl)) pns_nil)))
        (pds_cons (pd_callR (c := cLab h) (n, x, ev.filter (want (.fork x y) ab), ev) _ (fun _ z => z) B0.at B C (Nat.le_refl _) rfl (pds_cons (pd_ixT (n := 1) (gv B 0 rfl) rfl) (pds_cons (gv B 3 rfl) (pds_cons (gv B 2 rfl) pns_nil))) ⟨ha.l, hev⟩)
        (pds_cons (pd_callR (c := cLab h) (n, y, ev.filter (want (.fork x y) ab), ev) _ (fun _ z => z) B0.at B C (Nat.le_refl _) rfl (pds_cons (pd_ixT (n := 2) (gv B 0 rfl) rfl) (pds_cons (gv B 3 rfl) (pds_cons (gv B 2 rfl) pns_nil))) ⟨ha.r, hev⟩) pns_nil))))).imp fun r e => ?_)))
      · show ((T.fork x y).leaves.map eL)[0]? = some (eL l)
        rw [el]; rfl
      · show r = eM (labelled (.fork x y) ab ev)
        rw [e]
        have e3 : l.n = x.n := en
        rw [e3]
        rfl
end Dc
/-! W7: tree_labels, leaves, top_of, sum_of, is_lay, are_labels, labels_sum, are_least. -/
namespace Dc
open PySem L2 Pd PyProof.Rows
variable {P : Program} {w : World} {K : PySem.W.Frag} {mg : Str → Option Value} {base : Heap}
def cTLab : Ctr (Int × T) := cTree fun a => eM (plain a.2 [])
theorem ok_tree_labels (Fu : Df K mg "tree_labels" s_tree_labels p_tree_labels) (C1 : Cal P w K mg base 13 "need_tree" p_need_tree (spP cNeed)) (C2 : Cal P w K mg base 10 "joints_of" p_joints_of (spP cJoints)) (C3 : Cal P w K mg base 17 "labelled" p_labelled (spP (cLab 8))) :
    Cal P w K mg base 18 "tree_labels" p_tree_labels (spP cTLab) := by
  refine Fu.fn sc_tree_labels (fun a _ => rfl) fun X F a B0 _ ha => ?_
  have B := B0.toBd
  obtain ⟨n, t⟩ := a
  refine sd_start (ρ1 := [.dat (eT t)]) rfl (sd_one (s_ret ((pd_callR (c := cLab 8) (n, t, [], joints t) _ (fun _ z => z) B0.at B C3 (by decide) rfl
    (pds_cons (pd_callR (c := cNeed) (n, t) (eT t) (fun _ z => z) B0.at B C1 (by decide) rfl (pds_cons (gv B 0 rfl) pns_nil) ha) (pds_cons (pd_lst pns_nil) (pds_cons (pd_callR (c := cJoints) (n, t) _ (fun _ z => z) B0.at B C2 (by decide) rfl (pds_cons (gv B 0 rfl) pns_nil) ha) pns_nil))) ⟨ha, joints_few ha.n2 ha.ok⟩).imp fun r e => ?_)))
  show r = eM (plain t [])
  rw [e]
  exact congrArg eM (labelled_eq (joints_sorted ha.ok) [] ha.ok fun _ q => q)
def cLvs : Ctr (Int × T) := cTree fun a => .tuple (a.2.leaves.map eL)
theorem ok_leaves_def (Fu : Df K mg "leaves" s_leaves p_leaves) (T : Bt mg) (C1 : Cal P w K mg base 13 "need_tree" p_need_tree (spP cNeed)) (C2 : Cal P w K mg base 9 "leaves_in" p_leaves_in (spP (cLeaves 8))) : Cal P w K mg base 14 "leaves" p_leaves (spP cLvs) := by
  refine Fu.fn sc_leaves (fun a _ => rfl) fun X F a B0 _ ha => ?_
  have B := B0.toBd
  obtain ⟨n, t⟩ := a
  exact sd_start (ρ1 := [.dat (eT t)]) rfl (sd_one (s_ret (pd_tuple B T rfl (pd_callR (c := cLeaves 8) (n, t) _ (fun _ z => z) B0.at B C2 (by decide) rfl (pds_cons (pd_callR (c := cNeed) (n, t) (eT t) (fun _ z => z) B0.at B C1 (by decide) rfl (pds_cons (gv B 0 rfl) pns_nil) ha) pns_nil) ha))))
/-! labels -/
def cTop : Ctr M := ⟨fun m => [eM m], fun _ => True, fun m r => r = eL m.top⟩
theorem okF_M : ∀ m : M, okFork (eM m)
  | .leaf l => trivial
  | .fork l a b => rfl
theorem ok_top_of (Fu : Df K mg "top_of" s_top_of p_top_of) (C1 : Cal P w K mg base 1 "is_fork" p_is_fork (spP cFork)) : Cal P w K mg base 2 "top_of" p_top_of (spP cTop) := by
  refine Fu.fn sc_top_of (fun a _ => rfl) fun X F m B0 _ ha => ?_
  have B := B0.toBd
  refine sd_start (ρ1 := [.dat (eM m)]) rfl (sd_one (s_ret ((pd_if (d := eL m.top) (tb_fork (m := 4) B0.at B C1 (by decide) rfl (gv B 0 rfl) (okF_M m) (by decide)) (fun h => ?_) fun h => ?_).imp fun r e => e)))
  · cases m with
    | leaf l => cases h
    | fork l a b => exact pd_ixT (n := 1) (gv B 0 rfl) rfl
  · cases m with
    | leaf l => exact gv B 0 rfl
    | fork l a b => cases h
theorem fits_top {n : Int} {t : T} {m : M} (h : t.ok n) (f : m.fits n t) : m.top.ok := by
  cases t with
  | leaf l => cases m with
    | leaf l' =>
      have e : l' = l := f
      subst e; exact h.1
    | fork _ _ _ => exact f.elim
  | fork a b => cases m with
    | leaf _ => exact f.elim
    | fork L x y => exact f.1
def cSumOf (h : Nat) : Ctr (Int × T × M) := ⟨fun a => [eM a.2.2], fun a => TOk a.1 h a.2.1 ∧ a.2.2.fits a.1 a.2.1, fun a r => r = .int (summed a.2.2)⟩
theorem ok_sum_of (Fu : Df K mg "sum_of" s_sum_of p_sum_of) (T : Bt mg) (C1 : Cal P w K mg base 1 "is_fork" p_is_fork (spP cFork)) (C2 : Cal P w K mg base 2 "top_of" p_top_of (spP cTop)) (C3 : Cal P w K mg base 1 "number_in" p_number_in (spP cNum)) :
    ∀ h, Cal P w K mg base (h + 2) "sum_of" p_sum_of (spP (cSumOf h)) := by
  refine Fu.rc sc_sum_of (fun h a _ => rfl) (fun a o => by have := o.1.dp; omega) fun h X F a C B0 _ ha => ?_
  have B := B0.toBd
  obtain ⟨n, t, m⟩ := a
  obtain ⟨ha, hf⟩ := ha
  simp only at ha hf
  refine sd_start (ρ1 := [.dat (eM m), .un, .un]) rfl (sd_cons (s_ifd (Nn := fun ρ' => ρ' = [.dat (eM m), .un, .un] ∧ ∃ l x y, m = .fork l x y) (tb_not (tb_fork (m := 4) B0.at B C1 (by omega) rfl (gv B 0 rfl) (okF_M m) (by decide)))
    (fun h1 => ?_) fun h1 => sd_nil ⟨rfl, ?_⟩) fun ρ' e => ?_)
  · cases m with
    | fork l x y => cases h1
    | leaf l => exact sd_one (s_ret (pn_int (i := 0)))
  · cases m with
    | leaf l => cases h1
    | fork l x y => exact ⟨l, x, y, rfl⟩
  · obtain ⟨rfl, l, x, y, rfl⟩ := e
    cases t with
    | leaf _ => exact hf.elim
    | fork ta tb =>
      refine sd_cons (s_set B 1 (pd_cutT (n := 2) (gv B 0 rfl) (by decide) (by simp)) rfl (.inl rfl) B0.hfn) fun ρ' e => ?_
      obtain ⟨d, rfl, rfl⟩ := e
      refine sd_one (s_ret ((pd_sum (ns := [gap l x.top + summed x, gap l y.top + summed y]) B T rfl (PO.pd (po_lc (α := M) (enc := eM) (xs := [x, y]) (keep := fun _ => true) (val := fun k => .int (gap l k.top + summed k)) (own := [("kid", 2)]) (Ok := fun _ => True) (Tt := gT1 2)
        B (pi_tup cE) (dw_tup (gv B 1 rfl)) (blkOk_by (by decide +kernel)) (fun X' bk => bk_name bk B 2 rfl rfl) (dg_name 2) (fun _ _ => trivial) (line_lt (n := 2) (by decide)) rfl ?_))).imp fun r e => ?_))
      · intro X' bk k hk ρ2 q
        subst q
        have B' := bk.bd B
        have go : ∃ tk, TOk n h tk ∧ k.fits n tk := by
          simp only [List.mem_cons, List.not_mem_nil, or_false] at hk
          rcases hk with rfl | rfl
          · exact ⟨ta, ha.l, hf.2.2.1⟩
          · exact ⟨tb, ha.r, hf.2.2.2⟩
        obtain ⟨tk, h1, h2⟩ := go
        exact ⟨pbs_nil, fun _ => pd_add (pd_callR (c := cNum) (l, k.top) _ (fun _ z => z) (bk.at B0.at) B' C3 (by omega) rfl (pds_cons (pd_ixT (n := 1) (gv B' 0 rfl) rfl) (pds_cons (pd_callR (c := cTop) k _ (fun _ z => z) (bk.at B0.at) B' C2 (by omega) rfl (pds_cons (gv B' 2 rfl) pns_nil) trivial) pns_nil)) ⟨hf.1, fits_top h1.ok h2⟩)
          (pd_callR (c := cSumOf h) (n, tk, k) _ (fun _ z => z) (bk.at B0.at) B' C (Nat.le_refl _) rfl (pds_cons (gv B' 2 rfl) pns_nil) ⟨h1, h2⟩)⟩
      · show r = .int (summed (.fork l x y))
        rw [e]
        simp [summed]
end Dc
/-! W8: is_lay, are_labels, labels_sum, are_least. -/
namespace Dc
open PySem L2 Pd PyProof.Rows
variable {P : Program} {w : World} {K : PySem.W.Frag} {mg : Str → Option Value} {base : Heap}
/-- what is asked to be a lay -/
inductive LayV where
  | good (l : Lay)
  | non
  | bl (b : Bool) (d : D)
def LayV.enc : LayV → D
  | .good l => eL l
  | .non => .none
  | .bl b d => .tuple [.bool b, d]
def LayV.ok : LayV → Prop
  | .good l => l.ok
  | _ => True
def LayV.yes : LayV → Bool
  | .good _ => true
  | _ => false
def wrongD : LayV → D
  | .good _ => .none
  | .non => .tuple []
  | .bl _ _ => .tuple [.int 0]
def cWrong : Ctr LayV := ⟨fun a => [a.enc], LayV.ok, fun a r => r = wrongD a⟩
def cIsLay : Ctr LayV := ⟨fun a => [a.enc], LayV.ok, fun a r => r = .bool a.yes⟩
theorem ok_is_lay (Fu : Df K mg "is_lay" s_is_lay p_is_lay) (C1 : Cal P w K mg base 3 "wrong_place" p_wrong_place (spP cWrong)) : Cal P w K mg base 4 "is_lay" p_is_lay (spP cIsLay) := by
  refine Fu.fn sc_is_lay (fun a _ => rfl) fun X F a B0 _ ha => ?_
  have B := B0.toBd
  refine sd_start (ρ1 := [.dat a.enc]) rfl (sd_one (s_ret ((pd_isN (pd_callR (c := cWrong) a _ (fun _ z => z) B0.at B C1 (by decide) rfl (pds_cons (gv B 0 rfl) pns_nil) ha) pn_non).imp fun r e => ?_)))
  show r = _
  rw [e]
  cases a <;> rfl
/-- what is asked to be labels -/
inductive LabV where
  | good (m : M)
  | bad (d : D)
def LabV.enc : LabV → D
  | .good m => eM m
  | .bad d => d
def LabV.yes : LabV → Bool
  | .good _ => true
  | .bad _ => false
/-- what are no labels -/
inductive Odd : T → D → Prop
  | leaf (l : Lay) (b : Bool) (d : D) : Odd (.leaf l) (.tuple [.bool b, d])
  | no (x y : T) (d : D) : okFork d → isFork d 4 = false → Odd (.fork x y) d
  | non (x y : T) (u v : D) : Odd (.fork x y) (.tuple [.str "fork", .none, u, v])
def LabV.ok (n : Int) (t : T) : LabV → Prop
  | .good m => m.fits n t
  | .bad d => Odd t d
def cAre (h : Nat) : Ctr (Int × T × LabV) := ⟨fun a => [eT a.2.1, a.2.2.enc], fun a => TOk a.1 h a.2.1 ∧ a.2.2.ok a.1 a.2.1, fun a r => r = .bool a.2.2.yes⟩
theorem shaped_eL {l : Lay} : SeqAt.shaped (eL l) = true := by
  have := depth_js l.js
  simp [SeqAt.shaped, eL, PyData.canLay0, PyData.canLayAll0, canLay_js, PyData.depth, PyData.depthAll]
  omega
theorem ok_are_labels (Fu : Df K mg "are_labels" s_are_labels p_are_labels) (C1 : Cal P w K mg base 1 "is_fork" p_is_fork (spP cFork)) (C2 : Cal P w K mg base 4 "is_lay" p_is_lay (spP cIsLay)) (C3 : Cal P w K mg base 9 "leaves_in" p_leaves_in (spP (cLeaves 8))) :
    ∀ h, Cal P w K mg base (h + 9) "are_labels" p_are_labels (spP (cAre h)) := by
  refine Fu.rc sc_are_labels (fun h a _ => rfl) (fun a o => by have := o.1.dp; omega) fun h X F a C B0 _ ha => ?_
  have B := B0.toBd
  obtain ⟨n, t, v⟩ := a
  obtain ⟨ha, hv⟩ := ha
  simp only at ha hv
  have okv : okFork v.enc ∨ ∃ l, t = .leaf l := by
    cases v with
    | good m => exact .inl (okF_M m)
    | bad d =>
      cases hv with
      | leaf l b d => exact .inr ⟨l, rfl⟩
      | no x y d h1 h2 => exact .inl h1
      | non x y u v => exact .inl rfl
  refine sd_start (ρ1 := [.dat (eT t), .dat v.enc]) rfl (sd_cons (s_ifd (Nn := fun ρ' => ρ' = [.dat (eT t), .dat v.enc] ∧ ∃ x y, t = .fork x y) (tb_not (tb_fork (m := 3) B0.at B C1 (by omega) rfl (gv B 0 rfl) (okF_T t) (by decide)))
    (fun h1 => ?_) fun h1 => sd_nil ⟨rfl, ?_⟩) fun ρ' e => ?_)
  · cases t with
    | fork x y => cases h1
    | leaf l =>
      cases v with
      | good m =>
        cases m with
        | fork _ _ _ => exact hv.elim
        | leaf l' =>
          have e : l' = l := hv
          subst e
          refine sd_one (s_ret ((pd_and (pd_callR (c := cIsLay) (.good l') _ (fun _ z => z) B0.at B C2 (by omega) rfl (pds_cons (gv B 1 rfl) pns_nil) ha.ok.1) fun _ => pd_and1 (pd_eq B (gv B 1 rfl) (gv B 0 rfl) shaped_eL shaped_eL)).imp fun r e => ?_))
          show r = _
          rw [e]
          show PyData.bool (true && PyData.eqv (eL l') (eL l')) = .bool true
          rw [eqv_eL]
          simp
      | bad d =>
        cases hv with
        | leaf _ b d =>
          refine sd_one (s_ret ((pd_and (y := true) (pd_callR (c := cIsLay) (.bl b d) _ (fun _ z => z) B0.at B C2 (by omega) rfl (pds_cons (gv B 1 rfl) pns_nil) trivial) fun z => by cases z).imp fun r e => ?_))
          show r = _
          rw [e]
          rfl
  · cases t with
    | leaf l => cases h1
    | fork x y => exact ⟨x, y, rfl⟩
  · obtain ⟨rfl, x, y, rfl⟩ := e
    have okv : okFork v.enc := by
      rcases okv with h | ⟨l, h⟩
      · exact h
      · cases h
    obtain ⟨l, ls, el, en⟩ := leaves_head (.fork x y)
    cases v with
    | good m =>
      cases m with
      | leaf _ => exact hv.elim
      | fork L mx my =>
        obtain ⟨h1, h2, h3, h4⟩ := hv
        have en2 : l.n = n := en.trans (ok_n ha.ok)
        refine sd_cons (s_ifd (Nn := fun ρ' => ρ' = [.dat (eT (.fork x y)), .dat (eM (.fork L mx my))]) (PBW.pb (tb_or (tb_not (tb_fork (m := 4) B0.at B C1 (by omega) rfl (gv B 1 rfl) okv (by decide))) fun _ => tb_or (tb_not (pb_of (pd_callR (c := cIsLay) (.good L) _ (fun _ z => z) B0.at B C2 (by omega) rfl (pds_cons (pd_ixT (n := 1) (gv B 1 rfl) rfl) pns_nil) h1)))
          fun _ => tb_or1 (pb_neI (i := L.n) (j := l.n) B (pd_ixT (n := 0) (pd_ixT (n := 1) (d := eL L) (gv B 1 rfl) rfl) rfl) (pd_ixT (n := 0) (pd_ixL (n := 0) (d := eL l) (pd_callR (c := cLeaves 8) (n, .fork x y) _ (fun _ z => z) B0.at B C3 (by omega) rfl (pds_cons (gv B 0 rfl) pns_nil) ha.to8) ?_) rfl)))) (fun z => ?_) fun _ => sd_nil rfl) fun ρ' e => ?_
        · show ((T.fork x y).leaves.map eL)[0]? = some (eL l)
          rw [el]; rfl
        · rw [h2, en2] at z
          simp [isFork, eM, LabV.enc, LayV.yes] at z
        · subst e
          refine sd_one (s_ret ((pd_and (pd_callR (c := cAre h) (n, x, .good mx) _ (fun _ z => z) B0.at B C (Nat.le_refl _) rfl (pds_cons (pd_ixT (n := 1) (gv B 0 rfl) rfl) (pds_cons (pd_ixT (n := 2) (gv B 1 rfl) rfl) pns_nil)) ⟨ha.l, h3⟩)
            fun _ => pd_and1 (pd_callR (c := cAre h) (n, y, .good my) _ (fun _ z => z) B0.at B C (Nat.le_refl _) rfl (pds_cons (pd_ixT (n := 2) (gv B 0 rfl) rfl) (pds_cons (pd_ixT (n := 3) (gv B 1 rfl) rfl) pns_nil)) ⟨ha.r, h4⟩)).imp fun r e => ?_))
          show r = _
          rw [e]
          rfl
    | bad d =>
      have go : isFork d 4 = false ∨ ∃ u v, d = .tuple [.str "fork", .none, u, v] := by
        cases hv with
        | no _ _ _ h1 h2 => exact .inl h2
        | non _ _ u v => exact .inr ⟨u, v, rfl⟩
      rcases go with h2 | ⟨u, v, rfl⟩
      · refine sd_cons (s_ifd (Nn := fun _ => False) (PBW.pb (tb_or (y := true) (tb_not (tb_fork (m := 4) B0.at B C1 (by omega) rfl (gv B 1 rfl) okv (by decide))) fun z => ?_)) (fun z => sd_one (s_ret (pn_bl (b := false)))) fun z => ?_) fun ρ' e => e.elim
        · rw [show isFork (LabV.bad d).enc 4 = false from h2] at z; cases z
        · rw [show isFork (LabV.bad d).enc 4 = false from h2] at z; cases z
      · refine sd_cons (s_ifd (Nn := fun _ => False) (PBW.pb (tb_or (tb_not (tb_fork (m := 4) B0.at B C1 (by omega) rfl (gv B 1 rfl) okv (by decide))) fun _ => tb_or (y := true) (tb_not (pb_of (pd_callR (c := cIsLay) .non _ (fun _ z => z) B0.at B C2 (by omega) rfl (pds_cons (pd_ixT (n := 1) (gv B 1 rfl) rfl) pns_nil) trivial))) fun z => by cases z)) (fun z => sd_one (s_ret (pn_bl (b := false)))) fun z => by cases z) fun ρ' e => e.elim
/-! labels_sum, are_least -/
def cLSum : Ctr (Int × T × M) := ⟨fun a => [eT a.2.1, eM a.2.2], fun a => TOk a.1 8 a.2.1 ∧ a.2.2.fits a.1 a.2.1, fun a r => r = .int (summed a.2.2)⟩
theorem ok_labels_sum (Fu : Df K mg "labels_sum" s_labels_sum p_labels_sum) (C1 : Cal P w K mg base 13 "need_tree" p_need_tree (spP cNeed)) (C2 : Cal P w K mg base 17 "are_labels" p_are_labels (spP (cAre 8))) (C3 : Cal P w K mg base 10 "sum_of" p_sum_of (spP (cSumOf 8))) :
    Cal P w K mg base 18 "labels_sum" p_labels_sum (spP cLSum) := by
  refine Fu.fn sc_labels_sum (fun a _ => rfl) fun X F a B0 _ ha => ?_
  have B := B0.toBd
  obtain ⟨n, t, m⟩ := a
  refine sd_start (ρ1 := [.dat (eT t), .dat (eM m)]) rfl (sd_cons (s_ifd (Nn := fun ρ' => ρ' = [.dat (eT t), .dat (eM m)]) (tb_not (pb_of (pd_callR (c := cAre 8) (n, t, .good m) _ (fun _ z => z) B0.at B C2 (by decide) rfl (pds_cons (pd_callR (c := cNeed) (n, t) (eT t) (fun _ z => z) B0.at B C1 (by decide) rfl (pds_cons (gv B 0 rfl) pns_nil) ha.1) (pds_cons (gv B 1 rfl) pns_nil)) ha)))
    (fun z => by cases z) fun _ => sd_nil rfl) fun ρ' e => ?_)
  subst e
  exact sd_one (s_ret (pd_callR (c := cSumOf 8) (n, t, m) _ (fun _ z => z) B0.at B C3 (by decide) rfl (pds_cons (gv B 1 rfl) pns_nil) ha))
def LabV.least (t : T) : LabV → Bool
  | .good m => decide (summed m = cost t)
  | .bad _ => false
def cLeast : Ctr (Int × T × LabV) := ⟨fun a => [eT a.2.1, a.2.2.enc], fun a => TOk a.1 8 a.2.1 ∧ a.2.2.ok a.1 a.2.1, fun a r => r = .bool (a.2.2.least a.2.1)⟩
/-- len of a list of which only its length is known -/
theorem pd_lenN {X : Cx} {F : Fx} {ρ : Ev} {N : List Str} {sc : Scope} {k n : Nat} {e : Expr} {p pos : Pos} (B : Bd X K mg N sc k) (T : Bt mg) (hg : sc.names.lookup ("len" : Str) = some .globalImplicit) (ha : PN X F ρ e fun d => ∃ ws, d = .list ws ∧ ws.length = n) (hs : starEach [e] X.env = (false, eval e X.env) :: starEach [] X.env := by rfl)
    (hpl : (backTo pos (starEach [] X.env)).any (·.1) = false := by rfl) : PD X F ρ (.Call (.Name "len" p) [e] [] pos) (.int n) := by
  refine pn_blt B call_len_seq hg T.len PySem.boot_len (pns_cons ha pns_nil (Pr := fun xs => ∃ ws, xs = [.list ws] ∧ ws.length = n) ?_ hs) ?_ (by decide) (by decide) hs hpl
  · rintro x xs ⟨ws, rfl, h⟩ rfl
    exact ⟨ws, rfl, h⟩
  · rintro xs ⟨ws, rfl, h⟩ G H vs Q s r q
    cases r with
    | cons r rr =>
      cases rr
      obtain ⟨l, us, rfl, h1, h2⟩ := r.listI
      exact ⟨l, us, rfl, .inl (SqL.of (s _ _ h1)), q _ _ G H rfl (Nx.refl s) (by rw [h2.len, h]; exact .int _)⟩
theorem ok_are_least (Fu : Df K mg "are_least" s_are_least p_are_least) (T : Bt mg) (C1 : Cal P w K mg base 13 "need_tree" p_need_tree (spP cNeed)) (C2 : Cal P w K mg base 17 "are_labels" p_are_labels (spP (cAre 8))) (C3 : Cal P w K mg base 10 "sum_of" p_sum_of (spP (cSumOf 8))) (C4 : Cal P w K mg base 11 "ways_in" p_ways_in (spP cWays)) :
    Cal P w K mg base 18 "are_least" p_are_least (spP cLeast) := by
  refine Fu.fn sc_are_least (fun a _ => rfl) fun X F a B0 _ ha => ?_
  have B := B0.toBd
  obtain ⟨n, t, v⟩ := a
  refine sd_start (ρ1 := [.dat (eT t), .dat v.enc]) rfl (sd_one (s_ret ((pd_and (y := v.least t) (pd_callR (c := cAre 8) (n, t, v) _ (fun _ z => z) B0.at B C2 (by decide) rfl (pds_cons (pd_callR (c := cNeed) (n, t) (eT t) (fun _ z => z) B0.at B C1 (by decide) rfl (pds_cons (gv B 0 rfl) pns_nil) ha.1) (pds_cons (gv B 1 rfl) pns_nil)) ha) fun h => ?_).imp fun r e => ?_)))
  · cases v with
    | bad d => cases h
    | good m => exact pd_and1 (pd_eqI B (pd_callR (c := cSumOf 8) (n, t, m) _ (fun _ z => z) B0.at B C3 (by decide) rfl (pds_cons (gv B 1 rfl) pns_nil) ha) (pd_lenN B T rfl (pd_call (c := cWays) (n, t) B0.at B C4 (by decide) rfl (pds_cons (gv B 0 rfl) pns_nil) ha.1)))
  · show r = _
    rw [e]
    cases v <;> rfl
end Dc
/-! W9: the law's gap, leaves, best, joints. -/
namespace Dc
open PySem L2 Pd PyProof.Rows
variable {P : Program} {w : World} {K : PySem.W.Frag} {mg : Str → Option Value} {base : Heap}
theorem ok_L_gap (Fu : Df K mg "_law_gap" s_L_gap p_L_gap) (T : Bt mg) : Cal P w K mg base 1 "_law_gap" p_L_gap (spP cNum) := by
  refine Fu.fn sc_L_gap (fun a _ => rfl) fun X F a B0 _ ha => ?_
  have B := B0.toBd
  obtain ⟨a, b⟩ := a
  obtain ⟨oa, ob⟩ := ha
  refine sd_start (ρ1 := [.dat (.tuple [.int a.n, .tuple (a.js.map eJ)]), .dat (.tuple [.int b.n, .tuple (b.js.map eJ)]), .un, .un]) rfl (sd_cons (s_set B 2 (pd_len B T rfl (PO.pd (po_lc (α := J) (enc := eJ) (xs := a.js) (keep := b.has) (val := eJ)
    (own := [("_law_joint", 3)]) (Ok := fun _ => True) (Tt := gT1 3) B (pi_tup cE) (dw_tup (pd_ixT (n := 1) (gv B 0 rfl) rfl)) (blkOk_by (by decide +kernel)) (fun X' bk => bk_name bk B 3 rfl rfl) (dg_name 3) (fun _ _ => trivial) (ok_lt oa) rfl ?_)) (.inl rfl) rfl) rfl (.inl rfl) B0.hfn) fun ρ' e => ?_)
  · intro X' bk j _ ρ2 t
    subst t
    have B' := bk.bd B
    exact ⟨pbs_one ((pb_cmp1 (op_inT B'.u65) (gv B' 3 rfl) (pd_ixT (n := 1) (gv B' 1 rfl) rfl) (d2_inT (shaped_eJ j) (shaped_jsT b.js)) rfl).imp fun q e => by rw [e, any_eJ]; rfl), fun _ => gv B' 3 rfl⟩
  · obtain ⟨d, rfl, rfl⟩ := e
    refine sd_one (s_ret ((pd_sub (pd_add (pd_len B T rfl (pd_ixT (n := 1) (gv B 0 rfl) rfl) (.inr rfl) rfl) (pd_len B T rfl (pd_ixT (n := 1) (gv B 1 rfl) rfl) (.inr rfl) rfl)) (pd_mul pn_int (gv B 2 rfl) (.inl (by decide)))).imp fun r e => ?_))
    show r = _
    rw [e]
    unfold gap
    simp only [List.length_map]
/-- len(tree) == 2 -/
def isLeaf : T → Bool
  | .leaf _ => true
  | .fork _ _ => false
theorem pb_leaf {X : Cx} {F : Fx} {ρ : Ev} {N : List Str} {sc : Scope} {k j1 : Nat} {e : Expr} {p pos pos2 p1 : Pos} {t : T} (B : Bd X K mg N sc k) (T' : Bt mg) (hg : sc.names.lookup ("len" : Str) = some .globalImplicit) (he : PD X F ρ e (eT t))
    (hs : starEach [e] X.env = (false, eval e X.env) :: starEach [] X.env := by rfl) (hpl : (backTo pos (starEach [] X.env)).any (·.1) = false := by rfl) :
    PB X F ρ (.Compare (.Call (.Name "len" p) [e] [] pos) [.Eq] [.Constant (.int 2) j1 p1] pos2) fun q => q = isLeaf t := by
  cases t with
  | leaf l => exact (pb_eqI B (pd_len B T' hg he (.inr rfl) rfl hs hpl) pn_int).imp fun q e => by rw [e]; rfl
  | fork a b => exact (pb_eqI B (pd_len B T' hg he (.inr rfl) rfl hs hpl) pn_int).imp fun q e => by rw [e]; rfl
theorem ok_L_leaves (Fu : Df K mg "_law_leaves" s_L_leaves p_L_leaves) (T' : Bt mg) : ∀ h, Cal P w K mg base (h + 0) "_law_leaves" p_L_leaves (spP (cLeaves h)) := by
  refine Fu.rc sc_L_leaves (fun h a _ => rfl) (fun a o => by have := o.dp; omega) fun h X F a C B0 _ ha => ?_
  have B := B0.toBd
  obtain ⟨n, t⟩ := a
  refine sd_start (ρ1 := [.dat (eT t)]) rfl (sd_one (s_ret ((pd_if (d := .list (t.leaves.map eL)) (pb_leaf B T' rfl (gv B 0 rfl)) (fun h1 => ?_) fun h1 => ?_).imp fun r e => e)))
  · cases t with
    | leaf l => exact pd_lst (pds_cons (gv B 0 rfl) pns_nil)
    | fork a b => cases h1
  · cases t with
    | leaf l => cases h1
    | fork a b =>
      refine PD.cast (pd_cat (pd_callR (c := cLeaves h) (n, a) (.list (a.leaves.map eL)) (fun _ z => z) B0.at B C (Nat.le_refl _) rfl (pds_cons (pd_ixT (n := 1) (gv B 0 rfl) rfl) pns_nil) ha.l)
        (pd_callR (c := cLeaves h) (n, b) (.list (b.leaves.map eL)) (fun _ z => z) B0.at B C (Nat.le_refl _) rfl (pds_cons (pd_ixT (n := 2) (gv B 0 rfl) rfl) pns_nil) ha.r) ?_) ?_
      · have lv : (T.fork a b).leaves.length ≤ 8 := ha.lv
        have e : (T.fork a b).leaves.length = a.leaves.length + b.leaves.length := List.length_append
        rw [List.length_map, List.length_map]
        exact Nat.le_trans (by omega : _ ≤ 8) (by decide)
      · rw [← List.map_append]; rfl
/-! best -/
def chS : Option Bool → List Bool
  | some b => [b]
  | none => [false, true]
def eB (t : T) (j : J) : D := .tuple [.list ((chS (best t j).1).map .bool), .int ((best t j).2 : Nat)]
def cBest (h : Nat) : Ctr (Int × T × J) := ⟨fun a => [eT a.2.1, eJ a.2.2], fun a => TOk a.1 h a.2.1, fun a r => r = eB a.2.1 a.2.2⟩
theorem chS_both (x y : Option Bool) : (chS x).filter (fun b => decide (b ∈ chS y)) = (if extra x y = 0 then chS (comb x y) else []) := by
  rcases x with _ | _ | _ <;> rcases y with _ | _ | _ <;> rfl
theorem chS_ne (x : Option Bool) : chS x ≠ [] := by rcases x with _ | _ | _ <;> simp [chS]
theorem extra01 (x y : Option Bool) : extra x y = 0 ∨ (extra x y = 1 ∧ comb x y = none) := by
  rcases x with _ | _ | _ <;> rcases y with _ | _ | _ <;> simp [extra, comb]
theorem any_bool (bs : List Bool) (b : Bool) : ((bs.map PyData.bool).any fun z => PyData.eqv z (.bool b)) = decide (b ∈ bs) := by
  induction bs with
  | nil => simp
  | cons c bs ih =>
    rw [List.map_cons, List.any_cons, ih]
    simp only [PyData.eqv, List.mem_cons, Bool.decide_or, Bool.beq_eq_decide_eq]
    congr 1
    exact decide_eq_decide.mpr ⟨fun h => h.symm, fun h => h.symm⟩
theorem canLay_bools : ∀ bs : List Bool, PyData.canLayAll0 (bs.map .bool) = true
  | [] => by simp [PyData.canLayAll0]
  | b :: bs => by simp [PyData.canLayAll0, canLay_bools bs, PyData.canLay0]
theorem depth_bools : ∀ bs : List Bool, PyData.depthAll (bs.map .bool) = 0
  | [] => by simp [PyData.depthAll]
  | b :: bs => by simp [PyData.depthAll, depth_bools bs, PyData.depth]
theorem shaped_bools (bs : List Bool) : SeqAt.shaped (.list (bs.map .bool)) = true := by
  simp [SeqAt.shaped, PyData.canLay0, canLay_bools, PyData.depth, depth_bools]
theorem shaped_bool (b : Bool) : SeqAt.shaped (.bool b) = true := by simp [SeqAt.shaped, PyData.canLay0, PyData.depth]
theorem shaped_nil : SeqAt.shaped (.list []) = true := by simp [SeqAt.shaped, PyData.canLay0, PyData.canLayAll0, PyData.depth, PyData.depthAll]
theorem eqv_nil (ds : List D) : PyData.eqv (.list ds) (.list []) = ds.isEmpty := by
  cases ds <;> simp [PyData.eqv, PyData.eqvAll]
theorem chS_len (x : Option Bool) : (chS x).length < sizeLine := line_lt (by rcases x with _ | _ | _ <;> simp [chS])
theorem ok_L_best (Fu : Df K mg "_law_best" s_L_best p_L_best) (T' : Bt mg) : ∀ h, Cal P w K mg base (h + 0) "_law_best" p_L_best (spP (cBest h)) := by
  refine Fu.rc sc_L_best (fun h a _ => rfl) (fun a o => by have := o.dp; omega) fun h X F a C B0 _ ha => ?_
  have B := B0.toBd
  obtain ⟨n, t, j⟩ := a
  refine sd_start (ρ1 := [.dat (eT t), .dat (eJ j), .un, .un, .un, .un]) rfl (sd_cons (s_ifd (Nn := fun ρ' => ρ' = [.dat (eT t), .dat (eJ j), .un, .un, .un, .un] ∧ ∃ x y, t = .fork x y) (pb_leaf B T' rfl (gv B 0 rfl)) (fun h1 => ?_) fun h1 => sd_nil ⟨rfl, ?_⟩) fun ρ' e => ?_)
  · cases t with
    | fork x y => cases h1
    | leaf l =>
      refine sd_one (s_ret ((pd_tup (pds_cons (pd_lst (pds_cons (pd_cmp (op_inT B.u65) (gv B 1 rfl) (pd_ixT (n := 1) (gv B 0 rfl) rfl) (d2_inT (shaped_eJ j) (shaped_jsT l.js)) rfl) pns_nil)) (pds_cons pn_int pns_nil))).imp fun r e => ?_))
      show r = _
      rw [e, any_eJ]
      rfl
  · cases t with
    | leaf l => cases h1
    | fork x y => exact ⟨x, y, rfl⟩
  · obtain ⟨rfl, x, y, rfl⟩ := e
    refine sd_cons (s_unp (u := eB x j) (v := eB y j) B 2 3 (pd_tup (pds_cons (pd_callR (c := cBest h) (n, x, j) _ (fun _ z => z) B0.at B C (Nat.le_refl _) rfl (pds_cons (pd_ixT (n := 1) (gv B 0 rfl) rfl) (pds_cons (gv B 1 rfl) pns_nil)) ha.l)
      (pds_cons (pd_callR (c := cBest h) (n, y, j) _ (fun _ z => z) B0.at B C (Nat.le_refl _) rfl (pds_cons (pd_ixT (n := 2) (gv B 0 rfl) rfl) (pds_cons (gv B 1 rfl) pns_nil)) ha.r) pns_nil))) rfl rfl (.inl rfl) (.inr rfl) B0.hfn rfl) fun ρ' e => ?_
    subst e
    refine sd_cons (s_lc (α := Bool) (enc := .bool) (xs := chS (best x j).1) (keep := fun b => decide (b ∈ chS (best y j).1)) (val := .bool) (own := [("_law_one", 5)]) (Ok := fun _ => True) (Tt := gT1 5) B 4 rfl rfl (sw_true (by rw [B.hsc]; rfl) (by rw [B.hsc]; rfl) rfl (by decide +kernel))
      (pi_list cE) (dw_list (pd_ixT (n := 0) (gv B 2 rfl) rfl)) (blkOk_by (by decide +kernel)) (fun X' bk => bk_name bk B 5 rfl rfl) (dg_name 5) (fun _ _ => trivial) (chS_len _) rfl fun X' bk b _ ρ2 q => ?_) fun ρ' e => ?_
    · subst q
      have B' := bk.bd B
      exact ⟨pbs_one ((pb_cmp1 (op_inD B'.u65) (gv B' 5 rfl) (pd_ixT (n := 0) (gv B' 3 rfl) rfl) (d2_inL (shaped_bool b) (shaped_bools _)) rfl).imp fun q e => by rw [e, any_bool]), fun _ => gv B' 5 rfl⟩
    · subst e
      rw [chS_both]
      have bl := best_le j x
      refine sd_one (s_ret ((pd_if (d := eB (.fork x y) j) (pb_ne B (gv B 4 rfl) (pd_lst pns_nil) (shaped_bools _) shaped_nil) (fun z => ?_) fun z => ?_).imp fun r e => e))
      · rw [eqv_nil] at z
        rcases extra01 (best x j).1 (best y j).1 with h0 | ⟨h0, h2⟩
        · rw [if_pos h0]
          refine PD.cast (pd_tup (pds_cons (gv B 4 rfl) (pds_cons (pd_add (pd_ixT (n := 1) (gv B 2 rfl) rfl) (pd_ixT (n := 1) (gv B 3 rfl) rfl)) pns_nil))) ?_
          unfold eB
          simp only [best, h0]
          congr 3
        · rw [h0] at z; simp at z
      · rw [eqv_nil] at z
        rcases extra01 (best x j).1 (best y j).1 with h0 | ⟨h0, h2⟩
        · rw [if_pos h0] at z
          have := chS_ne (comb (best x j).1 (best y j).1)
          simp at z
          exact absurd z this
        · refine PD.cast (pd_tup (pds_cons (pd_lst (pds_cons pn_bl (pds_cons pn_bl pns_nil))) (pds_cons (pd_add (pd_add (pd_ixT (n := 1) (gv B 2 rfl) rfl) (pd_ixT (n := 1) (gv B 3 rfl) rfl)) pn_int) pns_nil))) ?_
          unfold eB
          simp only [best, h0, h2]
          congr 3
end Dc
/-! W10: the law's joints, plain, summed. -/
namespace Dc
open PySem L2 Pd PyProof.Rows
variable {P : Program} {w : World} {K : PySem.W.Frag} {mg : Str → Option Value} {base : Heap}
theorem firsts_take {ls : List Lay} {i : Nat} {l : Lay} (h : ls[i]? = some l) : firsts (ls.take (i + 1)) = firsts (ls.take i) ++ l.js.filter fun j => !decide (j ∈ firsts (ls.take i)) := by
  unfold firsts
  rw [List.take_add_one, h]
  simp only [Option.toList_some, List.foldl_append, List.foldl_cons, List.foldl_nil]
theorem sd_js {n : Int} {js : List J} (hn : n ≤ 12) (h : js.Nodup) (ok : ∀ j ∈ js, okJ n j) : Sd (js.map eJ) := by
  refine ⟨fun d hd d' hd' => ?_, .inl fun d hd => ?_, Nat.le_of_lt (line_lt ?_), fun d hd => ?_⟩
  · obtain ⟨j, _, rfl⟩ := List.mem_map.mp hd
    obtain ⟨k, _, rfl⟩ := List.mem_map.mp hd'
    simp [eJ, PySem.W.alike, PySem.W.alikeAll]
  · obtain ⟨j, _, rfl⟩ := List.mem_map.mp hd
    exact ⟨_, _, rfl⟩
  · have := few hn h ok
    rw [List.length_map]; omega
  · obtain ⟨j, _, rfl⟩ := List.mem_map.mp hd
    simp [eJ, PyData.depth, PyData.depthAll]
theorem firsts_ok {n : Int} {t : T} (h : t.ok n) (i : Nat) : (firsts (t.leaves.take i)).Nodup ∧ ∀ j ∈ firsts (t.leaves.take i), okJ n j := by
  have nd : ∀ l ∈ t.leaves.take i, l.js.Nodup := fun l hl => ok_nd h l (List.mem_of_mem_take hl)
  refine ⟨firsts_nodup nd, fun j hj => ?_⟩
  obtain ⟨l, h1, h2⟩ := (firsts_mem nd j).mp hj
  obtain ⟨a, b⟩ := ok_leaves h l (List.mem_of_mem_take h1)
  rw [← b]; exact a.js j h2
theorem ok_L_joints (Fu : Df K mg "_law_joints" s_L_joints p_L_joints) (T' : Bt mg) (C1 : Cal P w K mg base 8 "_law_leaves" p_L_leaves (spP (cLeaves 8))) : Cal P w K mg base 9 "_law_joints" p_L_joints (spP cJoints) := by
  refine Fu.fn sc_L_joints (fun a _ => rfl) fun X F a B0 _ ha => ?_
  have B := B0.toBd
  obtain ⟨n, t⟩ := a
  replace ha : TOk n 8 t := ha
  have tk : t.leaves.take t.leaves.length = t.leaves := List.take_length
  refine sd_start (ρ1 := [.dat (eT t), .un, .un, .un]) rfl (sd_cons (s_set B 1 (pd_lst pns_nil) rfl (.inr rfl) B0.hfn) fun ρ' e => ?_)
  obtain ⟨d, rfl, rfl⟩ := e
  refine sd_cons (s_for (ds := t.leaves.map eL) B B0.hxe (pi_list cE) (dw_list (pd_callR (c := cLeaves 8) (n, t) _ (fun _ z => z) B0.at B C1 (by decide) rfl (pds_cons (gv B 0 rfl) pns_nil) ha)) (fg B0 2 rfl (.inl rfl)) (dg_name 2) (fun _ _ => trivial)
    (fun i ρ' => ∃ s, ρ' = [.dat (eT t), .dat (.list ((firsts (t.leaves.take i)).map eJ)), s, .un] ∧ oneB.oneB' [s] = true) ⟨.un, rfl, rfl⟩ fun i d ρ1 ρ2 hd h1 h2 => ?_) fun ρ' h => ?_
  · obtain ⟨s, rfl, _⟩ := h1
    obtain ⟨l, hl, rfl⟩ := map_get hd
    subst h2
    obtain ⟨ol, on⟩ := ok_leaves ha.ok l (List.mem_of_getElem? hl)
    obtain ⟨f1, f2⟩ := firsts_ok ha.ok i
    refine sd_one ((s_set B 1 (pd_cat (gv B 1 rfl) (PO.pd (po_lc (α := J) (enc := eJ) (xs := l.js) (keep := fun j => !decide (j ∈ firsts (t.leaves.take i))) (val := eJ) (own := [("_law_joint", 3)]) (Ok := fun _ => True) (Tt := gT1 3) B (pi_tup cE) (dw_tup (pd_ixT (n := 1) (gv (d := eL l) B 2 rfl) rfl)) (blkOk_by (by decide +kernel))
      (fun X' bk => bk_name bk B 3 rfl rfl) (dg_name 3) (fun _ _ => trivial) (ok_lt ol) rfl ?_)) ?_) rfl (.inr rfl) B0.hfn).imp (fun ρ3 h3 => ?_) fun _ _ z => z)
    · intro X' bk j _ ρ2 q
      subst q
      have B' := bk.bd B
      exact ⟨pbs_one ((pb_cmp1 (op_notInD B'.u65) (gv B' 3 rfl) (gv B' 1 rfl) (d2_ninL (shaped_eJ j) (shaped_jsL _)) rfl).imp fun q e => by rw [e, any_eJ]), fun _ => gv B' 3 rfl⟩
    · have h1 := few ha.n2 f1 f2
      have h2 := ok_few ol
      have h3 := List.length_filter_le (fun j => !decide (j ∈ firsts (t.leaves.take i))) l.js
      rw [List.length_map, List.length_map]
      exact Nat.le_of_lt (line_lt (by omega))
    · obtain ⟨d, rfl, rfl⟩ := h3
      refine ⟨.dat (eL l), ?_, rfl⟩
      rw [firsts_take hl, List.map_append]
      rfl
  · obtain ⟨s, rfl, hs⟩ := h
    rw [List.length_map, tk]
    obtain ⟨f1, f2⟩ := firsts_ok ha.ok t.leaves.length
    rw [tk] at f1 f2
    refine sd_one (s_ret ((PO.pd (po_sorted B T' rfl (gv B 1 rfl) (.inl rfl) (sd_js ha.n2 f1 f2))).imp fun r e => ?_))
    show r = _
    rw [e, sort_eJ]
    rfl
/-! plain -/
def cPlain (h : Nat) : Ctr (Int × T × List J) := ⟨fun a => [eT a.2.1, .list (a.2.2.map eJ)], fun a => TOk a.1 h a.2.1, fun a r => r = eM (plain a.2.1 a.2.2)⟩
theorem eqv_true (x : Option Bool) : PyData.eqv (.list ((chS x).map .bool)) (.list [.bool true]) = decide (x = some true) := by
  rcases x with _ | _ | _ <;> decide
theorem len_two (x : Option Bool) : decide (((((chS x).map PyData.bool).length : Nat) : Int) = 2) = decide (x = none) := by
  rcases x with _ | _ | _ <;> rfl
theorem ok_L_plain (Fu : Df K mg "_law_plain" s_L_plain p_L_plain) (T' : Bt mg) (C1 : Cal P w K mg base 9 "_law_joints" p_L_joints (spP cJoints)) (C2 : Cal P w K mg base 8 "_law_best" p_L_best (spP (cBest 8))) (C3 : Cal P w K mg base 8 "_law_leaves" p_L_leaves (spP (cLeaves 8))) :
    ∀ h, Cal P w K mg base (h + 9) "_law_plain" p_L_plain (spP (cPlain h)) := by
  refine Fu.rc sc_L_plain (fun h a _ => rfl) (fun a o => by have := o.dp; omega) fun h X F a C B0 _ ha => ?_
  have B := B0.toBd
  obtain ⟨n, t, ab⟩ := a
  replace ha : TOk n (h + 1) t := ha
  refine sd_start (ρ1 := [.dat (eT t), .dat (.list (ab.map eJ)), .un, .un, .un, .un]) rfl (sd_cons (s_ifd (Nn := fun ρ' => ρ' = [.dat (eT t), .dat (.list (ab.map eJ)), .un, .un, .un, .un] ∧ ∃ x y, t = .fork x y) (pb_leaf B T' rfl (gv B 0 rfl)) (fun h1 => ?_) fun h1 => sd_nil ⟨rfl, ?_⟩) fun ρ' e => ?_)
  · cases t with
    | fork x y => cases h1
    | leaf l => exact sd_one (s_ret (gv B 0 rfl))
  · cases t with
    | leaf l => cases h1
    | fork x y => exact ⟨x, y, rfl⟩
  · obtain ⟨rfl, x, y, rfl⟩ := e
    have jf := joints_few ha.n2 ha.ok
    refine sd_cons (s_set B 2 (pd_lst pns_nil) rfl (.inl rfl) B0.hfn) fun ρ' e => ?_
    obtain ⟨d, rfl, rfl⟩ := e
    refine sd_cons (s_for (ds := (joints (.fork x y)).map eJ) B B0.hxe (pi_list cE) (dw_list (pd_callR (c := cJoints) (n, .fork x y) _ (fun _ z => z) B0.at B C1 (by omega) rfl (pds_cons (gv B 0 rfl) pns_nil) ha.to8)) (fg B0 3 rfl (.inl rfl)) (dg_name 3) (fun _ _ => trivial)
      (fun i ρ' => ∃ s u, ρ' = [.dat (eT (.fork x y)), .dat (.list (ab.map eJ)), .dat (.list ((((joints (.fork x y)).take i).filter (want (.fork x y) ab)).map eJ)), s, u, .un]) ⟨.un, .un, rfl⟩ fun i d ρ1 ρ2 hd h1 h2 => ?_) fun ρ' h => ?_
    · obtain ⟨s, u, rfl⟩ := h1
      obtain ⟨j, hj, rfl⟩ := map_get hd
      subst h2
      refine sd_cons (s_set B 4 (pd_ixT (n := 0) (pd_callR (c := cBest 8) (n, .fork x y, j) _ (fun _ z => z) B0.at B C2 (by omega) rfl (pds_cons (gv B 0 rfl) (pds_cons (gv B 3 rfl) pns_nil)) ha.to8) rfl) rfl (.inl rfl) B0.hfn) fun ρ' e => ?_
      obtain ⟨d, rfl, rfl⟩ := e
      have hw : (decide ((best (.fork x y) j).1 = some true) || (decide ((best (.fork x y) j).1 = none) && decide (j ∈ ab))) = want (.fork x y) ab j := rfl
      refine sd_one ((s_set B 2 (pd_cat (gv B 2 rfl) (pd_rep (n := if want (.fork x y) ab j then 1 else 0) (pd_lst (pds_cons (gv B 3 rfl) pns_nil)) (PD.cast (pd_int_b B T' rfl (pd_or (pd_eq B (gv B 4 rfl) (pd_lst (pds_cons pn_bl pns_nil)) (shaped_bools _) (shaped_bools [true])) fun _ =>
        pd_or1 (pd_and (pd_eqI B (pd_len B T' rfl (gv B 4 rfl) (.inl rfl) rfl) pn_int) fun _ => pd_and1 (pd_cmp (op_inD B.u65) (gv B 3 rfl) (gv B 1 rfl) (d2_inL (shaped_eJ j) (shaped_jsL ab)) rfl)))) ?_) ?_ ?_) ?_) rfl (.inl rfl) B0.hfn).imp (fun ρ3 h3 => ?_) fun _ _ z => z)
      · rw [eqv_true, len_two, any_eJ, hw]
        cases want (.fork x y) ab j <;> rfl
      · split <;> omega
      · exact Nat.le_trans (show _ ≤ 1 by split <;> simp) (by decide)
      · rw [List.length_map]
        have h1 := List.length_filter_le (want (.fork x y) ab) ((joints (.fork x y)).take i)
        have h2 := List.length_take_le' i (joints (.fork x y))
        refine Nat.le_of_lt (line_lt ?_)
        split <;> simp [List.replicate] <;> omega
      · obtain ⟨d, rfl, rfl⟩ := h3
        refine ⟨.dat (eJ j), .dat (.list ((chS (best (.fork x y) j).1).map .bool)), ?_⟩
        rw [take_filter hj]
        cases want (.fork x y) ab j <;> simp [List.replicate]
    · obtain ⟨s, u, rfl⟩ := h
      rw [List.length_map, List.take_length]
      obtain ⟨l, ls, el, en⟩ := leaves_head (.fork x y)
      have e3 : l.n = x.n := en
      refine sd_cons (s_set B 5 (P := fun d => d = eL ⟨x.n, (joints (.fork x y)).filter (want (.fork x y) ab)⟩) (PD.cast (pd_tup (pds_cons (pd_ixT (n := 0) (pd_ixL (n := 0) (d := eL l) (pd_callR (c := cLeaves 8) (n, .fork x y) _ (fun _ z => z) B0.at B C3 (by omega) rfl (pds_cons (gv B 0 rfl) pns_nil) ha.to8) ?_) rfl) (pds_cons (pd_tuple B T' rfl (gv B 2 rfl)) pns_nil))) ?_) rfl (.inl rfl) B0.hfn) fun ρ' e => ?_
      · show ((T.fork x y).leaves.map eL)[0]? = some (eL l)
        rw [el]; rfl
      · rw [e3]; rfl
      · obtain ⟨d, rfl, rfl⟩ := e
        refine sd_one (s_ret ((pd_tup (pds_cons pn_str (pds_cons (gv B 5 rfl) (pds_cons (pd_callR (c := cPlain h) (n, x, (joints (.fork x y)).filter (want (.fork x y) ab)) _ (fun _ z => z) B0.at B C (Nat.le_refl _) rfl (pds_cons (pd_ixT (n := 1) (gv B 0 rfl) rfl) (pds_cons (gv B 2 rfl) pns_nil)) ha.l)
          (pds_cons (pd_callR (c := cPlain h) (n, y, (joints (.fork x y)).filter (want (.fork x y) ab)) _ (fun _ z => z) B0.at B C (Nat.le_refl _) rfl (pds_cons (pd_ixT (n := 2) (gv B 0 rfl) rfl) (pds_cons (gv B 2 rfl) pns_nil)) ha.r) pns_nil))))).imp fun r e => ?_))
        show r = _
        rw [e]
        rfl
end Dc
/-! W11: the law's summed, is_lay, are_labels, like. -/
namespace Dc
open PySem L2 Pd PyProof.Rows
variable {P : Program} {w : World} {K : PySem.W.Frag} {mg : Str → Option Value} {base : Heap}
def isLeafM : M → Bool
  | .leaf _ => true
  | .fork _ _ _ => false
theorem pb_leafM {X : Cx} {F : Fx} {ρ : Ev} {N : List Str} {sc : Scope} {k j1 : Nat} {e : Expr} {p pos pos2 p1 : Pos} {t : M} (B : Bd X K mg N sc k) (T' : Bt mg) (hg : sc.names.lookup ("len" : Str) = some .globalImplicit) (he : PD X F ρ e (eM t))
    (hs : starEach [e] X.env = (false, eval e X.env) :: starEach [] X.env := by rfl) (hpl : (backTo pos (starEach [] X.env)).any (·.1) = false := by rfl) :
    PB X F ρ (.Compare (.Call (.Name "len" p) [e] [] pos) [.Eq] [.Constant (.int 2) j1 p1] pos2) fun q => q = isLeafM t := by
  cases t with
  | leaf l => exact (pb_eqI B (pd_len B T' hg he (.inr rfl) rfl hs hpl) pn_int).imp fun q e => by rw [e]; rfl
  | fork l a b => exact (pb_eqI B (pd_len B T' hg he (.inr rfl) rfl hs hpl) pn_int).imp fun q e => by rw [e]; rfl
def sumKids (l : Lay) : List M → Int
  | [] => 0
  | k :: ks => gap l k.top + summed k + sumKids l ks
theorem sumKids_step (l : Lay) : ∀ (ks : List M) (i : Nat) (k : M), ks[i]? = some k → sumKids l (ks.take (i + 1)) = sumKids l (ks.take i) + gap l k.top + summed k
  | [], i, k, h => by simp at h
  | x :: ks, 0, k, h => by
    have e : x = k := Option.some.inj h
    subst e
    simp [sumKids]
  | x :: ks, i + 1, k, h => by
    have := sumKids_step l ks i k h
    simp only [List.take_succ_cons, sumKids, this]
    omega
theorem ok_L_summed (Fu : Df K mg "_law_summed" s_L_summed p_L_summed) (T' : Bt mg) (C3 : Cal P w K mg base 1 "_law_gap" p_L_gap (spP cNum)) : ∀ h, Cal P w K mg base (h + 1) "_law_summed" p_L_summed (spP (cSumOf h)) := by
  refine Fu.rc sc_L_summed (fun h a _ => rfl) (fun a o => by have := o.1.dp; omega) fun h X F a C B0 _ ha => ?_
  have B := B0.toBd
  obtain ⟨n, t, m⟩ := a
  obtain ⟨ha, hf⟩ := ha
  simp only at ha hf
  refine sd_start (ρ1 := [.dat (eM m), .un, .un]) rfl (sd_cons (s_ifd (Nn := fun ρ' => ρ' = [.dat (eM m), .un, .un] ∧ ∃ l x y, m = .fork l x y) (pb_leafM B T' rfl (gv B 0 rfl)) (fun h1 => ?_) fun h1 => sd_nil ⟨rfl, ?_⟩) fun ρ' e => ?_)
  · cases m with
    | fork l x y => cases h1
    | leaf l => exact sd_one (s_ret (pn_int (i := 0)))
  · cases m with
    | leaf l => cases h1
    | fork l x y => exact ⟨l, x, y, rfl⟩
  · obtain ⟨rfl, l, x, y, rfl⟩ := e
    cases t with
    | leaf _ => exact hf.elim
    | fork ta tb =>
      refine sd_cons (s_set B 1 (pn_int (i := 0)) rfl (.inl rfl) B0.hfn) fun ρ' e => ?_
      obtain ⟨d, rfl, rfl⟩ := e
      refine sd_cons (s_for (ds := [x, y].map eM) B B0.hxe (pi_tup cE) (dw_tup (pd_cutT (n := 2) (ds := [.str "fork", eL l, eM x, eM y]) (gv B 0 rfl) (by decide) (by simp))) (fg B0 2 rfl (.inl rfl)) (dg_name 2) (fun _ _ => trivial)
        (fun i ρ' => ∃ s, ρ' = [.dat (eM (.fork l x y)), .dat (.int (sumKids l ([x, y].take i))), s]) ⟨.un, rfl⟩ fun i d ρ1 ρ2 hd h1 h2 => ?_) fun ρ' h => ?_
      · obtain ⟨s, rfl⟩ := h1
        obtain ⟨k, hk, rfl⟩ := map_get hd
        subst h2
        have go : ∃ tk, TOk n h tk ∧ k.fits n tk := by
          have hk' := List.mem_of_getElem? hk
          simp only [List.mem_cons, List.not_mem_nil, or_false] at hk'
          rcases hk' with rfl | rfl
          · exact ⟨ta, ha.l, hf.2.2.1⟩
          · exact ⟨tb, ha.r, hf.2.2.2⟩
        obtain ⟨tk, h1, h2⟩ := go
        refine sd_one ((s_set B 1 (pd_add (pd_add (gv B 1 rfl) (pd_callR (c := cNum) (l, k.top) _ (fun _ z => z) B0.at B C3 (by omega) rfl (pds_cons (pd_ixT (n := 1) (gv B 0 rfl) rfl) (pds_cons (pd_if (d := eL k.top) (pb_leafM B T' rfl (gv B 2 rfl)) (fun z => ?_) fun z => ?_) pns_nil)) ⟨hf.1, fits_top h1.ok h2⟩))
          (pd_callR (c := cSumOf h) (n, tk, k) _ (fun _ z => z) B0.at B C (Nat.le_refl _) rfl (pds_cons (gv B 2 rfl) pns_nil) ⟨h1, h2⟩)) rfl (.inl rfl) B0.hfn).imp (fun ρ3 h3 => ?_) fun _ _ z => z)
        · cases k with
          | leaf l => exact gv B 2 rfl
          | fork l a b => cases z
        · cases k with
          | leaf l => cases z
          | fork l a b => exact pd_ixT (n := 1) (gv (d := eM (.fork l a b)) B 2 rfl) rfl
        · obtain ⟨d, rfl, rfl⟩ := h3
          refine ⟨.dat (eM k), ?_⟩
          rw [sumKids_step l _ i k hk]
          rfl
      · obtain ⟨s, rfl⟩ := h
        refine sd_one (s_ret ((gv B 1 rfl).imp fun r e => ?_))
        show r = .int (summed (.fork l x y))
        rw [e]
        simp [summed, sumKids]
/-! the law's own is_lay -/
def cLawLay : Ctr Lay := ⟨fun l => [eL l], fun l => l.ok, fun _ r => r = .bool true⟩
def endsOf (js : List J) : List Int := js.flatMap fun j => [j.1, j.2]
theorem endsOf_step {js : List J} {i : Nat} {j : J} (h : js[i]? = some j) : endsOf (js.take (i + 1)) = endsOf (js.take i) ++ [j.1, j.2] := by
  unfold endsOf
  rw [List.take_add_one, h, List.flatMap_append]
  simp
theorem endsOf_mem {js : List J} {x : Int} (h : x ∈ endsOf js) : ∃ k ∈ js, x = k.1 ∨ x = k.2 := by
  unfold endsOf at h
  rw [List.mem_flatMap] at h
  obtain ⟨k, h1, h2⟩ := h
  exact ⟨k, h1, by simpa using h2⟩
theorem endsOf_len (js : List J) : (endsOf js).length = 2 * js.length := by
  induction js with
  | nil => rfl
  | cons j js ih => 
    unfold endsOf at *
    rw [List.flatMap_cons, List.length_append, ih]; simp; omega
theorem ap_take {js : List J} (h : js.Pairwise fun a b => ¬ share a b) {i : Nat} {j : J} (e : js[i]? = some j) : ∀ k ∈ js.take i, ¬ share k j := by
  have q : (js.take (i + 1)).Pairwise fun a b => ¬ share a b := h.sublist (List.take_sublist _ _)
  rw [List.take_add_one, e] at q
  intro k hk
  exact (List.pairwise_append.mp q).2.2 k hk j (by simp)
theorem any_int (ns : List Int) (e : Int) : ((ns.map PyData.int).any fun z => PyData.eqv z (.int e)) = decide (e ∈ ns) := by
  induction ns with
  | nil => simp
  | cons a ns ih =>
    rw [List.map_cons, List.any_cons, ih, eqv_int]
    simp only [List.mem_cons, Bool.decide_or]
    congr 1
    exact decide_eq_decide.mpr ⟨fun h => h.symm, fun h => h.symm⟩
theorem canLay_ints : ∀ bs : List Int, PyData.canLayAll0 (bs.map .int) = true
  | [] => by simp [PyData.canLayAll0]
  | b :: bs => by simp [PyData.canLayAll0, canLay_ints bs, PyData.canLay0]
theorem depth_ints : ∀ bs : List Int, PyData.depthAll (bs.map .int) = 0
  | [] => by simp [PyData.depthAll]
  | b :: bs => by simp [PyData.depthAll, depth_ints bs, PyData.depth]
theorem shaped_ints (bs : List Int) : SeqAt.shaped (.list (bs.map .int)) = true := by
  simp [SeqAt.shaped, PyData.canLay0, canLay_ints, PyData.depth, depth_ints]
theorem lay_sort {l : Lay} (h : l.ok) : sortD (l.js.map eJ) = l.js.map eJ := by
  rw [sort_eJ, List.mergeSort_of_pairwise]
  refine h.up.imp fun {a b} (q : ltJ a b) => ?_
  unfold leJ
  unfold ltJ at q
  rw [decide_eq_true_eq]
  omega
theorem ok_L_is_lay (Fu : Df K mg "_law_is_lay" s_L_is_lay p_L_is_lay) (T' : Bt mg) : Cal P w K mg base 1 "_law_is_lay" p_L_is_lay (spP cLawLay) := by
  refine Fu.fn sc_L_is_lay (fun a _ => rfl) fun X F l B0 _ ha => ?_
  have B := B0.toBd
  replace ha : l.ok := ha
  have h1 := ha.n1
  have h2 := ha.n2
  have hl := ok_few ha
  refine sd_start (ρ1 := [.dat (eL l), .un, .un, .un]) rfl (sd_cons (s_ifd (Nn := fun ρ' => ρ' = [.dat (eL l), .un, .un, .un]) (PBW.pb (tb_or (tb_not (pb_of (pd_isi B T' (kit_tupT _) rfl rfl T'.tuple PyProof.Rows.boot_tuple (gv B 0 rfl)))) fun _ => tb_or (pb_neI B (pd_len B T' rfl (gv B 0 rfl) (.inr rfl) rfl) pn_int) fun _ =>
    tb_or1 (tb_not (pb_of (pd_isi B T' (kit_intI l.n) rfl rfl T'.int PyProof.Rows.boot_int (pd_ixT (n := 0) (ds := [.int l.n, .tuple (l.js.map eJ)]) (gv B 0 rfl) rfl)))))) (fun z => by simp at z) fun _ => sd_nil rfl) fun ρ' e => ?_)
  subst e
  refine sd_cons (s_ifd (Nn := fun ρ' => ρ' = [.dat (eL l), .un, .un, .un]) (PBW.pb (tb_or (pb_of (pd_isi B T' (kit_intB l.n) rfl rfl T'.bool boot_bool' (pd_ixT (n := 0) (ds := [.int l.n, .tuple (l.js.map eJ)]) (gv B 0 rfl) rfl))) fun _ => tb_or (tb_not (pb_lele pn_int (pd_ixT (n := 0) (ds := [.int l.n, .tuple (l.js.map eJ)]) (gv B 0 rfl) rfl) pn_int)) fun _ =>
    tb_or1 (tb_not (pb_of (pd_isi B T' (kit_tupT _) rfl rfl T'.tuple PyProof.Rows.boot_tuple (pd_ixT (n := 1) (ds := [.int l.n, .tuple (l.js.map eJ)]) (gv B 0 rfl) rfl)))))) (fun z => by simp [h1, h2] at z) fun _ => sd_nil rfl) fun ρ' e => ?_
  subst e
  refine sd_cons (s_own B 1 po_nil rfl (.inl rfl) B0.hfn) fun ρ' e => ?_
  obtain ⟨ds, rfl, rfl⟩ := e
  refine sd_cons (s_for (ds := l.js.map eJ) B B0.hxe (pi_tup cE) (dw_tup (pd_ixT (n := 1) (ds := [.int l.n, .tuple (l.js.map eJ)]) (gv B 0 rfl) rfl)) (fg B0 2 rfl (.inl rfl)) (dg_name 2) (fun _ _ => trivial)
    (fun i ρ' => ∃ s u, ρ' = [.dat (eL l), .own ((endsOf (l.js.take i)).map .int), s, u] ∧ oneB.oneB' [s, u] = true) ⟨.un, .un, rfl, rfl⟩ fun i d ρ1 ρ2 hd h1 h2 => ?_) fun ρ' h => ?_
  · obtain ⟨s, u, rfl, hsu⟩ := h1
    obtain ⟨j, hj, rfl⟩ := map_get hd
    subst h2
    obtain ⟨o1, o2, o3⟩ := ha.js j (List.mem_of_getElem? hj)
    have ap := ap_take ha.ap hj
    refine sd_cons (s_ifd (Nn := fun ρ' => ∃ u, ρ' = [.dat (eL l), .own ((endsOf (l.js.take i)).map .int), .dat (eJ j), u] ∧ oneB.oneB' [u] = true) (PBW.pb (tb_or (tb_not (pb_of (pd_isi B T' (kit_tupT _) rfl rfl T'.tuple PyProof.Rows.boot_tuple (gv B 2 rfl)))) fun _ => tb_or1 (pb_neI B (pd_len B T' rfl (gv B 2 rfl) (.inr rfl) rfl) pn_int)))
      (fun z => by simp at z) fun _ => sd_nil ⟨u, rfl, by cases s <;> first | exact hsu | cases hsu⟩) fun ρ' e => ?_
    obtain ⟨u, rfl, hu⟩ := e
    refine sd_cons (s_for (ds := [j.1, j.2].map .int) B B0.hxe (pi_tup cE) (dw_tup (gv B 2 rfl)) (fg B0 3 rfl (.inl rfl)) (dg_name 3) (fun _ _ => trivial)
      (fun k ρ' => ∃ u, ρ' = [.dat (eL l), .own ((endsOf (l.js.take i) ++ [j.1, j.2].take k).map .int), .dat (eJ j), u] ∧ oneB.oneB' [u] = true) ⟨u, by simp, hu⟩ fun k d ρ1 ρ2 hd h1 h2 => ?_) fun ρ' h => ?_
    · obtain ⟨u, rfl, hu⟩ := h1
      obtain ⟨e, he, rfl⟩ := map_get hd
      subst h2
      have ee : e = j.1 ∨ e = j.2 := by
        have q := List.mem_of_getElem? he
        simpa using q
      have hnot : e ∉ endsOf (l.js.take i) ++ [j.1, j.2].take k := by
        intro q
        rcases List.mem_append.mp q with q | q
        · obtain ⟨k', h3, h4⟩ := endsOf_mem q
          refine ap k' h3 ?_
          unfold share
          omega
        · match k, he, q with
          | 0, he, q => simp at q
          | 1, he, q =>
            have e1 : j.2 = e := Option.some.inj he
            simp at q
            omega
          | k + 2, he, q => simp at he
      refine sd_cons (s_ifd (Nn := fun ρ' => ρ' = [.dat (eL l), .own ((endsOf (l.js.take i) ++ [j.1, j.2].take k).map .int), .dat (eJ j), .dat (.int e)]) (PBW.pb (tb_or (tb_not (pb_of (pd_isi B T' (kit_intI e) rfl rfl T'.int PyProof.Rows.boot_int (gv B 3 rfl)))) fun _ => tb_or (pb_of (pd_isi B T' (kit_intB e) rfl rfl T'.bool boot_bool' (gv B 3 rfl))) fun _ =>
        tb_or (tb_not (pb_lelt pn_int (gv B 3 rfl) (pd_mul pn_int (pd_ixT (n := 0) (ds := [.int l.n, .tuple (l.js.map eJ)]) (gv B 0 rfl) rfl) (.inl (by decide))))) fun _ => tb_or1 (pb_in_own B 1 (gv B 3 rfl) rfl rfl (.inl rfl) (shaped_int e) (shaped_ints _)))) (fun z => ?_) fun _ => sd_nil rfl) fun ρ' e => ?_
      · rw [any_int, decide_eq_false hnot] at z
        have : (0 ≤ e ∧ e < 2 * l.n) := by omega
        simp [this] at z
      · subst e
        refine sd_one ((s_app B 1 rfl (one_ok rfl) rfl (.inl rfl) (gv B 3 rfl) ?_).imp (fun ρ3 h3 => ?_) fun _ _ z => z)
        · rw [List.length_map, List.length_append, endsOf_len]
          have h5 := List.length_take_le' i l.js
          have h6 : ([j.1, j.2].take k).length ≤ 2 := List.length_take_le' k [j.1, j.2]
          exact line_lt (by omega)
        · obtain ⟨d, rfl, rfl⟩ := h3
          refine ⟨.dat (.int e), ?_, rfl⟩
          rw [List.take_add_one, he, ← List.append_assoc, List.map_append (l₂ := (some e).toList)]
          rfl
    · obtain ⟨u, rfl, hu⟩ := h
      refine sd_one (s_ifd (tb_not (pb_ltI (i := j.1) (j := j.2) (pd_ixT (n := 0) (ds := [.int j.1, .int j.2]) (gv B 2 rfl) rfl) (pd_ixT (n := 1) (ds := [.int j.1, .int j.2]) (gv B 2 rfl) rfl))) (fun z => by simp [o2] at z) fun _ => sd_nil ⟨.dat (eJ j), u, ?_, hu⟩)
      rw [endsOf_step hj]
      rfl
  · obtain ⟨s, u, rfl, hs⟩ := h
    refine sd_one (s_ret ((pd_eq B (PO.pd (po_list B T' rfl (pd_ixT (n := 1) (ds := [.int l.n, .tuple (l.js.map eJ)]) (gv B 0 rfl) rfl) (.inr rfl))) (PO.pd (po_sorted B T' rfl (pd_ixT (n := 1) (ds := [.int l.n, .tuple (l.js.map eJ)]) (gv B 0 rfl) rfl) (.inr rfl) (sd_js h2 (nodup_of_sorted ha.up) ha.js))) (shaped_jsL _) ?_).imp fun r e => ?_))
    · rw [sort_eJ]; exact shaped_jsL _
    · show r = _
      rw [e, lay_sort ha]
      show PyData.bool (PyData.eqvAll _ _) = _
      rw [eqvAll_eJ, decide_eq_true rfl]
/-! the law's own are_labels -/
theorem told_eM {n : Int} {h : Nat} {t : T} {m : M} (o : TOk n h t) (f : m.fits n t) : Sh (eM m) := by
  have := o.d8
  have := o.lv
  exact (nc_eM o.ok f).told (by omega) (by omega)
theorem told_eT {n : Int} {h : Nat} {t : T} (o : TOk n h t) : Sh (eT t) := by
  have := o.d8
  have := o.lv
  exact (nc_eT o.ok).told (by omega) (by omega)
theorem tup_eL (l : Lay) : (∃ ds, eL l = .list ds) ∨ ∃ ds, eL l = .tuple ds := .inr ⟨_, rfl⟩
theorem tup_eT (t : T) : (∃ ds, eT t = .list ds) ∨ ∃ ds, eT t = .tuple ds := by cases t <;> exact .inr ⟨_, rfl⟩
theorem tup_eM (t : M) : (∃ ds, eM t = .list ds) ∨ ∃ ds, eM t = .tuple ds := by cases t <;> exact .inr ⟨_, rfl⟩
theorem repr_fork : reprText ("fork" : Str) = "'fork'" := by decide +kernel
def cLawAre (h : Nat) : Ctr (Int × T × M) := ⟨fun a => [eT a.2.1, eM a.2.2], fun a => TOk a.1 h a.2.1 ∧ a.2.2.fits a.1 a.2.1, fun _ r => r = .bool true⟩
theorem ok_L_are_labels (Fu : Df K mg "_law_are_labels" s_L_are_labels p_L_are_labels) (T' : Bt mg) (C2 : Cal P w K mg base 1 "_law_is_lay" p_L_is_lay (spP cLawLay)) (C3 : Cal P w K mg base 8 "_law_leaves" p_L_leaves (spP (cLeaves 8))) :
    ∀ h, Cal P w K mg base (h + 8) "_law_are_labels" p_L_are_labels (spP (cLawAre h)) := by
  refine Fu.rc sc_L_are_labels (fun h a _ => rfl) (fun a o => by have := o.1.dp; omega) fun h X F a C B0 _ ha => ?_
  have B := B0.toBd
  obtain ⟨n, t, m⟩ := a
  obtain ⟨ha, hv⟩ := ha
  replace ha : TOk n (h + 1) t := ha
  replace hv : m.fits n t := hv
  refine sd_start (ρ1 := [.dat (eT t), .dat (eM m)]) rfl (sd_cons (s_ifd (Nn := fun ρ' => ρ' = [.dat (eT t), .dat (eM m)] ∧ ∃ x y, t = .fork x y) (pb_leaf B T' rfl (gv B 0 rfl)) (fun h1 => ?_) fun h1 => sd_nil ⟨rfl, ?_⟩) fun ρ' e => ?_)
  · cases t with
    | fork x y => cases h1
    | leaf l =>
      cases m with
      | fork _ _ _ => exact hv.elim
      | leaf l' =>
        have e : l' = l := hv
        subst e
        refine sd_one (s_ret ((pd_eqS (pd_repr B T' rfl (gv B 1 rfl) (tup_eL l') (told_eM (m := .leaf l') ha hv)) (pd_repr B T' rfl (gv B 0 rfl) (tup_eL l') (told_eT ha))).imp fun r e => ?_))
        show r = _
        rw [e]
        exact congrArg PyData.bool (decide_eq_true rfl)
  · cases t with
    | leaf l => cases h1
    | fork x y => exact ⟨x, y, rfl⟩
  · obtain ⟨rfl, x, y, rfl⟩ := e
    cases m with
    | leaf _ => exact hv.elim
    | fork L mx my =>
      obtain ⟨h1, h2, h3, h4⟩ := hv
      obtain ⟨l, ls, el, en⟩ := leaves_head (.fork x y)
      have en2 : l.n = n := en.trans (ok_n ha.ok)
      refine sd_cons (s_ifd (Nn := fun ρ' => ρ' = [.dat (eT (.fork x y)), .dat (eM (.fork L mx my))]) (PBW.pb (tb_or (tb_not (pb_of (pd_isi B T' (kit_tupT [.str "fork", eL L, eM mx, eM my]) rfl rfl T'.tuple PyProof.Rows.boot_tuple (gv B 1 rfl)))) fun _ => tb_or (pb_neI B (pd_len B T' rfl (ds := [.str "fork", eL L, eM mx, eM my]) (gv B 1 rfl) (.inr rfl) rfl) pn_int) fun _ =>
        tb_or (pb_neS (x := "'fork'") (y := "'fork'") ((pd_reprS B T' (x := "fork") rfl (pd_ixT (n := 0) (ds := [.str "fork", eL L, eM mx, eM my]) (gv B 1 rfl) rfl) (by decide +kernel)).cast (by rw [repr_fork])) pn_str) fun _ =>
        tb_or1 (tb_not (pb_of (pd_callR (c := cLawLay) L _ (fun _ z => z) B0.at B C2 (by omega) rfl (pds_cons (pd_ixT (n := 1) (ds := [.str "fork", eL L, eM mx, eM my]) (gv B 1 rfl) rfl) pns_nil) h1))))) (fun z => by simp at z) fun _ => sd_nil rfl) fun ρ' e => ?_
      subst e
      refine sd_cons (s_ifd (Nn := fun ρ' => ρ' = [.dat (eT (.fork x y)), .dat (eM (.fork L mx my))]) (pb_neI (i := L.n) (j := l.n) B (pd_ixT (n := 0) (ds := [.int L.n, .tuple (L.js.map eJ)]) (pd_ixT (n := 1) (ds := [.str "fork", eL L, eM mx, eM my]) (gv B 1 rfl) rfl) rfl) (pd_ixT (n := 0) (ds := [.int l.n, .tuple (l.js.map eJ)]) (pd_ixL (n := 0) (d := eL l) (pd_callR (c := cLeaves 8) (n, .fork x y) _ (fun _ z => z) B0.at B C3 (by omega) rfl (pds_cons (gv B 0 rfl) pns_nil) ha.to8) ?_) rfl))
        (fun z => by rw [h2, en2] at z; simp at z) fun _ => sd_nil rfl) fun ρ' e => ?_
      · show ((T.fork x y).leaves.map eL)[0]? = some (eL l)
        rw [el]; rfl
      · subst e
        refine sd_one (s_ret ((pd_and (pd_callR (c := cLawAre h) (n, x, mx) _ (fun _ z => z) B0.at B C (Nat.le_refl _) rfl (pds_cons (pd_ixT (n := 1) (gv B 0 rfl) rfl) (pds_cons (pd_ixT (n := 2) (gv B 1 rfl) rfl) pns_nil)) ⟨ha.l, h3⟩)
            fun _ => pd_and1 (pd_callR (c := cLawAre h) (n, y, my) _ (fun _ z => z) B0.at B C (Nat.le_refl _) rfl (pds_cons (pd_ixT (n := 2) (gv B 0 rfl) rfl) (pds_cons (pd_ixT (n := 3) (gv B 1 rfl) rfl) pns_nil)) ⟨ha.r, h4⟩)).imp fun r e => ?_))
        show r = _
        rw [e]
        rfl
/-! like -/
def cLike : Ctr D := ⟨fun d => [d, d], fun d => ((∃ ds, d = .list ds) ∨ ∃ ds, d = .tuple ds) ∧ Sh d, fun _ r => r = .bool true⟩
theorem ok_L_like (Fu : Df K mg "_law_like" s_L_like p_L_like) (T' : Bt mg) : Cal P w K mg base 1 "_law_like" p_L_like (spP cLike) := by
  refine Fu.fn sc_L_like (fun a _ => rfl) fun X F d B0 _ ha => ?_
  have B := B0.toBd
  refine sd_start (ρ1 := [.dat d, .dat d]) rfl (sd_one (s_ret ((pd_eqS (pd_repr B T' rfl (gv B 0 rfl) ha.1 ha.2) (pd_repr B T' rfl (gv B 1 rfl) ha.1 ha.2)).imp fun r e => ?_)))
  show r = _
  rw [e]
  exact congrArg PyData.bool (decide_eq_true rfl)
end Dc
/-! W12: the law's search: sums, all. -/
namespace Dc
open PySem L2 Pd PyProof.Rows
variable {P : Program} {w : World} {K : PySem.W.Frag} {mg : Str → Option Value} {base : Heap}
def encV : Option Int → D
  | none => .none
  | some v => .int v
def cSums (h : Nat) : Ctr (Int × T × List Lay) := ⟨fun a => [eT a.2.1, .list (a.2.2.map eL)], fun a => TOk a.1 h a.2.1 ∧ AllL a.1 a.2.2 ∧ a.2.2.length ≤ 100, fun a r => r = .list (a.2.2.map fun L => encV (val a.2.2 a.2.1 L))⟩
theorem shaped_eT (t : T) : ∀ {n : Int}, t.ok n → t.leaves.length ≤ 8 → SeqAt.shaped (eT t) = true := fun {n} h h8 => by
  have := depth_le t
  exact (nc_eT h).shaped (by omega)
theorem cand_map (ev : List Lay) (c : T) (L : Lay) : (((ev.map fun L' => (val ev c L', L')).filter fun p => p.1.isSome).map fun p => PyData.int (p.1.getD 0 + gap L p.2)) = (cand ev c L).map .int := by
  unfold cand
  have go : ∀ l : List Lay, (((l.map fun L' => (val ev c L', L')).filter fun p => p.1.isSome).map fun p => PyData.int (p.1.getD 0 + gap L p.2)) = (l.filterMap fun L' => (val ev c L').map (· + gap L L')).map .int := by
    intro l
    induction l with
    | nil => rfl
    | cons a l ih =>
      rw [List.map_cons]
      cases h : val ev c a with
      | none => simp [h, ih]
      | some v => simp [h, ih]
  exact go ev
theorem leaves_all {n : Int} {ev : List Lay} (A : AllL n ev) {t : T} (h : t.ok n) : ∀ l ∈ t.leaves, l ∈ ev := fun l hl => by
  obtain ⟨a, b⟩ := ok_leaves h l hl
  exact A.all l a b
def partSum (ev : List Lay) (L : Lay) : List T → Int
  | [] => 0
  | c :: cs => minI (cand ev c L) + partSum ev L cs
theorem partSum_step (ev : List Lay) (L : Lay) : ∀ (cs : List T) (i : Nat) (c : T), cs[i]? = some c → partSum ev L (cs.take (i + 1)) = partSum ev L (cs.take i) + minI (cand ev c L)
  | [], i, c, h => by simp at h
  | x :: cs, 0, c, h => by
    have e : x = c := Option.some.inj h
    subst e
    simp [partSum]
  | x :: cs, i + 1, c, h => by
    have := partSum_step ev L cs i c h
    simp only [List.take_succ_cons, partSum, this]
    omega
theorem encV_none (o : Option Int) : Pd.isNoneD (encV o) = o.isNone := by cases o <;> rfl
theorem bk_two' {X X' : Cx} {N : List Str} {sc scope : Scope} {k : Nat} (b : Bk X scope X') (B : Bd X K mg N sc k) (i j : Nat) {x y : Str} {pos p1 p2 : Pos} {n : Nat} (hi : N[i]? = some x) (hj : N[j]? = some y) (hx : (relS scope sc).names.lookup x = some .local) (hy : (relS scope sc).names.lookup y = some .local)
    (h1 : (assignEach [.Name x p1, .Name y p2] X'.env).length = 2 := by rfl) (h2 : (assignEach [.Name x p1, .Name y p2] X'.env).findIdx? (·.1) = none := by rfl)
    (h3 : (assignEach [.Name x p1, .Name y p2] X'.env).map (·.2) = assign (.Name x p1) X'.env :: (assignEach [.Name y p2] X'.env).map (·.2) := by rfl) (h4 : (assignEach [.Name y p2] X'.env).map (·.2) = assign (.Name y p2) X'.env :: (assignEach [] X'.env).map (·.2) := by rfl) :
    PG X' (.Tuple [.Name x p1, .Name y p2] n pos) (gTup K 2 (gCons (gName i) (gCons (gName j) gNil))) := by
  have q := bk_two (pos := pos) (n := n) b B i j hi hj hx hy h1 h2 h3 h4
  rw [(b.bd B).hK] at q
  exact q
theorem ok_L_sums (Fu : Df K mg "_law_sums" s_L_sums p_L_sums) (T' : Bt mg) (C1 : Cal P w K mg base 1 "_law_gap" p_L_gap (spP cNum)) : ∀ h, Cal P w K mg base (h + 1) "_law_sums" p_L_sums (spP (cSums h)) := by
  refine Fu.rc sc_L_sums (fun h a _ => rfl) (fun a o => by have := o.1.dp; omega) fun h X F a C B0 _ ha => ?_
  have B := B0.toBd
  obtain ⟨n, t, ev⟩ := a
  obtain ⟨ha, hA, hev⟩ := ha
  replace ha : TOk n (h + 1) t := ha
  replace hA : AllL n ev := hA
  replace hev : ev.length ≤ 100 := hev
  refine sd_start (ρ1 := [.dat (eT t), .dat (.list (ev.map eL)), .un, .un, .un, .un, .un, .un, .un]) rfl (sd_cons (s_ifd (Nn := fun ρ' => ρ' = [.dat (eT t), .dat (.list (ev.map eL)), .un, .un, .un, .un, .un, .un, .un] ∧ ∃ x y, t = .fork x y) (pb_leaf B T' rfl (gv B 0 rfl)) (fun h1 => ?_) fun h1 => sd_nil ⟨rfl, ?_⟩) fun ρ' e => ?_)
  · cases t with
    | fork x y => cases h1
    | leaf l =>
      refine sd_one (s_ret ((PO.pd (po_lc (α := Lay) (enc := eL) (xs := ev) (keep := fun _ => true) (val := fun L => encV (val ev (.leaf l) L)) (own := [("_law_lay_here", 4)]) (Ok := fun _ => True) (Tt := gT1 4) B (pi_list cE) (dw_list (gv B 1 rfl)) (blkOk_by (by decide +kernel))
        (fun X' bk => bk_name bk B 4 rfl rfl) (dg_name 4) (fun _ _ => trivial) (line_lt (by omega)) rfl ?_)).imp fun r e => ?_))
      · intro X' bk L _ ρ2 q
        subst q
        have B' := bk.bd B
        refine ⟨pbs_nil, fun _ => pd_if (pb_eq B' (gv B' 4 rfl) (gv B' 0 rfl) shaped_eL shaped_eL) (fun z => ?_) fun z => ?_⟩
        · rw [show eT (.leaf l) = eL l from rfl, eqv_eL] at z
          have e : L = l := of_decide_eq_true z
          subst e
          exact pn_int.cast (by simp [val, encV])
        · rw [show eT (.leaf l) = eL l from rfl, eqv_eL] at z
          have e : L ≠ l := of_decide_eq_false z
          exact pn_non.cast (by simp [val, encV, e])
      · show r = _
        rw [e, List.filter_eq_self.mpr (fun _ _ => rfl)]
  · cases t with
    | leaf l => cases h1
    | fork x y => exact ⟨x, y, rfl⟩
  · obtain ⟨rfl, x, y, rfl⟩ := e
    have px := leaves_all hA ha.l.ok
    have py := leaves_all hA ha.r.ok
    refine sd_cons (s_set B 2 (P := fun d => d = .list ([x, y].map fun c => .list (ev.map fun L => encV (val ev c L)))) (pd_lst (pds_cons (pd_callR (c := cSums h) (n, x, ev) _ (fun _ z => z) B0.at B C (Nat.le_refl _) rfl (pds_cons (pd_ixT (n := 1) (gv B 0 rfl) rfl) (pds_cons (gv B 1 rfl) pns_nil)) ⟨ha.l, hA, hev⟩)
      (pds_cons (pd_callR (c := cSums h) (n, y, ev) _ (fun _ z => z) B0.at B C (Nat.le_refl _) rfl (pds_cons (pd_ixT (n := 2) (gv B 0 rfl) rfl) (pds_cons (gv B 1 rfl) pns_nil)) ⟨ha.r, hA, hev⟩) pns_nil))) rfl (.inl rfl) B0.hfn) fun ρ' e => ?_
    obtain ⟨d, rfl, rfl⟩ := e
    refine sd_cons (s_own B 3 po_nil rfl (.inl rfl) B0.hfn) fun ρ' e => ?_
    obtain ⟨ds, rfl, rfl⟩ := e
    refine sd_cons (s_for (ds := ev.map eL) B B0.hxe (pi_list cE) (dw_list (gv B 1 rfl)) (fg B0 4 rfl (.inr rfl)) (dg_name 4) (fun _ _ => trivial)
      (fun i ρ' => ∃ s1 s2 s3, ρ' = [.dat (eT (.fork x y)), .dat (.list (ev.map eL)), .dat (.list ([x, y].map fun c => .list (ev.map fun L => encV (val ev c L)))), .own ((ev.take i).map fun L => encV (val ev (.fork x y) L)), s1, s2, s3, .un, .un] ∧ oneB.oneB' [s1, s2, s3, .un, .un] = true) ⟨.un, .un, .un, rfl, rfl⟩ fun i d ρ1 ρ2 hd h1 h2 => ?_) fun ρ' h => ?_
    · obtain ⟨s1, s2, s3, rfl, hs⟩ := h1
      obtain ⟨L, hL, rfl⟩ := map_get hd
      have okL := (hA.ok L (List.mem_of_getElem? hL)).1
      subst h2
      refine sd_cons (s_set B 5 (pn_int (i := 0)) rfl (.inl rfl) B0.hfn) fun ρ' e => ?_
      obtain ⟨d, rfl, rfl⟩ := e
      refine sd_cons (s_for (ds := [x, y].map fun c => .list (ev.map fun L => encV (val ev c L))) B B0.hxe (pi_list cE) (dw_list (gv B 2 rfl)) (fg B0 6 rfl (.inl rfl)) (dg_name 6) (fun _ _ => trivial)
        (fun k ρ' => ∃ s3, ρ' = [.dat (eT (.fork x y)), .dat (.list (ev.map eL)), .dat (.list ([x, y].map fun c => .list (ev.map fun L => encV (val ev c L)))), .own ((ev.take i).map fun L => encV (val ev (.fork x y) L)), .dat (eL L), .dat (.int (partSum ev L ([x, y].take k))), s3, .un, .un] ∧ oneB.oneB' [s3, .un, .un] = true) ⟨s3, rfl, ?_⟩ fun k d ρ1 ρ2 hd h1 h2 => ?_) fun ρ' h => ?_
      · cases s1 <;> cases s2 <;> first | exact hs | cases hs
      · obtain ⟨s3, rfl, _⟩ := h1
        obtain ⟨c, hc, rfl⟩ := map_get hd
        subst h2
        have hc' : c = x ∨ c = y := by
          have q := List.mem_of_getElem? hc
          simpa using q
        have ne : cand ev c L ≠ [] := cand_ne (by rcases hc' with rfl | rfl <;> assumption)
        refine sd_one ((s_set B 5 (P := fun d => d = .int (partSum ev L ([x, y].take k) + minI (cand ev c L))) (pn_op (Pa := fun d => d = .int (partSum ev L ([x, y].take k))) (Pb := fun d => d = .int (minI (cand ev c L))) op_add (gv B 5 rfl) ((pn_min (ns := cand ev c L) B T' rfl ((PO.pd (po_lc (α := Option Int × Lay) (enc := fun p => .tuple [encV p.1, eL p.2]) (xs := ev.map fun L' => (val ev c L', L')) (keep := fun p => p.1.isSome) (val := fun p => .int (p.1.getD 0 + gap L p.2))
          (own := [("_law_own", 7), ("_law_far", 8)]) (Ok := fun d => ∃ x y, d = .tuple [x, y]) (Tt := gT2 7 8) (g := gTup K 2 (gCons (gName 7) (gCons (gName 8) gNil))) B (pi_zip (B.gl rfl) (by rw [B.hmg]; exact T'.zip) cA) ?_ (blkOk_by (by decide +kernel)) (fun X' bk => bk_two' bk B 7 8 rfl rfl rfl rfl) (dg_two 7 8 K (by decide)) (fun _ _ => ⟨_, _, rfl⟩) ?_ rfl ?_)).cast ?_) ?_).imp fun d hd => ?_) fun a b ea eb => ?_) rfl (.inl rfl) B0.hfn).imp (fun ρ3 h3 => ?_) fun _ _ z => z)
        · rw [List.map_map]
          exact (congrArg (DW F _ _) (zipD_map (fun L => encV (val ev c L)) eL ev)).mp (dw_zip (pds_cons (gv B 6 rfl) (pds_cons (gv B 1 rfl) pns_nil)))
        · rw [List.length_map]
          exact line_lt (by omega)
        · intro X' bk p hp ρ2 q
          obtain ⟨u, v, e1, rfl⟩ := q
          cases e1
          have B' := bk.bd B
          obtain ⟨L', hL', rfl⟩ := List.mem_map.mp hp
          refine ⟨pbs_one ((pb_notN (gv B' 7 rfl) pn_non).imp fun q e => by rw [e, encV_none]; cases val ev c L' <;> rfl), fun hk => ?_⟩
          have hv : encV (val ev c L') = .int ((val ev c L').getD 0) := by
            cases hq : val ev c L' with
            | none => rw [hq] at hk; cases hk
            | some v => rfl
          exact pd_add ((gv B' 7 rfl).cast hv) (pd_callR (c := cNum) (L, L') _ (fun _ z => z) (bk.at B0.at) B' C1 (by omega) rfl (pds_cons (gv B' 4 rfl) (pds_cons (gv B' 8 rfl) pns_nil)) ⟨okL, (hA.ok L' hL').1⟩)
        · exact congrArg PyData.list (cand_map ev c L)
        · exact List.length_pos_iff.mpr ne
        · obtain ⟨m, rfl, h1, h2⟩ := hd
          rw [minI_of h1 h2]
        · subst ea eb
          exact d2_I0 (f := fun i j => .int (i + j)) fun _ _ _ => .int _
        · obtain ⟨d, rfl, rfl⟩ := h3
          refine ⟨.dat (.list (ev.map fun L => encV (val ev c L))), ?_, rfl⟩
          rw [partSum_step ev L _ k c hc]
          rfl
      · obtain ⟨s3, rfl, hs⟩ := h
        refine sd_one ((s_app B 3 rfl (one_ok (by exact hs)) rfl (.inl rfl) (gv B 5 rfl) ?_).imp (fun ρ3 h3 => ?_) fun _ _ z => z)
        · rw [List.length_map]
          have := List.length_take_le' i ev
          exact line_lt (by omega)
        · obtain ⟨d, rfl, rfl⟩ := h3
          refine ⟨.dat (eL L), .dat (.int (partSum ev L ([x, y].take ([x, y].map fun c => PyData.list (ev.map fun L => encV (val ev c L))).length))), s3, ?_, hs⟩
          rw [List.take_add_one, hL, List.map_append]
          show _ = [_, _, _, Sl.own (_ ++ [encV (val ev (.fork x y) L)]), _, _, _, _, _]
          rw [val_fork]
          simp only [List.map_cons, List.map_nil, List.length_cons, List.length_nil, List.take_succ_cons, List.take_zero, partSum, encV, Int.add_zero]
          rfl
    · obtain ⟨s1, s2, s3, rfl, hs⟩ := h
      rw [List.length_map, List.take_length]
      exact sd_freeze 3 rfl (one_ok (i := 3) (by exact hs)) (sd_one (s_ret (gv B 3 rfl)))
end Dc
/-! W13: the law's list of all lays. -/
namespace Dc
open PySem L2 Pd PyProof.Rows
variable {P : Program} {w : World} {K : PySem.W.Frag} {mg : Str → Option Value} {base : Heap}
def eJs (js : List J) : D := .tuple (js.map eJ)
def evS (n : Nat) : List Lay := (allL n).mergeSort fun a b => PySem.W.dataLe false id (eL a) (eL b)
def cAll : Ctr Nat := ⟨fun n => [.int (n : Nat)], fun n => n = 1 ∨ n = 2, fun n r => r = .list ((evS n).map eL)⟩
theorem rangeI_up (lo : Int) (n : Nat) : rangeI lo n = upI lo n := rfl
theorem all_few {n : Nat} (h : n = 1 ∨ n = 2) : ∀ k, k ≤ 2 * n → (allJ (2 * n) k).length ≤ 10 ∧ ∀ js ∈ allJ (2 * n) k, js.length ≤ 4 := by
  have one : ∀ k ∈ List.range 3, (allJ (2 * 1) k).length ≤ 10 ∧ ∀ js ∈ allJ (2 * 1) k, js.length ≤ 4 := by decide
  have two : ∀ k ∈ List.range 5, (allJ (2 * 2) k).length ≤ 10 ∧ ∀ js ∈ allJ (2 * 2) k, js.length ≤ 4 := by decide
  intro k hk
  rcases h with rfl | rfl
  · exact one k (List.mem_range.mpr (by omega))
  · exact two k (List.mem_range.mpr (by omega))
theorem flat_step {α β : Type} (g : α → List β) {l : List α} {i : Nat} {a : α} (h : l[i]? = some a) : (l.take (i + 1)).flatMap g = (l.take i).flatMap g ++ g a := by
  rw [List.take_add_one, h, List.flatMap_append]
  simp
theorem flat_len {α β : Type} (g : α → List β) {m : Nat} : ∀ (l : List α), (∀ a ∈ l, (g a).length ≤ m) → (l.flatMap g).length ≤ m * l.length
  | [], _ => by simp
  | a :: l, h => by
    have h1 := flat_len g l fun b hb => h b (List.mem_cons_of_mem _ hb)
    have h2 := h a List.mem_cons_self
    rw [List.flatMap_cons, List.length_append, List.length_cons, Nat.mul_add]
    omega
theorem mates_len (n e : Nat) (js : List J) : (matesOf n e js).length ≤ n := by
  unfold matesOf
  have h := List.length_filter_le (fun m => !decide (m ∈ ends js)) (rangeI ((e : Int) + 1) (n - (e + 1)))
  rw [rangeI_up, upI_len] at h
  rw [rangeI_up]
  omega
def growJ (n e : Nat) (js : List J) : List (List J) := (matesOf n e js).map fun m => ((e : Int), m) :: js
theorem sd_any {js : List J} (h : js.length ≤ 1000) : Sd (js.map eJ) := by
  refine ⟨fun d hd d' hd' => ?_, .inl fun d hd => ?_, Nat.le_of_lt (line_lt ?_), fun d hd => ?_⟩
  · obtain ⟨j, _, rfl⟩ := List.mem_map.mp hd
    obtain ⟨k, _, rfl⟩ := List.mem_map.mp hd'
    simp [eJ, PySem.W.alike, PySem.W.alikeAll]
  · obtain ⟨j, _, rfl⟩ := List.mem_map.mp hd
    exact ⟨_, _, rfl⟩
  · rw [List.length_map]; omega
  · obtain ⟨j, _, rfl⟩ := List.mem_map.mp hd
    simp [eJ, PyData.depth, PyData.depthAll]
theorem alike_js : ∀ a b : List J, PySem.W.alikeAll (a.map eJ) (b.map eJ) = true
  | [], _ => by simp [PySem.W.alikeAll]
  | _ :: _, [] => by simp [PySem.W.alikeAll]
  | x :: a, y :: b => by simp [PySem.W.alikeAll, alike_js a b, PySem.W.alike, eJ]
theorem sd_lays {ls : List Lay} (h : ls.length ≤ 1000) : Sd (ls.map eL) := by
  refine ⟨fun d hd d' hd' => ?_, .inl fun d hd => ?_, Nat.le_of_lt (line_lt ?_), fun d hd => ?_⟩
  · obtain ⟨j, _, rfl⟩ := List.mem_map.mp hd
    obtain ⟨k, _, rfl⟩ := List.mem_map.mp hd'
    simp [eL, PySem.W.alike, PySem.W.alikeAll, alike_js]
  · obtain ⟨j, _, rfl⟩ := List.mem_map.mp hd
    exact ⟨_, _, rfl⟩
  · rw [List.length_map]; omega
  · obtain ⟨j, _, rfl⟩ := List.mem_map.mp hd
    have := depth_js j.js
    simp [eL, PyData.depth, PyData.depthAll]
    omega
/-- a slot that is no object of the def's own -/
def plS : Sl → Bool
  | .un => true
  | .dat _ => true
  | _ => false
theorem plS_one : ∀ {l : Ev}, l.all plS = true → oneB.oneB' l = true
  | [], _ => rfl
  | s :: l, h => by
    rw [List.all_cons, Bool.and_eq_true] at h
    have := plS_one h.2
    cases s <;> first | exact this | (exact absurd h.1 (by simp [plS]))
theorem ok_L_all (Fu : Df K mg "_law_all" s_L_all p_L_all) (T' : Bt mg) : Cal P w K mg base 1 "_law_all" p_L_all (spP cAll) := by
  refine Fu.fn sc_L_all (fun a _ => rfl) fun X F n B0 _ ha => ?_
  have B := B0.toBd
  replace ha : n = 1 ∨ n = 2 := ha
  have few := all_few ha
  refine sd_start (ρ1 := [.dat (.int (n : Nat)), .un, .un, .un, .un, .un, .un, .un]) rfl (sd_cons (s_set B 1 (P := fun d => d = .list ([[]].map eJs)) (pd_lst (pds_cons (pd_tup pns_nil) pns_nil)) rfl (.inl rfl) B0.hfn) fun ρ' e => ?_)
  obtain ⟨d, rfl, rfl⟩ := e
  have en : ((2 * (n : Nat) - 1 - -1 : Int)).toNat = 2 * n := by omega
  refine sd_cons (s_for B B0.hxe (pi_range3 (B.gl rfl) (by rw [B.hmg]; exact T'.range) cA) (dw_down (i := 2 * (n : Nat) - 1) (j := -1) (n := 2 * n) (pds_cons (pd_sub (pd_mul (i := 2) pn_int (gv B 0 rfl) (.inl (by decide))) (pn_int (i := 1))) (pds_cons (pd_neg (i := 1) pn_int) (pds_cons (pd_neg (i := 1) pn_int) pns_nil))) en (by omega) (by omega) (by omega) (by omega)) (fg B0 2 rfl (.inl rfl)) (dg_name 2) (fun _ _ => trivial)
    (fun i ρ' => ∃ s1 s2 s3 s4 s5, ρ' = [.dat (.int (n : Nat)), .dat (.list ((allJ (2 * n) i).map eJs)), s1, s2, s3, s4, s5, .un] ∧ [s1, s2, s3, s4, s5].all plS = true) ⟨.un, .un, .un, .un, .un, rfl, rfl⟩ fun i d ρ1 ρ2 hd h1 h2 => ?_) fun ρ' h => ?_
  · obtain ⟨s1, s2, s3, s4, s5, rfl, hs⟩ := h1
    obtain ⟨e0, he0, rfl⟩ := map_get hd
    obtain ⟨hi, he⟩ := stI_get he0
    obtain ⟨e, ee⟩ : ∃ e : Nat, e = 2 * n - 1 - i := ⟨_, rfl⟩
    have ee' : e0 = (e : Int) := by omega
    subst ee'
    subst h2
    obtain ⟨f1, f2⟩ := few i (by omega)
    refine sd_cons (s_own B 3 (po_list B T' rfl (gv B 1 rfl) (.inl rfl)) rfl (.inl rfl) B0.hfn) fun ρ' e => ?_
    obtain ⟨ds, rfl, rfl⟩ := e
    refine sd_cons (s_for (ds := (allJ (2 * n) i).map eJs) B B0.hxe (pi_list cE) (dw_list (gv B 1 rfl)) (fg B0 4 rfl (.inl rfl)) (dg_name 4) (fun _ _ => trivial)
      (fun k ρ' => ∃ s3 s4 s5, ρ' = [.dat (.int (n : Nat)), .dat (.list ((allJ (2 * n) i).map eJs)), .dat (.int (e : Nat)), .own ((allJ (2 * n) i ++ ((allJ (2 * n) i).take k).flatMap (growJ (2 * n) e)).map eJs), s3, s4, s5, .un] ∧ [s3, s4, s5, .un].all plS = true) ⟨s3, s4, s5, ?_, ?_⟩ fun k d ρ1 ρ2 hd h1 h2 => ?_) fun ρ' h => ?_
    · simp
    · simp only [List.all_cons, List.all_nil, Bool.and_true, Bool.and_eq_true] at hs ⊢
      exact ⟨hs.2.2.1, hs.2.2.2.1, hs.2.2.2.2, rfl⟩
    · obtain ⟨s3, s4, s5, rfl, hs⟩ := h1
      obtain ⟨js, hj, rfl⟩ := map_get hd
      have hjs := f2 js (List.mem_of_getElem? hj)
      subst h2
      refine sd_cons (s_set B 5 (P := fun d => d = .list ((ends js).map .int)) ((pd_cat (PO.pd (po_lc (α := J) (enc := eJ) (xs := js) (keep := fun _ => true) (val := fun j => .int j.1) (own := [("_law_joint", 7)]) (Ok := fun _ => True) (Tt := gT1 7) B (pi_tup cE) (dw_tup (gv B 4 rfl)) (blkOk_by (by decide +kernel))
          (fun X' bk => bk_name bk B 7 rfl rfl) (dg_name 7) (fun _ _ => trivial) (line_lt (by omega)) rfl ?_))
        (PO.pd (po_lc (α := J) (enc := eJ) (xs := js) (keep := fun _ => true) (val := fun j => .int j.2) (own := [("_law_joint", 7)]) (Ok := fun _ => True) (Tt := gT1 7) B (pi_tup cE) (dw_tup (gv B 4 rfl)) (blkOk_by (by decide +kernel))
          (fun X' bk => bk_name bk B 7 rfl rfl) (dg_name 7) (fun _ _ => trivial) (line_lt (by omega)) rfl ?_)) ?_).cast ?_) rfl (.inl rfl) B0.hfn) fun ρ' e => ?_
      · intro X' bk j _ ρ2 q
        subst q
        have B' := bk.bd B
        exact ⟨pbs_nil, fun _ => pd_ixT (n := 0) (ds := [.int j.1, .int j.2]) (gv B' 7 rfl) rfl⟩
      · intro X' bk j _ ρ2 q
        subst q
        have B' := bk.bd B
        exact ⟨pbs_nil, fun _ => pd_ixT (n := 1) (ds := [.int j.1, .int j.2]) (gv B' 7 rfl) rfl⟩
      · rw [List.filter_eq_self.mpr (fun _ _ => rfl), List.length_map, List.length_map]
        exact Nat.le_of_lt (line_lt (by omega))
      · rw [List.filter_eq_self.mpr (fun _ _ => rfl)]
        unfold ends
        rw [List.map_append, List.map_map, List.map_map]
        rfl
      · obtain ⟨d, rfl, rfl⟩ := e
        have en2 : (2 * (n : Nat) - (((e : Nat) : Int) + 1) : Int).toNat = 2 * n - (e + 1) := by omega
        refine sd_one ((s_for B B0.hxe (pi_range2 (B.gl rfl) (by rw [B.hmg]; exact T'.range) cA) (dw_range2 (n := 2 * n - (e + 1)) (i := ((e : Nat) : Int) + 1) (j := 2 * (n : Nat)) (pds_cons (pd_add (gv B 2 rfl) pn_int) (pds_cons (pd_mul pn_int (gv B 0 rfl) (.inl (by decide))) pns_nil)) en2 (by omega) (by omega) (by omega) (by omega)) (fg B0 6 rfl (.inl rfl)) (dg_name 6) (fun _ _ => trivial)
          (fun m ρ' => ∃ s5, ρ' = [.dat (.int (n : Nat)), .dat (.list ((allJ (2 * n) i).map eJs)), .dat (.int (e : Nat)), .own ((allJ (2 * n) i ++ ((allJ (2 * n) i).take k).flatMap (growJ (2 * n) e) ++ (((upI (((e : Nat) : Int) + 1) (2 * n - (e + 1))).take m).filter fun m => !decide (m ∈ ends js)).map fun m => ((e : Int), m) :: js).map eJs), .dat (eJs js), .dat (.list ((ends js).map .int)), s5, .un] ∧ [s5, .un].all plS = true) ⟨s5, ?_, ?_⟩ fun m d ρ1 ρ2 hd h1 h2 => ?_).imp (fun ρ' h => ?_) fun _ _ z => z)
        · simp
        · simp only [List.all_cons, List.all_nil, Bool.and_true, Bool.and_eq_true] at hs ⊢
          exact ⟨hs.2.2.1, rfl⟩
        · obtain ⟨s5, rfl, _⟩ := h1
          obtain ⟨mt, hm, rfl⟩ := map_get hd
          subst h2
          have stp : ∀ p : Int → Bool, ((upI (((e : Nat) : Int) + 1) (2 * n - (e + 1))).take (m + 1)).filter p = ((upI (((e : Nat) : Int) + 1) (2 * n - (e + 1))).take m).filter p ++ (if p mt then [mt] else []) := fun p => by
            rw [List.take_add_one, hm, List.filter_append]
            congr 1
            cases hk : p mt <;> simp [hk]
          refine sd_one (s_ifd (pb_cmp1 (op_notInD B.u65) (gv B 6 rfl) (gv B 5 rfl) (d2_ninL (shaped_int mt) (shaped_ints _)) rfl) (fun z => ?_) fun z => sd_nil ⟨.dat (.int mt), ?_, rfl⟩)
          · rw [any_int] at z
            refine sd_one ((s_app B 3 rfl (one_ok rfl) rfl (.inl rfl) (pd_catT (ys := js.map eJ) (pd_tup (pds_cons (pd_tup (pds_cons (gv B 2 rfl) (pds_cons (gv B 6 rfl) pns_nil))) pns_nil)) (gv B 4 rfl) ?_) ?_).imp (fun ρ3 h3 => ?_) fun _ _ z => z)
            · rw [List.length_map]
              exact Nat.le_of_lt (line_lt (by simp; omega))
            · rw [List.length_map, List.length_append, List.length_append, List.length_map]
              have g1 := flat_len (growJ (2 * n) e) (m := 2 * n) ((allJ (2 * n) i).take k) fun a _ => by
                unfold growJ
                rw [List.length_map]
                exact mates_len _ _ _
              have g2 := List.length_take_le' k (allJ (2 * n) i)
              have g3 := List.length_filter_le (fun m => !decide (m ∈ ends js)) ((upI (((e : Nat) : Int) + 1) (2 * n - (e + 1))).take m)
              have g4 := List.length_take_le' m (upI (((e : Nat) : Int) + 1) (2 * n - (e + 1)))
              rw [upI_len] at g4
              have g5 : 2 * n * ((allJ (2 * n) i).take k).length ≤ 4 * 10 := Nat.mul_le_mul (by omega) (by omega)
              exact line_lt (by omega)
            · obtain ⟨d, rfl, rfl⟩ := h3
              refine ⟨.dat (.int mt), ?_, rfl⟩
              rw [stp, if_pos z, List.map_append (l₂ := [mt]), ← List.append_assoc, List.map_append (l₂ := [mt].map _)]
              rfl
          · rw [any_int] at z
            rw [stp, z, if_neg (by decide), List.append_nil]
            rfl
        · obtain ⟨s5, rfl, hs⟩ := h
          have hl : ((upI (((e : Nat) : Int) + 1) (2 * n - (e + 1))).map PyData.int).length = (upI (((e : Nat) : Int) + 1) (2 * n - (e + 1))).length := List.length_map _
          rw [hl, List.take_length]
          refine ⟨.dat (eJs js), .dat (.list ((ends js).map .int)), s5, ?_, hs⟩
          rw [flat_step (growJ (2 * n) e) hj, ← List.append_assoc]
          rfl
    · obtain ⟨s3, s4, s5, rfl, hs⟩ := h
      rw [List.length_map, List.take_length]
      refine sd_freeze 3 rfl (one_ok (i := 3) (plS_one hs)) (sd_one ((s_set B 1 (gv B 3 rfl) rfl (.inl rfl) B0.hfn).imp (fun ρ3 h3 => ?_) fun _ _ z => z))
      obtain ⟨d, rfl, rfl⟩ := h3
      refine ⟨.dat (.int (e : Nat)), .dat (.list ((allJ (2 * n) i ++ (allJ (2 * n) i).flatMap (growJ (2 * n) e)).map eJs)), s3, s4, s5, ?_, ?_⟩
      · have ea : allJ (2 * n) (i + 1) = allJ (2 * n) i ++ (allJ (2 * n) i).flatMap (growJ (2 * n) e) := by
          show stepA (2 * n) (allJ (2 * n) i) (2 * n - 1 - i) = _
          rw [← ee]; rfl
        rw [ea]
        rfl
      · simp only [List.all_cons, List.all_nil, Bool.and_true, Bool.and_eq_true] at hs ⊢
        exact ⟨rfl, rfl, hs.1, hs.2.1, hs.2.2.1⟩
  · obtain ⟨s1, s2, s3, s4, s5, rfl, hs⟩ := h
    rw [List.length_map, stI_len]
    obtain ⟨f1, f2⟩ := few (2 * n) (Nat.le_refl _)
    refine sd_one (s_ret ((PO.pd (po_sorted (ds := (allL n).map eL) B T' rfl ((PO.pd (po_lc (α := List J) (enc := eJs) (xs := allJ (2 * n) (2 * n)) (keep := fun _ => true) (val := fun js => eL ⟨n, js.mergeSort leJ⟩) (own := [("_law_joints_so", 4)]) (Ok := fun _ => True) (Tt := gT1 4) B (pi_list cE) (dw_list (gv B 1 rfl)) (blkOk_by (by decide +kernel))
      (fun X' bk => bk_name bk B 4 rfl rfl) (dg_name 4) (fun _ _ => trivial) (line_lt (by omega)) ?_ ?_)).cast ?_) (.inl rfl) (sd_lays ?_))).imp fun r e => ?_))
    · simp only [List.all_cons, List.all_nil, Bool.and_true, Bool.and_eq_true] at hs
      show (plainAt [_, _, s1, s2, s3, s4, s5, _] 4 && true) = true
      have h3 := hs.2.2.1
      cases s3 <;> first | rfl | cases h3
    · intro X' bk js hj ρ2 q
      subst q
      have B' := bk.bd B
      refine ⟨pbs_nil, fun _ => (pd_tup (pds_cons (gv B' 0 rfl) (pds_cons (pd_tuple B' T' rfl (PO.pd (po_sorted B' T' rfl (gv B' 4 rfl) (.inr rfl) (sd_any ?_)))) pns_nil))).cast ?_⟩
      · have := f2 js hj
        omega
      · rw [sort_eJ]; rfl
    · rw [List.filter_eq_self.mpr (fun _ _ => rfl)]
      unfold allL
      rw [List.map_map]
      rfl
    · unfold allL
      rw [List.length_map]; omega
    · show r = _
      rw [show r = _ from e]
      unfold sortD evS
      rw [List.map_mergeSort (r := fun a b => PySem.W.dataLe false id (eL a) (eL b)) (fun a _ b _ => rfl)]
theorem evS_all {n : Nat} (h : n = 1 ∨ n = 2) : AllL n (evS n) ∧ (evS n).length ≤ 100 := by
  refine ⟨(all_lays h).of_mem fun L => (List.mergeSort_perm _ _).mem_iff, ?_⟩
  unfold evS
  rw [List.length_mergeSort]
  unfold allL
  rw [List.length_map]
  have := (all_few h (2 * n) (Nat.le_refl _)).1
  omega
end Dc
/-! W14: wrong_place. -/
namespace Dc
open PySem L2 Pd PyProof.Rows
variable {P : Program} {w : World} {K : PySem.W.Frag} {mg : Str → Option Value} {base : Heap}
/-- a target of two names of the def -/
theorem fg2 {X : Cx} {N : List Str} {sc : Scope} {k : Nat} (B0 : Fr1 P w K mg base N sc k X) (i j : Nat) {x y : Str} {p1 p2 pos : Pos} {n : Nat} (hi : N[i]? = some x) (hj : N[j]? = some y) (hx : Loc sc x) (hy : Loc sc y)
    (h1 : (assignEach [.Name x p1, .Name y p2] X.env).length = 2 := by rfl) (h2 : (assignEach [.Name x p1, .Name y p2] X.env).findIdx? (·.1) = none := by rfl)
    (h3 : (assignEach [.Name x p1, .Name y p2] X.env).map (·.2) = assign (.Name x p1) X.env :: (assignEach [.Name y p2] X.env).map (·.2) := by rfl) (h4 : (assignEach [.Name y p2] X.env).map (·.2) = assign (.Name y p2) X.env :: (assignEach [] X.env).map (·.2) := by rfl) :
    PG X (.Tuple [.Name x p1, .Name y p2] n pos) (gTup K 2 (gCons (gName i) (gCons (gName j) gNil))) := by
  have q : PG X (.Tuple [.Name x p1, .Name y p2] n pos) _ := pg_tup B0.calm (pgs_cons (fg B0 i hi hx) (pgs_cons (fg B0 j hj hy) pgs_nil h4) h3) h1 h2
  rw [B0.hK] at q
  exact q
theorem lex_lt {a b : J} (h : ltJ a b) : HT.lexLt [a.1, a.2] [b.1, b.2] = true := by
  unfold ltJ at h
  simp only [HT.lexLt]
  split
  · rw [if_neg (by omega)]
    exact decide_eq_true (by omega)
  · exact decide_eq_true (by omega)
theorem next_lt {js : List J} (h : js.Pairwise ltJ) {i : Nat} {j j' : J} (e : js[i]? = some j) (e' : js[i + 1]? = some j') : ltJ j j' := by
  obtain ⟨h1, rfl⟩ := List.getElem?_eq_some_iff.mp e
  obtain ⟨h2, rfl⟩ := List.getElem?_eq_some_iff.mp e'
  exact List.pairwise_iff_getElem.mp h i (i + 1) h1 h2 (Nat.lt_succ_self i)
theorem ok_wrong_place (Fu : Df K mg "wrong_place" s_wrong_place p_wrong_place) (T' : Bt mg) (Gl : Gc mg) (C1 : Cal P w K mg base 1 "is_whole" p_is_whole (spP cWhole)) (C2 : Cal P w K mg base 2 "is_joint" p_is_joint (spP cJoint)) : Cal P w K mg base 3 "wrong_place" p_wrong_place (spP cWrong) := by
  refine Fu.fn sc_wrong_place (fun a _ => rfl) fun X F a B0 _ ha => ?_
  have B := B0.toBd
  cases a with
  | non =>
    refine sd_start (ρ1 := [.dat .none, .un, .un, .un, .un]) rfl (sd_cons (s_ifd (Nn := fun _ => False) (PBW.pb (tb_or (y := true) (tb_not (pb_of (pd_isi B T' (kit_tup (d := .none) trivial) rfl rfl T'.tuple PyProof.Rows.boot_tuple (gv B 0 rfl)))) fun z => by cases z)) (fun _ => sd_one (s_ret (pd_tup pns_nil))) fun z => by cases z) fun ρ' e => e.elim)
  | bl b d =>
    refine sd_start (ρ1 := [.dat (.tuple [.bool b, d]), .un, .un, .un, .un]) rfl (sd_cons (s_ifd (Nn := fun ρ' => ρ' = [.dat (.tuple [.bool b, d]), .un, .un, .un, .un]) (PBW.pb (tb_or (tb_not (pb_of (pd_isi B T' (kit_tupT _) rfl rfl T'.tuple PyProof.Rows.boot_tuple (gv B 0 rfl)))) fun _ => tb_or1 (pb_neI B (pd_len B T' rfl (gv B 0 rfl) (.inr rfl) rfl) pn_int))) (fun z => by simp at z) fun _ => sd_nil rfl) fun ρ' e => ?_)
    subst e
    refine sd_cons (s_ifd (Nn := fun _ => False) (tb_not (pb_of (pd_callR (c := cWhole) (.bool b, 1, 12) _ (fun _ z => z) B0.at B C1 (by decide) rfl (pds_cons (pd_ixT (n := 0) (gv B 0 rfl) rfl) (pds_cons pn_int (pds_cons (gci B Gl.links) pns_nil))) trivial))) (fun _ => sd_one (s_ret (pd_tup (pds_cons pn_int pns_nil)))) fun z => by cases z) fun ρ' e => e.elim
  | good l =>
    replace ha : l.ok := ha
    have h1 := ha.n1
    have h2 := ha.n2
    have hl := ok_few ha
    refine sd_start (ρ1 := [.dat (eL l), .un, .un, .un, .un]) rfl (sd_cons (s_ifd (Nn := fun ρ' => ρ' = [.dat (eL l), .un, .un, .un, .un]) (PBW.pb (tb_or (tb_not (pb_of (pd_isi B T' (kit_tupT _) rfl rfl T'.tuple PyProof.Rows.boot_tuple (gv B 0 rfl)))) fun _ => tb_or1 (pb_neI B (pd_len B T' rfl (gv B 0 rfl) (.inr rfl) rfl) pn_int))) (fun z => by simp at z) fun _ => sd_nil rfl) fun ρ' e => ?_)
    subst e
    refine sd_cons (s_ifd (Nn := fun ρ' => ρ' = [.dat (eL l), .un, .un, .un, .un]) (tb_not (pb_of (pd_callR (c := cWhole) (.int l.n, 1, 12) _ (fun _ z => z) B0.at B C1 (by decide) rfl (pds_cons (pd_ixT (n := 0) (ds := [.int l.n, .tuple (l.js.map eJ)]) (gv B 0 rfl) rfl) (pds_cons pn_int (pds_cons (gci B Gl.links) pns_nil))) trivial)))
      (fun z => by simp [isWhole, h1, h2] at z) fun _ => sd_nil rfl) fun ρ' e => ?_
    subst e
    refine sd_cons (s_ifd (Nn := fun ρ' => ρ' = [.dat (eL l), .un, .un, .un, .un]) (tb_not (pb_of (pd_isi B T' (kit_tupT _) rfl rfl T'.tuple PyProof.Rows.boot_tuple (pd_ixT (n := 1) (ds := [.int l.n, .tuple (l.js.map eJ)]) (gv B 0 rfl) rfl)))) (fun z => by cases z) fun _ => sd_nil rfl) fun ρ' e => ?_
    subst e
    refine sd_cons (s_par B 1 2 pv_dict (PN.pv (pd_tup pns_nil)) (by decide) rfl rfl rfl rfl rfl) fun ρ' e => ?_
    obtain ⟨s, t, rfl, ⟨d, rfl, rfl⟩, rfl⟩ := e
    refine sd_cons (s_for (ds := enumD (l.js.map eJ)) B B0.hxe (pi_enumT (B.gl rfl) (by rw [B.hmg]; exact T'.enum) cA) (dw_enumT (pds_cons (pd_ixT (n := 1) (ds := [.int l.n, .tuple (l.js.map eJ)]) (gv B 0 rfl) rfl) pns_nil)) (fg2 B0 3 4 rfl rfl (.inl rfl) (.inl rfl)) (dg_two 3 4 K (by decide)) (fun d hd => ?_)
      (fun i ρ' => ∃ ns s3 s4, ρ' = [.dat (eL l), .dic (endsOf (l.js.take i)), .dat (.tuple (ns.map .int)), s3, s4] ∧ ∀ j, l.js[i]? = some j → HT.lexLt ns [j.1, j.2] = true) ⟨[], .un, .un, rfl, fun j _ => rfl⟩ fun i d ρ1 ρ2 hd h1' h2' => ?_) fun ρ' h => ?_
    · obtain ⟨i, hi⟩ := List.getElem?_of_mem hd
      obtain ⟨x, _, rfl⟩ := enumD_get hi
      exact ⟨_, _, rfl⟩
    · obtain ⟨ns, s3, s4, rfl, hns⟩ := h1'
      obtain ⟨x, hx, rfl⟩ := enumD_get hd
      obtain ⟨j, hj, rfl⟩ := map_get hx
      obtain ⟨u, v, e, rfl⟩ := h2'
      cases e
      obtain ⟨o1, o2, o3⟩ := ha.js j (List.mem_of_getElem? hj)
      have ap := ap_take ha.ap hj
      have n1 : j.1 ∉ endsOf (l.js.take i) := fun q => by
        obtain ⟨k', h3, h4⟩ := endsOf_mem q
        refine ap k' h3 ?_
        unfold share
        omega
      have n2 : j.2 ∉ endsOf (l.js.take i) := fun q => by
        obtain ⟨k', h3, h4⟩ := endsOf_mem q
        refine ap k' h3 ?_
        unfold share
        omega
      refine sd_cons (s_ifd (Nn := fun ρ' => ρ' = [.dat (eL l), .dic (endsOf (l.js.take i)), .dat (.tuple (ns.map .int)), .dat (.int (i : Nat)), .dat (eJ j)]) (PBW.pb (tb_or (tb_not (pb_of (pd_callR (c := cJoint) (l.n, j) _ (fun _ z => z) B0.at B C2 (by decide) rfl (pds_cons (pd_ixT (n := 0) (ds := [.int l.n, .tuple (l.js.map eJ)]) (gv B 0 rfl) rfl) (pds_cons (gv B 4 rfl) pns_nil)) (ha.js j (List.mem_of_getElem? hj))))) fun _ =>
        tb_or (tb_not (pb_ltT (ns := ns) (ms := [j.1, j.2]) B (gv B 2 rfl) (gv B 4 rfl))) fun _ => tb_or (pb_in_dic B 1 (pd_ixT (n := 0) (ds := [.int j.1, .int j.2]) (gv B 4 rfl) rfl) rfl rfl (.inl rfl)) fun _ => tb_or1 (pb_in_dic B 1 (pd_ixT (n := 1) (ds := [.int j.1, .int j.2]) (gv B 4 rfl) rfl) rfl rfl (.inl rfl)))) (fun z => ?_) fun _ => sd_nil rfl) fun ρ' e => ?_
      · rw [hns j hj, decide_eq_false n1, decide_eq_false n2] at z
        cases z
      · subst e
        refine sd_cons (s_dupd B 1 rfl (fun m es hm q => ?_) rfl (.inl rfl) (pd_ixT (n := 0) (ds := [.int j.1, .int j.2]) (gv B 4 rfl) rfl) (pd_ixT (n := 1) (ds := [.int j.1, .int j.2]) (gv B 4 rfl) rfl) n1 n2 (by omega) ?_ ⟨by rfl, by rfl, by rfl, by rfl⟩) fun ρ' e => ?_
        · match m, hm, q with
          | 0, _, q => cases q
          | 1, hm, _ => exact hm rfl
          | 2, _, q => cases q
          | 3, _, q => cases q
          | 4, _, q => cases q
          | m + 5, _, q => cases q
        · rw [endsOf_len]
          have h5 := List.length_take_le' i l.js
          exact Nat.le_of_lt (line_lt (by omega))
        · subst e
          refine sd_one ((s_set B 2 (gv B 4 rfl) rfl (.inl rfl) B0.hfn).imp (fun ρ3 h3 => ?_) fun _ _ z => z)
          obtain ⟨d, rfl, rfl⟩ := h3
          refine ⟨[j.1, j.2], .dat (.int (i : Nat)), .dat (eJ j), ?_, fun j' hj' => lex_lt (next_lt ha.up hj hj')⟩
          rw [endsOf_step hj]
          rfl
    · obtain ⟨ns, s3, s4, rfl, _⟩ := h
      exact sd_one (s_ret pn_non)
end Dc
/-! W15: gather, need_tree. -/
namespace Dc
open PySem L2 Pd PyProof.Rows
variable {P : Program} {w : World} {K : PySem.W.Frag} {mg : Str → Option Value} {base : Heap}
structure GOk (n : Int) (h : Nat) (t : T) (path : List D) (ls : List Lay) : Prop where
  tok : TOk n h t
  good : ∀ l ∈ ls, l.ok ∧ l.n = n
  few : ls.length + t.leaves.length ≤ 8
  short : path.length + h ≤ 100
def cGather (h : Nat) : CtrM (Int × T × List D × List Lay) := ⟨fun a => [eT a.2.1, .tuple a.2.2.1], fun a => a.2.2.2.map eL, fun _ => [], fun a => GOk a.1 h a.2.1 a.2.2.1 a.2.2.2, fun a d c' => d = .none ∧ c' = (a.2.2.2 ++ a.2.1.leaves).map eL⟩
theorem shaped_ls {ls : List Lay} (h : ∀ l ∈ ls, l.ok) : SeqAt.shaped (.list (ls.map eL)) = true :=
  ((NcA.map (f := eL) fun l hl => nc_eL (h l hl)).lst).shaped (by omega)
theorem ok_gather (Fu : Df K mg "gather" s_gather p_gather) (T' : Bt mg) (Gl : Gc mg) (C1 : Cal P w K mg base 1 "is_fork" p_is_fork (spP cFork)) (C2 : Cal P w K mg base 4 "is_lay" p_is_lay (spP cIsLay)) :
    ∀ h, Cal P w K mg base (h + 4) "gather" p_gather (spM ListR (cGather h)) := by
  refine Fu.rcM ListR.mv sc_gather (fun h a _ => rfl) (fun a o => by have := o.tok.dp; omega) fun h X F a C B0 hF hw ha => ?_
  have B := B0.toBd
  obtain ⟨n, t, path, ls⟩ := a
  replace ha : GOk n (h + 1) t path ls := ha
  have hT := ha.tok
  have hP := ha.short
  have hFw := ha.few
  have hR : ∀ c G H a, F.R c G H a ↔ ListR c G H a := fun c G H a => by rw [hF]
  refine sd_start (ρ1 := [.dat (eT t), .dat (.tuple path), .res (ls.map eL)]) rfl (sd_cons (s_ifd (Nn := fun ρ' => ρ' = [.dat (eT t), .dat (.tuple path), .res (ls.map eL)] ∧ ∃ l, t = .leaf l) (tb_fork (m := 3) B0.at B C1 (by omega) rfl (gv B 0 rfl) (okF_T t) (by decide)) (fun h1 => ?_) fun h1 => sd_nil ⟨rfl, ?_⟩) fun ρ' e => ?_)
  · cases t with
    | leaf l => cases h1
    | fork x y =>
      have e : (T.fork x y).leaves.length = x.leaves.length + y.leaves.length := List.length_append
      have psz : path.length + 1 ≤ sizeLine := Nat.le_of_lt (line_lt (by omega))
      have one : ∀ (j : Nat) (c' : List D) (c : List D), j ≠ 2 → ([.dat (eT (.fork x y)), .dat (.tuple path), .res c] : Ev)[j]? ≠ some (.res c') := fun j c' c hj q => by
        match j, hj, q with
        | 0, _, q => cases q
        | 1, _, q => cases q
        | 2, hj, _ => exact hj rfl
        | j + 3, _, q => cases q
      refine sd_cons (s_callM (c := cGather h) (n, x, path ++ [.int 1], ls) B0.at B C (Nat.le_refl _) rfl hF 2 rfl (fun j c' hj => one j c' _ hj) rfl (.inl rfl) (pd_ixT (n := 1) (ds := [.str "fork", eT x, eT y]) (gv B 0 rfl) rfl) (pd_catT (gv B 1 rfl) (pd_tup (pds_cons pn_int pns_nil)) psz) rfl rfl rfl
        ⟨hT.l, ha.good, by show ls.length + x.leaves.length ≤ 8; omega, by rw [List.length_append]; simp; omega⟩) fun ρ' e1 => ?_
      obtain ⟨d, c', ⟨rfl, rfl⟩, rfl⟩ := e1
      refine sd_cons (s_callM (c := cGather h) (n, y, path ++ [.int 2], ls ++ x.leaves) B0.at B C (Nat.le_refl _) rfl hF 2 rfl (fun j c' hj => one j c' _ hj) rfl (.inl rfl) (pd_ixT (n := 2) (ds := [.str "fork", eT x, eT y]) (gv B 0 rfl) rfl) (pd_catT (gv B 1 rfl) (pd_tup (pds_cons pn_int pns_nil)) psz) rfl rfl rfl
        ⟨hT.r, fun l hl => ?_, by rw [List.length_append]; show ls.length + x.leaves.length + y.leaves.length ≤ 8; omega, by rw [List.length_append]; simp; omega⟩) fun ρ' e1 => ?_
      · rcases List.mem_append.mp hl with q | q
        · exact ha.good l q
        · exact ok_leaves hT.ok l (List.mem_append_left _ q)
      · obtain ⟨d, c', ⟨rfl, rfl⟩, rfl⟩ := e1
        refine sd_one (s_retN ⟨2, _, rfl, rfl, ?_⟩)
        show ((ls ++ x.leaves) ++ y.leaves).map eL = (ls ++ (x.leaves ++ y.leaves)).map eL
        rw [List.append_assoc]
  · cases t with
    | leaf l => exact ⟨l, rfl⟩
    | fork x y => cases h1
  · obtain ⟨rfl, l, rfl⟩ := e
    obtain ⟨ol, on⟩ := hT.ok
    have hl1 : ls.length + 1 ≤ 8 := hFw
    refine sd_cons (s_ifd (Nn := fun ρ' => ρ' = [.dat (eT (.leaf l)), .dat (.tuple path), .res (ls.map eL)]) (PBW.pb (tb_or (tb_not (pb_of (pd_callR (c := cIsLay) (.good l) _ (fun _ z => z) B0.at B C2 (by omega) rfl (pds_cons (gv B 0 rfl) pns_nil) ol))) fun _ => tb_or (pb_eqI B (pd_len_res B T' (fun c G H a => (hR c G H a).mp) 2 rfl rfl (.inl rfl) rfl) (gci B Gl.lays)) fun _ =>
      tb_or1 (PBW.pb (tb_and (y := false) (pb_ne_res B (fun c G H a => (hR c G H a).mp) 2 rfl rfl (.inl rfl) (shaped_ls fun l hl => (ha.good l hl).1) shaped_nil) fun z => ?_)))) (fun z => ?_) fun _ => sd_nil rfl) fun ρ' e => ?_
    · cases ls with
      | nil => simp [PyData.eqv, PyData.eqvAll] at z
      | cons l0 ls =>
        refine tb_and1 ((pb_neI (i := l0.n) (j := l.n) B (pd_ixT (n := 0) (ds := [.int l0.n, .tuple (l0.js.map eJ)]) (pd_ix_res B (fun c G H a => (hR c G H a).mp) 2 rfl rfl (.inl rfl) rfl) rfl) (pd_ixT (n := 0) (ds := [.int l.n, .tuple (l.js.map eJ)]) (gv B 0 rfl) rfl)).imp fun q e => ?_)
        rw [e, (ha.good l0 List.mem_cons_self).2, on]
        simp
    · rw [List.length_map] at z
      have h8 : decide (((ls.length : Nat) : Int) = 8) = false := decide_eq_false (by omega)
      rw [h8] at z
      simp [LayV.yes] at z
    · subst e
      refine sd_one ((s_app_res B hR 2 rfl (fun j c' hj q => ?_) rfl (.inl rfl) (gv B 0 rfl) ?_).imp (fun ρ3 h3 => ?_) fun _ _ z => z)
      · match j, hj, q with
        | 0, _, q => cases q
        | 1, _, q => cases q
        | 2, hj, _ => exact hj rfl
        | j + 3, _, q => cases q
      · rw [List.length_map]
        exact line_lt (by omega)
      · obtain ⟨d, rfl, rfl⟩ := h3
        refine ⟨2, _, rfl, rfl, ?_⟩
        show ls.map eL ++ [eL l] = (ls ++ [l]).map eL
        rw [List.map_append]
        rfl
theorem ok_need_tree (Fu : Df K mg "need_tree" s_need_tree p_need_tree) (C1 : Cal P w K mg base 12 "gather" p_gather (spM ListR (cGather 8))) : Cal P w K mg base 13 "need_tree" p_need_tree (spP cNeed) := by
  refine Fu.fn sc_need_tree (fun a _ => rfl) fun X F a B0 _ ha => ?_
  have B := B0.toBd
  obtain ⟨n, t⟩ := a
  replace ha : TOk n 8 t := ha
  refine sd_start (ρ1 := [.dat (eT t)]) rfl (sd_cons (s_callNew (c := cGather 8) (n, t, [], []) B0.at B C1 (Nat.le_refl _) rfl (gv B 0 rfl) (pd_tup pns_nil) rfl rfl ⟨ha, (fun _ h => by cases h), by show 0 + t.leaves.length ≤ 8; have := ha.lv; omega, by simp⟩ (fun G H m e => ⟨[], e, .nil⟩)) fun ρ' e => ?_)
  subst e
  exact sd_one (s_ret (gv B 0 rfl))
end Dc
/-! Pd16: {pair: True for .. for ..}, its keys sorted. -/
namespace Dc
open PySem PySem.Spec PyProof.Rows L2 Pd
/-! ### the two loops of such a block -/
abbrev dcX (kx t0 i0 t1 i1 : Expr) (scope : Scope) (pos : Pos) (j1 : Nat) (p1 : Pos) : Expr := .DictComp kx (.Constant (.bool true) j1 p1) [⟨t0, i0, [], 0⟩, ⟨t1, i1, [], 0⟩] scope pos
abbrev NoE : Value → Shared → Prop := fun _ _ => False
section
variable {prog : Program} {w : World} {A : Around} {R : Result → Shared → Prop} {s : Shared} {kx t0 i0 t1 i1 : Expr} {scope : Scope} {pos p1 : Pos} {j1 : Nat} {it : Value} {D : Addr} {env : Env}
theorem dcX_turn0 : compTurn (dcX kx t0 i0 t1 i1 scope pos j1 p1) 0 it (.ref D) env = (do
    standAt i0.pos
    match ← pyNext it with
    | none => pure (.done .next)
    | some v =>
      letOwnedTupleGo t0 it v
      assign t0 env v
      let mut ok := true
      for c in ([] : List Expr) do
        if ok then ok ← isTrue c env (eval c env)
      if ok then
        let x ← eval i1 env
        standAt i1.pos
        let x ← foldedSetIterable i1 env x
        let _ ← runOwn (.compStart (dcX kx t0 i0 t1 i1 scope pos j1 p1) 1 (← holding [x] (pyIter x)) (.ref D) env) env
      again (.compLoop (dcX kx t0 i0 t1 i1 scope pos j1 p1) 0 it (.ref D) env)) := by rfl
theorem dcX_turn1 : compTurn (dcX kx t0 i0 t1 i1 scope pos j1 p1) 1 it (.ref D) env = (do
    standAt i1.pos
    match ← pyNext it with
    | none => pure (.done .next)
    | some v =>
      letOwnedTupleGo t1 it v
      assign t1 env v
      let mut ok := true
      for c in ([] : List Expr) do
        if ok then ok ← isTrue c env (eval c env)
      if ok then
        (do
          let kv ← eval kx env
          let vv ← holding [kv] (eval (.Constant (.bool true) j1 p1) env)
          standAt { kx.pos with endLine := p1.endLine, endCol := p1.endCol }
          holding [kv, vv] (dictSet D kv vv))
      again (.compLoop (dcX kx t0 i0 t1 i1 scope pos j1 p1) 1 it (.ref D) env)) := by rfl
theorem dcX_out (hs : ∀ x, foldedSetIterable i1 env x = pure x) (I : Nat → Shared → Prop)
    (turn : ∀ n s, I n s → wpAny (model prog w) A (pyNext it) (fun r s1 => match r with
      | none => R (.ok .next) s1
      | some v => wpAny (model prog w) A (letOwnedTupleGo t0 it v) (fun _ s2 => wpAny (model prog w) A (assign t0 env v) (fun _ s3 => wpAny (model prog w) A (eval i1 env) (fun x s4 => wpAny (model prog w) A (pyIter x) (fun y s5 =>
          codeAny (model prog w) A (.compStart (dcX kx t0 i0 t1 i1 scope pos j1 p1) 1 y (.ref D) env) (fun r s' => match r with | .ok _ => ∃ m, m < n ∧ I m s' | .error _ => False) s5) NoE s4) NoE s3) NoE s2) NoE s1) NoE s)
    (n : Nat) (h : I n s) : codeAny (model prog w) A (.compLoop (dcX kx t0 i0 t1 i1 scope pos j1 p1) 0 it (.ref D) env) R s := by
  refine codeAny_loop rfl I (fun n s hI => ?_) n h
  show wpAny _ A ((compTurn (dcX kx t0 i0 t1 i1 scope pos j1 p1) 0 it (.ref D) env).onRaise (fun x => do noteFrame x env; theTreesLotGoes x)) _ _ s
  refine wpAny_noted ?_
  rw [dcX_turn0]
  refine wpAny_bind (wpAny_standAt (wpAny_bind (thnF (turn n s hI) fun r s1 h1 => ?_)))
  match r, h1 with
  | none, h1 => exact wpAny_pure h1
  | some v, h1 =>
    refine wpAny_bind (thnF h1 fun _ s2 h2 => wpAny_bind (thnF h2 fun _ s3 h3 => ?_))
    refine wpAny_bind (wpAny_of_eq (a := true) (by rfl) ?_)
    refine wpAny_bind (thnF h3 fun x s4 h4 => wpAny_bind (wpAny_standAt (wpAny_bind (wpAny_of_eq (hs x) (wpAny_bind (wpAny_holding (thnF h4 fun y s5 h5 => ?_)))))))
    refine wpAny_bind (wpAny_runOwn ?_)
    rw [Around.mark_none]
    refine codeAny_mono h5 fun r s' hr => ?_
    match r, hr with
    | .error e, hr => exact hr.elim
    | .ok f, hr =>
      first
        | exact wpAny_pure ⟨rfl, hr⟩
        | exact wpAny_bind (wpAny_pure (wpAny_pure ⟨rfl, hr⟩))
theorem dcX_in (I : Nat → Shared → Prop)
    (turn : ∀ n s, I n s → wpAny (model prog w) A (pyNext it) (fun r s1 => match r with
      | none => R (.ok .next) s1
      | some v => wpAny (model prog w) A (letOwnedTupleGo t1 it v) (fun _ s2 => wpAny (model prog w) A (assign t1 env v) (fun _ s3 => wpAny (model prog w) A (eval kx env) (fun k s4 =>
          wpAny (model prog w) A (dictSet D k (.bool true)) (fun _ s5 => ∃ m, m < n ∧ I m s5) NoE s4) NoE s3) NoE s2) NoE s1) NoE s)
    (n : Nat) (h : I n s) : codeAny (model prog w) A (.compLoop (dcX kx t0 i0 t1 i1 scope pos j1 p1) 1 it (.ref D) env) R s := by
  refine codeAny_loop rfl I (fun n s hI => ?_) n h
  show wpAny _ A ((compTurn (dcX kx t0 i0 t1 i1 scope pos j1 p1) 1 it (.ref D) env).onRaise (fun x => do noteFrame x env; theTreesLotGoes x)) _ _ s
  refine wpAny_noted ?_
  rw [dcX_turn1]
  refine wpAny_bind (wpAny_standAt (wpAny_bind (thnF (turn n s hI) fun r s1 h1 => ?_)))
  match r, h1 with
  | none, h1 => exact wpAny_pure h1
  | some v, h1 =>
    refine wpAny_bind (thnF h1 fun _ s2 h2 => wpAny_bind (thnF h2 fun _ s3 h3 => ?_))
    refine wpAny_bind (wpAny_of_eq (a := true) (by rfl) ?_)
    refine wpAny_bind (wpAny_bind (thnF h3 fun k s4 h4 => wpAny_bind (wpAny_holding ?_)))
    have e : eval (.Constant (.bool true) j1 p1) env = pure (.bool true) := by first | rfl | exact PySem.eval_Constant_bool ..
    rw [e]
    exact wpAny_pure (wpAny_bind (wpAny_standAt (wpAny_holding (thnF h4 fun _ s5 h5 => wpAny_pure ⟨rfl, h5⟩))))
theorem dcX_start (h0 : codeAny (model prog w) A (.compLoop (dcX kx t0 i0 t1 i1 scope pos j1 p1) 1 it (.ref D) env) R s)
    (h : wpAny (model prog w) A (pyIter it) (fun y s' => codeAny (model prog w) A (.compLoop (dcX kx t0 i0 t1 i1 scope pos j1 p1) 1 y (.ref D) env) R s') (notedBy (model prog w) A env fun x s' => R (.error x) s') s) :
    codeAny (model prog w) A (.compStart (dcX kx t0 i0 t1 i1 scope pos j1 p1) 1 it (.ref D) env) R s := by
  refine codeAny_of_tree ?_
  show wpAny _ _ ((compStart (dcX kx t0 i0 t1 i1 scope pos j1 p1) 1 it (.ref D) env).onRaise (fun x => do noteFrame x env; standAt theWindowsPlace)) _ _ s
  refine wpAny_notedAt ?_
  unfold compStart
  show wpAny _ _ (ask >>= _) _ _ s
  refine wpAny_bind (wpAny_askSetting (wpAny_ite ?_))
  split
  · first
      | exact wpAny_bind (wpAny_pure (wpAny_pure (And.intro rfl h0)))
      | exact wpAny_pure (And.intro rfl h0)
  · refine wpAny_bind (wpAny_rule ?_)
    show wpAny _ _ (standAt i1.pos >>= _) _ _ s
    exact wpAny_bind (wpAny_standAt (wpAny_bind (wpAny_mono h (fun y s' h' => wpAny_pure (And.intro rfl h')) fun _ _ x => x)))
end
end Dc
/-! Pd17: a dict whose keys are pairs of ints, all its values True, the keys' places told. -/
namespace Dc
open PySem PySem.Spec PyProof.Rows L2 Pd
def jKey (j : J) : List L2.Key := [.inl j.1, .inl j.2]
def jEnt (p : J × Addr) : List L2.Key × Addr × Value := (jKey p.1, p.2, .bool true)
def jV (j : J) : List V := [.int j.1, .int j.2]
theorem jKey_inj {a b : J} (h : jKey a = jKey b) : a = b := by
  unfold jKey at h
  simp only [List.cons.injEq, Sum.inl.injEq, and_true] at h
  exact Prod.ext h.1 h.2
def JDict (P : Program) (w : World) (D : Addr) (xs : List (J × Addr)) (h : Heap) : Prop :=
  (D == sysModules) = false ∧ ∃ o es ep, h.get? D = some o ∧ o.ExactDict ∧ o.data = .dict es ep ∧ es.toList = (xs.map jEnt).map (entryOfKey (tupleKind (mixKind P w))) ∧ ((xs.map jEnt).map (·.1)).Nodup
def oJ (P : Program) (w : World) (D : Addr) (xs : List (J × Addr)) : HO := .ext (JDict P w D xs)
/-- one more key -/
def addJ (xs : List (J × Addr)) (j : J) (b : Addr) : List (J × Addr) := if j ∈ xs.map (·.1) then xs else xs ++ [(j, b)]
def addK (acc : List J) (j : J) : List J := if j ∈ acc then acc else acc ++ [j]
theorem addJ_fst (xs : List (J × Addr)) (j : J) (b : Addr) : (addJ xs j b).map (·.1) = addK (xs.map (·.1)) j := by
  unfold addJ addK
  split
  · rfl
  · rw [List.map_append]; rfl
theorem oJ_ok {P : Program} {w : World} {H : Hp} {h : Heap} {D : Addr} {xs : List (J × Addr)} (q : JDict P w D xs h) : ObjOk P w H h D (oJ P w D xs) := by
  refine ⟨q, ?_, fun h1 h2 z k => ?_⟩
  · obtain ⟨_, o, _, _, e, _⟩ := q
    exact ⟨o, e⟩
  · obtain ⟨a, o, es, ep, e, r⟩ := z
    exact ⟨a, o, es, ep, k o e, r⟩
theorem atKey_jEnt (xs : List (J × Addr)) (j : J) : (atKey (xs.map jEnt) (jKey j)).isSome = decide (j ∈ xs.map (·.1)) := by
  induction xs with
  | nil => rfl
  | cons x xs ih =>
    rw [List.map_cons]
    unfold atKey at ih ⊢
    rw [List.find?_cons]
    by_cases e : x.1 = j
    · have e' : (jEnt x).1 = jKey j := by rw [← e]; rfl
      rw [decide_eq_true e']
      simp [e]
    · have e' : ¬ (jEnt x).1 = jKey j := fun z => e (jKey_inj z)
      rw [decide_eq_false e']
      simp only [List.map_cons, List.mem_cons]
      rw [ih]
      exact decide_eq_decide.mpr ⟨.inr, fun z => z.elim (fun q => absurd q.symm e) id⟩
theorem putAt_jEnt (k : List L2.Key) (xs : List (J × Addr)) : (xs.map jEnt).map (putAt k (.bool true)) = xs.map jEnt := by
  rw [List.map_map]
  refine List.map_congr_left fun p _ => ?_
  show putAt k (.bool true) (jEnt p) = jEnt p
  unfold putAt
  split <;> rfl
theorem stored_jEnt (xs : List (J × Addr)) (j : J) (b : Addr) : storedH (xs.map jEnt) (jKey j) b (.bool true) = (addJ xs j b).map jEnt := by
  unfold storedH addJ
  rw [atKey_jEnt]
  by_cases h : j ∈ xs.map (·.1)
  · rw [if_pos (decide_eq_true h), if_pos h, putAt_jEnt]
  · rw [if_neg (by rw [decide_eq_false h]; decide), if_neg h, List.map_append]; rfl
/-- the keys are tracked -/
def KeysAt (H : Hp) (xs : List (J × Addr)) : Prop := ∀ p ∈ xs, H p.2 = some (.tup (jV p.1))
section
variable {X : Cx} {pins : List (Addr × Obj)} {σ : L2.St} {H : Hp} {s : Shared} {D b : Addr} {xs : List (J × Addr)} {j : J} {A : Around} {E : Value → Shared → Prop}
theorem jdict_of (I : Inv X pins σ H s) (hD : H D = some (oJ X.prog X.w D xs)) (hk : KeysAt H xs) : (D == sysModules) = false ∧ s.heap.DictOfH (tupleKind (mixKind X.prog X.w)) D (xs.map jEnt) := by
  obtain ⟨⟨z, o, es, ep, h1, h2, h3, h4, h5⟩, _⟩ := (show ObjOk X.prog X.w H s.heap D (oJ X.prog X.w D xs) from I.hok D _ hD)
  refine ⟨z, o, es, ep, h1, h2, h3, h4, fun x hx => ?_, h5⟩
  obtain ⟨p, hp, rfl⟩ := List.mem_map.mp hx
  exact key_of I.hok (ks := jKey p.1) (hk p hp)
theorem jdict_put {Q : Unit → Shared → Prop} (hu : A.units < cLine) (I : Inv X pins σ H s) (hD : H D = some (oJ X.prog X.w D xs)) (hk : KeysAt H xs) (hb : H b = some (.tup (jV j))) (hz : xs.length < sizeLine)
    (h : ∀ s', Inv X pins σ (upd H D (oJ X.prog X.w D (addJ xs j b))) s' → Q () s') : wpAny (model X.prog X.w) A (dictSet D (.ref b) (.bool true)) Q E s := by
  obtain ⟨z, dd⟩ := jdict_of I hD hk
  refine wpAny_dictSet_heap (hsz := by rw [List.length_map]; exact Nat.le_of_lt hz) (knd := tupleKind (mixKind X.prog X.w)) (k := jKey j) hu (key_of I.hok (ks := jKey j) hb) dd fun h' dd' hs => h _ ?_
  rw [stored_jEnt] at dd'
  obtain ⟨o, es, ep, h1, h2, h3, h4, _, h5⟩ := dd'
  exact d_write I (by rw [hD]; exact True.intro) hs ⟨o, h1⟩ (oJ_ok ⟨z, o, es, ep, h1, h2, h3, h4, h5⟩)
theorem jdict_new (I : Inv X pins σ H s) : Inv X pins σ (upd H s.heap.objs.size (oJ X.prog X.w s.heap.objs.size [])) { s with heap := s.heap.push { cls := .type "dict", data := .dict #[] } } := by
  refine I.laid (t' := s.toks) (fun b o e => Heap.get?_push_of_some _ e) (Nat.le_refl _) (oJ_ok ?_)
  obtain ⟨_, z, _⟩ := dt_empty (P := X.prog) (w := X.w) (H := H) s.heap I.big
  exact ⟨z, _, #[], 0, Heap.get?_push_size _ rfl, ⟨rfl, rfl, rfl⟩, rfl, rfl, List.nodup_nil⟩
/-- its keys, collected -/
theorem jdict_col (hc : X.calm = true) (hD : H D = some (oJ X.prog X.w D xs)) (hz : xs.length ≤ sizeLine) : ColR X (.ref D) H (xs.map fun p => .ref p.2) := fun pins s σ v I r R E q => by
  cases r
  obtain ⟨⟨z, o, es, ep, h1, h2, h3, h4, h5⟩, _⟩ := (show ObjOk X.prog X.w H s.heap D (oJ X.prog X.w D xs) from I.hok D _ hD)
  have l1 : es.size = xs.length := by
    have := size_of_entries h4
    rw [List.length_map] at this
    exact this
  refine PySem.W.kdu_collect (kdl_raw z h2 h3) (show X.A.in1.handled = none from I.ok.hd hc) h1 (by rw [l1]; exact hz) fun h' tk acc hk it => q h' tk _ hk ?_
  have hl : acc.toList.length = xs.length := by rw [Array.length_toList]; exact it.1.trans l1
  refine vals_of_at (by rw [List.length_map, hl]) fun i x u e1 e2 => ?_
  obtain ⟨en, hen, hv⟩ := it.2 i u (by rw [← Array.getElem?_toList]; exact e2)
  have qe := entry_at h4 i
  rw [hen, List.getElem?_map] at qe
  rw [List.getElem?_map] at e1
  cases hx : xs[i]? with
  | none => rw [hx] at e1; cases e1
  | some p =>
    rw [hx] at qe e1
    have e3 : en = entryOfKey (tupleKind (mixKind X.prog X.w)) (jEnt p) := Option.some.inj qe
    have e4 : x = .ref p.2 := (Option.some.inj e1).symm
    subst e4
    rw [hv, e3]
    exact rfl
end
/-! ### the block -/
section
variable {X : Cx}
/-- what the two loops ask: from each first turn the second loop leads to the next first turn -/
def tDj (P : Program) (w : World) (wi : TI) (g : TG) (wi1 : TI) (g1 : TG) (tk : TE) (vs vs1 : List Nat) : TE := fun σ H Q => wi σ H fun L H1 => ∀ D, H1 D = none → ∃ W : Nat → Nat → Hp → Prop, (∃ m, W 0 m (upd H1 D (oJ P w D []))) ∧ ∀ i m H, W i m H →
  (L.stop i H ∧ Q (.ref D) H) ∨ (L.go i H ∧ ∃ Z : Hp → Prop, (∀ H', Z H' → ∃ m', m' < m ∧ W (i + 1) m' H') ∧ ∀ x H', L.yld i H x H' → g x (wipe σ vs) H' fun σ2 H2 => wipe σ2 vs = wipe σ vs ∧ wi1 σ2 H2 fun L1 H4 =>
    ∃ W1 : Nat → Nat → Hp → Prop, (∃ m, W1 0 m H4) ∧ ∀ k m H, W1 k m H →
      (L1.stop k H ∧ Z H) ∨ (L1.go k H ∧ ∃ Z1 : Hp → Prop, (∀ H', Z1 H' → ∃ m', m' < m ∧ W1 (k + 1) m' H') ∧ ∀ x H', L1.yld k H x H' → g1 x (wipe σ2 vs1) H' fun σ3 H5 => wipe σ3 vs1 = wipe σ2 vs1 ∧ tk σ3 H5 fun y H7 =>
        ∃ xs j b, y = .ref b ∧ H7 D = some (oJ P w D xs) ∧ KeysAt H7 xs ∧ H7 b = some (.tup (jV j)) ∧ xs.length < sizeLine ∧ Z1 (upd H7 D (oJ P w D (addJ xs j b)))))
theorem dj_core {pins : List (Addr × Obj)} {s : Shared} {σ : L2.St} {H : Hp} {Q : VK} {kx t0 i0 t1 i1 : Expr} {scope : Scope} {own : List (Str × Nat)} {vs1 : List Nat} {pos p1 pos' : Pos} {j1 : Nat} {wi wi1 : TI} {g g1 : TG} {tk : TE} {Qf : Value → Shared → Prop}
    (hc : X.calm = true) (hu : X.A.units < cLine) (hN : X.N.Nodup) (I : Inv X pins σ H s) (hi : PI X t0 i0 wi) (ok : BlkOk X.N X.env.scope scope own) (hv : ∀ i ∈ vs1, i ∈ own.map (·.2))
    (hb : ∀ X', Bk X scope X' → PG X' t0 g ∧ PI X' t1 i1 wi1 ∧ PG X' t1 g1 ∧ PE X' kx tk) (hs : ∀ x, foldedSetIterable i0 X.env x = pure x) (hs1 : ∀ env x, foldedSetIterable i1 env x = pure x)
    (h : tDj X.prog X.w wi g wi1 g1 tk (own.map (·.2)) vs1 σ H Q)
    (hend : ∀ D C s' m H', Inv X pins σ H' s' → Q (.ref D) H' → s'.heap.Ns C m → FpOk X pins H' C → compPost (model X.prog X.w) X.A X.xe none Qf (.ref D) C (.ok .next) s') :
    wpAny (model X.prog X.w) X.A (comprehension (dcX kx t0 i0 t1 i1 scope pos j1 p1) scope X.env pos' newDict false (eval i0 X.env) none) Qf X.xe s := by
  have hfree : ∀ y ∈ scope.names, y.2 = .free → ∃ c, X.env.cells.lookup y.1 = some c := fun y hy e => (ok.free y hy e).elim (fun k => I.ok.has _ (.inl k)) fun k => I.ok.has _ (.inr k)
  refine wpAny_comprehension_free (use := none) rfl hs (closure_ok hfree) ok.kind (fun y hy e => by rw [ok.uniq y hy, e]) (thn (hi.run pins s σ H _ I h) fun xv s1 hx => thn hx fun itv s2 ⟨it, fp, tn, L, H2, e, I2, T, st2, f2, q⟩ => ?_)
  subst e
  refine wpAny_newObj_type (newEnv_comp ?_)
  have I3 := jdict_new I2
  obtain ⟨W, ⟨m0, w0⟩, turn⟩ := q s2.heap.objs.size (I2.hok.fresh (Nat.le_refl _))
  generalize hD : s2.heap.objs.size = D at I3 w0 turn ⊢
  generalize hs3 : ({ s2 with heap := s2.heap.push { cls := .type "dict", data := .dict #[] } } : Shared) = s3 at I3
  have h3 : s3.heap = s2.heap.push { cls := .type "dict", data := .dict #[] } := by rw [← hs3]
  generalize hH3 : upd H2 D (oJ X.prog X.w D []) = H3 at I3 w0
  have f3 : ∀ b ∈ fp, FpOk X pins H3 b ∧ b < s3.heap.objs.size := fun b hb => by
    obtain ⟨o, e, _⟩ := T.obj _ _ st2 b hb
    have lt := Heap.lt_size e
    refine ⟨⟨?_, (f2 b hb).2⟩, by rw [h3, Heap.size_push]; exact Nat.lt_succ_of_lt lt⟩
    rw [← hH3, upd_ne (by rw [← hD]; exact Nat.ne_of_lt lt)]
    exact (f2 b hb).1
  have st3 : tn 0 s3.heap := T.keep _ _ _ st2 fun b _ o e => by rw [h3]; exact Heap.get?_push_of_some _ e
  have I4 := block_start I3 ok hN f3
  show codeAny _ _ (.compStart (dcX kx t0 i0 t1 i1 scope pos j1 p1) 0 (.ref it) (.ref D) (compEnvC scope (cellsFrom (s3.heap.objs.size + 1) scope.names (cloFrom X.env.cells scope.names [])) s3.heap.objs.size X.env)) (compPost (model X.prog X.w) X.A X.xe none Qf (.ref D) s3.heap.objs.size) { s3 with heap := pushCells (s3.heap.push { cls := .type "dict", data := .dict #[] }) scope.names }
  have bk : Bk X scope (X.blk s3 H3 scope (compEnvC scope (cellsFrom (s3.heap.objs.size + 1) scope.names (cloFrom X.env.cells scope.names [])) s3.heap.objs.size X.env) fp) := ⟨_, _, _, _, _, rfl⟩
  obtain ⟨pg, pi1, pg1, pk⟩ := hb _ bk
  generalize hce : compEnvC scope (cellsFrom (s3.heap.objs.size + 1) scope.names (cloFrom X.env.cells scope.names [])) s3.heap.objs.size X.env = ce at I4 pg pi1 pg1 pk ⊢
  have cL : ce.locals = s3.heap.objs.size := by subst hce; rfl
  generalize hs4 : ({ s3 with heap := pushCells (s3.heap.push { cls := .type "dict", data := .dict #[] }) scope.names } : Shared) = s4 at I4 ⊢
  have st4 : tn 0 s4.heap := T.keep _ _ _ st3 fun b _ o e => by rw [← hs4]; exact pushCells_keeps _ _ _ _ (Heap.get?_push_of_some _ e)
  generalize hB : X.blk s3 H3 scope ce fp = B at I4 pg pi1 pg1 pk
  have bP : B.prog = X.prog := by rw [← hB]
  have bW : B.w = X.w := by rw [← hB]
  have bK : B.K = X.K := by rw [← hB]
  have bA : B.A = X.A := by rw [← hB]
  have bE : B.env = ce := by rw [← hB]
  have bC : B.calm = true := by rw [← hB]; exact hc
  have bx : B.xe = NoE := by rw [← hB]
  have stat : ∀ {σ' : L2.St} {H' : Hp} {s' : Shared}, Inv B [] σ' H' s' → (∀ b ∈ fp, H' b = none) → ∀ b ∈ fp, FpOk B [] H' b := fun {σ' H' s'} I' hn b hb => by
    subst hB
    exact ⟨hn b hb, (I'.ok.exf b hb).1, I'.ok.exfs b hb, .inl hb, fun x c e => (I'.ok.exf b hb).2 x c e, fun p hp => absurd (show p ∈ ([] : List (Addr × Obj)) ++ [] from hp) (by simp)⟩
  have loop : codeAny (model X.prog X.w) X.A (.compLoop (dcX kx t0 i0 t1 i1 scope pos j1 p1) 0 (.ref it) (.ref D) ce) (compPost (model X.prog X.w) X.A X.xe none Qf (.ref D) s3.heap.objs.size) s4 := by
    refine dcX_out (hs1 ce) (fun n s' => ∃ i H', Inv B [] (wipe σ (own.map (·.2))) H' s' ∧ tn i s'.heap ∧ (∀ b ∈ fp, H' b = none) ∧ W i n H') ?_ m0 ⟨0, H3, I4, st4, fun b hb => (f3 b hb).1.1, w0⟩
    rintro n s5 ⟨i, H5, I5, st5, n5, w5⟩
    rcases turn i n H5 w5 with ⟨stop, qq⟩ | ⟨go, Z, hZ, step⟩
    · have td := T.done B bP bW bK bC i [] s5 _ H5 NoE I5 (stat I5 n5) st5 stop
      rw [bA] at td
      refine thnF td fun r s6 ⟨hr, I6⟩ => ?_
      subst hr
      subst hB
      have I7 : Inv X pins σ H5 s6 := I3.call' (ch := fp) I6.os I6.base I6.hok I6.bare fun b hb => ⟨(f3 b hb).1.2.2.2.1, (f3 b hb).1.2.1, (f3 b hb).1.2.2.2.2.1, (f3 b hb).1.2.2.2.2.2⟩
      have nC : H5 s3.heap.objs.size = none := by
        have z : H5 ce.locals = none := I6.free
        rw [cL] at z; exact z
      obtain ⟨m, hn, _⟩ := I6.loc
      have hn : s6.heap.Ns ce.locals m := hn
      rw [cL] at hn
      exact hend D s3.heap.objs.size s6 m H5 I7 qq hn (I3.fpOk (Nat.le_refl _) nC)
    · have ti := T.item B bP bW bK bC i [] s5 _ H5 NoE I5 (stat I5 n5) st5 go
      rw [bA] at ti
      refine thnF ti fun r s6 ⟨u, hr, h6⟩ => ?_
      subst hr
      refine thnF h6 fun _ s7 ⟨x, H7, I7, r7, y7, st7, n7⟩ => ?_
      have I7' := I7.pinned (stat I7 n7) (T.obj _ _ st7)
      have a7 := pg.run _ s7 _ H7 x u _ I7' r7 (step x H7 y7)
      rw [bP, bW, bA, bE, bx] at a7
      refine thnF a7 fun _ s8 ⟨σ8, H8, I8, hw8, q8⟩ => ?_
      have fin : ∀ {σ9 : L2.St} {s' : Shared} {H' : Hp}, Inv B ([] ++ pinsAt fp s7.heap) σ9 H' s' → (wipe σ (own.map (·.2))).length = σ9.length → (∀ (j : Nat) v, (wipe σ (own.map (·.2)))[j]? = some (some v) → σ9[j]? = some (some v)) → Z H' →
          ∃ m, m < n ∧ ∃ i H', Inv B [] (wipe σ (own.map (·.2))) H' s' ∧ tn i s'.heap ∧ (∀ b ∈ fp, H' b = none) ∧ W i m H' := fun {σ9 s' H'} I' hl hk z => by
        obtain ⟨m', hm, w'⟩ := hZ H' z
        have pin' : ∀ b ∈ fp, ∀ o, s7.heap.get? b = some o → s'.heap.get? b = some o ∧ H' b = none := fun b hb o e =>
          let z := I'.pin (b, o) (List.mem_append_right _ (List.mem_append_right _ (mem_pinsAt hb e)))
          ⟨z.1, z.2.1⟩
        refine ⟨m', hm, i + 1, H', (I'.unpinned (pins := [])).weak hl hk, T.keep _ _ _ st7 fun b hb o e => (pin' b hb o e).1, fun b hb => ?_, w'⟩
        obtain ⟨o, e, _⟩ := T.obj _ _ st7 b hb
        exact (pin' b hb o e).2
      have hl8 : (wipe σ (own.map (·.2))).length = (wipe σ8 vs1).length := by rw [← hw8, wipe_length, wipe_length]
      have hk9 : ∀ (j : Nat) v, (wipe σ (own.map (·.2)))[j]? = some (some v) → (wipe σ8 vs1)[j]? = some (some v) := fun j v e => by
        rw [← hw8] at e
        obtain ⟨e1, e2⟩ := wipe_some e
        rw [L2.wipe_out fun z => e2 (hv j z)]
        exact e1
      have a8 := pi1.run _ s8 σ8 H8 _ I8 q8
      rw [bP, bW, bA, bE, bx] at a8
      refine thnF a8 fun xv s10 hx => thnF hx fun itv s11 ⟨it1, fp1, tn1, L1, H11, e1, I11, T1, st11, f11, W1, ⟨m1, w1⟩, turn1⟩ => ?_
      subst e1
      rw [bP, bW, bK] at T1
      have stat1 : ∀ {H' : Hp}, (∀ b ∈ fp1, H' b = none) → ∀ b ∈ fp1, FpOk B ([] ++ pinsAt fp s7.heap) H' b := fun hn b hb => ⟨hn b hb, (f11 b hb).2⟩
      have loop1 : codeAny (model X.prog X.w) X.A (.compLoop (dcX kx t0 i0 t1 i1 scope pos j1 p1) 1 (.ref it1) (.ref D) ce)
          (fun r s' => match r with
            | .ok _ => ∃ m, m < n ∧ ∃ i H', Inv B [] (wipe σ (own.map (·.2))) H' s' ∧ tn i s'.heap ∧ (∀ b ∈ fp, H' b = none) ∧ W i m H'
            | .error _ => False) s11 := by
        refine dcX_in (fun k s' => ∃ j H', Inv B ([] ++ pinsAt fp s7.heap) (wipe σ8 vs1) H' s' ∧ tn1 j s'.heap ∧ (∀ b ∈ fp1, H' b = none) ∧ W1 j k H') ?_ m1 ⟨0, H11, I11.weak (wipe_length _ _) (fun j v e => (wipe_some e).1), st11, fun b hb => (f11 b hb).1, w1⟩
        rintro k s12 ⟨j, H12, I12, st12, n12, w12⟩
        rcases turn1 j k H12 w12 with ⟨stop1, z1⟩ | ⟨go1, Z1, hZ1, step1⟩
        · have td := T1.done B bP bW bK bC j _ s12 (wipe σ8 vs1) H12 NoE I12 (stat1 n12) st12 stop1
          rw [bA] at td
          refine thnF td fun r s13 ⟨hr, I13⟩ => ?_
          subst hr
          exact fin I13 hl8 hk9 z1
        · have ti := T1.item B bP bW bK bC j _ s12 (wipe σ8 vs1) H12 NoE I12 (stat1 n12) st12 go1
          rw [bA] at ti
          refine thnF ti fun r s13 ⟨u1, hr, h13⟩ => ?_
          subst hr
          refine thnF h13 fun _ s14 ⟨x1, H14, I14, r14, y14, st14, n14⟩ => ?_
          have I14' := I14.pinned (stat1 n14) (T1.obj _ _ st14)
          have a14 := pg1.run _ s14 (wipe σ8 vs1) H14 x1 u1 _ I14' r14 (step1 x1 H14 y14)
          rw [bP, bW, bA, bE, bx] at a14
          refine thnF a14 fun _ s15 ⟨σ15, H15, I15, hw15, q15⟩ => ?_
          have a15 := pk.run _ s15 σ15 H15 _ I15 q15
          rw [bP, bW, bA, bE, bx] at a15
          refine thnF a15 fun z s17 ⟨yv, H17, I17, r17, xs, jj, b, ey, hD17, hk17, hb17, hz17, z1⟩ => ?_
          subst ey
          cases r17
          have put := jdict_put (X := B) (Q := fun _ s5 => ∃ m, m < k ∧ ∃ j H', Inv B ([] ++ pinsAt fp s7.heap) (wipe σ8 vs1) H' s5 ∧ tn1 j s5.heap ∧ (∀ b ∈ fp1, H' b = none) ∧ W1 j m H') (E := NoE) (A := X.A) hu I17 (by rw [bP, bW]; exact hD17) hk17 hb17 hz17 fun s18 I18 => ?_
          · rw [bP, bW] at put
            exact put
          · rw [bP, bW] at I18
            obtain ⟨m', hm, w'⟩ := hZ1 _ z1
            have pin' : ∀ c ∈ fp1, ∀ o, s14.heap.get? c = some o → s18.heap.get? c = some o ∧ (upd H17 D (oJ X.prog X.w D (addJ xs jj b))) c = none := fun c hc o e =>
              let z := I18.pin (c, o) (List.mem_append_right _ (List.mem_append_right _ (mem_pinsAt hc e)))
              ⟨z.1, z.2.1⟩
            refine ⟨m', hm, j + 1, _, I18.unpinned.weak (by rw [← hw15, wipe_length]) (fun j v e => by rw [← hw15] at e; exact (wipe_some e).1), T1.keep _ _ _ st14 fun c hc o e => (pin' c hc o e).1, fun c hc => ?_, w'⟩
            obtain ⟨o, e, _⟩ := T1.obj _ _ st14 c hc
            exact (pin' c hc o e).2
      exact dcX_start loop1 (T1.self X.A 0 _ _ _ st11 loop1)
  exact codeAny_compStart_dict loop (T.self X.A 0 _ _ _ st4 loop)
theorem pe_dj {kx t0 i0 t1 i1 : Expr} {scope : Scope} {own : List (Str × Nat)} {vs1 : List Nat} {pos p1 : Pos} {j1 : Nat} {wi wi1 : TI} {g g1 : TG} {tk : TE}
    (hc : X.calm = true) (hu : X.A.units < cLine) (hN : X.N.Nodup) (hi : PI X t0 i0 wi) (ok : BlkOk X.N X.env.scope scope own) (hv : ∀ i ∈ vs1, i ∈ own.map (·.2))
    (hb : ∀ X', Bk X scope X' → PG X' t0 g ∧ PI X' t1 i1 wi1 ∧ PG X' t1 g1 ∧ PE X' kx tk) (hs : ∀ x, foldedSetIterable i0 X.env x = pure x := by intro _; rfl) (hs1 : ∀ env x, foldedSetIterable i1 env x = pure x := by intro _ _; rfl) :
    PE X (dcX kx t0 i0 t1 i1 scope pos j1 p1) (tDj X.prog X.w wi g wi1 g1 tk (own.map (·.2)) vs1) := by
  refine ⟨fun pins s σ H Q I h => ?_⟩
  rw [arm_eval_DictComp]
  refine dj_core hc hu hN I hi ok hv hb hs hs1 h fun D C s' m H' I' q hn f => ⟨m, hn, fun h'' sb => ?_⟩
  obtain ⟨f0, f1, f2, f3, f4, f5⟩ := f
  exact ⟨.ref D, H', I'.turned (t' := s'.toks) (fun b o hb e => (sb.2 b hb).trans e) f0 f1 f3 f4 f5, rfl, q⟩
end
end Dc
/-! Pd18: sorted({pair: True for .. for ..}), by data. -/
namespace Dc
open PySem PySem.Spec PyProof.Rows L2 Pd
section
variable {X X' : Cx} {F : Fx} {ρ : Ev} {G H : Hp} {σ : L2.St} {K : PySem.W.Frag} {mg : Str → Option Value} {N : List Str} {sc scope : Scope} {k : Nat}
theorem dw_tupB {l : Expr} {ds : List D} (h : ∀ X', Bk X scope X' → PD X' F ρ l (.tuple ds)) : DW F ρ (iTup X.K (Pd.eB X scope l)) ds := fun G σ H I R q X' bk => h X' bk G σ H I _ fun d v G1 H1 e I1 s1 r => by
  subst e
  obtain ⟨a, vs, rfl, h1, h2⟩ := r.tupI
  exact ⟨a, rfl, ⟨vs, SqT.of (I1.sub a _ h1)⟩, q _ G1 H1 I1 s1 (walks_tup h1 h2)⟩
/-- the same object, spoken of in a block -/
theorem apart_blk {ρ2 : Ev} {σ2 : L2.St} {p : Addr} {vs : List Nat} (A : Apart F ρ σ p) (hp : ∀ i ∈ vs, plainAt ρ2 i = true) (h1 : ∀ i, i ∉ vs → ρ2[i]? = ρ[i]?) (h2 : L2.wipe σ2 vs = L2.wipe σ vs) : Apart F ρ2 σ2 p := by
  have hs : ∀ i, i ∉ vs → σ2[i]? = σ[i]? := fun i hi => by rw [← Pd.wipe_out σ2 vs i hi, h2, Pd.wipe_out σ vs i hi]
  refine ⟨A.w, A.h, fun i ds e => ?_, fun i ks e => ?_⟩
  · by_cases hi : i ∈ vs
    · have q := hp i hi
      unfold plainAt at q
      rw [e] at q
      cases q
    · rw [hs i hi]
      exact A.own i ds (by rw [← h1 i hi]; exact e)
  · by_cases hi : i ∈ vs
    · have q := hp i hi
      unfold plainAt at q
      rw [e] at q
      cases q
    · rw [hs i hi]
      exact A.dic i ks (by rw [← h1 i hi]; exact e)
def keysAll {α : Type} (js : α → List J) (xs : List α) : List J := (xs.flatMap js).foldl addK []
theorem addK_len (acc : List J) (j : J) : (addK acc j).length ≤ acc.length + 1 := by
  unfold addK
  split
  · omega
  · rw [List.length_append]; simp
theorem foldK_len : ∀ (l acc : List J), (l.foldl addK acc).length ≤ acc.length + l.length
  | [], acc => by simp
  | j :: l, acc => by
    have h1 := addK_len acc j
    have h2 := foldK_len l (addK acc j)
    rw [List.foldl_cons, List.length_cons]; omega
/-- the keys' objects are persistent -/
def KeysG (G : Hp) (xs : List (J × Addr)) : Prop := ∀ p ∈ xs, G p.2 = some (.tup (jV p.1))
theorem KeysG.up {G' : Hp} {xs : List (J × Addr)} (h : KeysG G xs) (s : Same G G') : KeysG G' xs := fun p hp => s _ _ (h p hp)
theorem KeysG.add {xs : List (J × Addr)} {j : J} {b : Addr} (h : KeysG G xs) (hb : G b = some (.tup (jV j))) : KeysG G (addJ xs j b) := fun p hp => by
  unfold addJ at hp
  split at hp
  · exact h p hp
  · rcases List.mem_append.mp hp with q | q
    · exact h p q
    · have e : p = (j, b) := by simpa using q
      subst e; exact hb
theorem flat_take {α : Type} {js : α → List J} {xs : List α} {i : Nat} {a : α} (h : xs[i]? = some a) : (xs.take (i + 1)).flatMap js = (xs.take i).flatMap js ++ js a := flat_step js h
theorem rp_eJ {v : V} {j : J} (r : Rp G v (eJ j)) : ∃ b, v = .ref b ∧ G b = some (.tup (jV j)) := by
  obtain ⟨b, vs, e, h1, h2⟩ := r.tupI
  cases h2 with
  | cons r1 h2 =>
    cases h2 with
    | cons r2 h2 =>
      cases h2
      cases r1
      cases r2
      exact ⟨b, e, h1⟩
theorem dj_go {α : Type} {enc : α → D} {xs : List α} {js : α → List J} {wi wi1 : TI} {g g1 : TG} {kx : Expr} {Ok Ok1 : D → Prop} {Tt Tt1 : D → Ev → Ev → Prop} {vs vs1 : List Nat} {Q : VK}
    (hd : DW F ρ wi (xs.map enc)) (dg : DG F g Ok Tt vs) (hok : ∀ a ∈ xs, Ok (enc a)) (hvs : vs.all (plainAt ρ) = true) (hsub : ∀ i ∈ vs1, i ∈ vs)
    (hin : ∀ a ∈ xs, ∀ ρ2, Tt (enc a) (wipeE ρ vs) ρ2 → vs.all (plainAt ρ2) = true ∧ DW F ρ2 wi1 ((js a).map eJ)) (dg1 : DG F g1 Ok1 Tt1 vs1) (hok1 : ∀ a ∈ xs, ∀ j ∈ js a, Ok1 (eJ j))
    (hkey : ∀ a ∈ xs, ∀ ρ2, Tt (enc a) (wipeE ρ vs) ρ2 → ∀ j ∈ js a, ∀ ρ3, Tt1 (eJ j) (wipeE ρ2 vs1) ρ3 → ∀ X', Bk X scope X' → PD X' F ρ3 kx (eJ j))
    (hsz : (xs.flatMap js).length < sizeLine) (I : SI F ρ G σ H)
    (q : ∀ D G' H' ys, H D = none → SI F ρ G' σ H' → Stp F G H G' H' → H' D = some (oJ X.prog X.w D ys) → G' D = none → Apart F ρ σ D → ys.map (·.1) = keysAll js xs → KeysG G' ys → Q (.ref D) H') :
    tDj X.prog X.w wi g wi1 g1 (Pd.eB X scope kx) vs vs1 σ H Q := by
  refine hd G σ H I _ fun L G1 H1 I1 s1 Wk D hD => ?_
  have A := I1.apart hD
  have g1p : G1 D = none := I1.sub.free hD
  have pl : ∀ i ∈ vs, plainAt ρ i = true := fun i hi => List.all_eq_true.mp hvs i hi
  have dl : (xs.map enc).length = xs.length := List.length_map _
  have n0 : Nx G1 H1 G1 (upd H1 D (oJ X.prog X.w D [])) := Nx.loose I1.sub hD
  refine ⟨fun i m H' => m = xs.length - i ∧ i ≤ xs.length ∧ ∃ G' ys, SI F ρ G' σ H' ∧ Stp F G1 H1 G' H' ∧ H' D = some (oJ X.prog X.w D ys) ∧ G' D = none ∧ ys.map (·.1) = keysAll js (xs.take i) ∧ KeysG G' ys,
    ⟨xs.length, by simp, Nat.zero_le _, G1, [], I1.nx n0, I1.stp n0, upd_same, g1p, rfl, fun _ h => by cases h⟩, ?_⟩
  rintro i m H' ⟨rfl, hi, G', ys, I', s', hH, hG, hy, hk⟩
  obtain ⟨w1, w2, w3⟩ := Wk G' H' s'.up I'.sub i
  by_cases hlt : i < xs.length
  · refine .inr ⟨w1 (by rw [dl]; exact hlt), fun H2 => ∃ G2 ys, SI F ρ G2 σ H2 ∧ Stp F G1 H1 G2 H2 ∧ H2 D = some (oJ X.prog X.w D ys) ∧ G2 D = none ∧ ys.map (·.1) = keysAll js (xs.take (i + 1)) ∧ KeysG G2 ys,
      fun H2 ⟨G2, ys, a, b, c, d, e, f⟩ => ⟨xs.length - (i + 1), by omega, rfl, hlt, G2, ys, a, b, c, d, e, f⟩, fun x H'' y => ?_⟩
    have ex : xs[i]? = some xs[i] := List.getElem?_eq_getElem hlt
    have ha : xs[i] ∈ xs := List.getElem_mem hlt
    obtain ⟨G'', n, rx⟩ := w3 x H'' (enc xs[i]) (by rw [List.getElem?_map, ex]; rfl) y
    refine dg _ x (wipeE ρ vs) G'' (L2.wipe σ vs) H'' (hok _ ha) rx ((I'.nx n).wipe vs) _ fun ρ2 σ2 t I2 hout hw => ?_
    have hw2 : L2.wipe σ2 vs = L2.wipe σ vs := hw.trans (wipe_twice σ vs)
    have hout2 : ∀ j, j ∉ vs → ρ2[j]? = ρ[j]? := fun j hj => (hout j hj).trans (wipeE_out ρ vs j hj)
    obtain ⟨pl2', dw1⟩ := hin _ ha ρ2 t
    have pl2 : ∀ i ∈ vs, plainAt ρ2 i = true := fun i hi => List.all_eq_true.mp pl2' i hi
    have A2 : Apart F ρ2 σ2 D := apart_blk A pl2 hout2 hw2
    have h2p : H'' D = some (oJ X.prog X.w D ys) := n.same D _ hH
    have g2p : G'' D = none := by rw [n.old D _ hH]; exact hG
    have k2 := hk.up (I'.up n)
    refine ⟨hw2, dw1 G'' σ2 H'' I2 _ fun L1 G3 H3 I3 s3 Wk1 => ?_⟩
    have sn : Stp F G1 H1 G3 H3 := s'.trans ((I'.stp n).trans s3)
    have dl1 : ((js xs[i]).map eJ).length = (js xs[i]).length := List.length_map _
    refine ⟨fun k m H' => m = (js xs[i]).length - k ∧ k ≤ (js xs[i]).length ∧ ∃ G' ys, SI F ρ2 G' σ2 H' ∧ Same G3 G' ∧ Stp F G1 H1 G' H' ∧ H' D = some (oJ X.prog X.w D ys) ∧ G' D = none ∧ ys.map (·.1) = ((xs.take i).flatMap js ++ (js xs[i]).take k).foldl addK [] ∧ KeysG G' ys,
      ⟨(js xs[i]).length, by simp, Nat.zero_le _, G3, ys, I3, Same.refl _, sn, s3.keep D _ h2p A.w, by rw [s3.old D _ h2p A.w]; exact g2p, by rw [List.take_zero, List.append_nil]; exact hy, k2.up s3.up⟩, ?_⟩
    rintro k m H4 ⟨rfl, hki, G4, ys, I4, s4, t4, hH4, hG4, hy4, hk4⟩
    obtain ⟨v1, v2, v3⟩ := Wk1 G4 H4 s4 I4.sub k
    by_cases hlk : k < (js xs[i]).length
    · refine .inr ⟨v1 (by rw [dl1]; exact hlk), fun H' => ∃ G' ys, SI F ρ2 G' σ2 H' ∧ Same G3 G' ∧ Stp F G1 H1 G' H' ∧ H' D = some (oJ X.prog X.w D ys) ∧ G' D = none ∧ ys.map (·.1) = ((xs.take i).flatMap js ++ (js xs[i]).take (k + 1)).foldl addK [] ∧ KeysG G' ys,
        fun H2 ⟨G2, ys, a, b, c, d, e, f, g⟩ => ⟨(js xs[i]).length - (k + 1), by omega, rfl, hlk, G2, ys, a, b, c, d, e, f, g⟩, fun z H5 y1 => ?_⟩
      have ej : (js xs[i])[k]? = some (js xs[i])[k] := List.getElem?_eq_getElem hlk
      have hj : (js xs[i])[k] ∈ js xs[i] := List.getElem_mem hlk
      obtain ⟨G5, n5, rz⟩ := v3 z H5 (eJ (js xs[i])[k]) (by rw [List.getElem?_map, ej]; rfl) y1
      refine dg1 _ z (wipeE ρ2 vs1) G5 (L2.wipe σ2 vs1) H5 (hok1 _ ha _ hj) rz ((I4.nx n5).wipe vs1) _ fun ρ3 σ3 t3 I5 hout3 hw3 => ?_
      have hw4 : L2.wipe σ3 vs1 = L2.wipe σ2 vs1 := hw3.trans (wipe_twice σ2 vs1)
      have hout4 : ∀ j, j ∉ vs1 → ρ3[j]? = ρ2[j]? := fun j hj => (hout3 j hj).trans (wipeE_out ρ2 vs1 j hj)
      refine ⟨hw4, fun X' bk => hkey _ ha ρ2 t _ hj ρ3 t3 X' bk G5 σ3 H5 I5 _ fun d v G6 H6 ed I6 s6 r6 => ?_⟩
      subst ed
      obtain ⟨b, rfl, hb⟩ := rp_eJ r6
      have st := (I4.stp n5).trans s6
      have hH6 : H6 D = some (oJ X.prog X.w D ys) := s6.keep D _ (n5.same D _ hH4) A.w
      have hG6 : G6 D = none := by rw [st.old D _ hH4 A.w]; exact hG4
      have J6 : SI F ρ2 G6 σ2 H6 := I4.back I6 vs1 st.up (fun i hi => pl2 i (hsub i hi)) hout4 hw4
      have k6 := hk4.up st.up
      have hz : ys.length < sizeLine := by
        have e1 : ys.length = (ys.map (·.1)).length := (List.length_map _).symm
        rw [e1, hy4]
        refine Nat.lt_of_le_of_lt (foldK_len _ _) (Nat.lt_of_le_of_lt ?_ hsz)
        rw [List.length_nil, Nat.zero_add]
        have e2 : (xs.take i).flatMap js ++ (js xs[i]).take k = (xs.take i).flatMap js ++ (js xs[i]).take k := rfl
        have e3 : ((xs.take (i + 1)).flatMap js).length ≤ (xs.flatMap js).length := by
          have : xs.flatMap js = (xs.take (i + 1)).flatMap js ++ (xs.drop (i + 1)).flatMap js := by rw [← List.flatMap_append, List.take_append_drop]
          rw [this, List.length_append]; omega
        rw [flat_take ex, List.length_append] at e3
        rw [List.length_append]
        have := List.length_take_le' k (js xs[i])
        omega
      refine ⟨ys, _, b, rfl, hH6, fun p hp => I6.sub _ _ (k6 p hp), I6.sub _ _ hb, hz, G6, addJ ys (js xs[i])[k] b, J6.touch A2 hG6 _, s4.trans st.up, (t4.trans st).touch hD, upd_same, hG6, ?_, k6.add hb⟩
      · rw [addJ_fst, hy4, List.take_add_one, ej, ← List.append_assoc, List.foldl_append (l' := (some (js xs[i])[k]).toList)]
        rfl
    · have e : k = (js xs[i]).length := by omega
      subst e
      rw [List.take_length] at hy4
      exact .inl ⟨v2 (Nat.le_of_eq dl1), G4, ys, I'.back I4 vs ((I'.up n).trans (s3.up.trans s4)) pl hout2 hw2, t4, hH4, hG4, by rw [hy4, keysAll, flat_take ex], hk4⟩
  · have e : i = xs.length := by omega
    subst e
    rw [List.take_length] at hy
    exact .inl ⟨w2 (Nat.le_of_eq dl), q D G' H' ys (s1.free hD A.w) I' (s1.trans s') hH hG A hy hk⟩
end
end Dc
/-! W16: joints_of. -/
namespace Dc
open PySem PySem.Spec PyProof.Rows L2 Pd
theorem Bk_hK {X X' : Cx} {scope : Scope} (b : Bk X scope X') : X'.K = X.K := by
  obtain ⟨s0, H0, C, cl, fp, rfl⟩ := b.ex
  rfl
theorem pi_tupB {X X' : Cx} {scope : Scope} {tg e : Expr} (b : Bk X scope X') : PI X' tg e (iTup X.K (Pd.eB X scope e)) := by
  have q : PI X' tg e (iTup X'.K (Pd.eB X scope e)) := pi_tup ⟨fun pins s2 σ2 H2 Q2 I2 h => h X' b pins s2 I2⟩
  rw [Bk_hK b] at q
  exact q
theorem dg_name_in {F : Fx} (i : Nat) (vs : List Nat) (h : i ∈ vs) : DG F (gName i) (fun _ => True) (gT1 i) vs := fun d v ρ G σ H _ r I Q q => q _ _ rfl (I.setD r) (fun j hj => List.getElem?_set_ne (fun z => hj (by rw [← z]; exact h))) (Pd.wipe_set_mem vs i h)
section
variable {X : Cx} {F : Fx} {ρ : Ev} {K : PySem.W.Frag} {mg : Str → Option Value} {N : List Str} {sc scope : Scope} {k : Nat}
theorem po_sorted_dj {α : Type} {enc : α → D} {xs : List α} {js : α → List J} {wi : TI} {g g1 : TG} {kx t0 i0 t1 i1 : Expr} {Ok Ok1 : D → Prop} {Tt Tt1 : D → Ev → Ev → Prop} {own : List (Str × Nat)} {vs1 : List Nat} {pos p p1 pos' : Pos} {j1 : Nat}
    (B : Bd X K mg N sc k) (T : Bt mg) (hg : sc.names.lookup ("sorted" : Str) = some .globalImplicit) (hi : PI X t0 i0 wi) (ok : BlkOk N sc scope own) (hv : ∀ i ∈ vs1, i ∈ own.map (·.2))
    (hb : ∀ X', Bk X scope X' → PG X' t0 g ∧ PG X' t1 g1)
    (hd : DW F ρ wi (xs.map enc)) (dg : DG F g Ok Tt (own.map (·.2))) (hok : ∀ a ∈ xs, Ok (enc a)) (hvs : (own.map (·.2)).all (plainAt ρ) = true)
    (hin : ∀ a ∈ xs, ∀ ρ2, Tt (enc a) (wipeE ρ (own.map (·.2))) ρ2 → (own.map (·.2)).all (plainAt ρ2) = true ∧ ∀ X', Bk X scope X' → PD X' F ρ2 i1 (.tuple ((js a).map eJ))) (dg1 : DG F g1 Ok1 Tt1 vs1) (hok1 : ∀ a ∈ xs, ∀ j ∈ js a, Ok1 (eJ j))
    (hkey : ∀ a ∈ xs, ∀ ρ2, Tt (enc a) (wipeE ρ (own.map (·.2))) ρ2 → ∀ j ∈ js a, ∀ ρ3, Tt1 (eJ j) (wipeE ρ2 vs1) ρ3 → ∀ X', Bk X scope X' → PD X' F ρ3 kx (eJ j))
    (hsz : (xs.flatMap js).length < sizeLine) (S : Sd ((keysAll js xs).map eJ)) (hs : ∀ x, foldedSetIterable i0 X.env x = pure x := by intro _; rfl) (hs1 : ∀ env x, foldedSetIterable i1 env x = pure x := by intro _ _; rfl)
    (hst : starEach [dcX kx t0 i0 t1 i1 scope pos j1 p1] X.env = (false, eval (dcX kx t0 i0 t1 i1 scope pos j1 p1) X.env) :: starEach [] X.env := by rfl) (hpl : (backTo pos' (starEach [] X.env)).any (·.1) = false := by rfl) :
    PO X F ρ (.Call (.Name "sorted" p) [dcX kx t0 i0 t1 i1 scope pos j1 p1] [] pos') fun x => x = sortD ((keysAll js xs).map eJ) := fun G σ H I Q q =>
  tE_of (pe_callB (call_sortG B.u70) (B.gl hg) (by rw [B.hmg]; exact T.sorted) boot_sorted (pa_cons (pe_dj (wi := wi) (g := g) (wi1 := iTup X.K (Pd.eB X scope i1)) (g1 := g1) (tk := Pd.eB X scope kx) (own := own) (vs1 := vs1) B.calm (by have := B.u64; omega) (by rw [B.hN]; exact B.nd) hi (by rw [B.hN, B.hsc]; exact ok) hv
      (fun X' bk => ⟨(hb X' bk).1, pi_tupB bk, (hb X' bk).2, ⟨fun pins s2 σ2 H2 Q2 I2 h => h X' bk pins s2 I2⟩⟩) hs hs1) pa_nil hst) (by decide) (by decide) hst hpl)
    (show tDj X.prog X.w wi g (iTup X.K (Pd.eB X scope i1)) g1 (Pd.eB X scope kx) (own.map (·.2)) vs1 σ H (fun v H1 => rSortG X [v] H1 Q) from dj_go hd dg hok hvs hv (fun a ha ρ2 t => ⟨(hin a ha ρ2 t).1, dw_tupB (hin a ha ρ2 t).2⟩) dg1 hok1 hkey hsz I fun p0 G1 H1 ys h0 I1 s1 hD gD A hy hk => by
      have e1 : (ys.map fun p => ((V.ref p.2, eJ p.1) : V × D)).map (·.1) = ys.map fun p => V.ref p.2 := by rw [List.map_map]; rfl
      have e2 : (ys.map fun p => ((V.ref p.2, eJ p.1) : V × D)).map (·.2) = (keysAll js xs).map eJ := by rw [← hy, List.map_map, List.map_map]; rfl
      have rp : ∀ b ∈ ys.map fun p => ((V.ref p.2, eJ p.1) : V × D), Rp G1 b.1 b.2 := fun b hb => by
        obtain ⟨p, hp, rfl⟩ := List.mem_map.mp hb
        exact .tup (hk p hp) (.cons (.int _) (.one (.int _)))
      have hl : ys.length ≤ sizeLine := by
        have := S.len
        rw [List.length_map, ← hy, List.length_map] at this
        exact this
      refine ⟨.ref p0, ys.map fun p => (.ref p.2, eJ p.1), rfl, by rw [e1]; exact jdict_col B.calm hD hl, fun b hb => ((rp b hb).up I1.sub).dp, ⟨by rw [e2]; exact S.al, by rw [e2]; exact S.so, by rw [List.length_map]; exact hl, fun b hb => ?_⟩, fun l hl => ?_⟩
      · refine S.dep _ ?_
        rw [← e2]
        exact List.mem_map_of_mem hb
      · have m := Nx.loose (o := .lst ((sortZ (ys.map fun p => ((V.ref p.2, eJ p.1) : V × D))).map (·.1))) I1.sub hl
        have A := I1.apart hl
        refine q _ l _ G1 _ rfl (s1.free hl A.w) (I1.nx m) (s1.trans (I1.stp m)) upd_same (I1.sub.free hl) A ?_
        rw [← e2, ← sortZ_snd]
        refine rp_of fun b hb => rp b ?_
        unfold sortZ at hb
        exact (List.mem_mergeSort).mp hb)
end
/-! the same joints, however they are picked -/
theorem foldK_nodup : ∀ (l acc : List J), acc.Nodup → (l.foldl addK acc).Nodup ∧ ∀ j, j ∈ l.foldl addK acc ↔ j ∈ acc ∨ j ∈ l
  | [], acc, h => ⟨h, fun j => by simp⟩
  | a :: l, acc, h => by
    have h1 : (addK acc a).Nodup ∧ ∀ j, j ∈ addK acc a ↔ j ∈ acc ∨ j = a := by
      unfold addK
      split
      · rename_i q
        exact ⟨h, fun j => ⟨.inl, fun z => z.elim id fun e => e ▸ q⟩⟩
      · rename_i q
        refine ⟨?_, fun j => by simp⟩
        rw [List.nodup_append]
        exact ⟨h, by simp, fun x hx y hy e => q (by
          have : y = a := by simpa using hy
          rw [← this, ← e]; exact hx)⟩
    obtain ⟨a1, a2⟩ := foldK_nodup l (addK acc a) h1.1
    refine ⟨a1, fun j => ?_⟩
    rw [List.foldl_cons, a2 j, h1.2 j, List.mem_cons, or_assoc]
theorem keysAll_sort {n : Int} {t : T} (h : t.ok n) : (keysAll Lay.js t.leaves).mergeSort leJ = joints t := by
  obtain ⟨a, b⟩ := foldK_nodup (t.leaves.flatMap Lay.js) [] List.nodup_nil
  refine eq_of_sorted (sort_sorted a) (joints_sorted h) fun j => ?_
  rw [sort_mem, joints_mem h, keysAll, b j, List.mem_flatMap]
  simp
theorem keysAll_ok {n : Int} {t : T} (h : t.ok n) : (keysAll Lay.js t.leaves).Nodup ∧ ∀ j ∈ keysAll Lay.js t.leaves, okJ n j := by
  obtain ⟨a, b⟩ := foldK_nodup (t.leaves.flatMap Lay.js) [] List.nodup_nil
  refine ⟨a, fun j hj => ?_⟩
  rw [keysAll, b j, List.mem_flatMap] at hj
  rcases hj with hj | ⟨l, h1, h2⟩
  · cases hj
  · obtain ⟨c, d⟩ := ok_leaves h l h1
    rw [← d]; exact c.js j h2
variable {P : Program} {w : World} {K : PySem.W.Frag} {mg : Str → Option Value} {base : Heap}
theorem flat_few {n : Int} {t : T} (h : t.ok n) : (t.leaves.flatMap Lay.js).length ≤ 576 * t.leaves.length := flat_len Lay.js t.leaves fun l hl => ok_few (ok_leaves h l hl).1
theorem ok_joints_of (Fu : Df K mg "joints_of" s_joints_of p_joints_of) (T' : Bt mg) (C1 : Cal P w K mg base 9 "leaves_in" p_leaves_in (spP (cLeaves 8))) : Cal P w K mg base 10 "joints_of" p_joints_of (spP cJoints) := by
  refine Fu.fn sc_joints_of (fun a _ => rfl) fun X F a B0 _ ha => ?_
  have B := B0.toBd
  obtain ⟨n, t⟩ := a
  replace ha : TOk n 8 t := ha
  obtain ⟨k1, k2⟩ := keysAll_ok ha.ok
  refine sd_start (ρ1 := [.dat (eT t), .un, .un]) rfl (sd_one (s_ret ((PO.pd (po_sorted_dj (α := Lay) (enc := eL) (xs := t.leaves) (js := Lay.js) (Ok := fun _ => True) (Ok1 := fun _ => True) (Tt := gT1 1) (Tt1 := gT1 2) (own := [("lay", 1), ("joint", 2)]) (vs1 := [2]) (g := gName 1) (g1 := gName 2) B T' rfl (pi_list cE)
    (blkOk_by (by decide +kernel)) (by simp) (fun X' bk => ⟨bk_name bk B 1 rfl rfl, bk_name bk B 2 rfl rfl⟩) (dw_list (pd_callR (c := cLeaves 8) (n, t) _ (fun _ z => z) B0.at B C1 (by decide) rfl (pds_cons (gv B 0 rfl) pns_nil) ha)) (dg_name_in 1 _ (by simp)) (fun _ _ => trivial) rfl ?_ (dg_name 2) (fun _ _ _ _ => trivial) ?_ ?_ (sd_js ha.n2 k1 k2))).imp fun r e => ?_)))
  · intro l _ ρ2 q
    subst q
    refine ⟨rfl, fun X' bk => ?_⟩
    have B' := bk.bd B
    exact pd_ixT (n := 1) (ds := [.int l.n, .tuple (l.js.map eJ)]) (gv B' 1 rfl) rfl
  · intro l _ ρ2 q j _ ρ3 q1 X' bk
    subst q
    subst q1
    have B' := bk.bd B
    exact gv B' 2 rfl
  · have h1 := flat_few ha.ok
    have h2 := ha.lv
    exact line_lt (by omega)
  · show r = _
    rw [e, sort_eJ, keysAll_sort ha.ok]
end Dc
/-! Pd19: the law's draws: a dict with text keys; while. -/
namespace Dc
open PySem PySem.Spec PyProof.Rows L2 Pd
/-! what it holds: the great numbers that are left, how many draws, the mix -/
def mKv (v : V) (a m : Int) : List (L2.Key × V) := [(.inr "left", v), (.inr "at", .int a), (.inr "mixed", .int m)]
theorem mKv_left (v : V) (a m : Int) : valV (mKv v a m) (.inr "left") = some v := valV_pos rfl
theorem ne_la : ¬ ((Sum.inr ("left" : Str) : L2.Key) = Sum.inr ("at" : Str)) := by decide +kernel
theorem ne_lm : ¬ ((Sum.inr ("left" : Str) : L2.Key) = Sum.inr ("mixed" : Str)) := by decide +kernel
theorem ne_am : ¬ ((Sum.inr ("at" : Str) : L2.Key) = Sum.inr ("mixed" : Str)) := by decide +kernel
theorem mKv_at (v : V) (a m : Int) : valV (mKv v a m) (.inr "at") = some (.int a) := (valV_neg ne_la).trans (valV_pos rfl)
theorem mKv_mixed (v : V) (a m : Int) : valV (mKv v a m) (.inr "mixed") = some (.int m) := (valV_neg ne_lm).trans ((valV_neg ne_am).trans (valV_pos rfl))
theorem put_left (v u : V) (a m : Int) : putK (mKv v a m) (.inr "left") u = mKv u a m := by
  have h1 := ne_la
  have h2 := ne_lm
  simp only [putK, mKv, List.any_cons, List.any_nil, List.map_cons, List.map_nil, decide_true, Bool.true_or, if_true]
  rw [if_neg (fun e => h1 e.symm), if_neg (fun e => h2 e.symm)]
theorem put_at (v : V) (a b m : Int) : putK (mKv v a m) (.inr "at") (.int b) = mKv v b m := by
  have h1 := ne_la
  have h2 := ne_am
  simp only [putK, mKv, List.any_cons, List.any_nil, List.map_cons, List.map_nil, decide_true, Bool.true_or, Bool.or_true, if_true]
  rw [if_neg h1, if_neg (fun e => h2 e.symm)]
theorem put_mixed (v : V) (a m n : Int) : putK (mKv v a m) (.inr "mixed") (.int n) = mKv v a n := by
  have h1 := ne_lm
  have h2 := ne_am
  simp only [putK, mKv, List.any_cons, List.any_nil, List.map_cons, List.map_nil, decide_true, Bool.true_or, Bool.or_true, if_true]
  rw [if_neg h1, if_neg h2]
def mCon (ns : List Int) (a m : Int) : List D := [.list (ns.map .int), .int a, .int m]
def RDr : Rel := fun c G H p => ∃ (v : V) (ns : List Int) (a m : Int), H p = some (.dK (mKv v a m)) ∧ Rp G v (.list (ns.map .int)) ∧ ns.length ≤ 63 ∧ (c = [] ∨ c = mCon ns a m)
theorem RDr.mv : RelM RDr := fun c G H p G' H' ⟨v, ns, a, m, h1, h2, h3⟩ e s => ⟨v, ns, a, m, by rw [e]; exact h1, h2.up s, h3⟩
theorem RDr.weak {c : List D} {G H : Hp} {p : Addr} (h : RDr c G H p) : RDr [] G H p := by
  obtain ⟨v, ns, a, m, h1, h2, h3, _⟩ := h
  exact ⟨v, ns, a, m, h1, h2, h3, .inl rfl⟩
theorem map_int_inj {a b : List Int} (h : a.map PyData.int = b.map .int) : a = b := by
  induction a generalizing b with
  | nil => cases b with
    | nil => rfl
    | cons _ _ => cases h
  | cons x a ih => cases b with
    | nil => cases h
    | cons y b =>
      rw [List.map_cons, List.map_cons, List.cons.injEq] at h
      have e : x = y := by injection h.1
      rw [e, ih h.2]
theorem RDr.at {ns : List Int} {a m : Int} {G H : Hp} {p : Addr} (h : RDr (mCon ns a m) G H p) : ∃ v, H p = some (.dK (mKv v a m)) ∧ Rp G v (.list (ns.map .int)) ∧ ns.length ≤ 63 := by
  obtain ⟨v, ns', a', m', h1, h2, h3, h4⟩ := h
  rcases h4 with h4 | h4
  · cases h4
  · unfold mCon at h4
    simp only [List.cons.injEq, PyData.list.injEq, PyData.int.injEq, and_true] at h4
    obtain ⟨e1, e2, e3⟩ := h4
    have e1' := map_int_inj e1
    subst e1' e2 e3
    exact ⟨v, h1, h2, h3⟩
/-- only slot i is the object that may change -/
def OneRes (ρ : Ev) (i : Nat) : Prop := ∀ (j : Nat) (c : List D), j ≠ i → ρ[j]? ≠ some (.res c)
section
variable {X : Cx} {F : Fx} {ρ : Ev} {G H : Hp} {σ : L2.St} {K : PySem.W.Frag} {mg : Str → Option Value} {N : List Str} {sc scope : Scope} {k : Nat} {R : D → Ev → Prop} {Nn : Ev → Prop} {a b e : Expr} {pos p1 p2 : Pos} {d : D} {sts : List Stmt}
/-- the object that may change is written -/
theorem setRes (I : SI F ρ G σ H) {i : Nat} {c c' : List D} {p : Addr} {o : HO} (ho : ρ[i]? = some (.res c)) (hone : OneRes ρ i) (hw : F.w = some p) (hR : F.R c' G (upd H p o) p) : SI F (ρ.set i (.res c')) G σ (upd H p o) := by
  obtain ⟨p', k1, k2, k3, k4⟩ := I.sl i _ ho
  rw [hw] at k2
  cases k2
  have nh : ∀ {b : Addr}, F.H0 b = none → b ≠ p := fun z q => F.hw p hw (q ▸ z)
  refine ⟨fun b u q => ?_, fun b u q z => ?_, fun b z => ?_, I.old, by rw [List.length_set]; exact I.len, fun j s q => ?_⟩
  · rw [upd_ne (ne_of_none q k3)]; exact I.sub b u q
  · rw [upd_ne (fun y => z (by rw [y]; exact hw))]; exact I.keep b u q z
  · rw [hw] at z
    cases z
    rw [upd_same]
    exact fun y => nomatch y
  · by_cases z : i = j
    · subst z
      rw [List.getElem?_set_self (List.getElem?_eq_some_iff.mp ho).1] at q
      cases q
      exact ⟨p, k1, hw, k3, hR⟩
    · rw [List.getElem?_set_ne z] at q
      have kk := I.sl j s q
      cases s with
      | un => trivial
      | dat d => exact kk
      | own es =>
        obtain ⟨b, us, e1, e2, e3, e4, e5⟩ := kk
        exact ⟨b, us, e1, by rw [upd_ne (nh e4)]; exact e2, e3, e4, e5⟩
      | res c' => exact absurd q (hone j c' (Ne.symm z))
      | dic ks =>
        obtain ⟨b, e1, e2, e3, e4⟩ := kk
        exact ⟨b, e1, by rw [upd_ne (nh e4)]; exact e2, e3, e4⟩
/-- what it is said to hold, said otherwise -/
theorem sayRes (I : SI F ρ G σ H) {i : Nat} {c c' : List D} (ho : ρ[i]? = some (.res c)) (h : ∀ p, F.w = some p → F.R c G H p → F.R c' G H p) : SI F (ρ.set i (.res c')) G σ H := by
  obtain ⟨p, k1, k2, k3, k4⟩ := I.sl i _ ho
  refine ⟨I.sub, I.keep, I.wt, I.old, by rw [List.length_set]; exact I.len, fun j s q => ?_⟩
  by_cases z : i = j
  · subst z
    rw [List.getElem?_set_self (List.getElem?_eq_some_iff.mp ho).1] at q
    cases q
    exact ⟨p, k1, k2, k3, h p k2 k4⟩
  · rw [List.getElem?_set_ne z] at q
    exact I.sl j s q
theorem sd_know (i : Nat) (hF : F.R = RDr) (ho : ρ[i]? = some (.res [])) (h : ∀ (ns : List Int) (a m : Int), ns.length ≤ 63 → SD X F (ρ.set i (.res (mCon ns a m))) sts Nn R) : SD X F ρ sts Nn R := fun G σ H I E n r => by
  obtain ⟨p, k1, k2, k3, k4⟩ := I.sl i _ ho
  rw [hF] at k4
  obtain ⟨v, ns, a, m, h1, h2, h3, _⟩ := k4
  refine h ns a m h3 G σ H (sayRes I ho fun p' w' _ => ?_) E n r
  rw [k2] at w'
  cases w'
  rw [hF]
  exact ⟨v, ns, a, m, h1, h2, h3, .inr rfl⟩
theorem sd_forget (i : Nat) (hF : F.R = RDr) {c : List D} (ho : ρ[i]? = some (.res c)) (h : SD X F (ρ.set i (.res [])) sts Nn R) : SD X F ρ sts Nn R := fun G σ H I E n r =>
  h G σ H (sayRes I ho fun p _ q => by rw [hF] at q ⊢; exact q.weak) E n r
/-! m['left'], m['at'], m['mixed'] -/
theorem res_m (hF : F.R = RDr) (I : SI F ρ G σ H) {i : Nat} {ns : List Int} {a m : Int} (ho : ρ[i]? = some (.res (mCon ns a m))) : ∃ p v, σ[i]? = some (some (.ref p)) ∧ F.w = some p ∧ G p = none ∧ H p = some (.dK (mKv v a m)) ∧ Rp G v (.list (ns.map .int)) ∧ ns.length ≤ 63 := by
  obtain ⟨p, k1, k2, k3, k4⟩ := I.sl i _ ho
  rw [hF] at k4
  obtain ⟨v, h1, h2, h3⟩ := k4.at
  exact ⟨p, v, some_join k1, k2, k3, h1, h2, h3⟩
theorem Bd.u1 (B : Bd X K mg N sc k) : X.A.units + 1 < cLine := by have := B.u64; omega
section
variable {i j1 : Nat} {x : Str} {ns : List Int} {am mx : Int}
theorem pd_left (B : Bd X K mg N sc k) (hF : F.R = RDr) (i : Nat) (ho : ρ[i]? = some (.res (mCon ns am mx))) (hN : N[i]? = some x) (hv : Vis sc x) (hs : NoSl (.Constant (.str "left") j1 p2) := by exact fun _ _ => rfl) (hd : (x == ("__debug__" : Str)) = false := by decide) (hcd : (x == ("__classdict__" : Str)) = false := by decide) :
    PD X F ρ (.Subscript (.Name x p1) (.Constant (.str "left") j1 p2) pos) (.list (ns.map .int)) := fun G σ H I Q q => by
  obtain ⟨p, v, k1, k2, k3, k4, k5, k6⟩ := res_m hF I ho
  exact tE_of (pe_dget (Bd.u1 B) (pe_var (i := i) (by rw [B.hN]; exact hN) (by rw [B.hsc]; exact hv) hd hcd) pe_str hs) ⟨.ref p, k1, p, v, rfl, by rw [← mKv_left v am mx]; exact DGet.k (k := .inr "left") k4, q _ _ G H rfl I Stp.refl k5⟩
theorem pd_at (B : Bd X K mg N sc k) (hF : F.R = RDr) (i : Nat) (ho : ρ[i]? = some (.res (mCon ns am mx))) (hN : N[i]? = some x) (hv : Vis sc x) (hs : NoSl (.Constant (.str "at") j1 p2) := by exact fun _ _ => rfl) (hd : (x == ("__debug__" : Str)) = false := by decide) (hcd : (x == ("__classdict__" : Str)) = false := by decide) :
    PD X F ρ (.Subscript (.Name x p1) (.Constant (.str "at") j1 p2) pos) (.int am) := fun G σ H I Q q => by
  obtain ⟨p, v, k1, k2, k3, k4, k5, k6⟩ := res_m hF I ho
  exact tE_of (pe_dget (Bd.u1 B) (pe_var (i := i) (by rw [B.hN]; exact hN) (by rw [B.hsc]; exact hv) hd hcd) pe_str hs) ⟨.ref p, k1, p, .int am, rfl, by rw [← mKv_at v am mx]; exact DGet.k (k := .inr "at") k4, q _ _ G H rfl I Stp.refl (.int _)⟩
theorem pd_mixed (B : Bd X K mg N sc k) (hF : F.R = RDr) (i : Nat) (ho : ρ[i]? = some (.res (mCon ns am mx))) (hN : N[i]? = some x) (hv : Vis sc x) (hs : NoSl (.Constant (.str "mixed") j1 p2) := by exact fun _ _ => rfl) (hd : (x == ("__debug__" : Str)) = false := by decide) (hcd : (x == ("__classdict__" : Str)) = false := by decide) :
    PD X F ρ (.Subscript (.Name x p1) (.Constant (.str "mixed") j1 p2) pos) (.int mx) := fun G σ H I Q q => by
  obtain ⟨p, v, k1, k2, k3, k4, k5, k6⟩ := res_m hF I ho
  exact tE_of (pe_dget (Bd.u1 B) (pe_var (i := i) (by rw [B.hN]; exact hN) (by rw [B.hsc]; exact hv) hd hcd) pe_str hs) ⟨.ref p, k1, p, .int mx, rfl, by rw [← mKv_mixed v am mx]; exact DGet.k (k := .inr "mixed") k4, q _ _ G H rfl I Stp.refl (.int _)⟩
theorem s_left (B : Bd X K mg N sc k) (hF : F.R = RDr) (i : Nat) {ms : List Int} (ho : ρ[i]? = some (.res (mCon ns am mx))) (hone : OneRes ρ i) (hN : N[i]? = some x) (hv : Vis sc x) (h : PD X F ρ e (.list (ms.map .int))) (hl : ms.length ≤ 63) (hs : NoSl (.Constant (.str "left") j1 p2) := by exact fun _ _ => rfl) (hd : (x == ("__debug__" : Str)) = false := by decide) (hcd : (x == ("__classdict__" : Str)) = false := by decide)
    {pos' : Pos} (hsw : swapsWith e (some (.Subscript (.Name x p1) (.Constant (.str "left") j1 p2) pos')) pos.line X.env = pure false := by rfl) :
    S1 X F ρ (.Assign [.Subscript (.Name x p1) (.Constant (.str "left") j1 p2) pos'] e pos) (fun ρ' => ρ' = ρ.set i (.res (mCon ms am mx))) R := fun G σ H I E n r =>
  tS_of (ps_dput (Bd.u1 B) (pe_var (i := i) (by rw [B.hN]; exact hN) (by rw [B.hsc]; exact hv) hd hcd) pe_str cE hsw) (h G σ H I _ fun d v G1 H1 ed I1 s1 r1 => by
    subst ed
    obtain ⟨p, u, k1, k2, k3, k4, k5, k6⟩ := res_m hF I1 ho
    refine ⟨.ref p, k1, p, _, rfl, DPut.k (k := .inr "left") k4 (line_lt (by show 3 ≤ 100000; decide)), n _ G1 σ _ rfl (setRes I1 ho hone k2 ?_) s1.up⟩
    rw [hF, put_left]
    exact ⟨v, ms, am, mx, upd_same, r1, hl, .inr rfl⟩)
theorem s_at (B : Bd X K mg N sc k) (hF : F.R = RDr) (i : Nat) {y : Int} (ho : ρ[i]? = some (.res (mCon ns am mx))) (hone : OneRes ρ i) (hN : N[i]? = some x) (hv : Vis sc x) (h : PD X F ρ e (.int y)) (hs : NoSl (.Constant (.str "at") j1 p2) := by exact fun _ _ => rfl) (hd : (x == ("__debug__" : Str)) = false := by decide) (hcd : (x == ("__classdict__" : Str)) = false := by decide)
    {pos' : Pos} (hsw : swapsWith e (some (.Subscript (.Name x p1) (.Constant (.str "at") j1 p2) pos')) pos.line X.env = pure false := by rfl) :
    S1 X F ρ (.Assign [.Subscript (.Name x p1) (.Constant (.str "at") j1 p2) pos'] e pos) (fun ρ' => ρ' = ρ.set i (.res (mCon ns y mx))) R := fun G σ H I E n r =>
  tS_of (ps_dput (Bd.u1 B) (pe_var (i := i) (by rw [B.hN]; exact hN) (by rw [B.hsc]; exact hv) hd hcd) pe_str cE hsw) (h G σ H I _ fun d v G1 H1 ed I1 s1 r1 => by
    subst ed
    cases r1
    obtain ⟨p, u, k1, k2, k3, k4, k5, k6⟩ := res_m hF I1 ho
    refine ⟨.ref p, k1, p, _, rfl, DPut.k (k := .inr "at") k4 (line_lt (by show 3 ≤ 100000; decide)), n _ G1 σ _ rfl (setRes I1 ho hone k2 ?_) s1.up⟩
    rw [hF, put_at]
    exact ⟨u, ns, y, mx, upd_same, k5, k6, .inr rfl⟩)
theorem s_mixed (B : Bd X K mg N sc k) (hF : F.R = RDr) (i : Nat) {y : Int} (ho : ρ[i]? = some (.res (mCon ns am mx))) (hone : OneRes ρ i) (hN : N[i]? = some x) (hv : Vis sc x) (h : PD X F ρ e (.int y)) (hs : NoSl (.Constant (.str "mixed") j1 p2) := by exact fun _ _ => rfl) (hd : (x == ("__debug__" : Str)) = false := by decide) (hcd : (x == ("__classdict__" : Str)) = false := by decide)
    {pos' : Pos} (hsw : swapsWith e (some (.Subscript (.Name x p1) (.Constant (.str "mixed") j1 p2) pos')) pos.line X.env = pure false := by rfl) :
    S1 X F ρ (.Assign [.Subscript (.Name x p1) (.Constant (.str "mixed") j1 p2) pos'] e pos) (fun ρ' => ρ' = ρ.set i (.res (mCon ns am y))) R := fun G σ H I E n r =>
  tS_of (ps_dput (Bd.u1 B) (pe_var (i := i) (by rw [B.hN]; exact hN) (by rw [B.hsc]; exact hv) hd hcd) pe_str cE hsw) (h G σ H I _ fun d v G1 H1 ed I1 s1 r1 => by
    subst ed
    cases r1
    obtain ⟨p, u, k1, k2, k3, k4, k5, k6⟩ := res_m hF I1 ho
    refine ⟨.ref p, k1, p, _, rfl, DPut.k (k := .inr "mixed") k4 (line_lt (by show 3 ≤ 100000; decide)), n _ G1 σ _ rfl (setRes I1 ho hone k2 ?_) s1.up⟩
    rw [hF, put_mixed]
    exact ⟨u, ns, am, y, upd_same, k5, k6, .inr rfl⟩)
end
/-- while, over states f a -/
theorem s_while {α : Type} {c : Expr} {body : List Stmt} (hxe : X.xe = fun _ _ => False) (f : α → Ev) (μ : α → Nat) (tb : α → Bool) (a0 : α) (h0 : ρ = f a0) (hc : ∀ a, PB X F (f a) c fun q => q = tb a)
    (hb : ∀ a, tb a = true → SD X F (f a) body (fun ρ' => ∃ a', ρ' = f a' ∧ μ a' < μ a) R) : S1 X F ρ (.While c body [] pos) (fun ρ' => ∃ a, ρ' = f a ∧ tb a = false) R := fun G σ H I E n r => by
  subst h0
  refine tS_of (ps_while (by rw [hxe]; exact PassesOwn.never) cT cSs) ⟨fun m σ' H' => ∃ a G', m = μ a ∧ SI F (f a) G' σ' H' ∧ Same G G', ⟨_, a0, G, rfl, I, Same.refl G⟩, ?_⟩
  rintro m σ1 H1 ⟨a, G1, rfl, I1, s1⟩
  refine hc a G1 σ1 H1 I1 _ fun b G2 H2 eb I2 s2 => ?_
  subst eb
  cases ht : tb a with
  | true =>
    rw [if_pos rfl]
    refine ⟨fun σ' H' => ∃ a' G', μ a' < μ a ∧ SI F (f a') G' σ' H' ∧ Same G G', fun σ' H' ⟨a', G', q1, q2, q3⟩ => ⟨_, q1, a', G', rfl, q2, q3⟩, ?_⟩
    exact hb a ht G2 σ1 H2 I2 { E with nx := _, ct := _, bk := E.nx } (fun ρ' G' σ' H' ⟨a', e, lt⟩ I' s' => ⟨a', G', lt, e ▸ I', s1.trans (s2.up.trans s')⟩) r
  | false =>
    rw [if_neg (by decide)]
    exact n _ G2 σ1 H2 ⟨a, rfl, ht⟩ I2 (s1.trans s2.up)
/-! int(i), //, % -/
theorem pd_int_i (B : Bd X K mg N sc k) (T : Bt mg) {i : Int} {p : Pos} (hg : sc.names.lookup ("int" : Str) = some .globalImplicit) (ha : PD X F ρ e (.int i)) (hs : starEach [e] X.env = (false, eval e X.env) :: starEach [] X.env := by rfl)
    (hpl : (backTo pos (starEach [] X.env)).any (·.1) = false := by rfl) : PD X F ρ (.Call (.Name "int" p) [e] [] pos) (.int i) :=
  pn_bty B call_int1 hg T.int PyProof.Rows.boot_int (pds_one ha hs) (fun zs ez G H vs Q s r q => by
    subst ez
    cases r with
    | cons r rr =>
      cases rr
      exact .inl ⟨i, by rw [r.intI], q _ _ G H rfl (Nx.refl s) (.int _)⟩) (by decide) (by decide) hs hpl
theorem pd_fdiv {i j : Int} (ha : PD X F ρ a (.int i)) (hb : PD X F ρ b (.int j)) (hc : CDiv i j) : PD X F ρ (.BinOp a .FloorDiv b pos) (.int (i / j)) := pd_op op_fdiv ha hb (d2_I (f := fun i j => .int (i / j)) hc fun _ _ _ => .int _)
theorem pd_mod {i j : Int} (ha : PD X F ρ a (.int i)) (hb : PD X F ρ b (.int j)) (hc : 0 < j) : PD X F ρ (.BinOp a .Mod b pos) (.int (i % j)) := pd_op op_mod ha hb (d2_I (C := fun _ j => 0 < j) (f := fun i j => .int (i % j)) hc fun _ _ _ => .int _)
end
end Dc
/-! W17: the law's draw, of. -/
namespace Dc
open PySem PySem.Spec PyProof.Rows L2 Pd
/-- no slot is the object that may change; only slot i is -/
def noRes : Ev → Bool
  | [] => true
  | .res _ :: _ => false
  | _ :: ρ => noRes ρ
def oneR : Ev → Nat → Bool
  | [], _ => true
  | _ :: ρ, 0 => noRes ρ
  | .res _ :: _, _ + 1 => false
  | _ :: ρ, i + 1 => oneR ρ i
theorem noRes_ok : ∀ {ρ : Ev}, noRes ρ = true → ∀ (j : Nat) (c : List D), ρ[j]? ≠ some (.res c)
  | [], _, j, es, q => by simp at q
  | s :: ρ, h, 0, es, q => by
    have e : s = .res es := Option.some.inj q
    subst e; cases h
  | s :: ρ, h, j + 1, es, q => by
    refine noRes_ok (ρ := ρ) ?_ j es q
    cases s <;> first | exact h | cases h
theorem oneR_ok : ∀ {ρ : Ev} {i : Nat}, oneR ρ i = true → OneRes ρ i
  | [], i, _, j, es, _, q => by simp at q
  | s :: ρ, 0, h, 0, es, hj, q => hj rfl
  | s :: ρ, 0, h, j + 1, es, _, q => noRes_ok (ρ := ρ) h j es q
  | s :: ρ, i + 1, h, 0, es, _, q => by
    have e : s = .res es := Option.some.inj q
    subst e; cases h
  | s :: ρ, i + 1, h, j + 1, es, hj, q => by
    refine oneR_ok (ρ := ρ) (i := i) ?_ j es (fun z => hj (by rw [z])) q
    cases s <;> first | exact h | cases h
theorem plS_noRes : ∀ {l : Ev}, l.all plS = true → noRes l = true
  | [], _ => rfl
  | s :: l, h => by
    rw [List.all_cons, Bool.and_eq_true] at h
    have := plS_noRes h.2
    cases s <;> first | exact this | (exact absurd h.1 (by simp [plS]))
section
variable {X : Cx} {F : Fx} {ρ : Ev} {P : Program} {w : World} {K : PySem.W.Frag} {mg : Str → Option Value} {base : Heap} {N : List Str} {sc : Scope} {k : Nat} {ps : List Str} {x y : Str} {p pos pos' p1 : Pos} {e : Expr} {es : List Expr} {α : Type}
/-- f(m, ..), m the law's object -/
theorem pn_callD {c : CtrM α} {j : Nat} {Ps : List D → Prop} {Pq : D → Prop} (T : At P w base X) (B : Bd X K mg N sc k) (C : Cal P w K mg base j x ps (spM RDr c)) (hj : j ≤ k) (hg : sc.names.lookup x = some .globalImplicit) (hF : F.R = RDr) (i : Nat) (ho : ρ[i]? = some (Sl.res [])) (hone : OneRes ρ i) (hN : N[i]? = some y) (hv : Vis sc y)
    (ha : PNs X F ρ es Ps) (h : ∀ ds, Ps ds → ∃ a, c.pre a = [] ∧ c.con a = [] ∧ ds = c.post a ∧ c.ok a ∧ ∀ d c', c.res a d c' → Pq d)
    (hd : (y == ("__debug__" : Str)) = false := by decide) (hcd : (y == ("__classdict__" : Str)) = false := by decide) (hdb : (x == ("__debug__" : Str)) = false := by decide) (he : starEach (.Name y p1 :: es) X.env = (false, eval (.Name y p1) X.env) :: starEach es X.env := by rfl)
    (hpl : (backTo pos (starEach es X.env)).any (·.1) = false := by rfl) : PN X F ρ (.Call (.Name x p) (.Name y p1 :: es) [] pos) Pq := fun G σ H I Q q => by
  obtain ⟨f, fd, FG, hm, hk, hb⟩ := C.ex
  have FG' : FnG X.prog X.w X.K X.mg X.base j f fd ps (spM RDr c) := by rw [T.hP, T.hw, T.hb, B.hK, B.hmg]; exact FG
  obtain ⟨m, k1, k2, _⟩ := I.sl i _ ho
  refine tE_call FG' (B.room.mono hj) B.guards (B.gl hg) (by rw [B.hmg]; exact hm) (by rw [B.hK]; exact hk) (by rw [B.hK]; exact hb) ?_ hdb he hpl
  refine tA_of (pa_cons (pe_var (i := i) (by rw [B.hN]; exact hN) (by rw [B.hsc]; exact hv) hd hcd) cA he) ⟨.ref m, some_join k1, ha G σ H I _ fun ds vs G1 H1 pd I1 s1 r1 => ?_⟩
  obtain ⟨a, ep, ec, ea, oa, ra⟩ := h ds pd
  subst ea
  obtain ⟨m', k3, k4, k5, k6⟩ := I1.sl i _ ho
  rw [k2] at k4
  cases k4
  refine ⟨a, G1, m, [], vs, rfl, oa, I1.sub, by rw [ep]; exact .nil, r1, k5, I1.wt m k2, by rw [ec, ← hF]; exact k6, fun d v c' G2 H2 po n rR rv => ?_⟩
  refine q d v G2 H2 (ra d c' po) (I1.nxw n k2 rfl fun l s es => ?_) (s1.trans (n.stp I1.sub k2)) rv
  by_cases z : l = i
  · subst z
    rw [ho] at es
    cases es
    exact .inl ⟨[], [], rfl, by rw [hF]; exact rR.weak, ho⟩
  · cases s with
    | res c' => exact absurd es (hone l c' z)
    | un => exact .inr ⟨trivial, es⟩
    | dat d => exact .inr ⟨trivial, es⟩
    | own d => exact .inr ⟨trivial, es⟩
    | dic d => exact .inr ⟨trivial, es⟩
end
variable {P : Program} {w : World} {K : PySem.W.Frag} {mg : Str → Option Value} {base : Heap}
/-! draw -/
def cDraw : CtrM Int := ⟨fun _ => [], fun _ => [], fun n => [.int n], fun n => 0 < n ∧ n < 1073741824, fun n d _ => ∃ i, d = .int i ∧ 0 ≤ i ∧ i < n⟩
def headZ (ns : List Int) : Bool := match ns with
  | [] => false
  | n :: _ => decide (n = 0)
theorem mod_in {i n : Int} (h : 0 < n) : 0 ≤ i % n ∧ i % n < n := ⟨Int.emod_nonneg _ (by omega), Int.emod_lt_of_pos _ h⟩
theorem eqv_ns (ns : List Int) : (!PyData.eqv (.list (ns.map .int)) (.list [])) = !ns.isEmpty := by
  rw [eqv_nil]; cases ns <;> rfl
theorem ok_L_draw (Fu : Df K mg "_law_draw" s_L_draw p_L_draw) (T' : Bt mg) : Cal P w K mg base 1 "_law_draw" p_L_draw (spM RDr cDraw) := by
  refine Fu.fnM RDr.mv sc_L_draw (fun a _ => rfl) fun X F n B0 hF hw ha => ?_
  have B := B0.toBd
  replace ha : 0 < n ∧ n < 1073741824 := ha
  refine sd_start (ρ1 := [.res [], .dat (.int n), .un]) rfl (sd_know 0 hF rfl fun ns a m hns => sd_cons (s_while (α := { l : List Int // l.length ≤ 63 }) B0.hxe (fun l => [.res (mCon l.1 a m), .dat (.int n), .un]) (fun l => l.1.length) (fun l => headZ l.1) ⟨ns, hns⟩ rfl (fun l => ?_) fun l hl => ?_) fun ρ' e => ?_)
  · refine (PBW.pb (tb_and (y := headZ l.1) (pb_ne B (pd_left B hF 0 rfl rfl (.inl rfl)) (pd_lst pns_nil) (shaped_ints _) shaped_nil) fun z => ?_)).imp fun q e => ?_
    · rw [eqv_ns] at z
      obtain ⟨l, hl⟩ := l
      cases l with
      | nil => cases z
      | cons i l => exact tb_and1 (pb_eqI B (pd_ixL (n := 0) (ds := (i :: l).map .int) (pd_left B hF 0 rfl rfl (.inl rfl)) rfl) pn_int)
    · rw [e, eqv_ns]
      obtain ⟨l, hl⟩ := l
      cases l <;> simp [headZ]
  · obtain ⟨l, hl63⟩ := l
    cases l with
    | nil => cases hl
    | cons i l =>
      have h1 : l.length + 1 ≤ 63 := hl63
      refine sd_one ((s_left B hF 0 (ms := l) rfl (oneR_ok rfl) rfl (.inl rfl) (pd_cutL (n := 1) (ds := (i :: l).map .int) (pd_left B hF 0 rfl rfl (.inl rfl))) (by omega)).imp (fun ρ3 e => ?_) fun _ _ z => z)
      exact ⟨⟨l, by omega⟩, e, Nat.lt_succ_self _⟩
  · obtain ⟨⟨l, hl63⟩, rfl, _⟩ := e
    replace hl63 : l.length ≤ 63 := hl63
    refine sd_cons (s_ifd (Nn := fun ρ' => ρ' = [.res (mCon l a m), .dat (.int n), .un]) (pb_ne B (pd_left B hF 0 rfl rfl (.inl rfl)) (pd_lst pns_nil) (shaped_ints _) shaped_nil) (fun z => ?_) fun z => sd_nil rfl) fun ρ' e => ?_
    · rw [eqv_ns] at z
      cases l with
      | nil => cases z
      | cons i l =>
        have h1 : l.length + 1 ≤ 63 := hl63
        refine sd_cons (s_set B 2 (P := fun d => d = .int i) (pd_ixL (n := 0) (ds := (i :: l).map .int) (pd_left B hF 0 rfl rfl (.inl rfl)) rfl) rfl (.inl rfl) B0.hfn) fun ρ' e => ?_
        obtain ⟨d, rfl, rfl⟩ := e
        refine sd_cons (s_left B hF 0 (ms := i / n :: l) rfl (oneR_ok rfl) rfl (.inl rfl) (pd_cat (ys := l.map .int) (pd_lst (pds_cons (pd_fdiv (gv B 2 rfl) (gv B 1 rfl) ha) pns_nil)) (pd_cutL (n := 1) (ds := (i :: l).map .int) (pd_left B hF 0 rfl rfl (.inl rfl))) ?_) ?_) fun ρ' e => ?_
        · rw [List.length_map]
          exact Nat.le_of_lt (line_lt (by simp; omega))
        · rw [List.length_cons]; omega
        · subst e
          refine sd_one (s_ret ((pd_mod (pd_int_i B T' rfl (gv B 2 rfl)) (gv B 1 rfl) ha.1).imp fun r e => ?_))
          exact ⟨0, _, rfl, i % n, e, mod_in ha.1⟩
    · subst e
      refine sd_cons (s_at B hF 0 rfl (oneR_ok rfl) rfl (.inl rfl) (pd_add (pd_at B hF 0 rfl rfl (.inl rfl)) pn_int)) fun ρ' e => ?_
      subst e
      refine sd_cons (s_mixed B hF 0 rfl (oneR_ok rfl) rfl (.inl rfl) (pd_mod (j := 2147483647) (pd_int_i B T' rfl (pd_add (pd_add (pd_mul (pd_mixed B hF 0 rfl rfl (.inl rfl)) pn_int (.inr (by decide))) (pd_mul pn_int (pd_at B hF 0 rfl rfl (.inl rfl)) (.inl (by decide)))) pn_int)) pn_int (by decide))) fun ρ' e => ?_
      subst e
      refine sd_one (s_ret ((pd_mod (pd_int_i B T' rfl (pd_fdiv (pd_mixed B hF 0 rfl rfl (.inl rfl)) pn_int ⟨by decide, by decide⟩)) (gv B 1 rfl) ha.1).imp fun r e => ?_))
      exact ⟨0, _, rfl, _, e, mod_in ha.1⟩
/-! of -/
def cOf : CtrM (List D) := ⟨fun _ => [], fun _ => [], fun ds => [.list ds], fun ds => 0 < ds.length ∧ ds.length ≤ 100, fun ds d _ => d ∈ ds⟩
theorem ok_L_of (Fu : Df K mg "_law_of" s_L_of p_L_of) (T' : Bt mg) (C1 : Cal P w K mg base 1 "_law_draw" p_L_draw (spM RDr cDraw)) : Cal P w K mg base 2 "_law_of" p_L_of (spM RDr cOf) := by
  refine Fu.fnM RDr.mv sc_L_of (fun a _ => rfl) fun X F ds B0 hF hw ha => ?_
  have B := B0.toBd
  replace ha : 0 < ds.length ∧ ds.length ≤ 100 := ha
  refine sd_start (ρ1 := [.res [], .dat (.list ds)]) rfl (sd_one (s_ret ?_))
  refine pn_ix (Pa := fun d => d = .list ds) (Pb := fun d => ∃ i : Int, d = .int i ∧ 0 ≤ i ∧ i < ds.length) ix_list (gv B 1 rfl) (pn_callD (c := cDraw) B0.at B C1 (by decide) rfl hF 0 rfl (oneR_ok rfl) rfl (.inl rfl) (pds_one (pd_len B T' rfl (gv B 1 rfl) (.inl rfl) rfl)) fun ds' e => ⟨(ds.length : Nat), rfl, rfl, e, ⟨by omega, by omega⟩, fun d c' h => h⟩) (fun _ _ => rfl) fun x y ex ey => ?_
  subst ex
  obtain ⟨i, rfl, h1, h2⟩ := ey
  have hi : i.toNat < ds.length := by omega
  have ei : i = ((i.toNat : Nat) : Int) := by omega
  rw [ei]
  intro G H v u Q s r1 r2 q
  refine d2_ixL (atI_nat (List.getElem?_eq_getElem hi)) G H v u Q s r1 r2 fun d z G' H' e n rv => q d z G' H' ⟨0, [], rfl, ?_⟩ n rv
  rw [show d = ds[i.toNat] from e]
  exact List.getElem_mem hi
end Dc
/-! W18: the law's begun. -/
namespace Dc
open PySem PySem.Spec PyProof.Rows L2 Pd
variable {P : Program} {w : World} {K : PySem.W.Frag} {mg : Str → Option Value} {base : Heap}
theorem merge_mKv (v : V) (a m : Int) : mergeK [] (mKv v a m) = mKv v a m := by
  have h1 := ne_la
  have h2 := ne_lm
  have h3 := ne_am
  show putK (putK (putK ([] : List (L2.Key × V)) (Sum.inr "left") v) (Sum.inr "at") (.int a)) (Sum.inr "mixed") (.int m) = _
  have e1 : putK ([] : List (L2.Key × V)) (Sum.inr ("left" : Str)) v = ([] : List (L2.Key × V)) ++ [(Sum.inr ("left" : Str), v)] := putK_new _ rfl
  have e2 : putK (([] : List (L2.Key × V)) ++ [(Sum.inr ("left" : Str), v)]) (Sum.inr ("at" : Str)) (.int a) = (([] : List (L2.Key × V)) ++ [(Sum.inr ("left" : Str), v)]) ++ [(Sum.inr ("at" : Str), .int a)] := putK_new _ ((valV_neg h1).trans rfl)
  have e3 : putK ((([] : List (L2.Key × V)) ++ [(Sum.inr ("left" : Str), v)]) ++ [(Sum.inr ("at" : Str), .int a)]) (Sum.inr ("mixed" : Str)) (.int m) = ((([] : List (L2.Key × V)) ++ [(Sum.inr ("left" : Str), v)]) ++ [(Sum.inr ("at" : Str), .int a)]) ++ [(Sum.inr ("mixed" : Str), .int m)] := putK_new _ ((valV_neg h2).trans ((valV_neg h3).trans rfl))
  rw [e1, e2, e3]
  rfl
def spBegun (K : PySem.W.Frag) : Sp := fun vs H Q _ => ∃ (a : Addr) (ns : List Int), vs = [.ref a] ∧ SqL K H a (ns.map .int) ∧ ns.length ≤ 63 ∧
  ∀ (H' : Hp) (p q : Addr) (mx : Int) (gs : List Int), Same H H' → H p = none → H' p = some (.dK (mKv (.ref q) 0 mx)) → H q = none → H' q = some (.lst (gs.map .int)) → p ≠ q → gs.length ≤ 63 → Q (.ref p) H'
theorem ok_L_begun (Fu : Df K mg "_law_begun" s_L_begun p_L_begun) (T' : Bt mg) : Cal P w K mg base 1 "_law_begun" p_L_begun (spBegun K) := by
  refine Fu.cal fun f fd F => fnG_of F sc_L_begun (fun vs H Q E h => ?_) fun cdv A outer s H vs Q hr hg h => ?_
  · obtain ⟨a, ns, rfl, _⟩ := h
    rfl
  · obtain ⟨a, ns, rfl, hS, hl, q⟩ := h
    refine tSs_of (pss_cons (ps_set (i := 1) sc_L_begun.nd rfl (.inl rfl) pe_int) (pss_cons (ps_for PassesOwn.never rfl (pi_list (pv 0)) (pg_name (i := 2) sc_L_begun.nd rfl (.inl rfl))
        (pss_one (ps_set (i := 1) sc_L_begun.nd rfl (.inl rfl) (pe_op op_mod (pe_callTy call_int1 (by rfl) T'.int PyProof.Rows.boot_int (pa_cons (pe_op op_add (pe_op op_add (pe_op op_mul (pv 1) pe_int) (pv 2)) pe_int) pa_nil)) pe_int))))
      (pss_cons (ps_setLc (i := 3) (own := [("_law_cell", 2)]) (g := gName 2) rfl sc_L_begun.nd rfl rfl (sw_true rfl rfl rfl (by decide +kernel)) (pi_list (pv 0)) (blkOk_by (N := n_L_begun) (sc := defScope s_L_begun) (by decide +kernel)) (fun _ _ _ _ _ => pg_name (i := 2) sc_L_begun.nd rfl (.inl rfl))
        (fun _ _ _ _ _ => pts_one (pt_cmpR op_ge (pv 2) (pe_op op_pow pe_int pe_int) (nomark _))) (fun _ _ _ _ _ => pv 2))
      (pss_one (ps_ret (pe_disp (pps_cons pe_str (pv 3) (pps_cons pe_str pe_int (pps_cons pe_str (pv 1) pps_nil))) rfl rfl (by simp) (by simp))))))) ?_
    -- the mix
    refine ⟨.ref a, rfl, a, rfl, ⟨_, hS⟩, for_list (xs := ns.map V.int) (fun _ σ H' => H' = H ∧ ∃ (m : Int) (y : Option V), σ = [some (.ref a), some (.int m), y, none]) ⟨rfl, _, _, rfl⟩ (fun i σ H' _ h => by rw [h.1]; exact hS) (fun i x σ H' hx h => ?_) fun σ H' h => ?_⟩
    · obtain ⟨eh, m, y, rfl⟩ := h
      have eh' := eh.symm
      subst eh'
      obtain ⟨c, _, rfl⟩ := map_at hx
      refine ⟨.int m, rfl, ⟨m, 48271, rfl, rfl, .inr (by decide), .int c, rfl, _, _, rfl, rfl, _, _, rfl, rfl, .inl ⟨_, rfl, _, _, rfl, rfl, (by decide : (0 : Int) < 2147483647), rfl, _, _, rfl⟩⟩⟩
    -- the great ones
    · obtain ⟨eh, m, y, rfl⟩ := h
      have eh' := eh.symm
      subst eh'
      refine ⟨.ref a, rfl, a, rfl, ⟨_, hS⟩, fun g hg => lc_list (xs := ns.map V.int) (fun i H' => Same H H' ∧ ∃ gs : List Int, gs.length ≤ i ∧ H' g = some (.lst (gs.map V.int))) ⟨same_upd hg, [], Nat.le_refl _, upd_same⟩ (fun i H' _ h => h.1.seq hS) (fun i x H' hx h => ?_) fun H' h => ?_⟩
      · obtain ⟨sm, gs, hl2, hH⟩ := h
        obtain ⟨c, _, rfl⟩ := map_at hx
        refine ⟨rfl, .int c, rfl, 10, 18, rfl, rfl, ⟨by decide, by decide, by decide⟩, _, _, rfl, rfl, _, rfl, ?_⟩
        dsimp only
        split
        · refine ⟨.int c, rfl, gs.map V.int, hH, ?_, ?_, gs ++ [c], ?_, ?_⟩
          · obtain ⟨hi, _⟩ := List.getElem?_eq_some_iff.mp hx
            rw [List.length_map] at hi ⊢
            exact line_lt (by omega)
          · exact fun b o e => by
              rw [upd_ne (ne_of_none e hg)]
              exact sm b o e
          · rw [List.length_append]
            exact Nat.add_le_add_right hl2 1
          · rw [upd_same, List.map_append]
            rfl
        · exact ⟨sm, gs, by omega, hH⟩
      · obtain ⟨sm, gs, hl2, hH⟩ := h
        rw [List.length_map] at hl2
        have sp : ∀ p, H' p = none → Same H' (upd H' p (.dK [])) := fun p hp => same_upd hp
        refine fun p hp => ⟨.ref g, rfl, .int m, rfl, upd_same, mKv (.ref g) 0 m, rfl, (by show 3 ≤ 15; decide), ?_⟩
        rw [merge_mKv]
        have hpg : p ≠ g := fun e => by rw [e, hH] at hp; cases hp
        have hp0 : H p = none := by
          cases e : H p with
          | none => rfl
          | some o => rw [sm p o e] at hp; cases hp
        refine q _ p g m gs (fun b o e => ?_) hp0 upd_same hg ?_ hpg (by omega)
        · rw [upd_ne (ne_of_none e hp0), upd_ne (ne_of_none e hp0)]
          exact sm b o e
        · rw [upd_ne hpg.symm, upd_ne hpg.symm]
          exact hH
end Dc
/-! W19: the law's lay. -/
namespace Dc
open PySem PySem.Spec PyProof.Rows L2 Pd
section
variable {X : Cx} {F : Fx} {ρ : Ev} {K : PySem.W.Frag} {mg : Str → Option Value} {N : List Str} {sc : Scope} {k : Nat} {e : Expr} {pos p p1 p2 : Pos}
/-- list(range(n)) -/
theorem pd_listRg (B : Bd X K mg N sc k) (T : Bt mg) {n : Nat} (hg : sc.names.lookup ("list" : Str) = some .globalImplicit) (hg2 : sc.names.lookup ("range" : Str) = some .globalImplicit) (ha : PD X F ρ e (.int (n : Nat))) (hn : n ≤ 1000)
    (h1 : starEach [.Call (.Name "range" p) [e] [] p1] X.env = (false, eval (.Call (.Name "range" p) [e] [] p1) X.env) :: starEach [] X.env := by rfl) (h2 : starEach [e] X.env = (false, eval e X.env) :: starEach [] X.env := by rfl) :
    PD X F ρ (.Call (.Name "list" p2) [.Call (.Name "range" p) [e] [] p1] [] pos) (.list ((upI 0 n).map .int)) := fun G σ H I Q q =>
  tE_of (pe_listRg B.calm (B.gl hg) (by rw [B.hmg]; exact T.list) (prg_1 (B.gl hg2) (by rw [B.hmg]; exact T.range) cE h2) h1) (ha G σ H I _ fun d v G1 H1 ed I1 s1 r1 => by
    subst ed
    refine ⟨(n : Nat), r1.intI, ⟨by omega, by omega, by omega, by omega, by omega⟩, fun l hl => ?_⟩
    have m := Nx.new (o := .lst (rgV 0 n)) I1.sub hl
    refine q _ _ _ _ rfl (I1.nx m) (s1.trans (I1.stp m)) (.lst upd_same ?_)
    have e1 : rgV 0 (n : Nat) = (upI 0 n).map V.int := by
      unfold rgV upI
      rw [Int.sub_zero, Int.toNat_natCast, List.map_map]
      rfl
    rw [e1]
    exact RpA.ofInts _)
end
/-! what is kept while a lay is drawn -/
structure LaySt (n : Int) (ls : List Int) (js : List J) : Prop where
  up : ls.Pairwise (· < ·)
  rng : ∀ x ∈ ls, 0 ≤ x ∧ x < 2 * n
  ok : ∀ j ∈ js, okJ n j
  ap : js.Pairwise fun a b => ¬ share a b
  fr : ∀ j ∈ js, ∀ x ∈ ls, x ≠ j.1 ∧ x ≠ j.2
theorem up_sorted (lo : Int) (n : Nat) : (upI lo n).Pairwise (· < ·) := by
  unfold upI
  rw [List.pairwise_map]
  exact List.pairwise_lt_range.imp fun h => by omega
theorem LaySt.start (n : Nat) : LaySt n (upI 0 (2 * n)) [] := ⟨up_sorted _ _, fun x hx => by
  obtain ⟨i, hi⟩ := List.getElem?_of_mem hx
  obtain ⟨h1, rfl⟩ := upI_get hi
  omega, (fun _ h => by cases h), List.Pairwise.nil, (fun _ h => by cases h)⟩
theorem LaySt.skip {n : Int} {x : Int} {ls : List Int} {js : List J} (h : LaySt n (x :: ls) js) : LaySt n ls js :=
  ⟨(List.pairwise_cons.mp h.up).2, fun y hy => h.rng y (List.mem_cons_of_mem _ hy), h.ok, h.ap, fun j hj y hy => h.fr j hj y (List.mem_cons_of_mem _ hy)⟩
theorem LaySt.take {n : Int} {x y : Int} {ls : List Int} {js : List J} (h : LaySt n (x :: ls) js) (hy : y ∈ ls) : LaySt n ((x :: ls).filter fun z => !decide (z ∈ [x, y])) (js ++ [(x, y)]) := by
  have hxy : x < y := (List.pairwise_cons.mp h.up).1 y hy
  have hx := h.rng x List.mem_cons_self
  have hy' := h.rng y (List.mem_cons_of_mem _ hy)
  refine ⟨h.up.filter _, fun z hz => h.rng z (List.mem_filter.mp hz).1, fun j hj => ?_, ?_, fun j hj z hz => ?_⟩
  · rcases List.mem_append.mp hj with q | q
    · exact h.ok j q
    · have e : j = (x, y) := by simpa using q
      subst e
      exact ⟨hx.1, hxy, hy'.2⟩
  · rw [List.pairwise_append]
    refine ⟨h.ap, List.pairwise_singleton _ _, fun j hj k hk => ?_⟩
    have e : k = (x, y) := by simpa using hk
    subst e
    have f1 := h.fr j hj x List.mem_cons_self
    have f2 := h.fr j hj y (List.mem_cons_of_mem _ hy)
    unfold share
    simp only
    omega
  · obtain ⟨h1, h2⟩ := List.mem_filter.mp hz
    rcases List.mem_append.mp hj with q | q
    · exact h.fr j q z h1
    · have e : j = (x, y) := by simpa using q
      subst e
      simpa using h2
theorem ap_nodup {js : List J} (h : js.Pairwise fun a b => ¬ share a b) : js.Nodup := h.imp fun {a b} q e => q (by subst e; exact .inl rfl)
theorem LaySt.few {n : Int} {ls : List Int} {js : List J} (h : LaySt n ls js) (hn : n ≤ 12) : js.length ≤ 576 := Dc.few hn (ap_nodup h.ap) h.ok
theorem LaySt.lay {n : Int} {ls : List Int} {js : List J} (h : LaySt n ls js) (h1 : 1 ≤ n) (h2 : n ≤ 12) : Lay.ok ⟨n, js.mergeSort leJ⟩ := by
  have hs := sort_sorted (ap_nodup h.ap)
  refine ⟨h1, h2, fun j hj => h.ok j (sort_mem.mp hj), hs, pw_of_free (nodup_of_sorted hs) fun j hj k hk s => ?_⟩
  apply Classical.byContradiction
  intro ne
  have key : ∀ {l : List J}, l.Pairwise (fun a b => ¬ share a b) → j ∈ l → k ∈ l → False := by
    intro l
    induction l with
    | nil => intro _ q; cases q
    | cons a l ih =>
      intro p q r
      rw [List.pairwise_cons] at p
      rcases List.mem_cons.mp q with e | q2
      · rcases List.mem_cons.mp r with e2 | r2
        · exact ne (e.trans e2.symm)
        · exact p.1 k r2 (e ▸ s)
      · rcases List.mem_cons.mp r with e2 | r2
        · exact p.1 j q2 (share_symm (e2 ▸ s))
        · exact ih p.2 q2 r2
  exact key h.ap (sort_mem.mp hj) (sort_mem.mp hk)
variable {P : Program} {w : World} {K : PySem.W.Frag} {mg : Str → Option Value} {base : Heap}
def cLay : CtrM Nat := ⟨fun _ => [], fun _ => [], fun n => [.int (n : Nat)], fun n => 1 ≤ n ∧ n ≤ 12, fun n d _ => ∃ l : Lay, d = eL l ∧ l.ok ∧ l.n = n⟩
theorem up_few {n : Int} {ls : List Int} {js : List J} (h : LaySt n ls js) (hn : n ≤ 12) : ls.length ≤ 24 := by
  have nd : ls.Nodup := h.up.imp fun {a b} q e => by omega
  have := nd.length_le_of_subset (l₂ := upI 0 24) fun x hx => by
    have q := h.rng x hx
    unfold upI
    exact List.mem_map.mpr ⟨x.toNat, List.mem_range.mpr (by omega), by omega⟩
  rw [upI_len] at this
  exact this
theorem ok_L_lay (Fu : Df K mg "_law_lay" s_L_lay p_L_lay) (T' : Bt mg) (C1 : Cal P w K mg base 1 "_law_draw" p_L_draw (spM RDr cDraw)) (C2 : Cal P w K mg base 2 "_law_of" p_L_of (spM RDr cOf)) : Cal P w K mg base 3 "_law_lay" p_L_lay (spM RDr cLay) := by
  refine Fu.fnM RDr.mv sc_L_lay (fun a _ => rfl) fun X F n B0 hF hw ha => ?_
  have B := B0.toBd
  replace ha : 1 ≤ n ∧ n ≤ 12 := ha
  have en : (2 * ((n : Nat) : Int)) = ((2 * n : Nat) : Int) := by omega
  refine sd_start (ρ1 := [.res [], .dat (.int (n : Nat)), .un, .un, .un, .un, .un, .un, .un]) rfl (sd_cons (s_par3 B 2 3 4 (PN.pv (pd_listRg (n := 2 * n) B T' rfl rfl (PD.cast (pd_mul (i := 2) pn_int (gv B 1 rfl) (.inl (by decide))) (by rw [en])) (by omega))) (PO.pv po_nil)
    (PN.pv (P := fun d => ∃ i : Int, d = .int i ∧ 0 < i ∧ i < 1073741824) (pn_callD (c := cOf) B0.at B C2 (by decide) rfl hF 0 rfl (oneR_ok rfl) rfl (.inl rfl) (pds_one (pd_lst (pds_cons pn_int (pds_cons pn_int (pds_cons pn_int (pds_cons pn_int (pds_cons pn_int (pds_cons pn_int pns_nil)))))))) fun ds e => ⟨[.int 1, .int 2, .int 3, .int 3, .int 5, .int 9], rfl, rfl, e, ⟨by decide, by decide⟩, fun d c' h => ?_⟩))
    (by decide) (by decide) (by decide) rfl rfl rfl rfl rfl rfl rfl) fun ρ' e => ?_)
  · have h' : d ∈ [PyData.int 1, .int 2, .int 3, .int 3, .int 5, .int 9] := h
    simp only [List.mem_cons, List.not_mem_nil, or_false] at h'
    rcases h' with rfl | rfl | rfl | rfl | rfl | rfl <;> exact ⟨_, rfl, by decide, by decide⟩
  · obtain ⟨s, t, u, ⟨_, rfl, rfl⟩, ⟨_, rfl, rfl⟩, ⟨_, rfl, sh, rfl, hsh1, hsh2⟩, rfl⟩ := e
    refine sd_cons (s_for B B0.hxe (pi_range1 (B.gl rfl) (by rw [B.hmg]; exact T'.range) cA) (dw_range (n := 2 * (n : Nat)) (pds_one (pd_mul (i := 2) pn_int (gv B 1 rfl) (.inl (by decide)))) (by omega) (by omega)) (fg B0 5 rfl (.inl rfl)) (dg_name 5) (fun _ _ => trivial)
      (fun i ρ' => ∃ ls js s5 s6 s7, ρ' = [.res [], .dat (.int (n : Nat)), .dat (.list (ls.map .int)), .own (js.map eJ), .dat (.int sh), s5, s6, s7, .un] ∧ [s5, s6, s7, .un].all plS = true ∧ LaySt n ls js) ⟨_, [], .un, .un, .un, rfl, rfl, LaySt.start n⟩ fun i d ρ1 ρ2 hd h1 h2 => ?_) fun ρ' h => ?_
    · obtain ⟨ls, js, s5, s6, s7, rfl, hs, L⟩ := h1
      obtain ⟨_, rfl⟩ := rgD_get hd
      subst h2
      simp only [List.all_cons, List.all_nil, Bool.and_true, Bool.and_eq_true] at hs
      obtain ⟨_, hs6, hs7, _⟩ := hs
      have l24 := up_few L (by omega)
      have j576 := L.few (by omega)
      have all5 : ∀ {a b c : Sl}, plS a = true → plS b = true → plS c = true → [a, b, c, .un].all plS = true := fun {a b c} h1 h2 h3 => by
        simp only [List.all_cons, List.all_nil, Bool.and_true, Bool.and_eq_true]
        exact ⟨h1, h2, h3, rfl⟩
      have nr : ∀ {a b c : Sl}, plS a = true → plS b = true → plS c = true → oneR [.res [], .dat (.int (n : Nat)), .dat (.list (ls.map .int)), .own (js.map eJ), .dat (.int sh), a, b, c, .un] 0 = true := fun {a b c} h1 h2 h3 => show noRes [a, b, c, .un] = true from plS_noRes (all5 h1 h2 h3)
      refine sd_one (s_ifd (x := decide ((ls.length : Int) > 1)) (pb_gtI (pd_len B T' rfl (gv B 2 rfl) (.inl rfl) (by rw [List.length_map])) pn_int) (fun z => ?_) fun z => sd_nil ⟨ls, js, .dat (.int (i : Nat)), s6, s7, rfl, all5 rfl hs6 hs7, L⟩)
      have hlen : 1 < ls.length := by have := of_decide_eq_true z; omega
      cases ls with
      | nil => simp at hlen
      | cons x ls =>
      rw [List.length_cons] at hlen l24
      refine sd_cons (s_set B 6 (P := fun d => d = .int x) (pd_ixL (n := 0) (ds := (x :: ls).map .int) (gv B 2 rfl) rfl) rfl (.inr rfl) B0.hfn) fun ρ' e => ?_
      obtain ⟨d, rfl, rfl⟩ := e
      refine sd_one (s_if (Pb := fun _ => True) (pb_cmp (Pa := fun d => ∃ i : Int, d = .int i) (Pb := fun d => d = .int 0) op_gt (pn_callD (c := cDraw) B0.at B C1 (by decide) rfl hF 0 rfl (oneR_ok (nr rfl rfl hs7)) rfl (.inl rfl) (pds_one (gv B 4 rfl)) fun ds e => ⟨sh, rfl, rfl, e, ⟨hsh1, hsh2⟩, fun d c' h => h.imp fun i q => q.1⟩) pn_int (fun a b ea eb => ?_) (nomark _)) (fun _ => ?_) fun _ => ?_)
      · obtain ⟨i, rfl⟩ := ea
        subst eb
        exact fun G H v u Q s r1 r2 q => d2_gt G H v u Q s r1 r2 fun d z G' H' e => q d z G' H' ⟨_, e, trivial⟩
      · refine sd_cons (s_set B 7 (P := fun d => ∃ y, d = .int y ∧ y ∈ ls) (pn_ix (Pa := fun d => d = .list ((x :: ls).map .int)) (Pb := fun d => ∃ i : Int, d = .int i ∧ 1 ≤ i ∧ i < ls.length + 1) ix_list (gv B 2 rfl) (pn_op (Pa := fun d => d = .int 1) (Pb := fun d => ∃ i : Int, d = .int i ∧ 0 ≤ i ∧ i < ls.length) op_add pn_int
          (pn_callD (c := cDraw) B0.at B C1 (by decide) rfl hF 0 rfl (oneR_ok (nr rfl rfl hs7)) rfl (.inl rfl) (pds_one (pd_sub (pd_len B T' rfl (gv B 2 rfl) (.inl rfl) rfl) pn_int)) fun ds e => ⟨(ls.length : Nat), rfl, rfl, ?_, ⟨by omega, by omega⟩, fun d c' h => h⟩) fun a b ea eb => ?_) (fun _ _ => rfl) fun a b ea eb => ?_) rfl (.inr rfl) B0.hfn) fun ρ' e => ?_
        · rw [e, List.length_map, List.length_cons]
          show [PyData.int (((ls.length + 1 : Nat) : Int) - 1)] = [.int (ls.length : Nat)]
          congr 2
          omega
        · subst ea
          obtain ⟨i, rfl, h1, h2⟩ := eb
          exact fun G H v u Q s r1 r2 q => d2_I0 (f := fun i j => .int (i + j)) (fun _ _ _ => .int _) G H v u Q s r1 r2 fun d z G' H' e => q d z G' H' ⟨1 + i, e, by omega, by omega⟩
        · subst ea
          obtain ⟨i, rfl, h1, h2⟩ := eb
          have hi : i.toNat - 1 < ls.length := by omega
          have ei : i = ((i.toNat - 1 + 1 : Nat) : Int) := by omega
          rw [ei]
          exact fun G H v u Q s r1 r2 q => d2_ixL (ds := (x :: ls).map .int) (atI_nat (xs := (x :: ls).map PyData.int) (v := .int ls[i.toNat - 1]) (by rw [List.map_cons, List.getElem?_cons_succ, List.getElem?_map, List.getElem?_eq_getElem hi]; rfl)) G H v u Q s r1 r2 fun d z G' H' e => q d z G' H' ⟨_, e, List.getElem_mem hi⟩
        · obtain ⟨d, ⟨y, rfl, hy⟩, rfl⟩ := e
          refine sd_cons (s_app B 3 (P := fun d => d = eJ (x, y)) rfl (one_ok (plS_one (l := [.dat (.int sh), .dat (.int (i : Nat)), .dat (.int x), .dat (.int y), .un]) rfl)) rfl (.inl rfl) (pd_tup (pds_cons (gv B 6 rfl) (pds_cons (gv B 7 rfl) pns_nil))) (by rw [List.length_map]; exact line_lt (by omega))) fun ρ' e => ?_
          obtain ⟨d, rfl, rfl⟩ := e
          refine sd_one ((s_lc (α := Int) (enc := .int) (xs := x :: ls) (keep := fun z => !decide (z ∈ [x, y])) (val := .int) (own := [("_law_other", 8)]) (Ok := fun _ => True) (Tt := gT1 8) B 2 rfl rfl (sw_true (by rw [B.hsc]; rfl) (by rw [B.hsc]; rfl) rfl (by decide +kernel))
            (pi_list cE) (dw_list (gv B 2 rfl)) (blkOk_by (by decide +kernel)) (fun X' bk => bk_name bk B 8 rfl rfl) (dg_name 8) (fun _ _ => trivial) (line_lt (by rw [List.length_cons]; omega)) rfl fun X' bk z _ ρ2 q => ?_).imp (fun ρ3 e => ?_) fun _ _ z => z)
          · subst q
            have B' := bk.bd B
            exact ⟨pbs_one ((pb_cmp1 (op_ninT B'.u65) (gv B' 8 rfl) (pd_tup (pds_cons (gv B' 6 rfl) (pds_cons (gv B' 7 rfl) pns_nil))) (d2_ninT (shaped_int z) (shaped_2i x y)) rfl).imp fun q e => by rw [e, ← any_int [x, y] z]; rfl), fun _ => gv B' 8 rfl⟩
          · subst e
            refine ⟨_, js ++ [(x, y)], .dat (.int (i : Nat)), .dat (.int x), .dat (.int y), ?_, all5 rfl rfl rfl, L.take hy⟩
            rw [List.map_append]
            rfl
      · refine sd_one ((s_set B 2 (P := fun d => d = .list (ls.map .int)) (pd_cutL (n := 1) (ds := (x :: ls).map .int) (gv B 2 rfl)) rfl (.inl rfl) B0.hfn).imp (fun ρ3 e => ?_) fun _ _ z => z)
        obtain ⟨d, rfl, rfl⟩ := e
        exact ⟨ls, js, .dat (.int (i : Nat)), .dat (.int x), s7, rfl, all5 rfl rfl hs7, L.skip⟩
    · obtain ⟨ls, js, s5, s6, s7, rfl, hs, L⟩ := h
      have hs' : oneB.oneB' [.dat (.int sh), s5, s6, s7, .un] = true := plS_one hs
      refine sd_freeze 3 rfl (one_ok (i := 3) hs') (sd_one (s_ret ((pd_tup (pds_cons (gv B 1 rfl) (pds_cons (pd_tuple B T' rfl (PO.pd (po_sorted B T' rfl (gv B 3 rfl) (.inl rfl) (sd_js (by omega) (ap_nodup L.ap) L.ok)))) pns_nil))).imp fun r e => ?_)))
      refine ⟨0, [], rfl, ⟨n, js.mergeSort leJ⟩, ?_, L.lay (by omega) (by omega), rfl⟩
      rw [show r = _ from e, sort_eJ]
      rfl
end Dc
/-! W20: the law's tree. -/
namespace Dc
open PySem PySem.Spec PyProof.Rows L2 Pd
variable {P : Program} {w : World} {K : PySem.W.Frag} {mg : Str → Option Value} {base : Heap}
def cMake (h : Nat) : CtrM (Nat × Nat) := ⟨fun _ => [], fun _ => [], fun a => [.int (a.1 : Nat), .int (a.2 : Nat)], fun a => 1 ≤ a.1 ∧ a.1 ≤ h ∧ a.1 ≤ 8 ∧ 1 ≤ a.2 ∧ a.2 ≤ 12, fun a d _ => ∃ t : T, d = eT t ∧ t.ok a.2 ∧ t.leaves.length = a.1⟩
theorem ok_L_tree (Fu : Df K mg "_law_tree" s_L_tree p_L_tree) (T' : Bt mg) (C1 : Cal P w K mg base 1 "_law_draw" p_L_draw (spM RDr cDraw)) (C2 : Cal P w K mg base 3 "_law_lay" p_L_lay (spM RDr cLay)) : ∀ h, Cal P w K mg base (h + 3) "_law_tree" p_L_tree (spM RDr (cMake h)) := by
  refine Fu.rcM RDr.mv sc_L_tree (fun h a _ => rfl) (fun a o => by have := o.1; have := o.2.1; omega) fun h X F a C B0 hF hw ha => ?_
  have B := B0.toBd
  obtain ⟨m, n⟩ := a
  obtain ⟨h1, h2, h3, h4, h5⟩ := ha
  replace h1 : 1 ≤ m := h1
  replace h2 : m ≤ h + 1 := h2
  replace h3 : m ≤ 8 := h3
  replace h4 : 1 ≤ n := h4
  replace h5 : n ≤ 12 := h5
  refine sd_start (ρ1 := [.res [], .dat (.int (m : Nat)), .dat (.int (n : Nat)), .un]) rfl (sd_cons (s_ifd (Nn := fun ρ' => ρ' = [.res [], .dat (.int (m : Nat)), .dat (.int (n : Nat)), .un] ∧ m ≠ 1) (pb_eqI B (gv B 1 rfl) pn_int) (fun z => ?_) fun z => sd_nil ⟨rfl, ?_⟩) fun ρ' e => ?_)
  · have e := of_decide_eq_true z
    have e1 : m = 1 := by omega
    subst e1
    refine sd_one (s_ret (pn_callD (c := cLay) B0.at B C2 (by omega) rfl hF 0 rfl (oneR_ok rfl) rfl (.inl rfl) (pds_one (gv B 2 rfl)) fun ds e => ⟨n, rfl, rfl, e, ⟨h4, h5⟩, fun d c' h => ?_⟩))
    obtain ⟨l, rfl, o, en⟩ := h
    exact ⟨0, [], rfl, .leaf l, rfl, ⟨o, en⟩, rfl⟩
  · intro e
    have := of_decide_eq_false z
    omega
  · obtain ⟨rfl, hm⟩ := e
    refine sd_cons (s_set B 3 (P := fun d => ∃ l : Nat, d = .int (l : Nat) ∧ 1 ≤ l ∧ l < m) (pn_op (Pa := fun d => d = .int 1) (Pb := fun d => ∃ i : Int, d = .int i ∧ 0 ≤ i ∧ i < m - 1) op_add pn_int
      (pn_callD (c := cDraw) B0.at B C1 (by omega) rfl hF 0 rfl (oneR_ok rfl) rfl (.inl rfl) (pds_one (pd_sub (gv B 1 rfl) pn_int)) fun ds e => ⟨(m : Int) - 1, rfl, rfl, e, ⟨by omega, by omega⟩, fun d c' h => h⟩) fun a b ea eb => ?_) rfl (.inl rfl) B0.hfn) fun ρ' e => ?_
    · subst ea
      obtain ⟨i, rfl, g1, g2⟩ := eb
      exact fun G H v u Q s r1 r2 q => d2_I0 (f := fun i j => .int (i + j)) (fun _ _ _ => .int _) G H v u Q s r1 r2 fun d z G' H' e => q d z G' H' ⟨(1 + i).toNat, by rw [show d = _ from e]; congr 1; omega, by omega, by omega⟩
    · obtain ⟨d, ⟨l, rfl, g1, g2⟩, rfl⟩ := e
      have es : ((m : Nat) : Int) - (l : Nat) = ((m - l : Nat) : Int) := by omega
      refine sd_one (s_ret (pn_tup (Ps := fun xs => ∃ a b : T, xs = [.str "fork", eT a, eT b] ∧ a.ok n ∧ b.ok n ∧ a.leaves.length = l ∧ b.leaves.length = m - l) (pns_cons (Pa := fun d => d = .str "fork") (Ps := fun xs => ∃ a b : T, xs = [eT a, eT b] ∧ a.ok n ∧ b.ok n ∧ a.leaves.length = l ∧ b.leaves.length = m - l) pn_str
        (pns_cons (Pa := fun d => ∃ a : T, d = eT a ∧ a.ok n ∧ a.leaves.length = l) (Ps := fun xs => ∃ b : T, xs = [eT b] ∧ b.ok n ∧ b.leaves.length = m - l) (pn_callD (c := cMake h) B0.at B C (Nat.le_refl _) rfl hF 0 rfl (oneR_ok rfl) rfl (.inl rfl) (pds_cons (gv B 3 rfl) (pds_cons (gv B 2 rfl) pns_nil)) fun ds e => ⟨(l, n), rfl, rfl, e, ⟨g1, by show l ≤ h; omega, by show l ≤ 8; omega, h4, h5⟩, fun d c' h => h⟩)
          (pns_cons (Pa := fun d => ∃ a : T, d = eT a ∧ a.ok n ∧ a.leaves.length = m - l) (Ps := fun xs => xs = []) (pn_callD (c := cMake h) B0.at B C (Nat.le_refl _) rfl hF 0 rfl (oneR_ok rfl) rfl (.inl rfl) (pds_cons (pd_sub (gv B 1 rfl) (gv B 3 rfl)) (pds_cons (gv B 2 rfl) pns_nil)) fun ds e => ⟨(m - l, n), rfl, rfl, by rw [e, es]; rfl, ⟨by show 1 ≤ m - l; omega, by show m - l ≤ h; omega, by show m - l ≤ 8; omega, h4, h5⟩, fun d c' h => h⟩)
            pns_nil fun x xs p1 p2 => ?_) fun x xs p1 p2 => ?_) fun x xs p1 p2 => ?_) fun xs p => ?_))
      · obtain ⟨b, rfl, q1, q2⟩ := p1
        subst p2
        exact ⟨b, rfl, q1, q2⟩
      · obtain ⟨a, rfl, q1, q2⟩ := p1
        obtain ⟨b, rfl, q3, q4⟩ := p2
        exact ⟨a, b, rfl, q1, q3, q2, q4⟩
      · subst p1
        obtain ⟨a, b, rfl, q⟩ := p2
        exact ⟨a, b, rfl, q⟩
      · obtain ⟨a, b, rfl, q1, q2, q3, q4⟩ := p
        refine ⟨by show 3 ≤ sizeLine; decide, 0, [], rfl, .fork a b, rfl, ⟨q1, q2⟩, ?_⟩
        show (a.leaves ++ b.leaves).length = m
        rw [List.length_append, q3, q4]
        omega
end Dc
/-! W21: others_right. -/
namespace Dc
open PySem PySem.Spec PyProof.Rows L2 Pd
variable {P : Program} {w : World} {K : PySem.W.Frag} {mg : Str → Option Value} {base : Heap}
def cOthers : CtrM (Int × T × M) := ⟨fun _ => [], fun _ => [], fun a => [eT a.2.1, eM a.2.2, .int (cost a.2.1 : Nat)], fun a => TOk a.1 8 a.2.1 ∧ a.2.2.fits a.1 a.2.1, fun _ d _ => d = .bool true⟩
theorem nc_sum {n : Int} {h : Nat} {t : T} {m : M} (o : TOk n h t) (f : m.fits n t) : Nc 0 0 (.int (summed m)) := Nc.int (by
  have h1 := summed_le o.ok f
  have h2 := o.lv
  omega)
theorem nc_cost {n : Int} {h : Nat} {t : T} (o : TOk n h t) : Nc 0 0 (.int (cost t : Nat)) := Nc.int (by
  have h1 := cost_le o.n2 o.ok o.lv
  omega)
def oddsOf (L : Lay) (x y : M) : List D := [.none, .tuple [], .tuple [eL L, eM x, eM y], .tuple [.str "fork", eL L, eM x], .list [.str "fork", eL L, eM x, eM y], .tuple [.str "fork", .none, eM x, eM y], .tuple [eL L, eL L, eM x, eM y], eL L]
theorem odds_odd (a b : T) (L : Lay) (x y : M) : ∀ d ∈ oddsOf L x y, Odd (.fork a b) d := by
  intro d hd
  simp only [oddsOf, List.mem_cons, List.not_mem_nil, or_false] at hd
  rcases hd with rfl | rfl | rfl | rfl | rfl | rfl | rfl | rfl
  · exact .no _ _ _ trivial rfl
  · exact .no _ _ _ trivial rfl
  · exact .no _ _ _ trivial rfl
  · exact .no _ _ _ rfl rfl
  · exact .no _ _ _ trivial rfl
  · exact .non _ _ _ _
  · exact .no _ _ _ trivial rfl
  · exact .no _ _ _ trivial rfl
theorem ok_L_others_right (Fu : Df K mg "_law_others_right" s_L_others_right p_L_others_right) (T' : Bt mg) (C1 : Cal P w K mg base 3 "_law_lay" p_L_lay (spM RDr cLay)) (C2 : Cal P w K mg base 18 "labels_sum" p_labels_sum (spP cLSum)) (C3 : Cal P w K mg base 18 "are_least" p_are_least (spP cLeast)) (C4 : Cal P w K mg base 1 "_law_like" p_L_like (spP cLike))
    (C5 : Cal P w K mg base 9 "_law_summed" p_L_summed (spP (cSumOf 8))) : Cal P w K mg base 19 "_law_others_right" p_L_others_right (spM RDr cOthers) := by
  refine Fu.fnM RDr.mv sc_L_others_right (fun a _ => rfl) fun X F a B0 hF hw ha => ?_
  have B := B0.toBd
  obtain ⟨n, t, m⟩ := a
  obtain ⟨ha, hf⟩ := ha
  replace ha : TOk n 8 t := ha
  replace hf : m.fits n t := hf
  refine sd_start (ρ1 := [.res [], .dat (eT t), .dat (eM m), .dat (.int (cost t : Nat)), .un, .un, .un, .un, .un]) rfl (sd_cons (s_ifd (Nn := fun ρ' => ρ' = [.res [], .dat (eT t), .dat (eM m), .dat (.int (cost t : Nat)), .un, .un, .un, .un, .un] ∧ ∃ x y, t = .fork x y) (pb_leaf B T' rfl (gv B 1 rfl)) (fun h1 => sd_one (s_ret (pn_bl.imp fun r e => ⟨0, [], rfl, e⟩))) fun h1 => sd_nil ⟨rfl, ?_⟩) fun ρ' e => ?_)
  · cases t with
    | leaf l => cases h1
    | fork x y => exact ⟨x, y, rfl⟩
  · obtain ⟨rfl, ta, tb, rfl⟩ := e
    cases m with
    | leaf _ => exact hf.elim
    | fork L x y =>
    obtain ⟨o1, o2, f3, f4⟩ := hf
    have hm : L.n = ((L.n.toNat : Nat) : Int) := by have := o1.n1; omega
    refine sd_cons (s_set B 4 (P := fun d => ∃ l : Lay, d = eL l ∧ l.ok ∧ l.n = n) (pn_callD (c := cLay) B0.at B C1 (by omega) rfl hF 0 rfl (oneR_ok rfl) rfl (.inl rfl) (pds_one (pd_ixT (n := 0) (ds := [.int L.n, .tuple (L.js.map eJ)]) (pd_ixT (n := 1) (ds := [.str "fork", eL L, eM x, eM y]) (gv B 2 rfl) rfl) rfl)) fun ds e => ⟨L.n.toNat, rfl, rfl, by rw [e, hm]; rfl, ⟨?_, ?_⟩, fun d c' h => ?_⟩) rfl (.inl rfl) B0.hfn) fun ρ' e => ?_
    · have := o1.n1; omega
    · have := o1.n2; omega
    · obtain ⟨l, e1, e2, e3⟩ := h
      exact ⟨l, e1, e2, by rw [e3, ← hm, o2]⟩
    · obtain ⟨d, ⟨l, rfl, l1, l2⟩, rfl⟩ := e
      have fo : (M.fork l x y).fits n (.fork ta tb) := ⟨l1, l2, f3, f4⟩
      refine sd_cons (s_set B 5 (P := fun d => d = eM (.fork l x y)) (pd_catT (xs := [.str "fork", eL l]) (ys := [eM x, eM y]) (pd_tup (pds_cons pn_str (pds_cons (gv B 4 rfl) pns_nil))) (pd_cutT (n := 2) (ds := [.str "fork", eL L, eM x, eM y]) (gv B 2 rfl) (by decide) (by simp)) (by show 4 ≤ sizeLine; decide)) rfl (.inl rfl) B0.hfn) fun ρ' e => ?_
      obtain ⟨d, rfl, rfl⟩ := e
      refine sd_cons (s_set B 6 (P := fun d => d = .list [.int (summed (.fork l x y)), .bool (decide (summed (.fork l x y) = cost (.fork ta tb)))]) (pd_lst (pds_cons (pd_callR (c := cLSum) (n, .fork ta tb, .fork l x y) _ (fun _ z => z) B0.at B C2 (by decide) rfl (pds_cons (gv B 1 rfl) (pds_cons (gv B 5 rfl) pns_nil)) ⟨ha, fo⟩)
        (pds_cons (pd_callR (c := cLeast) (n, .fork ta tb, .good (.fork l x y)) _ (fun _ z => z) B0.at B C3 (by decide) rfl (pds_cons (gv B 1 rfl) (pds_cons (gv B 5 rfl) pns_nil)) ⟨ha, fo⟩) pns_nil))) rfl (.inl rfl) B0.hfn) fun ρ' e => ?_
      obtain ⟨d, rfl, rfl⟩ := e
      have told : Sh (.list [.int (summed (.fork l x y)), .bool (decide (summed (.fork l x y) = cost (.fork ta tb)))]) := ((NcA.cons (nc_sum ha fo) (NcA.cons (Nc.bool _) NcA.nil)).lst).told (by omega) (by omega)
      refine sd_cons (s_ifd (Nn := fun ρ' => ρ' = [.res [], .dat (eT (.fork ta tb)), .dat (eM (.fork L x y)), .dat (.int (cost (.fork ta tb) : Nat)), .dat (eL l), .dat (eM (.fork l x y)), .dat (.list [.int (summed (.fork l x y)), .bool (decide (summed (.fork l x y) = cost (.fork ta tb)))]), .un, .un])
        (tb_not (pb_of (pd_callR (c := cLike) (.list [.int (summed (.fork l x y)), .bool (decide (summed (.fork l x y) = cost (.fork ta tb)))]) (.bool true) (fun _ z => z) B0.at B C4 (by decide) rfl (pds_cons (gv B 6 rfl) (pds_cons (pd_lst (pds_cons (pd_callR (c := cSumOf 8) (n, .fork ta tb, .fork l x y) _ (fun _ z => z) B0.at B C5 (by decide) rfl (pds_cons (gv B 5 rfl) pns_nil) ⟨ha, fo⟩)
          (pds_cons (pd_eqI B (pd_callR (c := cSumOf 8) (n, .fork ta tb, .fork l x y) _ (fun _ z => z) B0.at B C5 (by decide) rfl (pds_cons (gv B 5 rfl) pns_nil) ⟨ha, fo⟩) (gv B 3 rfl)) pns_nil))) pns_nil)) ⟨.inl ⟨_, rfl⟩, told⟩))) (fun z => by cases z) fun _ => sd_nil rfl) fun ρ' e => ?_
      subst e
      refine sd_cons (s_set B 7 (P := fun d => d = .list [.none, .tuple [], .tuple [eL L, eM x, eM y], .tuple [.str "fork", eL L, eM x], .list [.str "fork", eL L, eM x, eM y], .tuple [.str "fork", .none, eM x, eM y], .tuple [eL L, eL L, eM x, eM y]])
        (pd_lst (pds_cons pn_non (pds_cons (pd_tup pns_nil) (pds_cons (pd_cutT (n := 1) (ds := [.str "fork", eL L, eM x, eM y]) (gv B 2 rfl) (by decide) (by simp)) (pds_cons (pd_cutTo (n := 3) (ds := [.str "fork", eL L, eM x, eM y]) (gv B 2 rfl) (by simp)) (pds_cons (PO.pd (po_list (ds := [.str "fork", eL L, eM x, eM y]) B T' rfl (gv B 2 rfl) (.inr rfl)))
          (pds_cons (pd_catT (xs := [.str "fork", .none]) (ys := [eM x, eM y]) (pd_tup (pds_cons pn_str (pds_cons pn_non pns_nil))) (pd_cutT (n := 2) (ds := [.str "fork", eL L, eM x, eM y]) (gv B 2 rfl) (by decide) (by simp)) (by show 4 ≤ sizeLine; decide))
          (pds_cons (pd_catT (xs := [eL L]) (ys := [eL L, eM x, eM y]) (pd_tup (pds_cons (pd_ixT (n := 1) (ds := [.str "fork", eL L, eM x, eM y]) (gv B 2 rfl) rfl) pns_nil)) (pd_cutT (n := 1) (ds := [.str "fork", eL L, eM x, eM y]) (gv B 2 rfl) (by decide) (by simp)) (by show 4 ≤ sizeLine; decide)) pns_nil)))))))) rfl (.inl rfl) B0.hfn) fun ρ' e => ?_
      obtain ⟨d, rfl, rfl⟩ := e
      refine sd_one (s_ret ((pd_eq B (PO.pd (po_lc (α := D) (enc := fun d => d) (xs := oddsOf L x y) (keep := fun _ => false) (val := fun d => d) (own := [("_law_odd", 8)]) (Ok := fun _ => True) (Tt := gT1 8) B (pi_list cE) (dw_list (pd_cat (xs := [.none, .tuple [], .tuple [eL L, eM x, eM y], .tuple [.str "fork", eL L, eM x], .list [.str "fork", eL L, eM x, eM y], .tuple [.str "fork", .none, eM x, eM y], .tuple [eL L, eL L, eM x, eM y]]) (ys := [eL L]) (gv B 7 rfl) (pd_lst (pds_cons (pd_ixT (n := 1) (ds := [.str "fork", eL L, eM x, eM y]) (gv B 2 rfl) rfl) pns_nil)) (by show 8 ≤ sizeLine; decide)))
        (blkOk_by (by decide +kernel)) (fun X' bk => bk_name bk B 8 rfl rfl) (dg_name 8) (fun _ _ => trivial) (line_lt (by show 8 ≤ 100000; decide)) rfl fun X' bk a hma ρ2 q => ?_)) (pd_lst pns_nil) ?_ shaped_nil).imp fun r e => ⟨0, [], rfl, ?_⟩))
      · subst q
        have B' := bk.bd B
        exact ⟨pbs_one ((pb_notBl (u := false) (v := false) (pd_callR (c := cLeast) (n, .fork ta tb, .bad a) _ (fun _ z => z) (bk.at B0.at) B' C3 (by decide) rfl (pds_cons (gv B' 1 rfl) (pds_cons (gv B' 8 rfl) pns_nil)) ⟨ha, odds_odd ta tb L x y a hma⟩) pn_bl).imp fun q e => by rw [e]; rfl), fun z => by cases z⟩
      · rw [show (oddsOf L x y).filter (fun _ => false) = [] from rfl]
        exact shaped_nil
      · rw [show r = _ from e, show (oddsOf L x y).filter (fun _ => false) = [] from rfl]
        show PyData.bool (PyData.eqv (.list []) (.list [])) = _
        rw [eqv_nil]
        rfl
end Dc
/-! W22: right. -/
namespace Dc
open PySem PySem.Spec PyProof.Rows L2 Pd
variable {P : Program} {w : World} {K : PySem.W.Frag} {mg : Str → Option Value} {base : Heap}
def cRight : CtrM (Int × T) := ⟨fun _ => [], fun _ => [], fun a => [eT a.2], fun a => TOk a.1 8 a.2, fun _ d _ => d = .bool true⟩
theorem sum_cast : ∀ l : List Nat, (l.map fun n => ((n : Nat) : Int)).sum = ((l.sum : Nat) : Int)
  | [] => rfl
  | n :: l => by rw [List.map_cons, List.sum_cons, List.sum_cons, sum_cast l]; omega
theorem cost_ints (t : T) : ((joints t).map fun j => ((best t j).2 : Int)).sum = (cost t : Nat) := by
  unfold cost
  rw [← sum_cast, List.map_map]
  rfl
theorem nc_t {n : Int} {t : T} (o : TOk n 8 t) : Nc 10 20000 (eT t) := (nc_eT o.ok).mono (by have := o.d8; omega) (by have := o.lv; omega)
theorem nc_m {n : Int} {t : T} {m : M} (o : TOk n 8 t) (f : m.fits n t) : Nc 10 30000 (eM m) := (nc_eM o.ok f).mono (by have := o.d8; omega) (by have := o.lv; omega)
theorem nc_ls {n : Int} {t : T} (o : TOk n 8 t) : Nc 10 20000 (.tuple (t.leaves.map eL)) := (NcA.map (f := eL) fun l hl => nc_eL (ok_leaves o.ok l hl).1).tup.mono (by omega) (by have := o.lv; omega)
theorem ok_L_right (Fu : Df K mg "_law_right" s_L_right p_L_right) (T' : Bt mg) (C1 : Cal P w K mg base 17 "_law_plain" p_L_plain (spP (cPlain 8))) (C2 : Cal P w K mg base 8 "_law_best" p_L_best (spP (cBest 8))) (C3 : Cal P w K mg base 9 "_law_joints" p_L_joints (spP cJoints)) (C4 : Cal P w K mg base 1 "_law_like" p_L_like (spP cLike))
    (C5 : Cal P w K mg base 14 "tree_sum" p_tree_sum (spP cSum)) (C6 : Cal P w K mg base 18 "tree_labels" p_tree_labels (spP cTLab)) (C7 : Cal P w K mg base 16 "_law_are_labels" p_L_are_labels (spP (cLawAre 8))) (C8 : Cal P w K mg base 9 "_law_summed" p_L_summed (spP (cSumOf 8)))
    (C9 : Cal P w K mg base 13 "need_tree" p_need_tree (spP cNeed)) (C10 : Cal P w K mg base 14 "leaves" p_leaves (spP cLvs)) (C11 : Cal P w K mg base 18 "labels_sum" p_labels_sum (spP cLSum)) (C12 : Cal P w K mg base 18 "are_least" p_are_least (spP cLeast)) (C13 : Cal P w K mg base 8 "_law_leaves" p_L_leaves (spP (cLeaves 8)))
    (C14 : Cal P w K mg base 19 "_law_others_right" p_L_others_right (spM RDr cOthers)) : Cal P w K mg base 20 "_law_right" p_L_right (spM RDr cRight) := by
  refine Fu.fnM RDr.mv sc_L_right (fun a _ => rfl) fun X F a B0 hF hw ha => ?_
  have B := B0.toBd
  obtain ⟨n, t⟩ := a
  replace ha : TOk n 8 t := ha
  have hfit : (plain t []).fits n t := plain_fits ha.n1 ha.n2 ha.ok free_nil
  have hsum : summed (plain t []) = cost t := summed_plain ha.ok
  have jf := joints_few ha.n2 ha.ok
  have nct := nc_t ha
  have ncm := nc_m ha hfit
  have ncc := nc_cost ha
  refine sd_start (ρ1 := [.res [], .dat (eT t), .un, .un, .un, .un, .un, .un]) rfl (sd_cons (s_par B 2 3 (PN.pv (pd_repr B T' rfl (gv B 1 rfl) (tup_eT t) (told_eT ha))) (PN.pv (pd_callR (c := cPlain 8) (n, t, []) _ (fun _ z => z) B0.at B C1 (by decide) rfl (pds_cons (gv B 1 rfl) (pds_cons (pd_lst pns_nil) pns_nil)) ha)) (by decide) rfl rfl rfl rfl rfl) fun ρ' e => ?_)
  obtain ⟨s, u, ⟨_, rfl, rfl⟩, ⟨_, rfl, rfl⟩, rfl⟩ := e
  refine sd_cons (s_set B 4 (P := fun d => d = .int (cost t : Nat)) ((pd_sum (ns := (joints t).map fun j => ((best t j).2 : Int)) B T' rfl ((PO.pd (po_lc (α := J) (enc := eJ) (xs := joints t) (keep := fun _ => true) (val := fun j => .int ((best t j).2 : Nat)) (own := [("_law_joint", 7)]) (Ok := fun _ => True) (Tt := gT1 7) B (pi_list cE)
    (dw_list (pd_callR (c := cJoints) (n, t) _ (fun _ z => z) B0.at B C3 (by decide) rfl (pds_cons (gv B 1 rfl) pns_nil) ha)) (blkOk_by (by decide +kernel)) (fun X' bk => bk_name bk B 7 rfl rfl) (dg_name 7) (fun _ _ => trivial) (line_lt (by omega)) rfl fun X' bk j _ ρ2 q => ?_)).cast ?_)).cast ?_) rfl (.inl rfl) B0.hfn) fun ρ' e => ?_
  · subst q
    have B' := bk.bd B
    exact ⟨pbs_nil, fun _ => pd_ixT (n := 1) (ds := [.list ((chS (best t j).1).map .bool), .int ((best t j).2 : Nat)]) (pd_callR (c := cBest 8) (n, t, j) _ (fun _ z => z) (bk.at B0.at) B' C2 (by decide) rfl (pds_cons (gv B' 1 rfl) (pds_cons (gv B' 7 rfl) pns_nil)) ha) rfl⟩
  · rw [List.filter_eq_self.mpr (fun _ _ => rfl), List.map_map]
    rfl
  · rw [cost_ints]
  · obtain ⟨d, rfl, rfl⟩ := e
    have told1 : Sh (.list [.int (cost t : Nat), eM (plain t [])]) := ((NcA.cons (ncc.mono (Nat.zero_le 10) (Nat.le_refl _)) (NcA.cons ncm NcA.nil)).lst).told (by omega) (by omega)
    refine sd_cons (s_for B B0.hxe (pi_range1 (B.gl rfl) (by rw [B.hmg]; exact T'.range) cA) (dw_range (n := 2) (pds_one pn_int) (by decide) (by decide)) (fg B0 5 rfl (.inl rfl)) (dg_name 5) (fun _ _ => trivial)
      (fun i ρ' => ∃ s, ρ' = [.res [], .dat (eT t), .dat (.str (eT t).shown), .dat (eM (plain t [])), .dat (.int (cost t : Nat)), s, .un, .un] ∧ [s, .un, .un].all plS = true) ⟨.un, rfl, rfl⟩ fun i d ρ1 ρ2 hd h1 h2 => ?_) fun ρ' h => ?_
    · obtain ⟨s, rfl, hs⟩ := h1
      obtain ⟨_, rfl⟩ := rgD_get hd
      subst h2
      exact sd_one (s_ifd (tb_not (pb_of (pd_callR (c := cLike) (.list [.int (cost t : Nat), eM (plain t [])]) (.bool true) (fun _ z => z) B0.at B C4 (by decide) rfl (pds_cons (pd_lst (pds_cons (pd_callR (c := cSum) (n, t) _ (fun _ z => z) B0.at B C5 (by decide) rfl (pds_cons (gv B 1 rfl) pns_nil) ha) (pds_cons (pd_callR (c := cTLab) (n, t) _ (fun _ z => z) B0.at B C6 (by decide) rfl (pds_cons (gv B 1 rfl) pns_nil) ha) pns_nil)))
        (pds_cons (pd_lst (pds_cons (gv B 4 rfl) (pds_cons (gv B 3 rfl) pns_nil))) pns_nil)) ⟨.inl ⟨_, rfl⟩, told1⟩))) (fun z => by cases z) fun _ => sd_nil ⟨.dat (.int (i : Nat)), rfl, rfl⟩)
    · obtain ⟨s, rfl, hs⟩ := h
      refine sd_cons (s_ifd (Nn := fun ρ' => ρ' = [.res [], .dat (eT t), .dat (.str (eT t).shown), .dat (eM (plain t [])), .dat (.int (cost t : Nat)), s, .un, .un]) (PBW.pb (tb_or (tb_not (pb_of (pd_callR (c := cLawAre 8) (n, t, plain t []) (.bool true) (fun _ z => z) B0.at B C7 (by decide) rfl (pds_cons (gv B 1 rfl) (pds_cons (gv B 3 rfl) pns_nil)) ⟨ha, hfit⟩))) fun _ =>
        tb_or1 (pb_neI B (pd_callR (c := cSumOf 8) (n, t, plain t []) (.int (summed (plain t []))) (fun _ z => z) B0.at B C8 (by decide) rfl (pds_cons (gv B 3 rfl) pns_nil) ⟨ha, hfit⟩) (gv B 4 rfl)))) (fun z => by rw [hsum] at z; simp at z) fun _ => sd_nil rfl) fun ρ' e => ?_
      subst e
      have told2 : Sh (.list [eT t, .tuple (t.leaves.map eL), .int (cost t : Nat), .bool true]) := ((NcA.cons nct (NcA.cons (nc_ls ha) (NcA.cons (ncc.mono (Nat.zero_le 10) (Nat.le_refl _)) (NcA.cons ((Nc.bool true).mono (Nat.zero_le 10) (Nat.le_refl _)) NcA.nil)))).lst).told (by omega) (by omega)
      have elm : (LabV.good (plain t [])).least t = true := decide_eq_true hsum
      refine sd_cons (s_set B 6 (P := fun d => d = .list [eT t, .tuple (t.leaves.map eL), .int (cost t : Nat), .bool true]) ((pd_lst (pds_cons (pd_callR (c := cNeed) (n, t) (eT t) (fun _ z => z) B0.at B C9 (by decide) rfl (pds_cons (gv B 1 rfl) pns_nil) ha) (pds_cons (pd_callR (c := cLvs) (n, t) _ (fun _ z => z) B0.at B C10 (by decide) rfl (pds_cons (gv B 1 rfl) pns_nil) ha)
        (pds_cons (pd_callR (c := cLSum) (n, t, plain t []) (.int (summed (plain t []))) (fun _ z => z) B0.at B C11 (by decide) rfl (pds_cons (gv B 1 rfl) (pds_cons (gv B 3 rfl) pns_nil)) ⟨ha, hfit⟩) (pds_cons (pd_callR (c := cLeast) (n, t, .good (plain t [])) (.bool ((LabV.good (plain t [])).least t)) (fun _ z => z) B0.at B C12 (by decide) rfl (pds_cons (gv B 1 rfl) (pds_cons (gv B 3 rfl) pns_nil)) ⟨ha, hfit⟩) pns_nil))))).cast (by rw [hsum, elm])) rfl (.inl rfl) B0.hfn) fun ρ' e => ?_
      obtain ⟨d, rfl, rfl⟩ := e
      refine sd_cons (s_ifd (Nn := fun ρ' => ρ' = [.res [], .dat (eT t), .dat (.str (eT t).shown), .dat (eM (plain t [])), .dat (.int (cost t : Nat)), s, .dat (.list [eT t, .tuple (t.leaves.map eL), .int (cost t : Nat), .bool true]), .un])
        (tb_not (pb_of (pd_callR (c := cLike) (.list [eT t, .tuple (t.leaves.map eL), .int (cost t : Nat), .bool true]) (.bool true) (fun _ z => z) B0.at B C4 (by decide) rfl (pds_cons (gv B 6 rfl) (pds_cons (pd_lst (pds_cons (gv B 1 rfl) (pds_cons (pd_tuple B T' rfl (pd_callR (c := cLeaves 8) (n, t) _ (fun _ z => z) B0.at B C13 (by decide) rfl (pds_cons (gv B 1 rfl) pns_nil) ha)) (pds_cons (gv B 4 rfl) (pds_cons pn_bl pns_nil))))) pns_nil)) ⟨.inl ⟨_, rfl⟩, told2⟩)))
        (fun z => by cases z) fun _ => sd_nil rfl) fun ρ' e => ?_
      subst e
      have hs' : noRes [s, .dat (.list [eT t, .tuple (t.leaves.map eL), .int (cost t : Nat), .bool true]), .un] = true := by
        simp only [List.all_cons, List.all_nil, Bool.and_true, Bool.and_eq_true] at hs
        exact plS_noRes (by simp only [List.all_cons, List.all_nil, Bool.and_true, Bool.and_eq_true]; exact ⟨hs.1, rfl, rfl⟩)
      have hs2 : oneR [.res [], .dat (eT t), .dat (.str (eT t).shown), .dat (eM (plain t [])), .dat (.int (cost t : Nat)), s, .dat (.list [eT t, .tuple (t.leaves.map eL), .int (cost t : Nat), .bool true]), .un] 0 = true := hs'
      refine sd_one (s_ret ((pd_and (x := true) (y := true) (pn_callD (c := cOthers) B0.at B C14 (by decide) rfl hF 0 rfl (oneR_ok hs2) rfl (.inl rfl) (pds_cons (gv B 1 rfl) (pds_cons (gv B 3 rfl) (pds_cons (gv B 4 rfl) pns_nil))) fun ds e => ⟨(n, t, plain t []), rfl, rfl, e, ⟨ha, hfit⟩, fun d c' h => h⟩)
        fun _ => pd_and1 ((pd_eqS (pd_repr B T' rfl (gv B 1 rfl) (tup_eT t) (told_eT ha)) (gv B 2 rfl)).cast (by rw [decide_eq_true rfl]))).imp fun r e => ⟨0, [], rfl, ?_⟩))
      rw [show r = _ from e]
      rfl
end Dc
/-! W23: the law: plain facts; a loop whose range is known where it stands. -/
namespace Dc
open PySem PySem.Spec PyProof.Rows L2 Pd
/-! the tree of three that is written -/
def lay1 : Lay := ⟨1, [(0, 1)]⟩
def lay0 : Lay := ⟨1, []⟩
def tree10 : T := .fork (.leaf lay1) (.leaf lay0)
def tree11 : T := .fork (.leaf lay1) (.leaf lay1)
def tree4 : T := .fork tree10 tree11
theorem lay1_ok : lay1.ok := ok_of (by decide)
theorem lay0_ok : lay0.ok := ok_of (by decide)
theorem tree4_ok : TOk 1 8 tree4 := ⟨⟨⟨⟨lay1_ok, rfl⟩, ⟨lay0_ok, rfl⟩⟩, ⟨⟨lay1_ok, rfl⟩, ⟨lay1_ok, rfl⟩⟩⟩, by decide, by decide, by decide, by decide⟩
theorem tree10_ok : TOk 1 8 tree10 := ⟨⟨⟨lay1_ok, rfl⟩, ⟨lay0_ok, rfl⟩⟩, by decide, by decide, by decide, by decide⟩
theorem leaf1_ok : TOk 1 8 (.leaf lay1) := ⟨⟨lay1_ok, rfl⟩, by decide, by decide, by decide, by decide⟩
theorem leaf0_ok : TOk 1 8 (.leaf lay0) := ⟨⟨lay0_ok, rfl⟩, by decide, by decide, by decide, by decide⟩
theorem sort_one (j : J) : [j].mergeSort leJ = [j] := List.mergeSort_singleton j
theorem joints4 : joints tree4 = [(0, 1)] := by
  have e : firsts tree4.leaves = [(0, 1)] := by decide
  unfold joints
  rw [e, sort_one]
theorem joints10 : joints tree10 = [(0, 1)] := by
  have e : firsts tree10.leaves = [(0, 1)] := by decide
  unfold joints
  rw [e, sort_one]
theorem joints11 : joints tree11 = [(0, 1)] := by
  have e : firsts tree11.leaves = [(0, 1)] := by decide
  unfold joints
  rw [e, sort_one]
theorem cost4 : cost tree4 = 1 := by
  unfold cost
  rw [joints4]
  decide
theorem cost1 : cost (.leaf lay1) = 0 := by
  have e : firsts (T.leaf lay1).leaves = [(0, 1)] := by decide
  unfold cost joints
  rw [e, sort_one]
  decide
theorem cost0 : cost (.leaf lay0) = 0 := by
  have e : firsts (T.leaf lay0).leaves = [] := by decide
  unfold cost joints
  rw [e, List.mergeSort_nil]
  rfl
theorem plain10 (ab : List J) (h : [((0 : Int), (1 : Int))].filter (want tree10 ab) = s) : plain tree10 ab = .fork ⟨1, s⟩ (.leaf lay1) (.leaf lay0) := by
  show M.fork ⟨1, (joints tree10).filter (want tree10 ab)⟩ (.leaf lay1) (.leaf lay0) = _
  rw [joints10, h]
theorem plain11 (ab : List J) (h : [((0 : Int), (1 : Int))].filter (want tree11 ab) = s) : plain tree11 ab = .fork ⟨1, s⟩ (.leaf lay1) (.leaf lay1) := by
  show M.fork ⟨1, (joints tree11).filter (want tree11 ab)⟩ (.leaf lay1) (.leaf lay1) = _
  rw [joints11, h]
theorem plain4 : plain tree4 [] = .fork lay1 (.fork lay1 (.leaf lay1) (.leaf lay0)) (.fork lay1 (.leaf lay1) (.leaf lay1)) := by
  show M.fork ⟨1, (joints tree4).filter (want tree4 [])⟩ (plain tree10 ((joints tree4).filter (want tree4 []))) (plain tree11 ((joints tree4).filter (want tree4 []))) = _
  have e : [((0 : Int), (1 : Int))].filter (want tree4 []) = [(0, 1)] := by decide
  rw [joints4, e, plain10 (s := [(0, 1)]) _ (by decide), plain11 (s := [(0, 1)]) _ (by decide)]
  rfl
theorem plain10' : plain tree10 [] = .fork lay0 (.leaf lay1) (.leaf lay0) := plain10 (s := []) _ (by decide)
/-! the search, as the law makes it -/
def vals_ (n : Nat) (t : T) : List (Option Int) := (evS n).map (val (evS n) t)
def told_ (n : Nat) (t : T) : List Int := ((vals_ n t).filter Option.isSome).map (·.getD 0)
theorem told_mem {n : Nat} {t : T} {m : Int} : m ∈ told_ n t ↔ ∃ L ∈ evS n, val (evS n) t L = some m := by
  unfold told_ vals_
  rw [List.mem_map]
  constructor
  · rintro ⟨o, ho, rfl⟩
    obtain ⟨h1, h2⟩ := List.mem_filter.mp ho
    obtain ⟨L, hL, rfl⟩ := List.mem_map.mp h1
    obtain ⟨v, hv⟩ := Option.isSome_iff_exists.mp h2
    exact ⟨L, hL, by rw [hv]; rfl⟩
  · rintro ⟨L, hL, e⟩
    exact ⟨some m, List.mem_filter.mpr ⟨List.mem_map.mpr ⟨L, hL, e⟩, rfl⟩, rfl⟩
theorem told_ne {n : Nat} (h : n = 1 ∨ n = 2) {t : T} (o : t.ok n) : 0 < (told_ n t).length := by
  have A := (evS_all h).1
  have f : (plain t []).fits n t := plain_fits (by omega) (by omega) o free_nil
  obtain ⟨v, e, _⟩ := val_le f (fits_inn A o f) (leaves_all A o)
  exact List.length_pos_of_mem (told_mem.mpr ⟨_, inn_top (fits_inn A o f), e⟩)
theorem told_min {n : Nat} (h : n = 1 ∨ n = 2) {t : T} (o : t.ok n) {m : Int} (h1 : m ∈ told_ n t) (h2 : ∀ y ∈ told_ n t, m ≤ y) : m = cost t :=
  search_cost (by omega) (by omega) (evS_all h).1 o (told_mem.mp h1) fun L hL v e => h2 v (told_mem.mpr ⟨L, hL, e⟩)
theorem told_few {n : Nat} (h : n = 1 ∨ n = 2) (t : T) : (vals_ n t).length ≤ 100 := by
  unfold vals_
  rw [List.length_map]
  exact (evS_all h).2
theorem tok_of {n : Nat} {t : T} {m : Nat} (h1 : 1 ≤ n) (h2 : n ≤ 12) (o : t.ok n) (hl : t.leaves.length = m) (hm : m ≤ 8) : TOk n 8 t := ⟨o, by omega, by omega, by omega, by have := depth_le t; omega⟩
/-! the loop -/
section
variable {X : Cx} {F : Fx} {ρ : Ev} {K : PySem.W.Frag} {mg : Str → Option Value} {N : List Str} {sc : Scope} {k : Nat} {l : Expr} {pos : Pos} {ds : List D} {tg : Expr}
theorem tS_for {G H : Hp} {σ : L2.St} {wi : TI} {g : TG} {T : D → Ev → Ev → Prop} {Ok : D → Prop} {body : List Stmt} {R : D → Ev → Prop} (B : Bd X K mg N sc k) (hxe : X.xe = fun _ _ => False) (hi : PI X tg l wi) (I : SI F ρ G σ H) (hd : ∀ R : It → Hp → Prop, (∀ L, Walks L G ds → R L H) → wi σ H R) (hg : PG X tg g) {gv : List Nat} (dg : DG F g Ok T gv) (hok : ∀ d ∈ ds, Ok d)
    (Iv : Nat → Ev → Prop) (h0 : Iv 0 ρ) (hb : ∀ j d ρ1 ρ2, ds[j]? = some d → Iv j ρ1 → T d ρ1 ρ2 → SD X F ρ2 body (Iv (j + 1)) R) (E : Ends) (n : ∀ ρ' G' σ' H', Iv ds.length ρ' → SI F ρ' G' σ' H' → Same G G' → E.nx σ' H') (r : ∀ d v ρ' G' σ' H', R d ρ' → SI F ρ' G' σ' H' → Rp G' v d → E.rt v H')
    (hs : ∀ x, foldedSetIterable l X.env x = pure x := by intro _; rfl) : tS X (.For tg l body [] pos) E σ H := by
  refine tS_of (ps_for (by rw [hxe]; exact PassesOwn.never) B.calm hi hg cSs hs) (hd _ fun L Wk => ⟨fun j m σ' H' => m = ds.length - j ∧ j ≤ ds.length ∧ ∃ ρ' G', Iv j ρ' ∧ SI F ρ' G' σ' H' ∧ Same G G', ⟨ds.length, by simp, Nat.zero_le _, ρ, G, h0, I, Same.refl G⟩, ?_⟩)
  rintro j m σ' H' ⟨rfl, hj, ρ', G', iv, I', s'⟩
  obtain ⟨w1, w2, w3⟩ := Wk G' H' s' I'.sub j
  by_cases hlt : j < ds.length
  · refine .inr ⟨w1 hlt, fun σ2 H2 => ∃ ρ2 G2, Iv (j + 1) ρ2 ∧ SI F ρ2 G2 σ2 H2 ∧ Same G G2, fun σ2 H2 ⟨ρ2, G2, a, b, c⟩ => ⟨ds.length - (j + 1), by omega, rfl, hlt, ρ2, G2, a, b, c⟩, fun x H'' y => ?_⟩
    have e := List.getElem?_eq_getElem hlt
    obtain ⟨G'', nn, rx⟩ := w3 x H'' _ e y
    refine dg _ x ρ' G'' σ' H'' (hok _ (List.getElem_mem hlt)) rx (I'.nx nn) _ fun ρ2 σ2 t I2 _ _ => ?_
    exact hb j _ ρ' ρ2 e iv t G'' σ2 H'' I2 { E with nx := _, ct := _, bk := E.nx } (fun ρ3 G3 σ3 H3 z I3 s3 => ⟨ρ3, G3, z, I3, s'.trans ((I'.up nn).trans s3)⟩) r
  · have e : j = ds.length := by omega
    subst e
    exact .inl ⟨w2 (Nat.le_refl _), n ρ' G' σ' H' iv I' s'⟩
end
end Dc
/-! W24: the law. -/
namespace Dc
open PySem PySem.Spec PyProof.Rows L2 Pd
variable {P : Program} {w : World} {K : PySem.W.Frag} {mg : Str → Option Value} {base : Heap}
def spLaw (K : PySem.W.Frag) : Sp := fun vs H Q _ => ∃ (a : Addr) (ns : List Int), vs = [.ref a] ∧ SqL K H a (ns.map .int) ∧ ns.length ≤ 63 ∧ ∀ H', Q (.bl true) H'
set_option maxHeartbeats 4000000 in
theorem ok_law {f : Addr} {fd : FuncData} (Fu : Fun K "law" "law" s_law f fd) (T' : Bt mg) (C0 : Cal P w K mg base 1 "_law_begun" p_L_begun (spBegun K)) (C1 : Cal P w K mg base 1 "_law_draw" p_L_draw (spM RDr cDraw)) (C2 : Cal P w K mg base 2 "_law_of" p_L_of (spM RDr cOf)) (C3 : Cal P w K mg base 11 "_law_tree" p_L_tree (spM RDr (cMake 8)))
    (C4 : Cal P w K mg base 9 "_law_sums" p_L_sums (spP (cSums 8))) (C5 : Cal P w K mg base 1 "_law_all" p_L_all (spP cAll)) (C6 : Cal P w K mg base 14 "tree_sum" p_tree_sum (spP cSum)) (C7 : Cal P w K mg base 20 "_law_right" p_L_right (spM RDr cRight))
    (C8 : Cal P w K mg base 18 "are_least" p_are_least (spP cLeast)) (C9 : Cal P w K mg base 18 "tree_labels" p_tree_labels (spP cTLab)) (C10 : Cal P w K mg base 1 "_law_like" p_L_like (spP cLike)) : FnG P w K mg base 21 f fd p_law (spLaw K) := by
  refine fnG_of Fu sc_law (fun vs H Q E h => ?_) fun cdv A outer s H vs Q hr hg h => ?_
  · obtain ⟨a, ns, rfl, _⟩ := h
    rfl
  · obtain ⟨a, ns, rfl, hS, hl, q⟩ := h
    have B0 : Fr1 P w K mg base n_law (defScope s_law) 20 (bx P w K mg base n_law "law" s_law f cdv A outer s H) := ⟨bd_of sc_law hr hg, rfl, rfl, rfl, fun _ => rfl, rfl⟩
    have B := B0.toBd
    obtain ⟨fb, fbd, FB, gb, kb, bb⟩ := C0.ex
    refine tSs_of (pss_cons (ps_set (i := 1) sc_law.nd rfl (.inl rfl) cE) (pss_cons cS cSs)) ?_
    refine tE_call (FB.mono (show 1 ≤ 20 by decide)) B.room B.guards (by rfl) gb kb bb ?_
    refine tA_of (pa_cons (pv 0) pa_nil) ?_
    refine ⟨.ref a, rfl, a, ns, rfl, hS, hl, fun H1 p lq mx gs sm hp hH hq hHq hpq hgs => ?_⟩
    -- the draws stand
    have hw : H1 p ≠ none := by rw [hH]; exact fun z => nomatch z
    have gp : (upd (fun _ => none) lq (.lst (gs.map .int)) : Hp) p = none := by rw [upd_ne hpq]
    have I : SI (fxM RDr RDr.mv (upd (fun _ => none) lq (.lst (gs.map .int))) H1 p hw) [.un, .res [], .un, .un, .un, .un, .un, .un, .un, .un, .un] (upd (fun _ => none) lq (.lst (gs.map .int))) ((L2.start n_law [.ref a]).set 1 (some (.ref p))) H1 := by
      refine ⟨fun b o e => ?_, fun b o e _ => e, fun b z => by cases z; exact hw, fun _ _ _ => rfl, rfl, fun i s e => ?_⟩
      · by_cases z : b = lq
        · subst z
          rw [upd_same] at e
          cases e
          exact hHq
        · rw [upd_ne z] at e
          cases e
      · match i, e with
        | 0, e => cases e; trivial
        | 1, e =>
          cases e
          exact ⟨p, rfl, rfl, gp, .ref lq, gs, 0, mx, hH, .lst upd_same (RpA.ofInts gs), hgs, .inl rfl⟩
        | 2, e => cases e; trivial
        | 3, e => cases e; trivial
        | 4, e => cases e; trivial
        | 5, e => cases e; trivial
        | 6, e => cases e; trivial
        | 7, e => cases e; trivial
        | 8, e => cases e; trivial
        | 9, e => cases e; trivial
        | 10, e => cases e; trivial
        | i + 11, e => cases e
    have hS1 : SqL K H1 a (ns.map .int) := sm.seq hS
    refine tS_for (ds := rgD (1 + (if (2 : Int) < ((ns.map V.int).length : Nat) then (2 : Int) else ((ns.map V.int).length : Nat))).toNat) (R := fun d _ => d = .bool true) B B0.hxe (pi_range1 (B.gl rfl) T'.range cA) I (fun R qR => ?_) (fg B0 2 rfl (.inl rfl)) (dg_name 2) (fun _ _ => trivial)
      (fun i ρ' => ∃ s2 s3 s4 s5, ρ' = [.un, .res [], s2, s3, s4, s5, .un, .un, .un, .un, .un] ∧ [s2, s3, s4, s5].all plS = true) ⟨.un, .un, .un, .un, rfl, rfl⟩ (fun i d ρ1 ρ2 hd h1 h2 => ?_) _ (fun ρ' G' σ' H' hI I' s' => ?_) (fun d v ρ' G' σ' H' hR I' rv => ?_)
    · -- range(1 + min(len(script), 2))
      have hl2 : ((ns.map V.int).length : Int) ≤ 63 := by rw [List.length_map]; omega
      refine tA_of (pa_cons (pe_op op_add pe_int (pe_callB (call_min2 B.calm) (B.gl rfl) T'.min boot_min (pa_cons (pe_callB call_len_seq (B.gl rfl) T'.len PySem.boot_len (pa_cons (pv 0) pa_nil)) (pa_cons pe_int pa_nil)))) pa_nil) ?_
      refine ⟨.ref a, rfl, a, ns.map V.int, rfl, .inl hS1, _, _, rfl, _, _, rfl, rfl, _, rfl, ?_, ?_, qR _ walks_range⟩
      · split <;> omega
      · split <;> omega
    · -- a turn
      obtain ⟨s2, s3, s4, s5, rfl, hs⟩ := h1
      obtain ⟨_, rfl⟩ := rgD_get hd
      subst h2
      simp only [List.all_cons, List.all_nil, Bool.and_true, Bool.and_eq_true] at hs
      obtain ⟨_, hs3, hs4, hs5⟩ := hs
      have nr : ∀ {a b c : Sl}, plS a = true → plS b = true → plS c = true → oneR [.un, .res [], .dat (.int (i : Nat)), a, b, c, .un, .un, .un, .un, .un] 1 = true := fun {a b c} h1 h2 h3 => show noRes [a, b, c, .un, .un, .un, .un, .un] = true from plS_noRes (by
        simp only [List.all_cons, List.all_nil, Bool.and_true, Bool.and_eq_true]
        exact ⟨h1, h2, h3, rfl, rfl, rfl, rfl, rfl⟩)
      refine sd_cons (s_set B 3 (P := fun d => ∃ n : Nat, d = .int (n : Nat) ∧ (n = 1 ∨ n = 2)) (pn_callD (c := cOf) B0.at B C2 (by decide) rfl rfl 1 rfl (oneR_ok (nr hs3 hs4 hs5)) rfl (.inl rfl) (pds_one (pd_lst (pds_cons pn_int (pds_cons pn_int (pds_cons pn_int pns_nil))))) fun ds e => ⟨[.int 1, .int 2, .int 2], rfl, rfl, e, ⟨by decide, by decide⟩, fun d c' h => ?_⟩) rfl (.inl rfl) B0.hfn) fun ρ' e => ?_
      · have h' : d ∈ [PyData.int 1, .int 2, .int 2] := h
        simp only [List.mem_cons, List.not_mem_nil, or_false] at h'
        rcases h' with rfl | rfl | rfl
        · exact ⟨1, rfl, .inl rfl⟩
        · exact ⟨2, rfl, .inr rfl⟩
        · exact ⟨2, rfl, .inr rfl⟩
      obtain ⟨d, ⟨n, rfl, hn⟩, rfl⟩ := e
      refine sd_cons (s_set B 4 (P := fun d => ∃ t : T, d = eT t ∧ TOk n 8 t) (pn_callD (c := cMake 8) B0.at B C3 (by decide) rfl rfl 1 rfl (oneR_ok (nr rfl hs4 hs5)) rfl (.inl rfl) (pns_cons (Pa := fun d => ∃ m : Nat, d = .int (m : Nat) ∧ 1 ≤ m ∧ m ≤ 4) (Ps := fun xs => xs = [.int (n : Nat)]) (Pr := fun xs => ∃ m : Nat, xs = [.int (m : Nat), .int (n : Nat)] ∧ 1 ≤ m ∧ m ≤ 4)
        (pn_op (Pa := fun d => d = .int 1) (Pb := fun d => ∃ i : Int, d = .int i ∧ 0 ≤ i ∧ i < 4) op_add pn_int (pn_callD (c := cDraw) B0.at B C1 (by decide) rfl rfl 1 rfl (oneR_ok (nr rfl hs4 hs5)) rfl (.inl rfl) (pds_one pn_int) fun ds e => ⟨4, rfl, rfl, e, ⟨by decide, by decide⟩, fun d c' h => h⟩) fun a b ea eb => ?_) (pds_one (gv B 3 rfl)) fun x xs p1 p2 => ?_) fun ds e => ?_) rfl (.inl rfl) B0.hfn) fun ρ' e => ?_
      · subst ea
        obtain ⟨i, rfl, g1, g2⟩ := eb
        exact fun G H v u Q s r1 r2 q => d2_I0 (f := fun i j => .int (i + j)) (fun _ _ _ => .int _) G H v u Q s r1 r2 fun d z G' H' e => q d z G' H' ⟨(1 + i).toNat, by rw [show d = _ from e]; congr 1; omega, by omega, by omega⟩
      · obtain ⟨m, rfl, g1, g2⟩ := p1
        subst p2
        exact ⟨m, rfl, g1, g2⟩
      · obtain ⟨m, rfl, g1, g2⟩ := e
        refine ⟨(m, n), rfl, rfl, rfl, ⟨g1, by show m ≤ 8; omega, by show m ≤ 8; omega, by show 1 ≤ n; omega, by show n ≤ 12; omega⟩, fun d c' h => ?_⟩
        obtain ⟨t, e1, e2, e3⟩ := h
        exact ⟨t, e1, tok_of (by omega) (by omega) e2 e3 (by show m ≤ 8; omega)⟩
      obtain ⟨d, ⟨t, rfl, ht⟩, rfl⟩ := e
      refine sd_cons (s_lc (α := Option Int) (enc := encV) (xs := vals_ n t) (keep := Option.isSome) (val := fun o => .int (o.getD 0)) (own := [("_law_total", 10)]) (Ok := fun _ => True) (Tt := gT1 10) B 5 rfl rfl (sw_true (by rw [B.hsc]; rfl) (by rw [B.hsc]; rfl) rfl (by decide +kernel)) (pi_list cE)
        (dw_list (PD.cast (pd_callR (c := cSums 8) (n, t, evS n) _ (fun _ z => z) B0.at B C4 (by decide) rfl (pds_cons (gv B 4 rfl) (pds_cons (pd_callR (c := cAll) n _ (fun _ z => z) B0.at B C5 (by decide) rfl (pds_one (gv B 3 rfl)) hn) pns_nil)) ⟨ht, (evS_all hn).1, (evS_all hn).2⟩) ?_)) (blkOk_by (by decide +kernel))
        (fun X' bk => bk_name bk B 10 rfl rfl) (dg_name 10) (fun _ _ => trivial) (line_lt (by have := told_few hn t; omega)) rfl fun X' bk o _ ρ2 qq => ?_) fun ρ' e => ?_
      · unfold vals_
        rw [List.map_map]
        rfl
      · subst qq
        have B' := bk.bd B
        refine ⟨pbs_one ((pb_notN (gv B' 10 rfl) pn_non).imp fun q e => by rw [e, encV_none]; cases o <;> rfl), fun hk => ?_⟩
        cases o with
        | none => cases hk
        | some v => exact gv B' 10 rfl
      subst e
      have hold : (((vals_ n t).filter Option.isSome).map fun o => PyData.int (o.getD 0)) = (told_ n t).map .int := by
        unfold told_
        rw [List.map_map]
        rfl
      rw [hold]
      have nr2 : oneR [.un, .res [], .dat (.int (i : Nat)), .dat (.int (n : Nat)), .dat (eT t), .dat (.list ((told_ n t).map .int)), .un, .un, .un, .un, .un] 1 = true := rfl
      refine sd_cons (s_ifd (Nn := fun ρ' => ρ' = [.un, .res [], .dat (.int (i : Nat)), .dat (.int (n : Nat)), .dat (eT t), .dat (.list ((told_ n t).map .int)), .un, .un, .un, .un, .un]) (PBW.pb (tb_or (pb_neI (i := (cost t : Nat)) (j := (cost t : Nat)) B (pd_callR (c := cSum) (n, t) _ (fun _ z => z) B0.at B C6 (by decide) rfl (pds_one (gv B 4 rfl)) ht)
        ((pn_min (ns := told_ n t) B T' rfl (gv B 5 rfl) (told_ne hn ht.ok)).imp fun d hd => ?_)) fun _ => tb_or1 (tb_not (pb_of (v := true) (pn_callD (c := cRight) B0.at B C7 (by decide) rfl rfl 1 rfl (oneR_ok nr2) rfl (.inl rfl) (pds_one (gv B 4 rfl)) fun ds e => ⟨(n, t), rfl, rfl, e, ht, fun d c' h => h⟩))))) (fun z => by simp at z) fun _ => sd_nil rfl) fun ρ' e => ?_
      · obtain ⟨m, rfl, h1, h2⟩ := hd
        rw [told_min hn ht.ok h1 h2]
      subst e
      refine sd_one (s_ifd (tb_not (pb_of (v := true) (pn_callD (c := cRight) B0.at B C7 (by decide) rfl rfl 1 rfl (oneR_ok nr2) rfl (.inl rfl) (pns_cons (Pa := fun d => ∃ (n : Nat) (t : T), d = eT t ∧ TOk n 8 t) (Ps := fun xs => xs = []) (Pr := fun xs => ∃ (n : Nat) (t : T), xs = [eT t] ∧ TOk n 8 t)
        (pn_callD (c := cMake 8) B0.at B C3 (by decide) rfl rfl 1 rfl (oneR_ok nr2) rfl (.inl rfl) (pns_cons (Pa := fun d => ∃ m : Nat, d = .int (m : Nat) ∧ 1 ≤ m ∧ m ≤ 8) (Ps := fun xs => ∃ k : Nat, xs = [.int (k : Nat)] ∧ 2 ≤ k ∧ k ≤ 6) (Pr := fun xs => ∃ m k : Nat, xs = [.int (m : Nat), .int (k : Nat)] ∧ 1 ≤ m ∧ m ≤ 8 ∧ 2 ≤ k ∧ k ≤ 6)
          (pn_op (Pa := fun d => d = .int 1) (Pb := fun d => ∃ i : Int, d = .int i ∧ 0 ≤ i ∧ i < 8) op_add pn_int (pn_callD (c := cDraw) B0.at B C1 (by decide) rfl rfl 1 rfl (oneR_ok nr2) rfl (.inl rfl) (pds_one pn_int) fun ds e => ⟨8, rfl, rfl, e, ⟨by decide, by decide⟩, fun d c' h => h⟩) fun a b ea eb => ?_)
          (pns_cons (Pa := fun d => ∃ k : Nat, d = .int (k : Nat) ∧ 2 ≤ k ∧ k ≤ 6) (Ps := fun xs => xs = []) (pn_op (Pa := fun d => d = .int 2) (Pb := fun d => ∃ i : Int, d = .int i ∧ 0 ≤ i ∧ i < 5) op_add pn_int (pn_callD (c := cDraw) B0.at B C1 (by decide) rfl rfl 1 rfl (oneR_ok nr2) rfl (.inl rfl) (pds_one pn_int) fun ds e => ⟨5, rfl, rfl, e, ⟨by decide, by decide⟩, fun d c' h => h⟩) fun a b ea eb => ?_) pns_nil fun x xs p1 p2 => ?_) fun x xs p1 p2 => ?_) fun ds e => ?_)
        pns_nil fun x xs p1 p2 => ?_) fun ds e => ?_))) (fun z => by cases z) fun _ => sd_nil ⟨_, _, _, _, rfl, rfl⟩)
      · subst ea
        obtain ⟨i, rfl, g1, g2⟩ := eb
        exact fun G H v u Q s r1 r2 q => d2_I0 (f := fun i j => .int (i + j)) (fun _ _ _ => .int _) G H v u Q s r1 r2 fun d z G' H' e => q d z G' H' ⟨(1 + i).toNat, by rw [show d = _ from e]; congr 1; omega, by omega, by omega⟩
      · subst ea
        obtain ⟨i, rfl, g1, g2⟩ := eb
        exact fun G H v u Q s r1 r2 q => d2_I0 (f := fun i j => .int (i + j)) (fun _ _ _ => .int _) G H v u Q s r1 r2 fun d z G' H' e => q d z G' H' ⟨(2 + i).toNat, by rw [show d = _ from e]; congr 1; omega, by omega, by omega⟩
      · obtain ⟨k, rfl, g1, g2⟩ := p1
        subst p2
        exact ⟨k, rfl, g1, g2⟩
      · obtain ⟨m, rfl, g1, g2⟩ := p1
        obtain ⟨k, rfl, g3, g4⟩ := p2
        exact ⟨m, k, rfl, g1, g2, g3, g4⟩
      · obtain ⟨m, k, rfl, g1, g2, g3, g4⟩ := e
        refine ⟨(m, k), rfl, rfl, rfl, ⟨g1, g2, g2, by show 1 ≤ k; omega, by show k ≤ 12; omega⟩, fun d c' h => ?_⟩
        obtain ⟨t, e1, e2, e3⟩ := h
        exact ⟨k, t, e1, tok_of (by omega) (by omega) e2 e3 g2⟩
      · obtain ⟨k, t, rfl, g⟩ := p1
        subst p2
        exact ⟨k, t, rfl, g⟩
      · obtain ⟨k, t, rfl, g⟩ := e
        exact ⟨(k, t), rfl, rfl, rfl, g, fun d c' h => h⟩
    · -- the tree that is written
      obtain ⟨s2, s3, s4, s5, rfl, hs⟩ := hI
      refine (?_ : SD _ _ [.un, .res [], s2, s3, s4, s5, .un, .un, .un, .un, .un] _ (fun _ => False) fun d _ => d = .bool true) G' σ' H' I' _ (fun _ _ _ _ z => z.elim) fun d v ρ2 G2 σ2 H2 hR I2 rv => ?_
      · refine sd_cons (s_unp (u := eL lay1) (v := eL lay0) B 6 7 (pd_tup (pds_cons (pd_tup (pds_cons pn_int (pds_cons (pd_tup (pds_cons (pd_tup (pds_cons pn_int (pds_cons pn_int pns_nil))) pns_nil)) pns_nil))) (pds_cons (pd_tup (pds_cons pn_int (pds_cons (pd_tup pns_nil) pns_nil))) pns_nil))) rfl rfl (.inl rfl) (.inl rfl) B0.hfn rfl) fun ρ' e => ?_
        subst e
        refine sd_cons (s_set B 4 (P := fun d => d = eT tree4) (pd_tup (pds_cons pn_str (pds_cons (pd_tup (pds_cons pn_str (pds_cons (gv B 6 rfl) (pds_cons (gv B 7 rfl) pns_nil)))) (pds_cons (pd_tup (pds_cons pn_str (pds_cons (gv B 6 rfl) (pds_cons (gv B 6 rfl) pns_nil)))) pns_nil)))) rfl (.inl rfl) B0.hfn) fun ρ' e => ?_
        obtain ⟨d, rfl, rfl⟩ := e
        have el0 : (LabV.good (.leaf lay0)).least (.leaf lay0) = true := by
          show decide (summed (.leaf lay0) = ((cost (.leaf lay0) : Nat) : Int)) = true
          rw [cost0]
          rfl
        refine sd_cons (s_ifd (Nn := fun ρ' => ρ' = [.un, .res [], s2, s3, .dat (eT tree4), s5, .dat (eL lay1), .dat (eL lay0), .un, .un, .un]) (PBW.pb (tb_or (pb_notBl (u := false) (v := false) (pd_callR (c := cLeast) (1, .leaf lay0, .bad (.tuple [.bool true, .tuple []])) _ (fun _ z => z) B0.at B C8 (by decide) rfl (pds_cons (gv B 7 rfl) (pds_cons (pd_tup (pds_cons pn_bl (pds_cons (pd_tup pns_nil) pns_nil))) pns_nil)) ⟨leaf0_ok, .leaf _ _ _⟩) pn_bl) fun _ =>
          tb_or1 (pb_notBl (u := true) (v := true) (pd_callR (c := cLeast) (1, .leaf lay0, .good (.leaf lay0)) (.bool true) (fun _ z => (show _ = PyData.bool _ from z).trans (by rw [el0])) B0.at B C8 (by decide) rfl (pds_cons (gv B 7 rfl) (pds_cons (gv B 7 rfl) pns_nil)) ⟨leaf0_ok, rfl⟩) pn_bl))) (fun z => by cases z) fun _ => sd_nil rfl) fun ρ' e => ?_
        subst e
        refine sd_cons (s_set B 8 (P := fun d => d = .list [.int 1, eM (plain tree4 []), .int 0, eM (plain tree10 [])]) (PD.cast (pd_lst (pds_cons (pd_callR (c := cSum) (1, tree4) _ (fun _ z => z) B0.at B C6 (by decide) rfl (pds_one (gv B 4 rfl)) tree4_ok) (pds_cons (pd_callR (c := cTLab) (1, tree4) _ (fun _ z => z) B0.at B C9 (by decide) rfl (pds_one (gv B 4 rfl)) tree4_ok)
          (pds_cons (pd_callR (c := cSum) (1, .leaf lay1) _ (fun _ z => z) B0.at B C6 (by decide) rfl (pds_one (gv B 6 rfl)) leaf1_ok) (pds_cons (pd_callR (c := cTLab) (1, tree10) _ (fun _ z => z) B0.at B C9 (by decide) rfl (pds_one (pd_tup (pds_cons pn_str (pds_cons (gv B 6 rfl) (pds_cons (gv B 7 rfl) pns_nil))))) tree10_ok) pns_nil))))) (by dsimp only; rw [cost4, cost1]; rfl)) rfl (.inl rfl) B0.hfn) fun ρ' e => ?_
        obtain ⟨d, rfl, rfl⟩ := e
        refine sd_cons (s_set B 9 (P := fun d => d = .list [.int 1, eM (plain tree4 []), .int 0, eM (plain tree10 [])]) (PD.cast (pd_lst (pds_cons pn_int (pds_cons (pd_tup (pds_cons pn_str (pds_cons (gv B 6 rfl) (pds_cons (pd_tup (pds_cons pn_str (pds_cons (gv B 6 rfl) (pds_cons (gv B 6 rfl) (pds_cons (gv B 7 rfl) pns_nil))))) (pds_cons (pd_tup (pds_cons pn_str (pds_cons (gv B 6 rfl) (pds_cons (gv B 6 rfl) (pds_cons (gv B 6 rfl) pns_nil))))) pns_nil)))))
          (pds_cons pn_int (pds_cons (pd_tup (pds_cons pn_str (pds_cons (gv B 7 rfl) (pds_cons (gv B 6 rfl) (pds_cons (gv B 7 rfl) pns_nil))))) pns_nil))))) (by rw [plain4, plain10']; rfl)) rfl (.inl rfl) B0.hfn) fun ρ' e => ?_
        obtain ⟨d, rfl, rfl⟩ := e
        have told : Sh (.list [.int 1, eM (plain tree4 []), .int 0, eM (plain tree10 [])]) := ((NcA.cons ((Nc.int (i := 1) (by decide)).mono (Nat.zero_le 10) (Nat.le_refl _)) (NcA.cons (nc_m tree4_ok (plain_fits (by decide) (by decide) tree4_ok.ok free_nil)) (NcA.cons ((Nc.int (i := 0) (by decide)).mono (Nat.zero_le 10) (Nat.le_refl _)) (NcA.cons (nc_m tree10_ok (plain_fits (by decide) (by decide) tree10_ok.ok free_nil)) NcA.nil)))).lst).told (by omega) (by omega)
        exact sd_one (s_ret (pd_callR (c := cLike) (.list [.int 1, eM (plain tree4 []), .int 0, eM (plain tree10 [])]) (.bool true) (fun _ z => z) B0.at B C10 (by decide) rfl (pds_cons (gv B 8 rfl) (pds_cons (gv B 9 rfl) pns_nil)) ⟨.inl ⟨_, rfl⟩, told⟩))
      · have e : d = .bool true := hR
        subst e
        cases rv
        exact q _
    · have e : d = .bool true := hR
      subst e
      cases rv
      exact q _
end Dc
/-! W25: from the law's promise to the row: the caller's guards are told. -/
namespace Dc
open PySem PySem.Spec PyProof.Rows L2 Pd
section
variable {P : Program} {w : World} {K : PySem.W.Frag} {mg mb : Str → Option Value} {k : Nat} {fa a : Addr} {fd : FuncData} {x : Str} {sp : Sp} {s1 : Shared} {vs : List Value} {ns : List Int}
/-- where the script alone is tracked (or nothing is) -/
theorem call_core (KX : K.In s1.heap) (hns : s1.heap.Ns mainGlobals mg) (hb : s1.heap.Ns builtinsNs mb) (hbb : ∀ x : Str, x ≠ "__name__" → mb x = bootBuiltins x) (hlim : s1.heap.NoLimit) (hg : s1.gens = #[]) (ha : s1.heap.get? a = some { cls := .type "list", data := .seq vs.toArray }) (hr : Room k callerA)
    (F : ∀ base : Heap, K.In base → base.Ns mainGlobals mg → FnG P w K mg base k fa fd [x] sp) (hbind : ∀ (s : Shared) (u : Value), BindsTo s fd ⟨[u], []⟩ [(x, u)]) (H : Hp) (hsp : sp [.ref a] H (fun v _ => v = .bl true) E0) (hO : Only H) (ok : HOk P w H s1.heap) (hA : ∀ b, H b ≠ none → b = a) (hK : H a ≠ none → K.lookup a = none) :
    codeAny (model P w) callerA (.call (.ref fa) ⟨[.ref a], []⟩) (fun r s' => r = .ok (.ret (.bool true)) ∧ OldK s1.heap s'.heap ∧ s'.os = s1.os ∧ AllBare s'.gens) s1 := by
  have hid : ∀ {b : Addr} {o : Obj}, s1.heap.get? b = some o → H b = none → (hidT s1.heap H).get? b = some o := fun e n => hidT_get e n
  have free : ∀ {b : Addr} {o : Obj} {es : Array DictEntry} {ep : Nat}, s1.heap.get? b = some o → o.data = .dict es ep → H b = none := fun {b o es ep} e d => by
    apply Classical.byContradiction
    intro q
    have e' := hA b q
    subst e'
    rw [ha] at e
    cases e
    exact nomatch (show Data.seq vs.toArray _ = Data.dict es ep from d)
  have ns : ∀ {b : Addr} {m : Str → Option Value}, s1.heap.Ns b m → (hidT s1.heap H).Ns b m := fun {b m} ⟨o, es, ep, e, d, r⟩ => ⟨o, es, ep, hid e (free e d), d, r⟩
  have hKb : K.In (hidT s1.heap H) := fun b o e => hid (KX b o e) (by
    apply Classical.byContradiction
    intro q
    have e' := hA b q
    subst e'
    rw [hK q] at e
    cases e)
  have hM : Mod K mg (hidT s1.heap H) := ⟨hKb, ns hns, ⟨mb, ns hb, hbb⟩, let ⟨mc, h1, h2⟩ := hlim; ⟨mc, ns h1, h2⟩⟩
  have e0 : Env0 P w K mg (hidT s1.heap H) callerA [] s1 H := ⟨rfl, hM, fun b o e => of_hidT e, Nat.le_of_eq (hidT_size _ _), trivial, fun b hb => absurd (show b ∈ ([] : List Addr) from hb) (by simp), ok, .of_eq hg⟩
  refine codeAny_mono ((F _ hKb (ns hns)).run callerA [] s1 H ⟨[.ref a], []⟩ [.ref a] [.ref a] _ hr rfl e0 (hbind s1 (.ref a)) (.cons rfl .nil) hsp) fun r s' h => ?_
  match r, h with
  | .error e, h => exact False.elim h
  | .ok .next, h => exact False.elim h
  | .ok .brk, h => exact False.elim h
  | .ok .cont, h => exact False.elim h
  | .ok (.ret u), h =>
    obtain ⟨v, H', os, bare, un, ok', r', q⟩ := h
    have q' : v = .bl true := q
    subst q'
    obtain rfl : u = Value.bool true := r'
    refine ⟨rfl, OldK.of_keep fun b o e => ?_, os, bare⟩
    rcases hO b with z | ⟨ob, xs, z⟩
    · exact un.keep b o e z (by intro y; exact absurd (show b ∈ ([] : List Addr) from y) (by simp)) (by simp)
    · obtain ⟨e1, _⟩ := ok b _ z
      obtain ⟨e2, _⟩ := ok' b _ (un.frzs b ob _ z)
      rw [e] at e1
      cases e1
      exact e2
theorem call_law (KX : K.In s1.heap) (hns : s1.heap.Ns mainGlobals mg) (hb : s1.heap.Ns builtinsNs mb) (hbb : ∀ x : Str, x ≠ "__name__" → mb x = bootBuiltins x) (hlim : s1.heap.NoLimit) (hg : s1.gens = #[]) (ha : s1.heap.get? a = some { cls := .type "list", data := .seq vs.toArray }) (hi : IntsAre vs ns) (hl : ns.length ≤ sizeLine) (hr : Room k callerA)
    (F : ∀ base : Heap, K.In base → base.Ns mainGlobals mg → FnG P w K mg base k fa fd [x] sp) (hbind : ∀ (s : Shared) (u : Value), BindsTo s fd ⟨[u], []⟩ [(x, u)]) (hsp : ∀ H : Hp, SqL K H a (ns.map V.int) → sp [.ref a] H (fun v _ => v = .bl true) E0) :
    codeAny (model P w) callerA (.call (.ref fa) ⟨[.ref a], []⟩) (fun r s' => r = .ok (.ret (.bool true)) ∧ OldK s1.heap s'.heap ∧ s'.os = s1.os ∧ AllBare s'.gens) s1 := by
  have rv := vals_ints hi
  have lv := hi.length
  cases hk : K.lookup a with
  | some o =>
    have e := KX a o hk
    rw [ha] at e
    cases e
    exact call_core KX hns hb hbb hlim hg ha hr F hbind (fun _ => none) (hsp _ (.inr ⟨_, vs.toArray, _, hk, rfl, rfl, rfl, by rw [List.size_toArray, lv]; exact hl, by simpa using rv⟩)) (fun _ => .inl rfl) (fun b u z => nomatch (show (none : Option HO) = some u from z)) (fun b z => absurd rfl z) fun z => absurd rfl z
  | none =>
    have at_ : ∀ {b : Addr} {u : HO}, (if b = a then some (HO.frz { cls := .type "list", data := .seq vs.toArray } (.lst (ns.map V.int))) else none) = some u → b = a ∧ u = .frz { cls := .type "list", data := .seq vs.toArray } (.lst (ns.map V.int)) := fun {b u} z => by
      by_cases hb : b = a
      · rw [if_pos hb] at z
        exact ⟨hb, (Option.some.inj z).symm⟩
      · rw [if_neg hb] at z
        cases z
    refine call_core KX hns hb hbb hlim hg ha hr F hbind (fun b => if b = a then some (.frz { cls := .type "list", data := .seq vs.toArray } (.lst (ns.map V.int))) else none) (hsp _ (.inl (.inr ⟨{ cls := .type "list", data := .seq vs.toArray }, if_pos rfl⟩))) (fun b => ?_) (fun b u z => ?_) (fun b z => ?_) fun _ => hk
    · by_cases hb : b = a
      · exact .inr ⟨_, _, if_pos hb⟩
      · exact .inl (if_neg hb)
    · obtain ⟨e1, e2⟩ := at_ z
      subst e1 e2
      exact ⟨ha, by rw [List.length_map]; exact hl, vs, _, rv, ha⟩
    · apply Classical.byContradiction
      intro hb
      exact z (if_neg hb)
end
/-- the goal that the head leaves, from a promise that asks the caller's guards -/
theorem walk_G {l : PySem.W.OpenLaw} {n k : Nat} {q : Program} {loose : List Str} {XP : (Str → Option Value) → Heap → Prop} {YP : World → Heap → Prop} {d : DefRec} {K : Params → PySem.W.Frag} {sp : World → Sp} {x : Str}
    (hn : l.most = some n) (hn2 : n ≤ sizeLine) (hdf : d.params.defaults = []) (hr : Room k callerA) (hY : ∀ (w : World) (h : Heap), YP w h → (K w.params).In h)
    (F : ∀ (w : World) (mg : Str → Option Value) (fa : Addr) (h : Heap), (K w.params).In h → h.Ns mainGlobals mg → mg d.name = some (.ref fa) →
      ∃ fd : FuncData, (∀ (s : Shared) (u : Value), BindsTo s fd ⟨[u], []⟩ [(x, u)]) ∧ ∀ base : Heap, (K w.params).In base → base.Ns mainGlobals mg → FnG l.prog w (K w.params) mg base k fa fd [x] (sp w))
    (hsp : ∀ (w : World) (H : Hp) (a : Addr) (ns : List Int), ns.length ≤ n → SqL (K w.params) H a (ns.map V.int) → sp w [.ref a] H (fun v _ => v = .bl true) E0) : PySem.W.WalkO q loose XP YP l.row.toRowW d [] (fun f vs => PySem.call f vs) := by
  refine Att.attach_call hn hdf fun w s0 s1 mg mb fa o pm cd doc a vs ns G Y ho hd hcd hmg hobj hints hlen hg => ?_
  have KX := hY w _ Y
  obtain ⟨fd, hb, hF⟩ := F w mg fa _ KX G.T.g hmg
  exact call_law KX G.T.g G.T.b G.T.builtins G.T.nolimit hg hobj hints (Nat.le_trans hlen hn2) hr hF hb fun H hS => hsp w H a ns hlen hS
end Dc
/-! W26: the defs from what the top has written (printed by gentop.py). -/
namespace Dc
open PySem PySem.Spec PyProof.Rows L2 Pd
/-- a def as it stands in the written part -/
structure Fd1 (K : PySem.W.Frag) (x : Str) (st : Stmt) : Prop where
  ex : ∃ (f : Addr) (oc : Value) (od an : Option Addr) (osl : Array (Option Value)) (kV doc pm cdv ct : Value), PySem.W.nsIn K mainGlobals x = some (some (.ref f)) ∧ K.lookup f = some ⟨oc, od, .func (PySem.W.fnOf x x (defArgs st) (defBody st) (defScope st) .none kV doc pm an cdv ct), osl⟩ ∧ PySem.W.codeIn K cdv x = true ∧ PySem.W.keepIn K (.ref f) = true
theorem fd1_mk {K : PySem.W.Frag} {x : Str} {st : Stmt} {f : Addr} {oc : Value} {od an : Option Addr} {osl : Array (Option Value)} {kV doc pm cdv ct : Value} (a : PySem.W.nsIn K mainGlobals x = some (some (.ref f))) (l : K.lookup f = some ⟨oc, od, .func (PySem.W.fnOf x x (defArgs st) (defBody st) (defScope st) .none kV doc pm an cdv ct), osl⟩) (c : PySem.W.codeIn K cdv x = true) (k : PySem.W.keepIn K (.ref f) = true) : Fd1 K x st := ⟨⟨f, oc, od, an, osl, kV, doc, pm, cdv, ct, a, l, c, k⟩⟩
theorem ct_mk {K : PySem.W.Frag} {x : Str} {i : Int} {t : Tok} (a : PySem.W.nsIn K mainGlobals x = some (some (.int i t))) : ∃ t, PySem.W.nsIn K mainGlobals x = some (some (.int i t)) := ⟨t, a⟩
theorem cs_mk {K : PySem.W.Frag} {x i : Str} {t : Tok} (a : PySem.W.nsIn K mainGlobals x = some (some (.str i t))) : ∃ t, PySem.W.nsIn K mainGlobals x = some (some (.str i t)) := ⟨t, a⟩
def BindsIt (x : Str) (st : Stmt) (ps : List Str) : Prop := ∀ (kV doc pm : Value) (an : Option Addr) (cdv ct : Value) (us : List Value), us.length = ps.length → bindArgs (PySem.W.fnOf x x (defArgs st) (defBody st) (defScope st) .none kV doc pm an cdv ct) ⟨us, []⟩ = pure (ps.zip us)
theorem df_of {K : PySem.W.Frag} {mg : Str → Option Value} {h : Heap} {x : Str} {st : Stmt} {ps : List Str} (X : K.In h) (G : h.Ns mainGlobals mg) (e : Fd1 K x st) (hb : BindsIt x st ps) : Df K mg x st ps := by
  obtain ⟨f, oc, od, an, osl, kV, doc, pm, cdv, ct, a, l, c, k⟩ := e.ex
  have F := fun_mk (st := st) l c k
  exact ⟨f, _, F, PySem.W.mg_of X G a, F.binds hb⟩
theorem bi_is_whole : BindsIt "is_whole" s_is_whole p_is_whole := fun _ _ _ _ _ _ us hl => match us, hl with | [_, _, _], _ => rfl
theorem bi_is_joint : BindsIt "is_joint" s_is_joint p_is_joint := fun _ _ _ _ _ _ us hl => match us, hl with | [_, _], _ => rfl
theorem bi_wrong_place : BindsIt "wrong_place" s_wrong_place p_wrong_place := fun _ _ _ _ _ _ us hl => match us, hl with | [_], _ => rfl
theorem bi_is_lay : BindsIt "is_lay" s_is_lay p_is_lay := fun _ _ _ _ _ _ us hl => match us, hl with | [_], _ => rfl
theorem bi_number_in : BindsIt "number_in" s_number_in p_number_in := fun _ _ _ _ _ _ us hl => match us, hl with | [_, _], _ => rfl
theorem bi_is_fork : BindsIt "is_fork" s_is_fork p_is_fork := fun _ _ _ _ _ _ us hl => match us, hl with | [_, _], _ => rfl
theorem bi_gather : BindsIt "gather" s_gather p_gather := fun _ _ _ _ _ _ us hl => match us, hl with | [_, _, _], _ => rfl
theorem bi_leaves_in : BindsIt "leaves_in" s_leaves_in p_leaves_in := fun _ _ _ _ _ _ us hl => match us, hl with | [_], _ => rfl
theorem bi_need_tree : BindsIt "need_tree" s_need_tree p_need_tree := fun _ _ _ _ _ _ us hl => match us, hl with | [_], _ => rfl
theorem bi_leaves : BindsIt "leaves" s_leaves p_leaves := fun _ _ _ _ _ _ us hl => match us, hl with | [_], _ => rfl
theorem bi_state_of : BindsIt "state_of" s_state_of p_state_of := fun _ _ _ _ _ _ us hl => match us, hl with | [_, _], _ => rfl
theorem bi_looked : BindsIt "looked" s_looked p_looked := fun _ _ _ _ _ _ us hl => match us, hl with | [_, _, _], _ => rfl
theorem bi_joints_of : BindsIt "joints_of" s_joints_of p_joints_of := fun _ _ _ _ _ _ us hl => match us, hl with | [_], _ => rfl
theorem bi_ways_in : BindsIt "ways_in" s_ways_in p_ways_in := fun _ _ _ _ _ _ us hl => match us, hl with | [_], _ => rfl
theorem bi_tree_sum : BindsIt "tree_sum" s_tree_sum p_tree_sum := fun _ _ _ _ _ _ us hl => match us, hl with | [_], _ => rfl
theorem bi_labelled : BindsIt "labelled" s_labelled p_labelled := fun _ _ _ _ _ _ us hl => match us, hl with | [_, _, _], _ => rfl
theorem bi_tree_labels : BindsIt "tree_labels" s_tree_labels p_tree_labels := fun _ _ _ _ _ _ us hl => match us, hl with | [_], _ => rfl
theorem bi_top_of : BindsIt "top_of" s_top_of p_top_of := fun _ _ _ _ _ _ us hl => match us, hl with | [_], _ => rfl
theorem bi_are_labels : BindsIt "are_labels" s_are_labels p_are_labels := fun _ _ _ _ _ _ us hl => match us, hl with | [_, _], _ => rfl
theorem bi_sum_of : BindsIt "sum_of" s_sum_of p_sum_of := fun _ _ _ _ _ _ us hl => match us, hl with | [_], _ => rfl
theorem bi_labels_sum : BindsIt "labels_sum" s_labels_sum p_labels_sum := fun _ _ _ _ _ _ us hl => match us, hl with | [_, _], _ => rfl
theorem bi_are_least : BindsIt "are_least" s_are_least p_are_least := fun _ _ _ _ _ _ us hl => match us, hl with | [_, _], _ => rfl
theorem bi_L_begun : BindsIt "_law_begun" s_L_begun p_L_begun := fun _ _ _ _ _ _ us hl => match us, hl with | [_], _ => rfl
theorem bi_L_draw : BindsIt "_law_draw" s_L_draw p_L_draw := fun _ _ _ _ _ _ us hl => match us, hl with | [_, _], _ => rfl
theorem bi_L_of : BindsIt "_law_of" s_L_of p_L_of := fun _ _ _ _ _ _ us hl => match us, hl with | [_, _], _ => rfl
theorem bi_L_like : BindsIt "_law_like" s_L_like p_L_like := fun _ _ _ _ _ _ us hl => match us, hl with | [_, _], _ => rfl
theorem bi_L_lay : BindsIt "_law_lay" s_L_lay p_L_lay := fun _ _ _ _ _ _ us hl => match us, hl with | [_, _], _ => rfl
theorem bi_L_all : BindsIt "_law_all" s_L_all p_L_all := fun _ _ _ _ _ _ us hl => match us, hl with | [_], _ => rfl
theorem bi_L_gap : BindsIt "_law_gap" s_L_gap p_L_gap := fun _ _ _ _ _ _ us hl => match us, hl with | [_, _], _ => rfl
theorem bi_L_tree : BindsIt "_law_tree" s_L_tree p_L_tree := fun _ _ _ _ _ _ us hl => match us, hl with | [_, _, _], _ => rfl
theorem bi_L_leaves : BindsIt "_law_leaves" s_L_leaves p_L_leaves := fun _ _ _ _ _ _ us hl => match us, hl with | [_], _ => rfl
theorem bi_L_best : BindsIt "_law_best" s_L_best p_L_best := fun _ _ _ _ _ _ us hl => match us, hl with | [_, _], _ => rfl
theorem bi_L_joints : BindsIt "_law_joints" s_L_joints p_L_joints := fun _ _ _ _ _ _ us hl => match us, hl with | [_], _ => rfl
theorem bi_L_plain : BindsIt "_law_plain" s_L_plain p_L_plain := fun _ _ _ _ _ _ us hl => match us, hl with | [_, _], _ => rfl
theorem bi_L_is_lay : BindsIt "_law_is_lay" s_L_is_lay p_L_is_lay := fun _ _ _ _ _ _ us hl => match us, hl with | [_], _ => rfl
theorem bi_L_are_labels : BindsIt "_law_are_labels" s_L_are_labels p_L_are_labels := fun _ _ _ _ _ _ us hl => match us, hl with | [_, _], _ => rfl
theorem bi_L_summed : BindsIt "_law_summed" s_L_summed p_L_summed := fun _ _ _ _ _ _ us hl => match us, hl with | [_], _ => rfl
theorem bi_L_sums : BindsIt "_law_sums" s_L_sums p_L_sums := fun _ _ _ _ _ _ us hl => match us, hl with | [_, _], _ => rfl
theorem bi_L_others_right : BindsIt "_law_others_right" s_L_others_right p_L_others_right := fun _ _ _ _ _ _ us hl => match us, hl with | [_, _, _, _], _ => rfl
theorem bi_L_right : BindsIt "_law_right" s_L_right p_L_right := fun _ _ _ _ _ _ us hl => match us, hl with | [_, _], _ => rfl
theorem bi_law : BindsIt "law" s_law p_law := fun _ _ _ _ _ _ us hl => match us, hl with | [_], _ => rfl
structure Facts (K : PySem.W.Frag) : Prop where
  d_is_whole : Fd1 K "is_whole" s_is_whole
  d_is_joint : Fd1 K "is_joint" s_is_joint
  d_wrong_place : Fd1 K "wrong_place" s_wrong_place
  d_is_lay : Fd1 K "is_lay" s_is_lay
  d_number_in : Fd1 K "number_in" s_number_in
  d_is_fork : Fd1 K "is_fork" s_is_fork
  d_gather : Fd1 K "gather" s_gather
  d_leaves_in : Fd1 K "leaves_in" s_leaves_in
  d_need_tree : Fd1 K "need_tree" s_need_tree
  d_leaves : Fd1 K "leaves" s_leaves
  d_state_of : Fd1 K "state_of" s_state_of
  d_looked : Fd1 K "looked" s_looked
  d_joints_of : Fd1 K "joints_of" s_joints_of
  d_ways_in : Fd1 K "ways_in" s_ways_in
  d_tree_sum : Fd1 K "tree_sum" s_tree_sum
  d_labelled : Fd1 K "labelled" s_labelled
  d_tree_labels : Fd1 K "tree_labels" s_tree_labels
  d_top_of : Fd1 K "top_of" s_top_of
  d_are_labels : Fd1 K "are_labels" s_are_labels
  d_sum_of : Fd1 K "sum_of" s_sum_of
  d_labels_sum : Fd1 K "labels_sum" s_labels_sum
  d_are_least : Fd1 K "are_least" s_are_least
  d_L_begun : Fd1 K "_law_begun" s_L_begun
  d_L_draw : Fd1 K "_law_draw" s_L_draw
  d_L_of : Fd1 K "_law_of" s_L_of
  d_L_like : Fd1 K "_law_like" s_L_like
  d_L_lay : Fd1 K "_law_lay" s_L_lay
  d_L_all : Fd1 K "_law_all" s_L_all
  d_L_gap : Fd1 K "_law_gap" s_L_gap
  d_L_tree : Fd1 K "_law_tree" s_L_tree
  d_L_leaves : Fd1 K "_law_leaves" s_L_leaves
  d_L_best : Fd1 K "_law_best" s_L_best
  d_L_joints : Fd1 K "_law_joints" s_L_joints
  d_L_plain : Fd1 K "_law_plain" s_L_plain
  d_L_is_lay : Fd1 K "_law_is_lay" s_L_is_lay
  d_L_are_labels : Fd1 K "_law_are_labels" s_L_are_labels
  d_L_summed : Fd1 K "_law_summed" s_L_summed
  d_L_sums : Fd1 K "_law_sums" s_L_sums
  d_L_others_right : Fd1 K "_law_others_right" s_L_others_right
  d_L_right : Fd1 K "_law_right" s_L_right
  d_law : Fd1 K "law" s_law
  b_len : PySem.W.nsIn K mainGlobals "len" = some none
  b_isi : PySem.W.nsIn K mainGlobals "isinstance" = some none
  b_all : PySem.W.nsIn K mainGlobals "all" = some none
  b_sum : PySem.W.nsIn K mainGlobals "sum" = some none
  b_min : PySem.W.nsIn K mainGlobals "min" = some none
  b_tuple : PySem.W.nsIn K mainGlobals "tuple" = some none
  b_list : PySem.W.nsIn K mainGlobals "list" = some none
  b_int : PySem.W.nsIn K mainGlobals "int" = some none
  b_bool : PySem.W.nsIn K mainGlobals "bool" = some none
  b_str : PySem.W.nsIn K mainGlobals "str" = some none
  b_sorted : PySem.W.nsIn K mainGlobals "sorted" = some none
  b_repr : PySem.W.nsIn K mainGlobals "repr" = some none
  b_range : PySem.W.nsIn K mainGlobals "range" = some none
  b_zip : PySem.W.nsIn K mainGlobals "zip" = some none
  b_enum : PySem.W.nsIn K mainGlobals "enumerate" = some none
  c_either : ∃ t, PySem.W.nsIn K mainGlobals "EITHER" = some (some (.int 2 t))
  c_present : ∃ t, PySem.W.nsIn K mainGlobals "PRESENT" = some (some (.int 1 t))
  c_absent : ∃ t, PySem.W.nsIn K mainGlobals "ABSENT" = some (some (.int 0 t))
  c_lays : ∃ t, PySem.W.nsIn K mainGlobals "MOST_LAYS" = some (some (.int 8 t))
  c_links : ∃ t, PySem.W.nsIn K mainGlobals "MOST_LINKS" = some (some (.int 12 t))
  c_fork : ∃ t, PySem.W.nsIn K mainGlobals "FORK" = some (some (.str "fork" t))
  c_labels : ∃ t, PySem.W.nsIn K mainGlobals "LABELS" = some (some (.str "labels" t))
section
variable {P : Program} {w : World} {K : PySem.W.Frag} {mg : Str → Option Value} {h base : Heap}
theorem bt_of (X : K.In h) (G : h.Ns mainGlobals mg) (T : Facts K) : Bt mg := ⟨PySem.W.mg_none_of X G T.b_len, PySem.W.mg_none_of X G T.b_isi, PySem.W.mg_none_of X G T.b_all, PySem.W.mg_none_of X G T.b_sum, PySem.W.mg_none_of X G T.b_min, PySem.W.mg_none_of X G T.b_tuple, PySem.W.mg_none_of X G T.b_list, PySem.W.mg_none_of X G T.b_int, PySem.W.mg_none_of X G T.b_bool, PySem.W.mg_none_of X G T.b_str, PySem.W.mg_none_of X G T.b_sorted, PySem.W.mg_none_of X G T.b_repr, PySem.W.mg_none_of X G T.b_range, PySem.W.mg_none_of X G T.b_zip, PySem.W.mg_none_of X G T.b_enum⟩
theorem gc_of (X : K.In h) (G : h.Ns mainGlobals mg) (T : Facts K) : Gc mg := ⟨T.c_either.imp fun _ e => PySem.W.mg_of X G e, T.c_present.imp fun _ e => PySem.W.mg_of X G e, T.c_absent.imp fun _ e => PySem.W.mg_of X G e, T.c_lays.imp fun _ e => PySem.W.mg_of X G e, T.c_links.imp fun _ e => PySem.W.mg_of X G e, T.c_fork.imp fun _ e => PySem.W.mg_of X G e, T.c_labels.imp fun _ e => PySem.W.mg_of X G e⟩
theorem law_top (X : K.In h) (G : h.Ns mainGlobals mg) (T : Facts K) {fa : Addr} (hfa : mg "law" = some (.ref fa)) : ∃ fd : FuncData, (∀ (s : Shared) (v : Value), BindsTo s fd ⟨[v], []⟩ [("_law_script", v)]) ∧ ∀ base : Heap, FnG P w K mg base 21 fa fd ["_law_script"] (spLaw K) := by
  have T' := bt_of X G T
  have Gl := gc_of X G T
  obtain ⟨f, fd, F, hm, hb⟩ := (df_of X G T.d_law bi_law).ex
  rw [hfa] at hm
  cases hm
  refine ⟨fd, fun s v => ?_, fun base => ?_⟩
  · obtain ⟨oc, od, kV, doc, pm, an, cdv, ct, osl, rfl, lk, hcd⟩ := F.ex
    exact .of_eq rfl
  · have k_is_whole := ok_is_whole (P := P) (w := w) (base := base) (df_of X G T.d_is_whole bi_is_whole) T'
    have k_is_joint := ok_is_joint (P := P) (w := w) (base := base) (df_of X G T.d_is_joint bi_is_joint) T' k_is_whole
    have k_is_fork := ok_is_fork (P := P) (w := w) (base := base) (df_of X G T.d_is_fork bi_is_fork) T' Gl
    have k_number_in := ok_number_in (P := P) (w := w) (base := base) (df_of X G T.d_number_in bi_number_in) T'
    have k_state_of := ok_state_of (P := P) (w := w) (base := base) (df_of X G T.d_state_of bi_state_of) Gl
    have k_leaves_in := ok_leaves_in (P := P) (w := w) (base := base) (df_of X G T.d_leaves_in bi_leaves_in) k_is_fork
    have k_looked := ok_looked (P := P) (w := w) (base := base) (df_of X G T.d_looked bi_looked) Gl k_is_fork k_state_of
    have k_wrong_place := ok_wrong_place (P := P) (w := w) (base := base) (df_of X G T.d_wrong_place bi_wrong_place) T' Gl k_is_whole k_is_joint
    have k_is_lay := ok_is_lay (P := P) (w := w) (base := base) (df_of X G T.d_is_lay bi_is_lay) k_wrong_place
    have k_gather := ok_gather (P := P) (w := w) (base := base) (df_of X G T.d_gather bi_gather) T' Gl k_is_fork k_is_lay
    have k_need_tree := ok_need_tree (P := P) (w := w) (base := base) (df_of X G T.d_need_tree bi_need_tree) (k_gather 8)
    have k_joints_of := ok_joints_of (P := P) (w := w) (base := base) (df_of X G T.d_joints_of bi_joints_of) T' (k_leaves_in 8)
    have k_ways_in := ok_ways_in (P := P) (w := w) (base := base) (df_of X G T.d_ways_in bi_ways_in) T' k_joints_of (k_looked 8)
    have k_tree_sum := ok_tree_sum (P := P) (w := w) (base := base) (df_of X G T.d_tree_sum bi_tree_sum) T' k_need_tree k_ways_in
    have k_labelled := ok_labelled (P := P) (w := w) (base := base) (df_of X G T.d_labelled bi_labelled) T' Gl k_is_fork (k_looked 8) (k_leaves_in 8)
    have k_tree_labels := ok_tree_labels (P := P) (w := w) (base := base) (df_of X G T.d_tree_labels bi_tree_labels) k_need_tree k_joints_of (k_labelled 8)
    have k_leaves_def := ok_leaves_def (P := P) (w := w) (base := base) (df_of X G T.d_leaves bi_leaves) T' k_need_tree (k_leaves_in 8)
    have k_top_of := ok_top_of (P := P) (w := w) (base := base) (df_of X G T.d_top_of bi_top_of) k_is_fork
    have k_sum_of := ok_sum_of (P := P) (w := w) (base := base) (df_of X G T.d_sum_of bi_sum_of) T' k_is_fork k_top_of k_number_in
    have k_are_labels := ok_are_labels (P := P) (w := w) (base := base) (df_of X G T.d_are_labels bi_are_labels) k_is_fork k_is_lay (k_leaves_in 8)
    have k_labels_sum := ok_labels_sum (P := P) (w := w) (base := base) (df_of X G T.d_labels_sum bi_labels_sum) k_need_tree (k_are_labels 8) (k_sum_of 8)
    have k_are_least := ok_are_least (P := P) (w := w) (base := base) (df_of X G T.d_are_least bi_are_least) T' k_need_tree (k_are_labels 8) (k_sum_of 8) k_ways_in
    have k_L_gap := ok_L_gap (P := P) (w := w) (base := base) (df_of X G T.d_L_gap bi_L_gap) T'
    have k_L_leaves := ok_L_leaves (P := P) (w := w) (base := base) (df_of X G T.d_L_leaves bi_L_leaves) T'
    have k_L_best := ok_L_best (P := P) (w := w) (base := base) (df_of X G T.d_L_best bi_L_best) T'
    have k_L_joints := ok_L_joints (P := P) (w := w) (base := base) (df_of X G T.d_L_joints bi_L_joints) T' (k_L_leaves 8)
    have k_L_plain := ok_L_plain (P := P) (w := w) (base := base) (df_of X G T.d_L_plain bi_L_plain) T' k_L_joints (k_L_best 8) (k_L_leaves 8)
    have k_L_summed := ok_L_summed (P := P) (w := w) (base := base) (df_of X G T.d_L_summed bi_L_summed) T' k_L_gap
    have k_L_is_lay := ok_L_is_lay (P := P) (w := w) (base := base) (df_of X G T.d_L_is_lay bi_L_is_lay) T'
    have k_L_are_labels := ok_L_are_labels (P := P) (w := w) (base := base) (df_of X G T.d_L_are_labels bi_L_are_labels) T' k_L_is_lay (k_L_leaves 8)
    have k_L_like := ok_L_like (P := P) (w := w) (base := base) (df_of X G T.d_L_like bi_L_like) T'
    have k_L_sums := ok_L_sums (P := P) (w := w) (base := base) (df_of X G T.d_L_sums bi_L_sums) T' k_L_gap
    have k_L_all := ok_L_all (P := P) (w := w) (base := base) (df_of X G T.d_L_all bi_L_all) T'
    have k_L_draw := ok_L_draw (P := P) (w := w) (base := base) (df_of X G T.d_L_draw bi_L_draw) T'
    have k_L_of := ok_L_of (P := P) (w := w) (base := base) (df_of X G T.d_L_of bi_L_of) T' k_L_draw
    have k_L_begun := ok_L_begun (P := P) (w := w) (base := base) (df_of X G T.d_L_begun bi_L_begun) T'
    have k_L_lay := ok_L_lay (P := P) (w := w) (base := base) (df_of X G T.d_L_lay bi_L_lay) T' k_L_draw k_L_of
    have k_L_tree := ok_L_tree (P := P) (w := w) (base := base) (df_of X G T.d_L_tree bi_L_tree) T' k_L_draw k_L_lay
    have k_L_others_right := ok_L_others_right (P := P) (w := w) (base := base) (df_of X G T.d_L_others_right bi_L_others_right) T' k_L_lay k_labels_sum k_are_least k_L_like (k_L_summed 8)
    have k_L_right := ok_L_right (P := P) (w := w) (base := base) (df_of X G T.d_L_right bi_L_right) T' (k_L_plain 8) (k_L_best 8) k_L_joints k_L_like k_tree_sum k_tree_labels (k_L_are_labels 8) (k_L_summed 8) k_need_tree k_leaves_def k_labels_sum k_are_least (k_L_leaves 8) k_L_others_right
    exact ok_law F T' k_L_begun k_L_draw k_L_of (k_L_tree 8) (k_L_sums 8) k_L_all k_tree_sum k_L_right k_are_least k_tree_labels k_L_like
theorem law_fin (X : K.In h) (G : h.Ns mainGlobals mg) {fa : Addr} (hfa : mg "law" = some (.ref fa)) (T : Facts K) : ∃ fd : FuncData, (∀ (s : Shared) (v : Value), BindsTo s fd ⟨[v], []⟩ [("_law_script", v)]) ∧ ∀ base : Heap, K.In base → base.Ns mainGlobals mg → FnG P w K mg base 21 fa fd ["_law_script"] (spLaw K) := by
  obtain ⟨fd, h1, h2⟩ := law_top (P := P) (w := w) X G T hfa
  exact ⟨fd, h1, fun base _ _ => h2 base⟩
end
end Dc
open PySem PySem.W PyProof.Rows
set_option maxRecDepth 100000 in
set_option maxHeartbeats 0 in
theorem PySem.Challenge.cw_doublecut_k45_whole_told_trees_holds : PySem.Challenge.rw_doublecut_k45_whole_told_trees.Holds := by
  w_on; o_law; k_head; (case hw => w_witness2)
  k_fill
  refine Dc.walk_G (l := PySem.Challenge.rw_doublecut_k45_whole_told_trees) (n := 63) (k := 21) (x := "_law_script") (sp := fun w => Dc.spLaw _) rfl (by decide) rfl ⟨rfl, by decide, by decide⟩ (fun w h Y => PySem.W.kIn_of Y) ?F (fun _ _ a ns hl hS => ⟨a, ns, rfl, hS, hl, fun _ => rfl⟩)
  case F =>
    intro w mg fa h KX G hmg
    refine' Dc.law_fin (P := PySem.Challenge.rw_doublecut_k45_whole_told_trees.prog) (w := w) KX G hmg ?T
    case T =>
      refine' ⟨?d_is_whole, ?d_is_joint, ?d_wrong_place, ?d_is_lay, ?d_number_in, ?d_is_fork, ?d_gather, ?d_leaves_in, ?d_need_tree, ?d_leaves, ?d_state_of, ?d_looked, ?d_joints_of, ?d_ways_in, ?d_tree_sum, ?d_labelled, ?d_tree_labels, ?d_top_of, ?d_are_labels, ?d_sum_of, ?d_labels_sum, ?d_are_least, ?d_L_begun, ?d_L_draw, ?d_L_of, ?d_L_like, ?d_L_lay, ?d_L_all, ?d_L_gap, ?d_L_tree, ?d_L_leaves, ?d_L_best, ?d_L_joints, ?d_L_plain, ?d_L_is_lay, ?d_L_are_labels, ?d_L_summed, ?d_L_sums, ?d_L_others_right, ?d_L_right, ?d_law, ?b_len, ?b_isi, ?b_all, ?b_sum, ?b_min, ?b_tuple, ?b_list, ?b_int, ?b_bool, ?b_str, ?b_sorted, ?b_repr, ?b_range, ?b_zip, ?b_enum, ?c_either, ?c_present, ?c_absent, ?c_lays, ?c_links, ?c_fork, ?c_labels⟩

      case d_is_whole => refine' Dc.fd1_mk ?a ?l ?c ?k; (case a => k_is); (case l => k_is); (case c => k_is); (case k => k_is)
      case d_is_joint => refine' Dc.fd1_mk ?a ?l ?c ?k; (case a => k_is); (case l => k_is); (case c => k_is); (case k => k_is)
      case d_wrong_place => refine' Dc.fd1_mk ?a ?l ?c ?k; (case a => k_is); (case l => k_is); (case c => k_is); (case k => k_is)
      case d_is_lay => refine' Dc.fd1_mk ?a ?l ?c ?k; (case a => k_is); (case l => k_is); (case c => k_is); (case k => k_is)
      case d_number_in => refine' Dc.fd1_mk ?a ?l ?c ?k; (case a => k_is); (case l => k_is); (case c => k_is); (case k => k_is)
      case d_is_fork => refine' Dc.fd1_mk ?a ?l ?c ?k; (case a => k_is); (case l => k_is); (case c => k_is); (case k => k_is)
      case d_gather => refine' Dc.fd1_mk ?a ?l ?c ?k; (case a => k_is); (case l => k_is); (case c => k_is); (case k => k_is)
      case d_leaves_in => refine' Dc.fd1_mk ?a ?l ?c ?k; (case a => k_is); (case l => k_is); (case c => k_is); (case k => k_is)
      case d_need_tree => refine' Dc.fd1_mk ?a ?l ?c ?k; (case a => k_is); (case l => k_is); (case c => k_is); (case k => k_is)
      case d_leaves => refine' Dc.fd1_mk ?a ?l ?c ?k; (case a => k_is); (case l => k_is); (case c => k_is); (case k => k_is)
      case d_state_of => refine' Dc.fd1_mk ?a ?l ?c ?k; (case a => k_is); (case l => k_is); (case c => k_is); (case k => k_is)
      case d_looked => refine' Dc.fd1_mk ?a ?l ?c ?k; (case a => k_is); (case l => k_is); (case c => k_is); (case k => k_is)
      case d_joints_of => refine' Dc.fd1_mk ?a ?l ?c ?k; (case a => k_is); (case l => k_is); (case c => k_is); (case k => k_is)
      case d_ways_in => refine' Dc.fd1_mk ?a ?l ?c ?k; (case a => k_is); (case l => k_is); (case c => k_is); (case k => k_is)
      case d_tree_sum => refine' Dc.fd1_mk ?a ?l ?c ?k; (case a => k_is); (case l => k_is); (case c => k_is); (case k => k_is)
      case d_labelled => refine' Dc.fd1_mk ?a ?l ?c ?k; (case a => k_is); (case l => k_is); (case c => k_is); (case k => k_is)
      case d_tree_labels => refine' Dc.fd1_mk ?a ?l ?c ?k; (case a => k_is); (case l => k_is); (case c => k_is); (case k => k_is)
      case d_top_of => refine' Dc.fd1_mk ?a ?l ?c ?k; (case a => k_is); (case l => k_is); (case c => k_is); (case k => k_is)
      case d_are_labels => refine' Dc.fd1_mk ?a ?l ?c ?k; (case a => k_is); (case l => k_is); (case c => k_is); (case k => k_is)
      case d_sum_of => refine' Dc.fd1_mk ?a ?l ?c ?k; (case a => k_is); (case l => k_is); (case c => k_is); (case k => k_is)
      case d_labels_sum => refine' Dc.fd1_mk ?a ?l ?c ?k; (case a => k_is); (case l => k_is); (case c => k_is); (case k => k_is)
      case d_are_least => refine' Dc.fd1_mk ?a ?l ?c ?k; (case a => k_is); (case l => k_is); (case c => k_is); (case k => k_is)
      case d_L_begun => refine' Dc.fd1_mk ?a ?l ?c ?k; (case a => k_is); (case l => k_is); (case c => k_is); (case k => k_is)
      case d_L_draw => refine' Dc.fd1_mk ?a ?l ?c ?k; (case a => k_is); (case l => k_is); (case c => k_is); (case k => k_is)
      case d_L_of => refine' Dc.fd1_mk ?a ?l ?c ?k; (case a => k_is); (case l => k_is); (case c => k_is); (case k => k_is)
      case d_L_like => refine' Dc.fd1_mk ?a ?l ?c ?k; (case a => k_is); (case l => k_is); (case c => k_is); (case k => k_is)
      case d_L_lay => refine' Dc.fd1_mk ?a ?l ?c ?k; (case a => k_is); (case l => k_is); (case c => k_is); (case k => k_is)
      case d_L_all => refine' Dc.fd1_mk ?a ?l ?c ?k; (case a => k_is); (case l => k_is); (case c => k_is); (case k => k_is)
      case d_L_gap => refine' Dc.fd1_mk ?a ?l ?c ?k; (case a => k_is); (case l => k_is); (case c => k_is); (case k => k_is)
      case d_L_tree => refine' Dc.fd1_mk ?a ?l ?c ?k; (case a => k_is); (case l => k_is); (case c => k_is); (case k => k_is)
      case d_L_leaves => refine' Dc.fd1_mk ?a ?l ?c ?k; (case a => k_is); (case l => k_is); (case c => k_is); (case k => k_is)
      case d_L_best => refine' Dc.fd1_mk ?a ?l ?c ?k; (case a => k_is); (case l => k_is); (case c => k_is); (case k => k_is)
      case d_L_joints => refine' Dc.fd1_mk ?a ?l ?c ?k; (case a => k_is); (case l => k_is); (case c => k_is); (case k => k_is)
      case d_L_plain => refine' Dc.fd1_mk ?a ?l ?c ?k; (case a => k_is); (case l => k_is); (case c => k_is); (case k => k_is)
      case d_L_is_lay => refine' Dc.fd1_mk ?a ?l ?c ?k; (case a => k_is); (case l => k_is); (case c => k_is); (case k => k_is)
      case d_L_are_labels => refine' Dc.fd1_mk ?a ?l ?c ?k; (case a => k_is); (case l => k_is); (case c => k_is); (case k => k_is)
      case d_L_summed => refine' Dc.fd1_mk ?a ?l ?c ?k; (case a => k_is); (case l => k_is); (case c => k_is); (case k => k_is)
      case d_L_sums => refine' Dc.fd1_mk ?a ?l ?c ?k; (case a => k_is); (case l => k_is); (case c => k_is); (case k => k_is)
      case d_L_others_right => refine' Dc.fd1_mk ?a ?l ?c ?k; (case a => k_is); (case l => k_is); (case c => k_is); (case k => k_is)
      case d_L_right => refine' Dc.fd1_mk ?a ?l ?c ?k; (case a => k_is); (case l => k_is); (case c => k_is); (case k => k_is)
      case d_law => refine' Dc.fd1_mk ?a ?l ?c ?k; (case a => k_is); (case l => k_is); (case c => k_is); (case k => k_is)
      case b_len => k_is
      case b_isi => k_is
      case b_all => k_is
      case b_sum => k_is
      case b_min => k_is
      case b_tuple => k_is
      case b_list => k_is
      case b_int => k_is
      case b_bool => k_is
      case b_str => k_is
      case b_sorted => k_is
      case b_repr => k_is
      case b_range => k_is
      case b_zip => k_is
      case b_enum => k_is
      case c_either => refine' Dc.ct_mk ?a; (case a => k_is)
      case c_present => refine' Dc.ct_mk ?a; (case a => k_is)
      case c_absent => refine' Dc.ct_mk ?a; (case a => k_is)
      case c_lays => refine' Dc.ct_mk ?a; (case a => k_is)
      case c_links => refine' Dc.ct_mk ?a; (case a => k_is)
      case c_fork => refine' Dc.cs_mk ?a; (case a => k_is)
      case c_labels => refine' Dc.cs_mk ?a; (case a => k_is)
