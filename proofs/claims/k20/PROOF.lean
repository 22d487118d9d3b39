import PyProof.Rows.All
import Wide.All
import OpenK.AllK
import Wide.FinOn
import HandS.ForMost
import HandS.ForExc
import HandS.Walk
import HandS.Deep
import HandS.IsInst
import HandS.TupAny
import HandS.TupMul
import HandS.CallSlots
import HandS.Zip
import HandS.TupLe
import PySem.Challenge.RW_abovepaths_k20_whole_reflected_numbers
set_option Elab.async false
set_option linter.all false
set_option maxRecDepth 100000
set_option maxHeartbeats 4000000
/-! Av: a data-level layer. Mirrors are plain functions on slots; readings are canonical. -/
namespace Av
open PySem PySem.Spec L2
open PyProof.Rows hiding St
set_option autoImplicit false

abbrev PD := PyData

/-- the state: the script; how many draws were made; walkers by number (steps, kept) -/
structure G where
  ns : List Int
  n : Nat
  ws : List (List PD × Int)

inductive Res (α : Type) where
  | ok (a : α) (g : G)
  | exc (c : Nat) (g : G)
  | bad

abbrev Mo (α : Type) := G → Res α
def Res.bind {α β : Type} (x : Res α) (f : α → Mo β) : Res β := match x with
  | .ok a g => f a g
  | .exc c g => .exc c g
  | .bad => .bad
def ret {α : Type} (a : α) : Mo α := fun g => .ok a g
def bnd {α β : Type} (x : Mo α) (f : α → Mo β) : Mo β := fun g => (x g).bind f
def fail {α : Type} : Mo α := fun _ => .bad
def lift {α : Type} (o : Option α) : Mo α := fun g => match o with
  | some a => .ok a g
  | none => .bad

/-- what a slot holds: data; a list of the frame's own that may be changed; an object of the state; nothing that is known -/
inductive Sl where
  | val (d : PD)
  | own (ds : List PD)
  | obj (i : Nat)
  | dead

inductive Fl where
  | next (Γ : List Sl)
  | ret (d : PD)

/-- how it lies: S what never changes, M the state's objects, oa their places -/
structure Lay where
  S : Hp
  M : Hp
  oa : List Addr

structure Pm where
  K : PySem.W.Frag
  C : Addr
  cls : Nat → Addr

/-! ### data in a heap: every list and tuple tracked as it is -/
mutual
inductive Dq (S : Hp) : V → PD → Prop
  | non : Dq S .non .none
  | bl (b : Bool) : Dq S (.bl b) (.bool b)
  | int (i : Int) : Dq S (.int i) (.int i)
  | str (x : Str) : Dq S (.str x) (.str x)
  | lst {a : Addr} {xs : List V} {ds : List PD} : S a = some (.lst xs) → DqA S xs ds → Dq S (.ref a) (.list ds)
  | tup {a : Addr} {xs : List V} {ds : List PD} : S a = some (.tup xs) → DqA S xs ds → Dq S (.ref a) (.tuple ds)
inductive DqA (S : Hp) : List V → List PD → Prop
  | nil : DqA S [] []
  | cons {v : V} {vs : List V} {d : PD} {ds : List PD} : Dq S v d → DqA S vs ds → DqA S (v :: vs) (d :: ds)
end
mutual
theorem Dq.mono {H H' : Hp} (e : Same H H') : ∀ {v : V} {d : PD}, Dq H v d → Dq H' v d
  | _, _, .non => .non
  | _, _, .bl b => .bl b
  | _, _, .int i => .int i
  | _, _, .str x => .str x
  | _, _, .lst h r => .lst (e _ _ h) (DqA.mono e r)
  | _, _, .tup h r => .tup (e _ _ h) (DqA.mono e r)
theorem DqA.mono {H H' : Hp} (e : Same H H') : ∀ {vs : List V} {ds : List PD}, DqA H vs ds → DqA H' vs ds
  | _, _, .nil => .nil
  | _, _, .cons h r => .cons (Dq.mono e h) (DqA.mono e r)
end
mutual
theorem Dq.dp {K : PySem.W.Frag} {H : Hp} : ∀ {v : V} {d : PD}, Dq H v d → Dp K H v d
  | _, _, .non => .non
  | _, _, .bl b => .bl b
  | _, _, .int i => .int i
  | _, _, .str x => .str x
  | _, _, .lst h r => .lst (SqL.of h) (DqA.dp r)
  | _, _, .tup h r => .tup (SqT.of h) (DqA.dp r)
theorem DqA.dp {K : PySem.W.Frag} {H : Hp} : ∀ {vs : List V} {ds : List PD}, DqA H vs ds → DpAll K H vs ds
  | _, _, .nil => .nil
  | _, _, .cons h r => .cons (Dq.dp h) (DqA.dp r)
end
section
variable {H : Hp}
theorem DqA.len : ∀ {vs : List V} {ds : List PD}, DqA H vs ds → vs.length = ds.length
  | _, _, .nil => rfl
  | _, _, .cons _ r => by simp [DqA.len r]
theorem DqA.get : ∀ {vs : List V} {ds : List PD} {i : Nat} {d : PD}, DqA H vs ds → ds[i]? = some d → ∃ v, vs[i]? = some v ∧ Dq H v d
  | _, _, _, _, .nil, e => by simp at e
  | _, _, 0, _, .cons h _, e => by simp at e; subst e; exact ⟨_, rfl, h⟩
  | _, _, i + 1, d, .cons _ r, e => by
    obtain ⟨v, h1, h2⟩ := DqA.get (i := i) (d := d) r (by simpa using e)
    exact ⟨v, by simpa using h1, h2⟩
theorem DqA.get' : ∀ {vs : List V} {ds : List PD} {i : Nat} {v : V}, DqA H vs ds → vs[i]? = some v → ∃ d, ds[i]? = some d ∧ Dq H v d
  | _, _, _, _, .nil, e => by simp at e
  | _, _, 0, _, .cons h _, e => by simp at e; subst e; exact ⟨_, rfl, h⟩
  | _, _, i + 1, v, .cons _ r, e => by
    obtain ⟨d, h1, h2⟩ := DqA.get' (i := i) (v := v) r (by simpa using e)
    exact ⟨d, by simpa using h1, h2⟩
theorem DqA.app : ∀ {vs ws : List V} {ds es : List PD}, DqA H vs ds → DqA H ws es → DqA H (vs ++ ws) (ds ++ es)
  | _, _, _, _, .nil, s => s
  | _, _, _, _, .cons h r, s => .cons h (DqA.app r s)
theorem DqA.drop : ∀ {vs : List V} {ds : List PD} (n : Nat), DqA H vs ds → DqA H (vs.drop n) (ds.drop n)
  | _, _, 0, r => r
  | _, _, _ + 1, .nil => .nil
  | _, _, n + 1, .cons _ r => DqA.drop n r
theorem DqA.take : ∀ {vs : List V} {ds : List PD} (n : Nat), DqA H vs ds → DqA H (vs.take n) (ds.take n)
  | _, _, 0, _ => .nil
  | _, _, _ + 1, .nil => .nil
  | _, _, n + 1, .cons h r => .cons h (DqA.take n r)
theorem DqA.rev : ∀ {vs : List V} {ds : List PD}, DqA H vs ds → DqA H vs.reverse ds.reverse
  | _, _, .nil => .nil
  | _, _, .cons h r => by
    rw [List.reverse_cons, List.reverse_cons]
    exact DqA.app (DqA.rev r) (.cons h .nil)
theorem DqA.set : ∀ {vs : List V} {ds : List PD} (i : Nat) {v : V} {d : PD}, DqA H vs ds → Dq H v d → DqA H (vs.set i v) (ds.set i d)
  | _, _, _, _, _, .nil, _ => .nil
  | _, _, 0, _, _, .cons _ r, q => .cons q r
  | _, _, i + 1, _, _, .cons h r, q => .cons h (DqA.set i r q)
theorem DqA.rep {vs : List V} {ds : List PD} (h : DqA H vs ds) : ∀ k : Nat, DqA H (List.replicate k vs).flatten (List.replicate k ds).flatten
  | 0 => .nil
  | k + 1 => by
    rw [List.replicate_succ, List.replicate_succ, List.flatten_cons, List.flatten_cons]
    exact h.app (DqA.rep h k)
end

/-! ### the relation -/
def walkF (v : V) (k : Int) : List (Str × V) := [("steps", v), ("kept", .int k)]
def WAt (p : Pm) (L : Lay) (a : Addr) (w : List PD × Int) : Prop := ∃ dx v, L.M a = some (.ins p.C dx (walkF v w.2)) ∧ L.M dx = some (.own a) ∧ Dq L.S v (.tuple w.1)
/-- the script: locked as it is, or one of the written part -/
def ScrAt (K : PySem.W.Frag) (M : Hp) (a : Addr) (ns : List Int) : Prop := (∃ o, M a = some (.frz o (.lst (ns.map V.int)))) ∨
  ∃ (o : Obj) (its : Array Value) (n : Nat), K.lookup a = some o ∧ o.cls = .type "list" ∧ o.dict = none ∧ o.data = .seq its n ∧ its.size ≤ sizeLine ∧ Vals (ns.map V.int) its.toList
structure GI (p : Pm) (L : Lay) (g : G) : Prop where
  len : L.oa.length = g.ws.length + 2
  nd : (L.oa.drop 2).Nodup
  town : ∃ a, L.oa[0]? = some a ∧ L.M a = some (.lst (List.replicate g.n (V.int 0)))
  scr : ∃ a, L.oa[1]? = some a ∧ ScrAt p.K L.M a g.ns
  wk : ∀ (i : Nat) w a, g.ws[i]? = some w → L.oa[i + 2]? = some a → WAt p L a w

structure Rel (p : Pm) (L : Lay) (g : G) (H : Hp) : Prop where
  s : Same L.S H
  m : Same L.M H
  sm : ∀ a, L.S a ≠ none → L.M a = none
  gi : GI p L g

structure Stp (L : Lay) (H : Hp) (L' : Lay) (H' : Hp) : Prop where
  ss : Same L.S L'.S
  oa : L.oa <+: L'.oa
  keep : ∀ b o, L.M b = none → H b = some o → H' b = some o
  sfr : ∀ b, L'.S b ≠ none → L.S b ≠ none ∨ H b = none
  mfr : ∀ b, L'.M b ≠ none → L.M b ≠ none ∨ H b = none
  mm : ∀ b, L.M b ≠ none → H' b ≠ none

theorem opt_none {α : Type} {o : Option α} (h : ¬ o ≠ none) : o = none := by
  cases o with
  | none => rfl
  | some a => exact absurd (fun z => nomatch z) h
theorem opt_some {α : Type} {o : Option α} (h : o ≠ none) : ∃ a, o = some a := by
  cases o with
  | none => exact absurd rfl h
  | some a => exact ⟨a, rfl⟩

theorem Rel.mh {p : Pm} {L : Lay} {g : G} {H : Hp} (r : Rel p L g H) {b : Addr} (h : L.M b ≠ none) : H b ≠ none := by
  obtain ⟨o, e⟩ := opt_some h
  rw [r.m b o e]
  exact fun z => nomatch z
theorem Stp.refl {p : Pm} {L : Lay} {g : G} {H : Hp} (r : Rel p L g H) : Stp L H L H :=
  ⟨Same.refl _, List.prefix_refl _, fun _ _ _ e => e, fun _ h => .inl h, fun _ h => .inl h, fun _ h => r.mh h⟩
theorem Stp.free {L L1 : Lay} {H H1 : Hp} (a : Stp L H L1 H1) {b : Addr} (h : H1 b = none) : H b = none := by
  cases e : H b with
  | none => rfl
  | some o =>
    by_cases q : L.M b = none
    · rw [a.keep b o q e] at h
      cases h
    · exact absurd h (a.mm b q)
theorem Stp.trans {L L1 L2 : Lay} {H H1 H2 : Hp} (a : Stp L H L1 H1) (b : Stp L1 H1 L2 H2) : Stp L H L2 H2 where
  ss := a.ss.trans b.ss
  oa := a.oa.trans b.oa
  keep := fun c o h e => b.keep c o (by
    refine opt_none fun q => ?_
    rcases a.mfr c q with z | z
    · exact z h
    · rw [e] at z
      cases z) (a.keep c o h e)
  sfr := fun c h => by
    rcases b.sfr c h with z | z
    · exact a.sfr c z
    · exact .inr (a.free z)
  mfr := fun c h => by
    rcases b.mfr c h with z | z
    · exact a.mfr c z
    · exact .inr (a.free z)
  mm := fun c h => by
    by_cases q : L1.M c = none
    · obtain ⟨o, e⟩ := opt_some (a.mm c h)
      rw [b.keep c o q e]
      exact fun z => nomatch z
    · exact b.mm c q

def SlR (p : Pm) (L : Lay) (H0 H : Hp) : Sl → Option V → Prop
  | .val d, o => ∃ v, o = some v ∧ Dq L.S v d
  | .own ds, o => ∃ a xs, o = some (.ref a) ∧ H a = some (.lst xs) ∧ DqA L.S xs ds ∧ L.S a = none ∧ L.M a = none ∧ H0 a = none
  | .obj i, o => ∃ a, o = some (.ref a) ∧ L.oa[i]? = some a
  | .dead, _ => True
structure FR (p : Pm) (L0 : Lay) (H0 : Hp) (L : Lay) (g : G) (Γ : List Sl) (σ : St) (H : Hp) : Prop where
  rel : Rel p L g H
  st : Stp L0 H0 L H
  len : Γ.length = σ.length
  sl : ∀ (i : Nat) s o, Γ[i]? = some s → σ[i]? = some o → SlR p L H0 H s o
  dis : ∀ (i j : Nat) ds es a, i ≠ j → Γ[i]? = some (.own ds) → Γ[j]? = some (.own es) → σ[i]? = some (some (V.ref a)) → σ[j]? ≠ some (some (V.ref a))

theorem prefix_get {α : Type} {l l' : List α} (h : l <+: l') {i : Nat} {x : α} (e : l[i]? = some x) : l'[i]? = some x := by
  obtain ⟨t, rfl⟩ := h
  obtain ⟨hi, _⟩ := List.getElem?_eq_some_iff.mp e
  rw [List.getElem?_append_left hi]
  exact e
section
variable {p : Pm} {W : WX} {L0 L L1 : Lay} {H0 H H1 : Hp} {g g1 : G} {Γ : List Sl} {σ : St}
theorem SlR.step {s : Sl} {o : Option V} (h : SlR p L H0 H s o) (st : Stp L H L1 H1) : SlR p L1 H0 H1 s o := by
  cases s with
  | val d =>
    obtain ⟨v, e, h⟩ := h
    exact ⟨v, e, h.mono st.ss⟩
  | own ds =>
    obtain ⟨a, xs, e, h1, h2, h3, h4, h5⟩ := h
    refine ⟨a, xs, e, st.keep a _ h4 h1, h2.mono st.ss, opt_none fun q => ?_, opt_none fun q => ?_, h5⟩
    · rcases st.sfr a q with z | z
      · exact z h3
      · rw [h1] at z; cases z
    · rcases st.mfr a q with z | z
      · exact z h4
      · rw [h1] at z; cases z
  | obj i =>
    obtain ⟨a, e, h⟩ := h
    exact ⟨a, e, prefix_get st.oa h⟩
  | dead => exact h
theorem FR.step (fr : FR p L0 H0 L g Γ σ H) (st : Stp L H L1 H1) (rel : Rel p L1 g1 H1) : FR p L0 H0 L1 g1 Γ σ H1 :=
  ⟨rel, fr.st.trans st, fr.len, fun i s o h1 h2 => (fr.sl i s o h1 h2).step st, fr.dis⟩
theorem FR.set (fr : FR p L0 H0 L g Γ σ H) (i : Nat) {v : V} {d : PD} (h : Dq L.S v d) : FR p L0 H0 L g (Γ.set i (.val d)) (σ.set i (some v)) H := by
  refine ⟨fr.rel, fr.st, by rw [List.length_set, List.length_set]; exact fr.len, fun j s o h1 h2 => ?_, fun j k ds es a hjk h1 h2 h3 => ?_⟩
  · by_cases hj : i = j
    · subst hj
      have hi : i < Γ.length := by
        have := (List.getElem?_eq_some_iff.mp h1).1
        rw [List.length_set] at this
        exact this
      have hi' : i < σ.length := by rw [← fr.len]; exact hi
      rw [List.getElem?_set_self hi] at h1
      rw [List.getElem?_set_self hi'] at h2
      cases h1
      cases h2
      exact ⟨v, rfl, h⟩
    · rw [List.getElem?_set_ne hj] at h1 h2
      exact fr.sl j s o h1 h2
  · have nj : i ≠ j := fun e => by
      subst e
      rw [List.getElem?_set] at h1
      simp at h1
    have nk : i ≠ k := fun e => by
      subst e
      rw [List.getElem?_set] at h2
      simp at h2
    rw [List.getElem?_set_ne nj] at h1 h3
    rw [List.getElem?_set_ne nk] at h2 ⊢
    exact fr.dis j k ds es a hjk h1 h2 h3
theorem FR.kill (fr : FR p L0 H0 L g Γ σ H) (i : Nat) {o : Option V} : FR p L0 H0 L g (Γ.set i .dead) (σ.set i o) H := by
  refine ⟨fr.rel, fr.st, by rw [List.length_set, List.length_set]; exact fr.len, fun j s o h1 h2 => ?_, fun j k ds es a hjk h1 h2 h3 => ?_⟩
  · by_cases hj : i = j
    · subst hj
      have hi : i < Γ.length := by
        have := (List.getElem?_eq_some_iff.mp h1).1
        rw [List.length_set] at this
        exact this
      rw [List.getElem?_set_self hi] at h1
      cases h1
      trivial
    · rw [List.getElem?_set_ne hj] at h1 h2
      exact fr.sl j s o h1 h2
  · have nj : i ≠ j := fun e => by
      subst e
      rw [List.getElem?_set] at h1
      simp at h1
    have nk : i ≠ k := fun e => by
      subst e
      rw [List.getElem?_set] at h2
      simp at h2
    rw [List.getElem?_set_ne nj] at h1 h3
    rw [List.getElem?_set_ne nk] at h2 ⊢
    exact fr.dis j k ds es a hjk h1 h2 h3
end

/-! ### what is wanted behind a piece -/
def Post (p : Pm) (W : WX) (σ : St) (L : Lay) (H : Hp) {α : Type} (ok : α → G → Lay → Hp → Prop) : Res α → Prop
  | .ok a g' => ∀ L' H', Stp L H L' H' → Rel p L' g' H' → ok a g' L' H'
  | .exc c g' => ∀ L' H', Stp L H L' H' → Rel p L' g' H' → W (.ref (p.cls c)) none σ H'
  | .bad => False
section
variable {p : Pm} {W : WX} {L L1 : Lay} {H H1 : Hp} {σ : St} {α β : Type}
theorem Post.step {ok : α → G → Lay → Hp → Prop} {r : Res α} (st : Stp L H L1 H1) (h : Post p W σ L H ok r) : Post p W σ L1 H1 ok r := by
  cases r with
  | ok a g' => exact fun L' H' s r => h L' H' (st.trans s) r
  | exc c g' => exact fun L' H' s r => h L' H' (st.trans s) r
  | bad => exact h
theorem Post.mono {ok ok' : α → G → Lay → Hp → Prop} {r : Res α} (h : Post p W σ L H ok r) (k : ∀ a g' L' H', Stp L H L' H' → Rel p L' g' H' → ok a g' L' H' → ok' a g' L' H') : Post p W σ L H ok' r := by
  cases r with
  | ok a g' => exact fun L' H' s r => k a g' L' H' s r (h L' H' s r)
  | exc c g' => exact h
  | bad => exact h
theorem Post.bind {ok : β → G → Lay → Hp → Prop} {x : Res α} {k : α → Mo β} (h : Post p W σ L H ok (x.bind k)) : Post p W σ L H (fun a g1 L1 H1 => Post p W σ L1 H1 ok (k a g1)) x := by
  cases x with
  | ok a g1 => exact fun L1 H1 st _ => Post.step st h
  | exc c g' => exact h
  | bad => exact h
theorem Post.pure {ok : α → G → Lay → Hp → Prop} {a : α} {g : G} (h : Post p W σ L H ok (ret a g)) (rel : Rel p L g H) : ok a g L H := h L H (Stp.refl rel) rel
theorem Post.lift {ok : α → G → Lay → Hp → Prop} {o : Option α} {g : G} (h : Post p W σ L H ok (lift o g)) (rel : Rel p L g H) : ∃ a, o = some a ∧ Post p W σ L H ok (.ok a g) := by
  cases o with
  | none => exact h.elim
  | some a => exact ⟨a, rfl, h⟩
end
def tE (p : Pm) (W : WX) (f : List Sl → Mo PD) : TE := fun σ H Q => ∃ L0 H0 L g Γ, FR p L0 H0 L g Γ σ H ∧ Post p W σ L H (fun d _ L' H' => ∀ v, Dq L'.S v d → Q v H') (f Γ g)
def tT (p : Pm) (W : WX) (f : List Sl → Mo Bool) : TT := fun σ H Q => ∃ L0 H0 L g Γ, FR p L0 H0 L g Γ σ H ∧ Post p W σ L H (fun b _ _ H' => Q b H') (f Γ g)
def ArgR (p : Pm) (L : Lay) : V → Sl → Prop
  | v, .val d => Dq L.S v d
  | v, .obj i => ∃ a, v = .ref a ∧ L.oa[i]? = some a
  | _, _ => False
def tA (p : Pm) (W : WX) (f : List Sl → Mo (List PD)) : TA := fun σ H Q => ∃ L0 H0 L g Γ, FR p L0 H0 L g Γ σ H ∧ Post p W σ L H (fun ds _ L' H' => ∀ vs, DqA L'.S vs ds → Q vs H') (f Γ g)
def tAs (p : Pm) (W : WX) (f : List Sl → Mo (List Sl)) : TA := fun σ H Q => ∃ L0 H0 L g Γ, FR p L0 H0 L g Γ σ H ∧ Post p W σ L H (fun ds _ L' H' => ∀ vs, Paired (ArgR p L') vs ds → Q vs H') (f Γ g)
def PostS (p : Pm) (W : WX) (L0 : Lay) (H0 : Hp) (L : Lay) (D : Ends) : Res Fl → Prop
  | .ok (.next Γ') g' => ∀ L' σ' H', FR p L0 H0 L' g' Γ' σ' H' → Same L.S L'.S → D.nx σ' H'
  | .ok (.ret d) g' => ∀ v L' H', Stp L0 H0 L' H' → Rel p L' g' H' → Dq L'.S v d → D.rt v H'
  | .exc c g' => ∀ L' σ' H', Stp L0 H0 L' H' → Rel p L' g' H' → W (.ref (p.cls c)) none σ' H'
  | .bad => False
def tS (p : Pm) (W : WX) (f : List Sl → Mo Fl) : TS := fun D σ H => ∃ L0 H0 L g Γ, FR p L0 H0 L g Γ σ H ∧ PostS p W L0 H0 L D (f Γ g)

/-! ### the judgements -/
structure Ct where
  X : Cx
  p : Pm
  W : WX
structure Ct.Ok (c : Ct) (k : Nat) : Prop where
  K : c.p.K = c.X.K
  rm : Room k c.X.A
  cm : c.X.calm = true
  nd : c.X.N.Nodup
  tk : Takes c.X c.W
  po : PassesOwn (model c.X.prog c.X.w) c.X.A c.X.env c.X.xe
def DE (c : Ct) (e : Expr) (f : List Sl → Mo PD) : Prop := PE c.X e (tE c.p c.W f)
def DT (c : Ct) (e : Expr) (f : List Sl → Mo Bool) : Prop := PT c.X e (tT c.p c.W f)
def DW (c : Ct) (e : Expr) (f : List Sl → Mo Bool) : Prop := PW c.X e (tT c.p c.W f)
def DA (c : Ct) (es : List Expr) (f : List Sl → Mo (List PD)) : Prop := PA c.X es (tA c.p c.W f)
def DAs (c : Ct) (es : List Expr) (f : List Sl → Mo (List Sl)) : Prop := PA c.X es (tAs c.p c.W f)
def DS (c : Ct) (st : Stmt) (f : List Sl → Mo Fl) : Prop := PS c.X st (tS c.p c.W f)
def DSs (c : Ct) (st : List Stmt) (f : List Sl → Mo Fl) : Prop := PSs c.X st (tS c.p c.W f)
theorem PE.imp {X : Cx} {e : Expr} {t t' : TE} (h : PE X e t) (k : ∀ σ H Q, t' σ H Q → t σ H Q) : PE X e t' := ⟨fun pins s σ H Q I q => h.run pins s σ H Q I (k σ H Q q)⟩
theorem PT.imp {X : Cx} {e : Expr} {t t' : TT} (h : PT X e t) (k : ∀ σ H Q, t' σ H Q → t σ H Q) : PT X e t' := ⟨fun pins s σ H Q I q => h.run pins s σ H Q I (k σ H Q q)⟩
theorem PW.imp {X : Cx} {e : Expr} {t t' : TT} (h : PW X e t) (k : ∀ σ H Q, t' σ H Q → t σ H Q) : PW X e t' := ⟨fun w pins s σ H Q I q => h.run w pins s σ H Q I (k σ H Q q)⟩
theorem PA.imp {X : Cx} {e : List Expr} {t t' : TA} (h : PA X e t) (k : ∀ σ H Q, t' σ H Q → t σ H Q) : PA X e t' := ⟨fun w pins s σ H Q I q => h.run w pins s σ H Q I (k σ H Q q)⟩
theorem PS.imp {X : Cx} {e : Stmt} {t t' : TS} (h : PS X e t) (k : ∀ D σ H, t' D σ H → t D σ H) : PS X e t' := ⟨fun pins s σ H D I q => h.run pins s σ H D I (k D σ H q)⟩
theorem PSs.imp {X : Cx} {e : List Stmt} {t t' : TS} (h : PSs X e t) (k : ∀ D σ H, t' D σ H → t D σ H) : PSs X e t' := ⟨fun pins s σ H D I q => h.run pins s σ H D I (k D σ H q)⟩
section
variable {p : Pm} {W : WX} {L0 L L1 : Lay} {H0 H H1 : Hp} {g : G} {Γ : List Sl} {σ : St} {α : Type} {D : Ends}
theorem PostS.up {r : Res Fl} (ss : Same L.S L1.S) (h : PostS p W L0 H0 L D r) : PostS p W L0 H0 L1 D r := by
  cases r with
  | ok a g' =>
    cases a with
    | next Γ' => exact fun L' σ' H' fr s => h L' σ' H' fr (ss.trans s)
    | ret d => exact h
  | exc c g' => exact h
  | bad => exact h
theorem PostS.bind {x : Res α} {k : α → Mo Fl} (fr : FR p L0 H0 L g Γ σ H) (h : PostS p W L0 H0 L D (x.bind k)) : Post p W σ L H (fun a g1 L1 _ => PostS p W L0 H0 L1 D (k a g1)) x := by
  cases x with
  | ok a g1 => exact fun L1 H1 st _ => PostS.up st.ss h
  | exc c g1 => exact fun L1 H1 st rel => h L1 σ H1 (fr.st.trans st) rel
  | bad => exact h
end
end Av

namespace Av
open PySem PySem.Spec L2
open PyProof.Rows hiding St
set_option autoImplicit false
/-! ### growing -/
section
variable {p : Pm} {L : Lay} {g : G} {H : Hp}
theorem WAt.up {a : Addr} {w : List PD × Int} {S' : Hp} (h : WAt p L a w) (e : Same L.S S') : WAt p { L with S := S' } a w := by
  obtain ⟨dx, v, h1, h2, h3⟩ := h
  exact ⟨dx, v, h1, h2, h3.mono e⟩
theorem GI.up {S' : Hp} (h : GI p L g) (e : Same L.S S') : GI p { L with S := S' } g :=
  ⟨h.len, h.nd, h.town, h.scr, fun i w a h1 h2 => (h.wk i w a h1 h2).up e⟩
theorem same_new {S : Hp} {q : Addr} {o : HO} (h : S q = none) : Same S (upd S q o) := fun a u e => by
  rw [upd_ne (ne_of_none e h)]
  exact e
theorem Rel.sq (rel : Rel p L g H) {q : Addr} (hq : H q = none) : L.S q = none := by
  cases e : L.S q with
  | none => rfl
  | some o => rw [rel.s q o e] at hq; cases hq
theorem Rel.mq (rel : Rel p L g H) {q : Addr} (hq : H q = none) : L.M q = none := by
  cases e : L.M q with
  | none => rfl
  | some o => rw [rel.m q o e] at hq; cases hq
/-- a new object that never changes -/
theorem Rel.new (rel : Rel p L g H) {q : Addr} {o : HO} (hq : H q = none) : Rel p { L with S := upd L.S q o } g (upd H q o) where
  s := fun a u e => by
    have e' : upd L.S q o a = some u := e
    by_cases h : a = q
    · subst h; rw [upd_same] at e' ⊢; exact e'
    · rw [upd_ne h] at e' ⊢; exact rel.s a u e'
  m := fun a u e => by
    have e' : L.M a = some u := e
    have h : a ≠ q := fun z => by subst z; rw [rel.mq hq] at e'; cases e'
    rw [upd_ne h]; exact rel.m a u e'
  sm := fun a h => by
    have h' : upd L.S q o a ≠ none := h
    by_cases z : a = q
    · subst z; exact rel.mq hq
    · rw [upd_ne z] at h'; exact rel.sm a h'
  gi := rel.gi.up (same_new (rel.sq hq))
theorem Stp.new (rel : Rel p L g H) {q : Addr} {o : HO} (hq : H q = none) : Stp L H { L with S := upd L.S q o } (upd H q o) where
  ss := same_new (rel.sq hq)
  oa := List.prefix_refl _
  keep := fun b u _ e => by rw [upd_ne (ne_of_none e hq)]; exact e
  sfr := fun b h => by
    have h' : upd L.S q o b ≠ none := h
    by_cases z : b = q
    · subst z; exact .inr hq
    · rw [upd_ne z] at h'; exact .inl h'
  mfr := fun b h => .inl h
  mm := fun b h => by
    have z : b ≠ q := fun z => by subst z; exact h (rel.mq hq)
    rw [upd_ne z]; exact rel.mh h
end

/-! ### expressions -/
def eC (d : PD) : List Sl → Mo PD := fun _ => ret d
def getV : Option Sl → Option PD
  | some (.val d) => some d
  | _ => none
theorem getV_some {o : Option Sl} {d : PD} (h : getV o = some d) : o = some (.val d) := by
  cases o with
  | none => cases h
  | some s =>
    cases s with
    | val x => cases h; rfl
    | own _ => cases h
    | obj _ => cases h
    | dead => cases h
def getO : Option Sl → Option Nat
  | some (.obj i) => some i
  | _ => none
theorem getO_some {o : Option Sl} {d : Nat} (h : getO o = some d) : o = some (.obj d) := by
  cases o with
  | none => cases h
  | some s =>
    cases s with
    | val x => cases h
    | own _ => cases h
    | obj _ => cases h; rfl
    | dead => cases h
def eVar (i : Nat) : List Sl → Mo PD := fun Γ => lift (getV Γ[i]?)
section
variable {c : Ct}
theorem de_const {e : Expr} {v : V} {d : PD} (h : PE c.X e (tC v)) (hd : ∀ S, Dq S v d) : DE c e (eC d) :=
  PE.imp h fun σ H Q q => by
    obtain ⟨L0, H0, L, g, Γ, fr, po⟩ := q
    exact po.pure fr.rel v (hd _)
theorem de_int {i : Int} {j : Nat} {pos : Pos} : DE c (.Constant (.int i) j pos) (eC (.int i)) := de_const pe_int fun _ => .int i
theorem de_bl {b : Bool} {j : Nat} {pos : Pos} : DE c (.Constant (.bool b) j pos) (eC (.bool b)) := de_const pe_bl fun _ => .bl b
theorem de_non {j : Nat} {pos : Pos} : DE c (.Constant .none j pos) (eC .none) := de_const pe_non fun _ => .non
theorem de_str {x : Str} {j : Nat} {pos : Pos} : DE c (.Constant (.str x) j pos) (eC (.str x)) := de_const pe_str fun _ => .str x
theorem de_gint {x : Str} {i : Int} {t : Tok} {pos : Pos} (hm : c.X.mg x = some (.int i t)) (hg : Gl c.X x := by rfl) (hd : (x == ("__debug__" : Str)) = false := by decide) : DE c (.Name x pos) (eC (.int i)) :=
  de_const (pe_glob hg hm (v := .int i) ⟨t, rfl⟩ hd) fun _ => .int i
theorem de_var (i : Nat) {x : Str} {pos : Pos} (hN : c.X.N[i]? = some x := by rfl) (hv : Vis c.X.env.scope x := by first | exact Or.inl rfl | exact Or.inr (Or.inl rfl) | exact Or.inr (Or.inr rfl)) (hd : (x == ("__debug__" : Str)) = false := by decide)
    (hcd : (x == ("__classdict__" : Str)) = false := by decide) : DE c (.Name x pos) (eVar i) :=
  PE.imp (pe_var hN hv hd hcd) fun σ H Q q => by
    obtain ⟨L0, H0, L, g, Γ, fr, po⟩ := q
    obtain ⟨d, hi, po⟩ := Post.lift po fr.rel
    have hi := getV_some hi
    have hlt : i < σ.length := by rw [← fr.len]; exact (List.getElem?_eq_some_iff.mp hi).1
    obtain ⟨v, e, h⟩ := fr.sl i _ _ hi (List.getElem?_eq_getElem hlt)
    exact ⟨v, by rw [List.getElem?_eq_getElem hlt, e], po L H (Stp.refl fr.rel) fr.rel v h⟩

/-! ### operators -/
def OpS (c : Ct) (r : R2) (h : PD → PD → Option PD) : Prop := ∀ (L : Lay) (g : G) (H : Hp) (x y : V) (d e z : PD) (Q : VK), Rel c.p L g H → Dq L.S x d → Dq L.S y e → h d e = some z →
  (∀ v L' H', Stp L H L' H' → Rel c.p L' g H' → Dq L'.S v z → Q v H') → r x y H Q
def eBin (h : PD → PD → Option PD) (fa fb : List Sl → Mo PD) : List Sl → Mo PD := fun Γ => bnd (fa Γ) fun d => bnd (fb Γ) fun e => lift (h d e)
theorem bin_of {r : R2} {h : PD → PD → Option PD} {fa fb : List Sl → Mo PD} (hs : OpS c r h) {σ : St} {H : Hp} {Q : VK} (q : tE c.p c.W (eBin h fa fb) σ H Q) : tOp r (tE c.p c.W fa) (tE c.p c.W fb) σ H Q := by
  obtain ⟨L0, H0, L, g, Γ, fr, po⟩ := q
  have po := Post.bind po
  refine ⟨L0, H0, L, g, Γ, fr, po.mono fun d g1 L1 H1 st1 rel1 po1 v hv => ?_⟩
  have fr1 := fr.step st1 rel1
  have po1 := Post.bind po1
  refine ⟨L0, H0, L1, g1, Γ, fr1, po1.mono fun e g2 L2 H2 st2 rel2 po2 u hu => ?_⟩
  obtain ⟨z, hz, po2⟩ := po2.lift rel2
  exact hs L2 g2 H2 v u d e z Q rel2 (hv.mono st2.ss) hu hz fun v' L' H' st' rel' hd => po2 L' H' st' rel' v' hd
theorem de_bin {op : Operator} {r : R2} {h : PD → PD → Option PD} {fa fb : List Sl → Mo PD} {a b : Expr} {pos : Pos} (ho : OpR c.X (binaryOp op) r) (hs : OpS c r h) (ha : DE c a fa) (hb : DE c b fb) : DE c (.BinOp a op b pos) (eBin h fa fb) :=
  PE.imp (pe_op ho ha hb) fun _ _ _ q => bin_of hs q
theorem de_cmp {op : CmpOp} {r : R2} {h : PD → PD → Option PD} {fa fb : List Sl → Mo PD} {a b : Expr} {pos : Pos} (ho : OpR c.X (compareOp op) r) (hs : OpS c r h) (ha : DE c a fa) (hb : DE c b fb) (hm : behindInMarks op b = false) : DE c (.Compare a [op] [b] pos) (eBin h fa fb) :=
  PE.imp (pe_cmpR ho ha hb hm) fun _ _ _ q => bin_of hs q
def asB : PD → Option Bool
  | .bool b => some b
  | _ => none
def eTest (f : List Sl → Mo PD) : List Sl → Mo Bool := fun Γ => bnd (f Γ) fun d => lift (asB d)
theorem asB_some {d : PD} {b : Bool} (h : asB d = some b) : d = .bool b := by
  cases d with
  | bool x => cases h; rfl
  | none => cases h
  | int _ => cases h
  | str _ => cases h
  | list _ => cases h
  | tuple _ => cases h
  | dict _ => cases h
theorem test_of {f : List Sl → Mo PD} {σ : St} {H : Hp} {Q : Bool → Hp → Prop} (q : tT c.p c.W (eTest f) σ H Q) : tE c.p c.W f σ H fun x H' => ∃ k, x = .bl k ∧ Q k H' := by
  obtain ⟨L0, H0, L, g, Γ, fr, po⟩ := q
  have po := Post.bind po
  refine ⟨L0, H0, L, g, Γ, fr, po.mono fun d g1 L1 H1 st1 rel1 po1 v hv => ?_⟩
  obtain ⟨b, hb, po1⟩ := po1.lift rel1
  cases asB_some hb
  cases hv
  exact ⟨b, rfl, po1 L1 H1 (Stp.refl rel1) rel1⟩
theorem dt_cmp {op : CmpOp} {r : R2} {h : PD → PD → Option PD} {fa fb : List Sl → Mo PD} {a b : Expr} {pos : Pos} (ho : OpR c.X (compareOp op) r) (hs : OpS c r h) (ha : DE c a fa) (hb : DE c b fb) (hm : behindInMarks op b = false) : DT c (.Compare a [op] [b] pos) (eTest (eBin h fa fb)) :=
  PT.imp (pt_cmpR ho ha hb hm) fun σ H Q q => bin_of hs (test_of q)
theorem dt_val {e : Expr} {f : List Sl → Mo PD} (h : DE c e f) (he : ∀ whole, isTrue e c.X.env whole = (do let v ← whole; standAt e.pos; holding [v] (truthy v)) := by intro _; rfl) : DT c e (eTest f) :=
  PT.imp (pt_val h he) fun σ H Q q => test_of q
/-! chains -/
def eChain (h h' : PD → PD → Option PD) (fa fb fc : List Sl → Mo PD) : List Sl → Mo PD := fun Γ => bnd (fa Γ) fun x => bnd (fb Γ) fun y => bnd (lift ((h x y).bind asB)) fun k =>
  if k = true then bnd (fc Γ) fun z => lift (h' y z) else ret (.bool false)
theorem chain_of {r r' : R2} {h h' : PD → PD → Option PD} {fa fb fc : List Sl → Mo PD} (hs : OpS c r h) (hs' : OpS c r' h') {σ : St} {H : Hp} {Q : VK} (q : tE c.p c.W (eChain h h' fa fb fc) σ H Q) :
    tChain r r' (tE c.p c.W fa) (tE c.p c.W fb) (tE c.p c.W fc) σ H Q := by
  obtain ⟨L0, H0, L, g, Γ, fr, po⟩ := q
  have po := Post.bind po
  refine ⟨L0, H0, L, g, Γ, fr, po.mono fun d g1 L1 H1 st1 rel1 po1 v hv => ?_⟩
  have fr1 := fr.step st1 rel1
  have po1 := Post.bind po1
  refine ⟨L0, H0, L1, g1, Γ, fr1, po1.mono fun e g2 L2 H2 st2 rel2 po2 u hu => ?_⟩
  have po2 := Post.bind po2
  obtain ⟨k, hk, po2⟩ := po2.lift rel2
  obtain ⟨z, hz, hb⟩ := Option.bind_eq_some_iff.mp hk
  cases asB_some hb
  refine hs L2 g2 H2 v u d e _ _ rel2 (hv.mono st2.ss) hu hz fun v' L3 H3 st3 rel3 hd => ?_
  cases hd
  refine ⟨k, rfl, ?_⟩
  have po3 := po2 L3 H3 st3 rel3
  cases k with
  | true =>
    rw [if_pos rfl] at po3 ⊢
    have fr3 := (fr1.step st2 rel2).step st3 rel3
    have po3 := Post.bind po3
    refine ⟨L0, H0, L3, g2, Γ, fr3, po3.mono fun w g4 L4 H4 st4 rel4 po4 wv hw => ?_⟩
    obtain ⟨z2, hz2, po4⟩ := po4.lift rel4
    exact hs' L4 g4 H4 u wv e w z2 Q rel4 ((hu.mono st3.ss).mono st4.ss) hw hz2 fun v' L' H' st' rel' hd => po4 L' H' st' rel' v' hd
  | false =>
    rw [if_neg Bool.false_ne_true] at po3 ⊢
    exact po3.pure rel3 _ (.bl false)
theorem de_chain {op op' : CmpOp} {r r' : R2} {h h' : PD → PD → Option PD} {fa fb fc : List Sl → Mo PD} {a b d : Expr} {pos : Pos} (ho : OpR c.X (compareOp op) r) (hs : OpS c r h) (ho' : OpR c.X (compareOp op') r') (hs' : OpS c r' h')
    (ha : DE c a fa) (hb : DE c b fb) (hc : DE c d fc) (hm : lastMarks [op, op'] [b, d] = false := by rfl) : DE c (.Compare a [op, op'] [b, d] pos) (eChain h h' fa fb fc) :=
  PE.imp (pe_chain ho ho' ha hb hc hm) fun _ _ _ q => chain_of hs hs' q
theorem dt_chain {op op' : CmpOp} {r r' : R2} {h h' : PD → PD → Option PD} {fa fb fc : List Sl → Mo PD} {a b d : Expr} {pos : Pos} (ho : OpR c.X (compareOp op) r) (hs : OpS c r h) (ho' : OpR c.X (compareOp op') r') (hs' : OpS c r' h')
    (ha : DE c a fa) (hb : DE c b fb) (hc : DE c d fc) (hm : lastMarks [op, op'] [b, d] = false := by rfl) : DT c (.Compare a [op, op'] [b, d] pos) (eTest (eChain h h' fa fb fc)) :=
  PT.imp (pt_chain ho ho' ha hb hc hm) fun _ _ _ q => chain_of hs hs' (test_of q)
/-! and, or, not as tests -/
def bAnd (f1 f2 : List Sl → Mo Bool) : List Sl → Mo Bool := fun Γ => bnd (f1 Γ) fun b => if b = true then f2 Γ else ret false
def bOr (f1 f2 : List Sl → Mo Bool) : List Sl → Mo Bool := fun Γ => bnd (f1 Γ) fun b => if b = true then ret true else f2 Γ
def bNot (f : List Sl → Mo Bool) : List Sl → Mo Bool := fun Γ => bnd (f Γ) fun b => ret (!b)
theorem dw_and1 {a : Expr} {f : List Sl → Mo Bool} {pos : Pos} (ha : DT c a f) : DW c (.BoolOp .And [a] pos) f := pw_and1 ha
theorem dw_or1 {a : Expr} {f : List Sl → Mo Bool} {pos : Pos} (ha : DT c a f) : DW c (.BoolOp .Or [a] pos) f := pw_or1 ha
theorem dw_and {a b : Expr} {rest : List Expr} {f1 f2 : List Sl → Mo Bool} {pos : Pos} (ha : DT c a f1) (hb : DW c (.BoolOp .And (b :: rest) pos) f2) : DW c (.BoolOp .And (a :: b :: rest) pos) (bAnd f1 f2) :=
  PW.imp (pw_and ha hb) fun σ H Q q => by
    obtain ⟨L0, H0, L, g, Γ, fr, po⟩ := q
    have po := Post.bind po
    refine ⟨L0, H0, L, g, Γ, fr, po.mono fun b g1 L1 H1 st1 rel1 po1 => ?_⟩
    cases b with
    | true => exact ⟨L0, H0, L1, g1, Γ, fr.step st1 rel1, po1⟩
    | false => exact po1.pure rel1
theorem dw_or {a b : Expr} {rest : List Expr} {f1 f2 : List Sl → Mo Bool} {pos : Pos} (ha : DT c a f1) (hb : DW c (.BoolOp .Or (b :: rest) pos) f2) : DW c (.BoolOp .Or (a :: b :: rest) pos) (bOr f1 f2) :=
  PW.imp (pw_or ha hb) fun σ H Q q => by
    obtain ⟨L0, H0, L, g, Γ, fr, po⟩ := q
    have po := Post.bind po
    refine ⟨L0, H0, L, g, Γ, fr, po.mono fun b g1 L1 H1 st1 rel1 po1 => ?_⟩
    cases b with
    | true => exact po1.pure rel1
    | false => exact ⟨L0, H0, L1, g1, Γ, fr.step st1 rel1, po1⟩
theorem dt_w {e : Expr} {f : List Sl → Mo Bool} (h : DW c e f) : DT c e f := PW.pt h
theorem dt_not {a : Expr} {f : List Sl → Mo Bool} {pos : Pos} (ha : DT c a f) : DT c (.UnaryOp .Not a pos) (bNot f) :=
  PT.imp (pt_not ha) fun σ H Q q => by
    obtain ⟨L0, H0, L, g, Γ, fr, po⟩ := q
    have po := Post.bind po
    exact ⟨L0, H0, L, g, Γ, fr, po.mono fun b g1 L1 H1 st1 rel1 po1 => po1.pure rel1⟩
/-! .. as values -/
def eAnd (f1 f2 : List Sl → Mo PD) : List Sl → Mo PD := fun Γ => bnd (eTest f1 Γ) fun b => if b = true then f2 Γ else ret (.bool false)
def eOr (f1 f2 : List Sl → Mo PD) : List Sl → Mo PD := fun Γ => bnd (eTest f1 Γ) fun b => if b = true then ret (.bool true) else f2 Γ
def eNot (f : List Sl → Mo PD) : List Sl → Mo PD := fun Γ => bnd (eTest f Γ) fun b => ret (.bool (!b))
theorem de_one {op : BoolOp} {a : Expr} {f : List Sl → Mo PD} {pos : Pos} (h : DE c a f) : DE c (.BoolOp op [a] pos) f := pe_one h
theorem test_then {f1 : List Sl → Mo PD} {k : Bool → Mo PD} {L0 L : Lay} {H0 H : Hp} {g : G} {Γ : List Sl} {σ : St} {Q : VK} (fr : FR c.p L0 H0 L g Γ σ H)
    (po : Post c.p c.W σ L H (fun d _ L' H' => ∀ v, Dq L'.S v d → Q v H') (bnd (eTest f1 Γ) k g)) {R : Bool → Hp → Prop}
    (hk : ∀ b g1 L1 H1, FR c.p L0 H0 L1 g1 Γ σ H1 → Post c.p c.W σ L1 H1 (fun d _ L' H' => ∀ v, Dq L'.S v d → Q v H') (k b g1) → R b H1) : tE c.p c.W f1 σ H fun x H1 => ∃ b, x = .bl b ∧ R b H1 := by
  have po := Post.bind po
  refine test_of ⟨L0, H0, L, g, Γ, fr, po.mono fun b g1 L1 H1 st1 rel1 po1 => ?_⟩
  exact hk b g1 L1 H1 (fr.step st1 rel1) po1
theorem de_and {a b : Expr} {rest : List Expr} {f1 f2 : List Sl → Mo PD} {pos : Pos} (ha : DE c a f1) (hb : DE c (.BoolOp .And (b :: rest) pos) f2) : DE c (.BoolOp .And (a :: b :: rest) pos) (eAnd f1 f2) :=
  PE.imp (pe_and ha hb) fun σ H Q q => by
    obtain ⟨L0, H0, L, g, Γ, fr, po⟩ := q
    refine test_then fr po fun b g1 L1 H1 fr1 po1 => ?_
    cases b with
    | true => exact ⟨L0, H0, L1, g1, Γ, fr1, po1⟩
    | false => exact po1.pure fr1.rel _ (.bl false)
theorem de_or {a b : Expr} {rest : List Expr} {f1 f2 : List Sl → Mo PD} {pos : Pos} (ha : DE c a f1) (hb : DE c (.BoolOp .Or (b :: rest) pos) f2) : DE c (.BoolOp .Or (a :: b :: rest) pos) (eOr f1 f2) :=
  PE.imp (pe_or ha hb) fun σ H Q q => by
    obtain ⟨L0, H0, L, g, Γ, fr, po⟩ := q
    refine test_then fr po fun b g1 L1 H1 fr1 po1 => ?_
    cases b with
    | true => exact po1.pure fr1.rel _ (.bl true)
    | false => exact ⟨L0, H0, L1, g1, Γ, fr1, po1⟩
theorem de_not {a : Expr} {f : List Sl → Mo PD} {pos : Pos} (ha : DE c a f) : DE c (.UnaryOp .Not a pos) (eNot f) :=
  PE.imp (pe_not ha) fun σ H Q q => by
    obtain ⟨L0, H0, L, g, Γ, fr, po⟩ := q
    exact test_then fr po fun b g1 L1 H1 fr1 po1 => po1.pure fr1.rel _ (.bl _)
def eIf (t : List Sl → Mo Bool) (f1 f2 : List Sl → Mo PD) : List Sl → Mo PD := fun Γ => bnd (t Γ) fun b => if b = true then f1 Γ else f2 Γ
theorem de_if {t a b : Expr} {ft : List Sl → Mo Bool} {f1 f2 : List Sl → Mo PD} {pos : Pos} (ht : DT c t ft) (ha : DE c a f1) (hb : DE c b f2) : DE c (.IfExp t a b pos) (eIf ft f1 f2) :=
  PE.imp (pe_ifExp ht ha hb) fun σ H Q q => by
    obtain ⟨L0, H0, L, g, Γ, fr, po⟩ := q
    have po := Post.bind po
    refine ⟨L0, H0, L, g, Γ, fr, po.mono fun b g1 L1 H1 st1 rel1 po1 => ?_⟩
    cases b with
    | true => exact ⟨L0, H0, L1, g1, Γ, fr.step st1 rel1, po1⟩
    | false => exact ⟨L0, H0, L1, g1, Γ, fr.step st1 rel1, po1⟩
/-! ### argument lists, displays -/
def aNil : List Sl → Mo (List PD) := fun _ => ret []
def aCons (f : List Sl → Mo PD) (fr : List Sl → Mo (List PD)) : List Sl → Mo (List PD) := fun Γ => bnd (f Γ) fun d => bnd (fr Γ) fun ds => ret (d :: ds)
theorem da_nil : DA c [] aNil := PA.imp pa_nil fun σ H Q q => by
  obtain ⟨L0, H0, L, g, Γ, fr, po⟩ := q
  exact po.pure fr.rel [] .nil
theorem da_cons {e : Expr} {es : List Expr} {f : List Sl → Mo PD} {r : List Sl → Mo (List PD)} (he : DE c e f) (hr : DA c es r) (hs : starEach (e :: es) c.X.env = (false, eval e c.X.env) :: starEach es c.X.env := by rfl) : DA c (e :: es) (aCons f r) :=
  PA.imp (pa_cons he hr hs) fun σ H Q q => by
    obtain ⟨L0, H0, L, g, Γ, fr, po⟩ := q
    have po := Post.bind po
    refine ⟨L0, H0, L, g, Γ, fr, po.mono fun d g1 L1 H1 st1 rel1 po1 v hv => ?_⟩
    have po1 := Post.bind po1
    refine ⟨L0, H0, L1, g1, Γ, fr.step st1 rel1, po1.mono fun ds g2 L2 H2 st2 rel2 po2 vs hvs => ?_⟩
    exact po2.pure rel2 (v :: vs) (.cons (hv.mono st2.ss) hvs)
def sNil : List Sl → Mo (List Sl) := fun _ => ret []
def sCons (f : List Sl → Mo PD) (fr : List Sl → Mo (List Sl)) : List Sl → Mo (List Sl) := fun Γ => bnd (f Γ) fun d => bnd (fr Γ) fun ds => ret (.val d :: ds)
def sObj (i : Nat) (fr : List Sl → Mo (List Sl)) : List Sl → Mo (List Sl) := fun Γ => bnd (lift (getO Γ[i]?)) fun k => bnd (fr Γ) fun ds => ret (.obj k :: ds)
theorem ArgR.up {p : Pm} {L L' : Lay} (ss : Same L.S L'.S) (oa : L.oa <+: L'.oa) {v : V} {s : Sl} (h : ArgR p L v s) : ArgR p L' v s := by
  cases s with
  | val d => exact Dq.mono ss h
  | obj i =>
    obtain ⟨a, e, h⟩ := h
    exact ⟨a, e, prefix_get oa h⟩
  | own _ => exact h.elim
  | dead => exact h.elim
theorem das_nil : DAs c [] sNil := PA.imp pa_nil fun σ H Q q => by
  obtain ⟨L0, H0, L, g, Γ, fr, po⟩ := q
  exact po.pure fr.rel [] .nil
theorem das_cons {e : Expr} {es : List Expr} {f : List Sl → Mo PD} {r : List Sl → Mo (List Sl)} (he : DE c e f) (hr : DAs c es r) (hs : starEach (e :: es) c.X.env = (false, eval e c.X.env) :: starEach es c.X.env := by rfl) : DAs c (e :: es) (sCons f r) :=
  PA.imp (pa_cons he hr hs) fun σ H Q q => by
    obtain ⟨L0, H0, L, g, Γ, fr, po⟩ := q
    have po := Post.bind po
    refine ⟨L0, H0, L, g, Γ, fr, po.mono fun d g1 L1 H1 st1 rel1 po1 v hv => ?_⟩
    have po1 := Post.bind po1
    refine ⟨L0, H0, L1, g1, Γ, fr.step st1 rel1, po1.mono fun ds g2 L2 H2 st2 rel2 po2 vs hvs => ?_⟩
    exact po2.pure rel2 (v :: vs) (.cons (Dq.mono st2.ss hv) hvs)
theorem das_obj (i : Nat) {x : Str} {pos : Pos} {es : List Expr} {r : List Sl → Mo (List Sl)} (hr : DAs c es r) (hN : c.X.N[i]? = some x := by rfl) (hv : Vis c.X.env.scope x := by first | exact Or.inl rfl | exact Or.inr (Or.inl rfl) | exact Or.inr (Or.inr rfl))
    (hd : (x == ("__debug__" : Str)) = false := by decide) (hcd : (x == ("__classdict__" : Str)) = false := by decide) (hs : starEach (.Name x pos :: es) c.X.env = (false, eval (.Name x pos) c.X.env) :: starEach es c.X.env := by rfl) :
    DAs c (.Name x pos :: es) (sObj i r) :=
  PA.imp (pa_cons (pe_var hN hv hd hcd) hr hs) fun σ H Q q => by
    obtain ⟨L0, H0, L, g, Γ, fr, po⟩ := q
    obtain ⟨k, hi, po⟩ := Post.lift (Post.bind po) fr.rel
    have hi := getO_some hi
    have po := po L H (Stp.refl fr.rel) fr.rel
    have hlt : i < σ.length := by rw [← fr.len]; exact (List.getElem?_eq_some_iff.mp hi).1
    obtain ⟨a, e, h⟩ := fr.sl i _ _ hi (List.getElem?_eq_getElem hlt)
    refine ⟨.ref a, by rw [List.getElem?_eq_getElem hlt, e], ?_⟩
    have po := Post.bind po
    refine ⟨L0, H0, L, g, Γ, fr, po.mono fun ds g2 L2 H2 st2 rel2 po2 vs hvs => ?_⟩
    exact po2.pure rel2 (.ref a :: vs) (.cons ⟨a, rfl, prefix_get st2.oa h⟩ hvs)
def small (n : Nat) : Bool := Nat.ble n 100000
theorem small_le {n : Nat} (h : small n = true) : n ≤ sizeLine := by
  have := Nat.le_of_ble_eq_true h
  rw [sizeLine_eq]
  omega
theorem small_lt {n : Nat} (h : small n = true) : n < sizeLine := by
  have := Nat.le_of_ble_eq_true h
  rw [sizeLine_eq]
  omega
def eTup (f : List Sl → Mo (List PD)) : List Sl → Mo PD := fun Γ => bnd (f Γ) fun ds => lift (if small ds.length = true then some (.tuple ds) else none)
def eLst (f : List Sl → Mo (List PD)) : List Sl → Mo PD := fun Γ => bnd (f Γ) fun ds => lift (if small ds.length = true then some (.list ds) else none)
theorem if_some {α : Type} {b : Bool} {x y : α} (h : (if b = true then some x else none) = some y) : b = true ∧ x = y := by
  cases b with
  | true => exact ⟨rfl, Option.some.inj h⟩
  | false => cases h
theorem de_tup {es : List Expr} {k : Nat} {pos : Pos} {f : List Sl → Mo (List PD)} (h : DA c es f) : DE c (.Tuple es k pos) (eTup f) :=
  PE.imp (pe_tup h) fun σ H Q q => by
    obtain ⟨L0, H0, L, g, Γ, fr, po⟩ := q
    have po := Post.bind po
    refine ⟨L0, H0, L, g, Γ, fr, po.mono fun ds g1 L1 H1 st1 rel1 po1 vs hvs => ?_⟩
    obtain ⟨z, hz, po1⟩ := po1.lift rel1
    obtain ⟨hs, rfl⟩ := if_some hz
    refine ⟨by rw [hvs.len]; exact small_le hs, fun q hq => ?_⟩
    exact po1 _ _ (Stp.new rel1 hq) (rel1.new hq) _ (.tup upd_same (hvs.mono (same_new (rel1.sq hq))))
theorem de_lst {es : List Expr} {pos : Pos} {f : List Sl → Mo (List PD)} (h : DA c es f) : DE c (.List es pos) (eLst f) :=
  PE.imp (pe_lst h) fun σ H Q q => by
    obtain ⟨L0, H0, L, g, Γ, fr, po⟩ := q
    have po := Post.bind po
    refine ⟨L0, H0, L, g, Γ, fr, po.mono fun ds g1 L1 H1 st1 rel1 po1 vs hvs => ?_⟩
    obtain ⟨z, hz, po1⟩ := po1.lift rel1
    obtain ⟨hs, rfl⟩ := if_some hz
    refine ⟨by rw [hvs.len]; exact small_le hs, fun q hq => ?_⟩
    exact po1 _ _ (Stp.new rel1 hq) (rel1.new hq) _ (.lst upd_same (hvs.mono (same_new (rel1.sq hq))))
/-! ### calls of built-ins by data -/
def CallS (c : Ct) (r : List V → Hp → VK → Prop) (h : List PD → Option PD) : Prop := ∀ (L : Lay) (g : G) (H : Hp) (vs : List V) (ds : List PD) (z : PD) (Q : VK), Rel c.p L g H → DqA L.S vs ds → h ds = some z →
  (∀ v L' H', Stp L H L' H' → Rel c.p L' g H' → Dq L'.S v z → Q v H') → r vs H Q
def eCall (h : List PD → Option PD) (f : List Sl → Mo (List PD)) : List Sl → Mo PD := fun Γ => bnd (f Γ) fun ds => lift (h ds)
theorem callB_of {r : List V → Hp → VK → Prop} {h : List PD → Option PD} {f : List Sl → Mo (List PD)} (hs : CallS c r h) {σ : St} {H : Hp} {Q : VK} (q : tE c.p c.W (eCall h f) σ H Q) : tCB r (tA c.p c.W f) σ H Q := by
  obtain ⟨L0, H0, L, g, Γ, fr, po⟩ := q
  have po := Post.bind po
  refine ⟨L0, H0, L, g, Γ, fr, po.mono fun ds g1 L1 H1 st1 rel1 po1 vs hvs => ?_⟩
  obtain ⟨z, hz, po1⟩ := po1.lift rel1
  exact hs L1 g1 H1 vs ds z Q rel1 hvs hz fun v' L' H' st' rel' hd => po1 L' H' st' rel' v' hd
theorem de_callB {id : String} {x : Str} {r : List V → Hp → VK → Prop} {h : List PD → Option PD} {f : List Sl → Mo (List PD)} {e : Expr} {es : List Expr} {p pos : Pos} (hc : CallR c.X (.builtin id) r) (hs : CallS c r h) (hm : c.X.mg x = none) (hv : bootBuiltins x = some (.builtin id)) (ha : DA c (e :: es) f)
    (hg : Gl c.X x := by rfl) (hn : x ≠ "__name__" := by decide) (hdb : (x == ("__debug__" : Str)) = false := by decide)
    (he : starEach (e :: es) c.X.env = (false, eval e c.X.env) :: starEach es c.X.env := by rfl) (hpl : (backTo pos (starEach es c.X.env)).any (·.1) = false := by rfl) : DE c (.Call (.Name x p) (e :: es) [] pos) (eCall h f) :=
  PE.imp (pe_callB hc hg hm hv ha hn hdb he hpl) fun _ _ _ q => callB_of hs q
theorem de_callTy {T : String} {x : Str} {r : List V → Hp → VK → Prop} {h : List PD → Option PD} {f : List Sl → Mo (List PD)} {e : Expr} {es : List Expr} {p pos : Pos} (hc : CallR c.X (.type T) r) (hs : CallS c r h) (hm : c.X.mg x = none) (hv : bootBuiltins x = some (.type T)) (ha : DA c (e :: es) f)
    (hg : Gl c.X x := by rfl) (hn : x ≠ "__name__" := by decide) (hdb : (x == ("__debug__" : Str)) = false := by decide)
    (he : starEach (e :: es) c.X.env = (false, eval e c.X.env) :: starEach es c.X.env := by rfl) (hpl : (backTo pos (starEach es c.X.env)).any (·.1) = false := by rfl) : DE c (.Call (.Name x p) (e :: es) [] pos) (eCall h f) :=
  PE.imp (pe_callTy hc hg hm hv ha hn hdb he hpl) fun _ _ _ q => callB_of hs q
end
end Av

namespace Av
open PySem PySem.Spec L2
open PyProof.Rows hiding St
set_option autoImplicit false
/-! ### statements -/
section
variable {c : Ct} {k : Nat}
def sNext : List Sl → Mo Fl := fun Γ => ret (.next Γ)
def sSeq (f1 f2 : List Sl → Mo Fl) : List Sl → Mo Fl := fun Γ => bnd (f1 Γ) fun r => match r with
  | .next Γ' => f2 Γ'
  | .ret d => ret (.ret d)
theorem PostS.pure {p : Pm} {W : WX} {L0 L : Lay} {H0 H : Hp} {g : G} {Γ : List Sl} {σ : St} {D : Ends} (h : PostS p W L0 H0 L D (ret (.next Γ) g)) (fr : FR p L0 H0 L g Γ σ H) : D.nx σ H := h L σ H fr (Same.refl _)
theorem PostS.seq {p : Pm} {W : WX} {L0 L : Lay} {H0 : Hp} {D : Ends} {r : Res Fl} {f2 : List Sl → Mo Fl} {N : St → Hp → Prop} (h : PostS p W L0 H0 L D (r.bind fun x => match x with
  | .next Γ' => f2 Γ'
  | .ret d => ret (.ret d))) (hN : ∀ L' g' Γ' σ' H', FR p L0 H0 L' g' Γ' σ' H' → Same L.S L'.S → PostS p W L0 H0 L' D (f2 Γ' g') → N σ' H') {b ct : St → Hp → Prop} : PostS p W L0 H0 L { D with nx := N, bk := b, ct := ct } r := by
  cases r with
  | ok a g' =>
    cases a with
    | next Γ' => exact fun L' σ' H' fr ss => hN L' g' Γ' σ' H' fr ss (PostS.up ss h)
    | ret d => exact h
  | exc c g' => exact h
  | bad => exact h
theorem dss_nil : DSs c [] sNext := PSs.imp pss_nil fun D σ H q => by
  obtain ⟨L0, H0, L, g, Γ, fr, po⟩ := q
  exact PostS.pure po fr
theorem dss_cons {st : Stmt} {rest : List Stmt} {f1 f2 : List Sl → Mo Fl} (h1 : DS c st f1) (h2 : DSs c rest f2) : DSs c (st :: rest) (sSeq f1 f2) :=
  PSs.imp (pss_cons h1 h2) fun D σ H q => by
    obtain ⟨L0, H0, L, g, Γ, fr, po⟩ := q
    exact ⟨L0, H0, L, g, Γ, fr, PostS.seq (b := D.bk) (ct := D.ct) po fun L' g' Γ' σ' H' fr' _ po' => ⟨L0, H0, L', g', Γ', fr', po'⟩⟩
theorem dss_one {st : Stmt} {f1 : List Sl → Mo Fl} (h1 : DS c st f1) : DSs c [st] f1 := pss_one h1
def sRet (f : List Sl → Mo PD) : List Sl → Mo Fl := fun Γ => bnd (f Γ) fun d => ret (.ret d)
theorem ds_ret {e : Expr} {f : List Sl → Mo PD} {pos : Pos} (h : DE c e f) : DS c (.Return (some e) pos) (sRet f) :=
  PS.imp (ps_ret h) fun D σ H q => by
    obtain ⟨L0, H0, L, g, Γ, fr, po⟩ := q
    have po := PostS.bind fr po
    exact ⟨L0, H0, L, g, Γ, fr, po.mono fun d g1 L1 H1 st1 rel1 po1 v hv => po1 v L1 H1 (fr.st.trans st1) rel1 hv⟩
def sDrop (f : List Sl → Mo PD) : List Sl → Mo Fl := fun Γ => bnd (f Γ) fun _ => ret (.next Γ)
theorem ds_expr {e : Expr} {f : List Sl → Mo PD} {pos : Pos} (h : DE c e f) (hs : swapsWith e none pos.line c.X.env = pure false := by rfl) : DS c (.Expr e pos) (sDrop f) :=
  PS.imp (ps_expr h hs) fun D σ H q => by
    obtain ⟨L0, H0, L, g, Γ, fr, po⟩ := q
    have po := PostS.bind fr po
    exact ⟨L0, H0, L, g, Γ, fr, po.mono fun d g1 L1 H1 st1 rel1 po1 v hv => PostS.pure po1 (fr.step st1 rel1)⟩
def sIf (t : List Sl → Mo Bool) (f1 f2 : List Sl → Mo Fl) : List Sl → Mo Fl := fun Γ => bnd (t Γ) fun b => if b = true then f1 Γ else f2 Γ
theorem ds_if {t : Expr} {a b : List Stmt} {ft : List Sl → Mo Bool} {f1 f2 : List Sl → Mo Fl} {pos : Pos} (ht : DT c t ft) (ha : DSs c a f1) (hb : DSs c b f2) : DS c (.If t a b pos) (sIf ft f1 f2) :=
  PS.imp (ps_if ht ha hb) fun D σ H q => by
    obtain ⟨L0, H0, L, g, Γ, fr, po⟩ := q
    have po := PostS.bind fr po
    refine ⟨L0, H0, L, g, Γ, fr, po.mono fun b g1 L1 H1 st1 rel1 po1 => ?_⟩
    cases b with
    | true => exact ⟨L0, H0, L1, g1, Γ, fr.step st1 rel1, po1⟩
    | false => exact ⟨L0, H0, L1, g1, Γ, fr.step st1 rel1, po1⟩
def sAsg (i : Nat) (f : List Sl → Mo PD) : List Sl → Mo Fl := fun Γ => bnd (f Γ) fun d => ret (.next (Γ.set i (.val d)))
theorem ds_asg (i : Nat) {x : Str} {e : Expr} {f : List Sl → Mo PD} {pos pos' : Pos} (ok : c.Ok k) (h : DE c e f) (hi : c.X.N[i]? = some x := by rfl) (hx : Loc c.X.env.scope x := by first | exact Or.inl rfl | exact Or.inr rfl) (hs : swapsWith e (some (.Name x pos')) pos.line c.X.env = pure false := by rfl)
    (hf : c.X.fn x = true ∨ c.X.env.scope.names.lookup x = some .local := by first | exact .inl rfl | exact .inr rfl) : DS c (.Assign [.Name x pos'] e pos) (sAsg i f) :=
  PS.imp (ps_set ok.nd hi hx h hs hf) fun D σ H q => by
    obtain ⟨L0, H0, L, g, Γ, fr, po⟩ := q
    have po := PostS.bind fr po
    exact ⟨L0, H0, L, g, Γ, fr, po.mono fun d g1 L1 H1 st1 rel1 po1 v hv => PostS.pure po1 ((fr.step st1 rel1).set i hv)⟩
/-- x op= e, ints -/
def sAug (i : Nat) (h : PD → PD → Option PD) (f : List Sl → Mo PD) : List Sl → Mo Fl := fun Γ => bnd (eVar i Γ) fun d => bnd (f Γ) fun e => bnd (lift (h d e)) fun z => ret (.next (Γ.set i (.val z)))
def ipS (ti : TIp) (h : PD → PD → Option PD) : Prop := ∀ (S : Hp) (x y : V) (d e z : PD) (H : Hp) (Q : VK), Dq S x d → Dq S y e → h d e = some z → (∀ v, (∀ S', Dq S' v z) → Q v H) → ti x y H Q
theorem ds_aug (i : Nat) {x : Str} {e : Expr} {f : List Sl → Mo PD} {op : Operator} {ti : TIp} {h : PD → PD → Option PD} {pos pos' : Pos} (ok : c.Ok k) (he : DE c e f) (ho : PIp c.X op ti) (hh : ipS ti h) (hi : c.X.N[i]? = some x := by rfl) (hx : Loc c.X.env.scope x := by first | exact Or.inl rfl | exact Or.inr rfl)
    (hf : c.X.fn x = true ∨ c.X.env.scope.names.lookup x = some .local := by first | exact .inl rfl | exact .inr rfl) : DS c (.AugAssign (.Name x pos') op e pos) (sAug i h f) :=
  PS.imp (ps_aug ok.nd hi hx he ho hf) fun D σ H q => by
    obtain ⟨L0, H0, L, g, Γ, fr, po⟩ := q
    obtain ⟨d, hd, po⟩ := Post.lift (PostS.bind fr po) fr.rel
    have hd := getV_some hd
    have po := po L H (Stp.refl fr.rel) fr.rel
    have hlt : i < σ.length := by rw [← fr.len]; exact (List.getElem?_eq_some_iff.mp hd).1
    obtain ⟨v, e, hv⟩ := fr.sl i _ _ hd (List.getElem?_eq_getElem hlt)
    refine ⟨v, by rw [List.getElem?_eq_getElem hlt, e], ?_⟩
    have po := PostS.bind fr po
    refine ⟨L0, H0, L, g, Γ, fr, po.mono fun e g1 L1 H1 st1 rel1 po1 u hu => ?_⟩
    have fr1 := fr.step st1 rel1
    obtain ⟨z, hz, po1⟩ := Post.lift (PostS.bind fr1 po1) rel1
    have po1 := po1 L1 H1 (Stp.refl rel1) rel1
    exact hh L1.S v u d e z H1 _ (hv.mono st1.ss) hu hz fun w hw => PostS.pure po1 (fr1.set i (hw _))
/-! ### raise -/
def sRaise (i : Nat) : List Sl → Mo Fl := fun _ g => .exc i g
structure ExC (K : PySem.W.Frag) (mg : Str → Option Value) (x : Str) (C : Addr) : Prop where
  ex : PySem.W.excIn K C [.type "ValueError", .type "Exception", .type "BaseException", .type "object"] "ValueError.__new__" = true
  mg : mg x = some (.ref C)
  kp : PySem.W.keepIn K (.ref C) = true
  sb : PySem.W.subIn K (.ref C) (.type "BaseException") = some true
  ty : PySem.W.typeIn K (.ref C) = some (.type "type")
theorem ds_raise (i : Nat) {x m : Str} {j : Nat} {p p2 pos pos2 : Pos} (ok : c.Ok k) (E : ExC c.X.K c.X.mg x (c.p.cls i)) (hg : Gl c.X x := by rfl) (hdb : (x == ("__debug__" : Str)) = false := by decide) :
    DS c (.Raise (some (.Call (.Name x p) [.Constant (.str m) j p2] [] pos)) none pos2) (sRaise i) :=
  PS.imp (ps_raise ok.cm ok.tk (pmk_own PySem.F.excBase_ValueError E.ex E.mg E.kp (raises_own E.sb E.ty) hg hdb)) fun D σ H q => by
    obtain ⟨L0, H0, L, g, Γ, fr, po⟩ := q
    exact po L σ H fr.st fr.rel
/-! ### walks -/
structure WalkD (p : Pm) (S : Hp) (J : It) (ds : List PD) : Prop where
  go : ∀ (i : Nat) L g H, i < ds.length → Same S L.S → Rel p L g H → J.go i H
  stop : ∀ L g H, Same S L.S → Rel p L g H → J.stop ds.length H
  yld : ∀ (i : Nat) d L g H x H', ds[i]? = some d → Same S L.S → Rel p L g H → J.yld i H x H' → ∃ L', Stp L H L' H' ∧ Rel p L' g H' ∧ Dq L'.S x d
def tI (p : Pm) (W : WX) (f : List Sl → Mo (List PD)) : TI := fun σ H R => ∃ L0 H0 L g Γ, FR p L0 H0 L g Γ σ H ∧ Post p W σ L H (fun ds _ L' H' => ∀ J, WalkD p L'.S J ds → R J H') (f Γ g)
def DI (c : Ct) (tg iter : Expr) (f : List Sl → Mo (List PD)) : Prop := PI c.X tg iter (tI c.p c.W f)
theorem PI.imp {X : Cx} {tg e : Expr} {t t' : TI} (h : PI X tg e t) (k : ∀ σ H Q, t' σ H Q → t σ H Q) : PI X tg e t' := ⟨fun pins s σ H Q I q => h.run pins s σ H Q I (k σ H Q q)⟩
inductive Tg where
  | one (i : Nat)
  | two (i j : Nat)
def Tg.set : Tg → PD → List Sl → Option (List Sl)
  | .one i, d, Γ => some (Γ.set i (.val d))
  | .two i j, .tuple [x, y], Γ => some ((Γ.set i (.val x)).set j (.val y))
  | .two _ _, _, _ => none
def Tg.slots : Tg → List Nat
  | .one i => [i]
  | .two i j => [i, j]
def tgR (K : PySem.W.Frag) : Tg → TG
  | .one i => gName i
  | .two i j => gTup K 2 (gCons (gName i) (gCons (gName j) gNil))
def DG (c : Ct) (tg : Expr) (t : Tg) : Prop := PG c.X tg (tgR c.X.K t)
def Tg.put : Tg → List V → St → St
  | .one i, v :: _, σ => σ.set i (some v)
  | .two i j, v :: w :: _, σ => (σ.set i (some v)).set j (some w)
  | _, _, σ => σ
theorem Tg.run {K : PySem.W.Frag} {t : Tg} {p : Pm} {L0 L : Lay} {H0 H : Hp} {g : G} {Γ Γ' : List Sl} {σ : St} {v : V} {d : PD} {Q : St → Hp → Prop} (fr : FR p L0 H0 L g Γ σ H) (hv : Dq L.S v d) (ht : t.set d Γ = some Γ')
    (h : ∀ vs, vs.length = t.slots.length → FR p L0 H0 L g Γ' (t.put vs σ) H → Q (t.put vs σ) H) : tgR K t v σ H Q := by
  cases t with
  | one i =>
    cases ht
    exact h [v] rfl (fr.set i hv)
  | two i j =>
    cases d with
    | tuple ds =>
      match ds, ht with
      | [x, y], ht =>
        cases ht
        cases hv with
        | tup hS hA =>
          cases hA with
          | cons hx hA =>
            cases hA with
            | cons hy hA =>
              cases hA
              refine ⟨_, _, rfl, SqT.of (fr.rel.s _ _ hS), rfl, _, _, rfl, _, _, rfl, rfl, ?_⟩
              exact h [_, _] rfl ((fr.set i hx).set j hy)
    | none => cases ht
    | bool _ => cases ht
    | int _ => cases ht
    | str _ => cases ht
    | list _ => cases ht
    | dict _ => cases ht
theorem dg_one (i : Nat) {x : Str} {pos : Pos} (nd : c.X.N.Nodup) (hi : c.X.N[i]? = some x := by rfl) (hx : Loc c.X.env.scope x := by first | exact Or.inl rfl | exact Or.inr rfl) (hf : c.X.fn x = true ∨ c.X.env.scope.names.lookup x = some .local := by first | exact .inl rfl | exact .inr rfl) : DG c (.Name x pos) (.one i) :=
  pg_name nd hi hx hf
theorem dg_two (i j : Nat) {x y : Str} {px py pos : Pos} {kk : Nat} (nd : c.X.N.Nodup) (cm : c.X.calm = true) (hi : c.X.N[i]? = some x := by rfl) (hx : Loc c.X.env.scope x := by first | exact Or.inl rfl | exact Or.inr rfl) (hf : c.X.fn x = true ∨ c.X.env.scope.names.lookup x = some .local := by first | exact .inl rfl | exact .inr rfl)
    (hj : c.X.N[j]? = some y := by rfl) (hy : Loc c.X.env.scope y := by first | exact Or.inl rfl | exact Or.inr rfl) (hfy : c.X.fn y = true ∨ c.X.env.scope.names.lookup y = some .local := by first | exact .inl rfl | exact .inr rfl) : DG c (.Tuple [.Name x px, .Name y py] kk pos) (.two i j) :=
  pg_tup cm (pgs_cons (pg_name nd hi hx hf) (pgs_cons (pg_name nd hj hy hfy) pgs_nil))
def forL (t : Tg) (fb : List Sl → Mo Fl) : List PD → List Sl → Mo Fl
  | [], Γ => ret (.next Γ)
  | d :: ds, Γ => bnd (lift (t.set d Γ)) fun Γ1 => bnd (fb Γ1) fun r => match r with
    | .next Γ2 => forL t fb ds Γ2
    | .ret d => ret (.ret d)
def sFor (fi : List Sl → Mo (List PD)) (t : Tg) (fb : List Sl → Mo Fl) : List Sl → Mo Fl := fun Γ => bnd (fi Γ) fun ds => forL t fb ds Γ
theorem ds_for {tg iter : Expr} {body : List Stmt} {fi : List Sl → Mo (List PD)} {t : Tg} {fb : List Sl → Mo Fl} {pos : Pos} (ok : c.Ok k) (hi : DI c tg iter fi) (hg : DG c tg t) (hb : DSs c body fb) (hs : ∀ x, foldedSetIterable iter c.X.env x = pure x := by intro _; rfl) : DS c (.For tg iter body [] pos) (sFor fi t fb) :=
  PS.imp (ps_for ok.po ok.cm hi hg hb hs) fun D σ H q => by
    obtain ⟨L0, H0, L, g, Γ, fr, po⟩ := q
    have po := PostS.bind fr po
    refine ⟨L0, H0, L, g, Γ, fr, po.mono fun ds g1 L1 H1 st1 rel1 po1 J wd => ?_⟩
    have fr1 := fr.step st1 rel1
    refine ⟨fun i m σ' H' => m = ds.length - i ∧ i ≤ ds.length ∧ ∃ L' g' Γ', FR c.p L0 H0 L' g' Γ' σ' H' ∧ Same L1.S L'.S ∧ PostS c.p c.W L0 H0 L' D (forL t fb (ds.drop i) Γ' g'), ⟨_, rfl, Nat.zero_le _, L1, g1, Γ, fr1, Same.refl _, po1⟩, ?_⟩
    rintro i m σ' H' ⟨rfl, hi, L', g', Γ', fr', ss', po'⟩
    by_cases hlt : i < ds.length
    · refine .inr ⟨wd.go i L' g' H' hlt ss' fr'.rel, fun σ2 H2 => ∃ L2 g2 Γ2, FR c.p L0 H0 L2 g2 Γ2 σ2 H2 ∧ Same L1.S L2.S ∧ PostS c.p c.W L0 H0 L2 D (forL t fb (ds.drop (i + 1)) Γ2 g2), fun σ2 H2 h2 => ⟨ds.length - (i + 1), by omega, rfl, hlt, h2⟩, fun x H2 hy => ?_⟩
      have hd : ds[i]? = some ds[i] := List.getElem?_eq_getElem hlt
      obtain ⟨L2, st2, rel2, hx⟩ := wd.yld i ds[i] L' g' H' x H2 hd ss' fr'.rel hy
      have fr2 := fr'.step st2 rel2
      rw [List.drop_eq_getElem_cons hlt] at po'
      have po2 := PostS.up st2.ss po'
      obtain ⟨Γ1, hΓ, po2⟩ := Post.lift (PostS.bind fr2 po2) rel2
      have po2 := po2 L2 H2 (Stp.refl rel2) rel2
      refine Tg.run fr2 hx hΓ fun vs _ fr3 => ⟨L0, H0, L2, g', Γ1, fr3, PostS.seq (f2 := forL t fb (ds.drop (i + 1))) po2 fun L4 g4 Γ4 σ4 H4 fr4 ss4 po4 => ⟨L4, g4, Γ4, fr4, (ss'.trans st2.ss).trans ss4, po4⟩⟩
    · have e : i = ds.length := by omega
      subst e
      refine .inl ⟨wd.stop L' g' H' ss' fr'.rel, ?_⟩
      rw [List.drop_length] at po'
      exact PostS.pure po' fr'
/-! ### while -/
def sWhile (ft : List Sl → Mo Bool) (fb : List Sl → Mo Fl) : Nat → List Sl → Mo Fl
  | 0, _ => fail
  | n + 1, Γ => bnd (ft Γ) fun b => if b = true then bnd (fb Γ) fun r => match r with
      | .next Γ2 => sWhile ft fb n Γ2
      | .ret d => ret (.ret d)
    else ret (.next Γ)
theorem ds_while (n : Nat) {t : Expr} {body : List Stmt} {ft : List Sl → Mo Bool} {fb : List Sl → Mo Fl} {pos : Pos} (ok : c.Ok k) (ht : DT c t ft) (hb : DSs c body fb) : DS c (.While t body [] pos) (sWhile ft fb n) :=
  PS.imp (ps_while ok.po ht hb) fun D σ H q => by
    obtain ⟨L0, H0, L, g, Γ, fr, po⟩ := q
    refine ⟨fun m σ' H' => ∃ L' g' Γ', FR c.p L0 H0 L' g' Γ' σ' H' ∧ PostS c.p c.W L0 H0 L' D (sWhile ft fb m Γ' g'), ⟨n, L, g, Γ, fr, po⟩, ?_⟩
    rintro m σ' H' ⟨L', g', Γ', fr', po'⟩
    cases m with
    | zero => exact po'.elim
    | succ m =>
      have po' := PostS.bind fr' po'
      refine ⟨L0, H0, L', g', Γ', fr', po'.mono fun b g1 L1 H1 st1 rel1 po1 => ?_⟩
      have fr1 := fr'.step st1 rel1
      cases b with
      | true =>
        refine ⟨fun σ2 H2 => ∃ L2 g2 Γ2, FR c.p L0 H0 L2 g2 Γ2 σ2 H2 ∧ PostS c.p c.W L0 H0 L2 D (sWhile ft fb m Γ2 g2), fun σ2 H2 h2 => ⟨m, Nat.lt_succ_self m, h2⟩, ?_⟩
        exact ⟨L0, H0, L1, g1, Γ', fr1, PostS.seq (f2 := sWhile ft fb m) po1 fun L4 g4 Γ4 σ4 H4 fr4 ss4 po4 => ⟨L4, g4, Γ4, fr4, po4⟩⟩
      | false => exact PostS.pure po1 fr1
/-! ### a comprehension -/
def nx {α : Type} (x : Mo α) : Mo α := fun g => match x g with
  | .ok a g' => .ok a g'
  | _ => .bad
def lcL (t : Tg) (ft : List Sl → Mo Bool) (fe : List Sl → Mo PD) (Γ : List Sl) : List PD → Mo (List PD)
  | [] => ret []
  | d :: ds => bnd (lift (t.set d Γ)) fun Γ1 => bnd (nx (ft Γ1)) fun b => if b = true then bnd (nx (fe Γ1)) fun x => bnd (lcL t ft fe Γ ds) fun r => ret (x :: r) else lcL t ft fe Γ ds
def wipeG (Γ : List Sl) : List Nat → List Sl
  | [] => Γ
  | v :: vs => (wipeG Γ vs).set v .dead
def eLc (fi : List Sl → Mo (List PD)) (t : Tg) (ft : List Sl → Mo Bool) (fe : List Sl → Mo PD) : List Sl → Mo PD := fun Γ => bnd (fi Γ) fun ds => bnd (lift (if small ds.length = true then some () else none)) fun _ =>
  bnd (lcL t ft fe (wipeG Γ t.slots) ds) fun r => ret (.list r)
def tYesM : List Sl → Mo Bool := fun _ => ret true
def DTs (c : Ct) (ifs : List Expr) (f : List Sl → Mo Bool) : Prop := PTs c.X ifs (tT c.p c.W f)
theorem PTs.imp {X : Cx} {e : List Expr} {t t' : TT} (h : PTs X e t) (k : ∀ σ H Q, t' σ H Q → t σ H Q) : PTs X e t' := ⟨fun pins s σ H Q I q => h.run pins s σ H Q I (k σ H Q q)⟩
theorem dts_nil : DTs c [] tYesM := PTs.imp pts_nil fun σ H Q q => by
  obtain ⟨L0, H0, L, g, Γ, fr, po⟩ := q
  exact po.pure fr.rel
theorem dts_one {e : Expr} {f : List Sl → Mo Bool} (h : DT c e f) : DTs c [e] f := pts_one h
theorem FR.wipe {p : Pm} {L0 L : Lay} {H0 H : Hp} {g : G} {Γ : List Sl} {σ : St} (fr : FR p L0 H0 L g Γ σ H) : ∀ vs : List Nat, FR p L0 H0 L g (wipeG Γ vs) (wipe σ vs) H
  | [] => fr
  | v :: vs => (FR.wipe fr vs).kill v
theorem wipe_set_self (σ : St) (j : Nat) (o : Option V) : ∀ vs : List Nat, j ∈ vs → wipe (σ.set j o) vs = wipe σ vs
  | v :: vs, h => by
    show (wipe (σ.set j o) vs).set v none = (wipe σ vs).set v none
    by_cases e : j = v
    · subst e
      by_cases hm : j ∈ vs
      · rw [wipe_set_self σ j o vs hm]
      · have aux : ∀ vs : List Nat, j ∉ vs → wipe (σ.set j o) vs = (wipe σ vs).set j o := by
          intro vs
          induction vs with
          | nil => intro _; rfl
          | cons u us ih =>
            intro hn
            show (wipe (σ.set j o) us).set u none = ((wipe σ us).set u none).set j o
            rw [ih (fun z => hn (List.mem_cons_of_mem _ z)), List.set_comm _ _ (fun z => hn (by rw [z]; exact List.mem_cons_self))]
        rw [aux vs hm, List.set_set]
    · have hm : j ∈ vs := by
        rcases List.mem_cons.mp h with z | z
        · exact absurd z e
        · exact z
      rw [wipe_set_self σ j o vs hm]
theorem wipe_idem (σ : St) (vs : List Nat) : ∀ us : List Nat, (∀ u ∈ us, u ∈ vs) → wipe (wipe σ us) vs = wipe σ vs
  | [], _ => rfl
  | u :: us, h => by
    show wipe ((wipe σ us).set u none) vs = wipe σ vs
    rw [wipe_set_self _ u none vs (h u List.mem_cons_self)]
    exact wipe_idem σ vs us fun x hx => h x (List.mem_cons_of_mem _ hx)
theorem wipe_put (t : Tg) (vs : List V) (σ : St) : wipe (t.put vs (wipe σ t.slots)) t.slots = wipe σ t.slots := by
  cases t with
  | one i =>
    cases vs with
    | nil => exact wipe_idem σ [i] [i] fun u h => h
    | cons v vs =>
      show wipe ((wipe σ [i]).set i (some v)) [i] = wipe σ [i]
      rw [wipe_set_self _ i _ [i] List.mem_cons_self]
      exact wipe_idem σ [i] [i] fun u h => h
  | two i j =>
    have idem := wipe_idem σ [i, j] [i, j] fun u h => h
    match vs with
    | [] => exact idem
    | [v] => exact idem
    | v :: w :: _ =>
      show wipe (((wipe σ [i, j]).set i (some v)).set j (some w)) [i, j] = wipe σ [i, j]
      rw [wipe_set_self _ j _ [i, j] (List.mem_cons_of_mem _ List.mem_cons_self), wipe_set_self _ i _ [i, j] List.mem_cons_self]
      exact idem
def W0 : WX := fun _ _ _ _ => False
theorem Post.nx {p : Pm} {W : WX} {σ σ' : St} {L : Lay} {H : Hp} {α : Type} {ok : α → G → Lay → Hp → Prop} {x : Mo α} {g : G} (h : Post p W σ L H ok (nx x g)) : Post p W0 σ' L H ok (x g) := by
  unfold Av.nx at h
  cases e : x g with
  | ok a g' => rw [e] at h; exact h
  | exc c g' => rw [e] at h; exact h.elim
  | bad => rw [e] at h; exact h.elim
/-- the context of a comprehension's block -/
abbrev Ct.blk (c : Ct) (s : Shared) (H : Hp) (scope : Scope) (C : Addr) (cl : List (Str × Addr)) (fp : List Addr) : Ct := ⟨c.X.blk s H scope (compEnvC scope cl C c.X.env) fp, c.p, W0⟩
theorem Rel.at {p : Pm} {L : Lay} {g : G} {H : Hp} {D : Addr} {o : HO} (rel : Rel p L g H) (h1 : L.S D = none) (h2 : L.M D = none) : Rel p L g (upd H D o) :=
  ⟨fun a u e => by rw [upd_ne (ne_of_none e h1)]; exact rel.s a u e, fun a u e => by rw [upd_ne (ne_of_none e h2)]; exact rel.m a u e, rel.sm, rel.gi⟩
theorem Stp.at {L L' : Lay} {H H' : Hp} {D : Addr} {o : HO} (st : Stp L H L' H') (hD : H D = none) : Stp L H L' (upd H' D o) :=
  ⟨st.ss, st.oa, fun b u hm e => by rw [upd_ne (ne_of_none e hD)]; exact st.keep b u hm e, st.sfr, st.mfr, fun b hm => by
    by_cases e : b = D
    · subst e; rw [upd_same]; exact fun z => nomatch z
    · rw [upd_ne e]; exact st.mm b hm⟩
/-- what stands apart stays apart -/
theorem Stp.apart {L L' : Lay} {H H' : Hp} {D : Addr} {o : HO} (st : Stp L H L' H') (hD : H D = some o) (h1 : L.S D = none) (h2 : L.M D = none) : H' D = some o ∧ L'.S D = none ∧ L'.M D = none := by
  refine ⟨st.keep D o h2 hD, opt_none fun q => ?_, opt_none fun q => ?_⟩
  · rcases st.sfr D q with z | z
    · exact z h1
    · rw [hD] at z; cases z
  · rcases st.mfr D q with z | z
    · exact z h2
    · rw [hD] at z; cases z
theorem Post.bind0 {p : Pm} {W : WX} {L L2 : Lay} {H H2 : Hp} {σ : St} {α β : Type} {ok : β → G → Lay → Hp → Prop} {x : Res α} {k : α → Mo β} (st : Stp L H L2 H2) (h : Post p W σ L H ok (x.bind k)) : Post p W σ L2 H2 (fun a g1 _ _ => Post p W σ L H ok (k a g1)) x := by
  cases x with
  | ok a g1 => exact fun _ _ _ _ => h
  | exc c g' => exact fun L' H' s r => h L' H' (st.trans s) r
  | bad => exact h
/-- an own list comes to stay -/
theorem Rel.fix {p : Pm} {L : Lay} {g : G} {H : Hp} {D : Addr} {o : HO} (rel : Rel p L g H) (hD : H D = some o) (h1 : L.S D = none) (h2 : L.M D = none) : Rel p { L with S := upd L.S D o } g H where
  s := fun a u e => by
    have e' : upd L.S D o a = some u := e
    by_cases h : a = D
    · subst h; rw [upd_same] at e'; rw [hD]; exact e'
    · rw [upd_ne h] at e'; exact rel.s a u e'
  m := rel.m
  sm := fun a h => by
    have h' : upd L.S D o a ≠ none := h
    by_cases z : a = D
    · subst z; exact h2
    · rw [upd_ne z] at h'; exact rel.sm a h'
  gi := rel.gi.up (same_new h1)
theorem Stp.fix {L L' : Lay} {H H' : Hp} {D : Addr} {o : HO} (st : Stp L H L' H') (hD : H D = none) (h1 : L'.S D = none) : Stp L H { L' with S := upd L'.S D o } H' :=
  ⟨st.ss.trans (same_new h1), st.oa, st.keep, fun b h => by
    have h' : upd L'.S D o b ≠ none := h
    by_cases z : b = D
    · subst z; exact .inr hD
    · rw [upd_ne z] at h'; exact st.sfr b h', st.mfr, st.mm⟩
theorem lc_of {fi : List Sl → Mo (List PD)} {t : Tg} {ft : List Sl → Mo Bool} {fe : List Sl → Mo PD} {σ : St} {H : Hp} {Q : VK} (q : tE c.p c.W (eLc fi t ft fe) σ H Q) :
    tLc (tI c.p c.W fi) (tgR c.X.K t) (tT c.p W0 ft) (tE c.p W0 fe) t.slots σ H Q := by
  obtain ⟨L0, H0, L, g, Γ, fr, po⟩ := q
  have po := Post.bind po
  refine ⟨L0, H0, L, g, Γ, fr, po.mono fun ds g1 L1 H1 st1 rel1 po1 J wd D hD => ?_⟩
  obtain ⟨_, hsm, po1⟩ := Post.lift (Post.bind po1) rel1
  have po1 := Post.bind (po1 L1 H1 (Stp.refl rel1) rel1)
  have hsmall : small ds.length = true := (if_some hsm).1
  have fr1 := (fr.step st1 rel1).wipe t.slots
  have hDS := rel1.sq hD
  have hDM := rel1.mq hD
  refine ⟨fun i m H' => m = ds.length - i ∧ i ≤ ds.length ∧ ∃ L' g' xs acc, Stp L1 H1 L' H' ∧ Rel c.p L' g' H' ∧ H' D = some (.lst xs) ∧ DqA L'.S xs acc ∧ L'.S D = none ∧ L'.M D = none ∧ acc.length ≤ i ∧
    Post c.p c.W σ L1 H1 (fun r _ L2 H2 => ∀ v, Dq L2.S v (.list (acc ++ r)) → Q v H2) (lcL t ft fe (wipeG Γ t.slots) (ds.drop i) g'), ⟨_, rfl, Nat.zero_le _, L1, g1, [], [], (Stp.refl rel1).at hD, rel1.at hDS hDM, upd_same, .nil, hDS, hDM, Nat.le_refl _, po1.mono fun r g2 L2 H2 st2 rel2 po2 v hv => po2.pure rel2 v hv⟩, ?_⟩
  rintro i m H' ⟨rfl, hi, L', g', xs, acc, st', rel', hDl, hA, hS', hM', hlen, po'⟩
  have ss' := st'.ss
  have fr' := fr1.step st' rel'
  by_cases hlt : i < ds.length
  · refine .inr ⟨wd.go i L' g' H' hlt ss' rel', fun H2 => ∃ L2 g2 xs acc, Stp L1 H1 L2 H2 ∧ Rel c.p L2 g2 H2 ∧ H2 D = some (.lst xs) ∧ DqA L2.S xs acc ∧ L2.S D = none ∧ L2.M D = none ∧ acc.length ≤ i + 1 ∧
        Post c.p c.W σ L1 H1 (fun r _ L2 H2 => ∀ v, Dq L2.S v (.list (acc ++ r)) → Q v H2) (lcL t ft fe (wipeG Γ t.slots) (ds.drop (i + 1)) g2), fun H2 h2 => ⟨ds.length - (i + 1), by omega, rfl, hlt, h2⟩, fun x H2 hy => ?_⟩
    have hd : ds[i]? = some ds[i] := List.getElem?_eq_getElem hlt
    obtain ⟨L2, st2, rel2, hx⟩ := wd.yld i ds[i] L' g' H' x H2 hd ss' rel' hy
    have fr2 := fr'.step st2 rel2
    rw [List.drop_eq_getElem_cons hlt] at po'
    obtain ⟨Γ1, hΓ, po2⟩ := Post.lift (Post.bind0 (st'.trans st2) po') rel2
    have po2 := Post.bind0 (st'.trans st2) (po2 L2 H2 (Stp.refl rel2) rel2)
    obtain ⟨hD2, hS2, hM2⟩ := st2.apart hDl hS' hM'
    refine Tg.run fr2 hx hΓ fun vs _ fr3 => ⟨wipe_put t vs σ, L0, H0, L2, g', Γ1, fr3, (Post.nx po2).mono fun b g3 L3 H3 st3 rel3 po3 => ?_⟩
    obtain ⟨hD3, hS3, hM3⟩ := st3.apart hD2 hS2 hM2
    cases b with
    | false => exact ⟨L3, g3, xs, acc, (st'.trans st2).trans st3, rel3, hD3, (hA.mono st2.ss).mono st3.ss, hS3, hM3, Nat.le_succ_of_le hlen, po3⟩
    | true =>
      have po3 := Post.bind0 ((st'.trans st2).trans st3) po3
      refine ⟨L0, H0, L3, g3, Γ1, fr3.step st3 rel3, (Post.nx po3).mono fun d g4 L4 H4 st4 rel4 po4 y hy => ?_⟩
      obtain ⟨hD4, hS4, hM4⟩ := st4.apart hD3 hS3 hM3
      have hA4 : DqA L4.S xs acc := ((hA.mono st2.ss).mono st3.ss).mono st4.ss
      have hl : xs.length ≤ i := by rw [hA.len]; exact hlen
      refine ⟨xs, hD4, ?_, L4, g4, xs ++ [y], acc ++ [d], (((st'.trans st2).trans st3).trans st4).at hD, rel4.at hS4 hM4, upd_same, hA4.app (.cons hy .nil), hS4, hM4, ?_, ?_⟩
      · have h1 := Nat.le_of_ble_eq_true hsmall
        have h2 := sizeLine_eq
        omega
      · rw [List.length_append, List.length_singleton]
        omega
      · refine (Post.bind po4).mono fun r g5 L5 H5 st5 rel5 po5 v hv => ?_
        rw [List.append_assoc] at hv
        exact po5.pure rel5 v hv
  · have e : i = ds.length := by omega
    subst e
    refine .inl ⟨wd.stop L' g' H' ss' rel', ?_⟩
    rw [List.drop_length] at po'
    have hv := po' _ _ (st'.fix (o := .lst xs) hD hS') (rel'.fix hDl hS' hM') (.ref D)
    rw [List.append_nil] at hv
    exact hv (.lst upd_same (hA.mono (same_new hS')))
theorem de_lc {elt tg iter : Expr} {ifs : List Expr} {scope : Scope} {own : List (Str × Nat)} {pos : Pos} {fi : List Sl → Mo (List PD)} {t : Tg} {ft : List Sl → Mo Bool} {fe : List Sl → Mo PD} (ok : c.Ok k) (hi : DI c tg iter fi) (bo : BlkOk c.X.N c.X.env.scope scope own) (hv : own.map (·.2) = t.slots)
    (hg : ∀ (s : Shared) (H : Hp) (C : Addr) (cl : List (Str × Addr)) (fp : List Addr), DG (c.blk s H scope C cl fp) tg t) (ht : ∀ (s : Shared) (H : Hp) (C : Addr) (cl : List (Str × Addr)) (fp : List Addr), DTs (c.blk s H scope C cl fp) ifs ft)
    (he : ∀ (s : Shared) (H : Hp) (C : Addr) (cl : List (Str × Addr)) (fp : List Addr), DE (c.blk s H scope C cl fp) elt fe) (hs : ∀ x, foldedSetIterable iter c.X.env x = pure x := by intro _; rfl) :
    DE c (.ListComp elt [⟨tg, iter, ifs, 0⟩] scope pos) (eLc fi t ft fe) := by
  have h := pe_lc (pos := pos) (g := tgR c.X.K t) (tt := tT c.p W0 ft) (te := tE c.p W0 fe) ok.cm ok.nd hi bo hg ht he hs
  rw [hv] at h
  exact PE.imp h fun σ H Q q => lc_of q
theorem ds_setLc (i : Nat) {y : Str} {py : Pos} {elt tg iter : Expr} {ifs : List Expr} {scope : Scope} {own : List (Str × Nat)} {pos spos : Pos} {fi : List Sl → Mo (List PD)} {t : Tg} {ft : List Sl → Mo Bool} {fe : List Sl → Mo PD} (ok : c.Ok k) (hi : DI c tg iter fi) (bo : BlkOk c.X.N c.X.env.scope scope own) (hv : own.map (·.2) = t.slots)
    (hg : ∀ (s : Shared) (H : Hp) (C : Addr) (cl : List (Str × Addr)) (fp : List Addr), DG (c.blk s H scope C cl fp) tg t) (ht : ∀ (s : Shared) (H : Hp) (C : Addr) (cl : List (Str × Addr)) (fp : List Addr), DTs (c.blk s H scope C cl fp) ifs ft)
    (he : ∀ (s : Shared) (H : Hp) (C : Addr) (cl : List (Str × Addr)) (fp : List Addr), DE (c.blk s H scope C cl fp) elt fe)
    (hsw : swapsWith (.ListComp elt [⟨tg, iter, ifs, 0⟩] scope pos) (some (.Name y py)) spos.line c.X.env = pure true) (hy : c.X.N[i]? = some y := by rfl) (hyl : c.X.env.scope.names.lookup y = some .local := by rfl)
    (hs : ∀ x, foldedSetIterable iter c.X.env x = pure x := by intro _; rfl) :
    DS c (.Assign [.Name y py] (.ListComp elt [⟨tg, iter, ifs, 0⟩] scope pos) spos) (sAsg i (eLc fi t ft fe)) := by
  have h := ps_setLc (pos := pos) (spos := spos) (g := tgR c.X.K t) (tt := tT c.p W0 ft) (te := tE c.p W0 fe) ok.cm ok.nd hy hyl hsw hi bo hg ht he hs
  rw [hv] at h
  refine PS.imp h fun D σ H q => ?_
  obtain ⟨L0, H0, L, g, Γ, fr, po⟩ := q
  have po := PostS.bind fr po
  exact lc_of ⟨L0, H0, L, g, Γ, fr, po.mono fun d g1 L1 H1 st1 rel1 po1 v hv => PostS.pure po1 ((fr.step st1 rel1).set i hv)⟩
/-! ### defs -/
def runB (np n : Nat) (m : List Sl → Mo Fl) (as : List Sl) : Mo PD := if Nat.beq as.length np = true then bnd (m (as ++ List.replicate (n - as.length) .dead)) fun r => match r with
  | .next _ => ret .none
  | .ret d => ret d
  else fail
def spF (p : Pm) (F : List Sl → Mo PD) : Sp := fun vs H Q E => ∃ L g as, Rel p L g H ∧ Paired (ArgR p L) vs as ∧ Post p (fun cls d _ H' => E cls d H') [] L H (fun d _ L' H' => ∀ v, Dq L'.S v d → Q v H') (F as g)
theorem paired_len {α β : Type} {R : α → β → Prop} : ∀ {xs : List α} {ys : List β}, Paired R xs ys → xs.length = ys.length
  | _, _, .nil => rfl
  | _, _, .cons _ t => by simp [paired_len t]
theorem paired_get {α β : Type} {R : α → β → Prop} : ∀ {xs : List α} {ys : List β} {i : Nat} {x : α} {y : β}, Paired R xs ys → xs[i]? = some x → ys[i]? = some y → R x y
  | _, _, _, _, _, .nil, e, _ => by simp at e
  | _, _, 0, _, _, .cons r _, e, e' => by
    simp at e e'
    subst e
    subst e'
    exact r
  | _, _, i + 1, x, y, .cons _ t, e, e' => paired_get (i := i) t (by simpa using e) (by simpa using e')
theorem FR.start {p : Pm} {L : Lay} {g : G} {H : Hp} {N : List Str} {vs : List V} {as : List Sl} (rel : Rel p L g H) (ha : Paired (ArgR p L) vs as) : FR p L H L g (as ++ List.replicate (N.length - as.length) .dead) (start N vs) H := by
  have hl := paired_len ha
  refine ⟨rel, Stp.refl rel, ?_, fun i s o h1 h2 => ?_, fun i j ds es a hij h1 h2 h3 => ?_⟩
  · unfold L2.start
    rw [List.length_append, List.length_append, List.length_map, List.length_replicate, List.length_replicate, hl]
  · by_cases hi : i < as.length
    · rw [List.getElem?_append_left hi] at h1
      unfold L2.start at h2
      rw [List.getElem?_append_left (by rw [List.length_map, hl]; exact hi), List.getElem?_map] at h2
      obtain ⟨v, hv, rfl⟩ := Option.map_eq_some_iff.mp h2
      have r := paired_get ha hv h1
      cases s with
      | val d => exact ⟨v, rfl, r⟩
      | obj i =>
        obtain ⟨a, e, r⟩ := r
        exact ⟨a, by rw [e], r⟩
      | own _ => exact r.elim
      | dead => exact r.elim
    · rw [List.getElem?_append_right (by omega), List.getElem?_replicate] at h1
      split at h1
      · cases h1; trivial
      · cases h1
  · exfalso
    by_cases hi : i < as.length
    · rw [List.getElem?_append_left hi] at h1
      have hlt : i < vs.length := by rw [hl]; exact hi
      exact paired_get ha (List.getElem?_eq_getElem hlt) h1
    · rw [List.getElem?_append_right (by omega), List.getElem?_replicate] at h1
      split at h1
      · cases h1
      · cases h1
theorem fn_of_body {P : Program} {w : World} {K : PySem.W.Frag} {mg : Str → Option Value} {base : Heap} {x qual : Str} {st : Stmt} {f : Addr} {fd : FuncData} {N ps : List Str} {k : Nat} {p : Pm} {m : List Sl → Mo Fl} (F : Fun K x qual st f fd) (S : FnScope N ps (defScope st))
    (hb : ∀ (cdv : Value) (A : Around) (outer : List Env) (s : Shared) (H : Hp) (E : XK), Room k (A.deeper (envOfC qual (defScope st) s.heap.objs.size f cdv)) →
      DSs ⟨cxOf (L2.CX P w) P w K mg base N qual (defScope st) f cdv A outer s H E, p, fun cls d _ H' => E cls d H'⟩ (defBody st) m) :
    FnOk P w K mg base (L2.CX P w) (k + 1) f fd ps (spF p (runB ps.length N.length m)) := by
  refine F.okX S (fun vs H Q E h => ?_) fun cdv A outer s H vs Q E hr h => ⟨_, hb cdv A outer s H E hr, ?_⟩
  · obtain ⟨L, g, as, _, ha, po⟩ := h
    unfold runB at po
    split at po
    · rename_i he
      rw [paired_len ha]
      exact Nat.eq_of_beq_eq_true he
    · exact po.elim
  · obtain ⟨L, g, as, rel, ha, po⟩ := h
    refine ⟨L, H, L, g, _, FR.start rel ha, ?_⟩
    unfold runB at po
    split at po
    case isFalse => exact po.elim
    have po := Post.bind po
    cases e : m (as ++ List.replicate (N.length - as.length) .dead) g with
    | ok r g' =>
      rw [e] at po
      cases r with
      | next Γ' => exact fun L' σ' H' fr _ => (po L' H' fr.st fr.rel).pure fr.rel .non .non
      | ret d => exact fun v L' H' st' rel' hv => (po L' H' st' rel').pure rel' v hv
    | exc i g' =>
      rw [e] at po
      exact fun L' σ' H' st' rel' => po L' H' st' rel'
    | bad => rw [e] at po; exact po
/-- the facts of a def that is called -/
structure FnD (P : Program) (w : World) (K : PySem.W.Frag) (mg : Str → Option Value) (base : Heap) (p : Pm) (k : Nat) (x : Str) (F : List Sl → Mo PD) : Prop where
  ex : ∃ f fd ps, FnOk P w K mg base (L2.CX P w) k f fd ps (spF p F) ∧ mg x = some (.ref f) ∧ PySem.W.keepIn K (.ref f) = true ∧ Binds K fd ps []
theorem FnD.mono {P : Program} {w : World} {K : PySem.W.Frag} {mg : Str → Option Value} {base : Heap} {p : Pm} {j k : Nat} {x : Str} {F : List Sl → Mo PD} (h : FnD P w K mg base p j x F) (e : j ≤ k) : FnD P w K mg base p k x F := by
  obtain ⟨f, fd, ps, h1, h2, h3, h4⟩ := h.ex
  exact ⟨f, fd, ps, h1.mono e, h2, h3, h4⟩
/-- a mirror in other words, where it says something -/
theorem FnD.re {P : Program} {w : World} {K : PySem.W.Frag} {mg : Str → Option Value} {base : Heap} {p : Pm} {k : Nat} {x : Str} {F F' : List Sl → Mo PD} (h : FnD P w K mg base p k x F) (e : ∀ as g, F' as g = .bad ∨ F as g = F' as g) : FnD P w K mg base p k x F' := by
  obtain ⟨f, fd, ps, h1, h2, h3, h4⟩ := h.ex
  refine ⟨f, fd, ps, h1.imp fun vs H Q E q => ?_, h2, h3, h4⟩
  obtain ⟨L, g, as, rel, ha, po⟩ := q
  rcases e as g with z | z
  · rw [z] at po; exact po.elim
  · exact ⟨L, g, as, rel, ha, by rw [z]; exact po⟩
def eCallF (F : List Sl → Mo PD) (fa : List Sl → Mo (List Sl)) : List Sl → Mo PD := fun Γ => bnd (fa Γ) F
theorem de_call {x : Str} {F : List Sl → Mo PD} {e : Expr} {es : List Expr} {fa : List Sl → Mo (List Sl)} {p pos : Pos} (ok : c.Ok k) (fn : FnD c.X.prog c.X.w c.X.K c.X.mg c.X.base c.p k x F) (ha : DAs c (e :: es) fa) (hg : Gl c.X x := by rfl) (hdb : (x == ("__debug__" : Str)) = false := by decide)
    (he : starEach (e :: es) c.X.env = (false, eval e c.X.env) :: starEach es c.X.env := by rfl) (hpl : (backTo pos (starEach es c.X.env)).any (·.1) = false := by rfl) : DE c (.Call (.Name x p) (e :: es) [] pos) (eCallF F fa) := by
  obtain ⟨f, fd, ps, FO, hm, hk, hb⟩ := fn.ex
  refine PE.imp (pe_callS FO ok.rm hg hm hk hb (fun σ => passAt ok.tk σ) ha hdb he hpl) fun σ H Q q => ?_
  obtain ⟨L0, H0, L, g, Γ, fr, po⟩ := q
  have po := Post.bind po
  refine ⟨L0, H0, L, g, Γ, fr, po.mono fun as g1 L1 H1 st1 rel1 po1 vs hvs => ⟨L1, g1, as, rel1, hvs, ?_⟩⟩
  cases e2 : F as g1 with
  | ok d g2 => rw [e2] at po1; exact po1
  | exc i g2 => rw [e2] at po1; exact po1
  | bad => rw [e2] at po1; exact po1
end
end Av

namespace Av
open PySem PySem.Spec L2
open PyProof.Rows hiding St
set_option autoImplicit false
section
variable {c : Ct} {k : Nat}
/-! ### what is walked -/
def rangeL : Int → Nat → List PD
  | _, 0 => []
  | lo, n + 1 => .int lo :: rangeL (lo + 1) n
theorem rangeL_len : ∀ (n : Nat) (lo : Int), (rangeL lo n).length = n
  | 0, _ => rfl
  | n + 1, lo => by show (rangeL (lo + 1) n).length + 1 = n + 1; rw [rangeL_len n]
theorem rangeL_get : ∀ (n i : Nat) (lo : Int) (d : PD), (rangeL lo n)[i]? = some d → d = .int (lo + i)
  | 0, i, lo, d, h => by simp [rangeL] at h
  | n + 1, 0, lo, d, h => by simp [rangeL] at h; subst h; simp
  | n + 1, i + 1, lo, d, h => by
    have h' : (rangeL (lo + 1) n)[i]? = some d := by simpa [rangeL] using h
    rw [rangeL_get n i (lo + 1) d h']
    congr 1
    omega
def rOk (i : Int) : Bool := decide (-1000000 ≤ i) && decide (i ≤ 1000000)
theorem rOk_b {i : Int} (h : rOk i = true) : -1000000 ≤ i ∧ i ≤ 1000000 := by
  unfold rOk at h
  rw [Bool.and_eq_true, decide_eq_true_eq, decide_eq_true_eq] at h
  exact h
def rng1 : List PD → Option (List PD)
  | [.int j] => if rOk j = true then some (rangeL 0 j.toNat) else none
  | _ => none
def rng2 : List PD → Option (List PD)
  | [.int i, .int j] => if (rOk i && rOk j) = true then some (rangeL i (j - i).toNat) else none
  | _ => none
def iVia (h : List PD → Option (List PD)) (f : List Sl → Mo (List PD)) : List Sl → Mo (List PD) := fun Γ => bnd (f Γ) fun ds => lift (h ds)
theorem walkD_range {p : Pm} {S : Hp} {lo : Int} {n : Nat} : WalkD p S (Itr lo n) (rangeL lo n) where
  go := fun i L g H h _ _ => by rw [rangeL_len] at h; exact h
  stop := fun L g H _ _ => by rw [rangeL_len]; exact Nat.le_refl _
  yld := fun i d L g H x H' hd _ rel y => by
    obtain ⟨rfl, rfl⟩ := y
    cases rangeL_get n i lo d hd
    exact ⟨L, Stp.refl rel, rel, .int _⟩
theorem di_range1 {tg a : Expr} {f : List Sl → Mo (List PD)} {p pos : Pos} (hm : c.X.mg "range" = none) (ha : DA c [a] f) (hg : Gl c.X "range" := by rfl) (hs : starEach [a] c.X.env = [(false, eval a c.X.env)] := by rfl) : DI c tg (.Call (.Name "range" p) [a] [] pos) (iVia rng1 f) :=
  PI.imp (pi_range1 hg hm ha hs) fun σ H R q => by
    obtain ⟨L0, H0, L, g, Γ, fr, po⟩ := q
    have po := Post.bind po
    refine ⟨L0, H0, L, g, Γ, fr, po.mono fun ds g1 L1 H1 st1 rel1 po1 vs hvs => ?_⟩
    obtain ⟨z, hz, po1⟩ := po1.lift rel1
    have po1 := po1 L1 H1 (Stp.refl rel1) rel1
    match ds, hz with
    | [.int j], hz =>
      obtain ⟨hb, rfl⟩ := if_some hz
      have b := rOk_b hb
      cases hvs with
      | cons hv ht =>
        cases ht
        cases hv
        exact ⟨j, rfl, by omega, by omega, po1 _ walkD_range⟩
theorem di_range2 {tg a b : Expr} {f : List Sl → Mo (List PD)} {p pos : Pos} (hm : c.X.mg "range" = none) (ha : DA c [a, b] f) (hg : Gl c.X "range" := by rfl) (hs : starEach [a, b] c.X.env = [(false, eval a c.X.env), (false, eval b c.X.env)] := by rfl) (hs2 : starEach [b] c.X.env = [(false, eval b c.X.env)] := by rfl) : DI c tg (.Call (.Name "range" p) [a, b] [] pos) (iVia rng2 f) :=
  PI.imp (pi_range2 hg hm ha hs hs2) fun σ H R q => by
    obtain ⟨L0, H0, L, g, Γ, fr, po⟩ := q
    have po := Post.bind po
    refine ⟨L0, H0, L, g, Γ, fr, po.mono fun ds g1 L1 H1 st1 rel1 po1 vs hvs => ?_⟩
    obtain ⟨z, hz, po1⟩ := po1.lift rel1
    have po1 := po1 L1 H1 (Stp.refl rel1) rel1
    match ds, hz with
    | [.int i, .int j], hz =>
      obtain ⟨hb, rfl⟩ := if_some hz
      rw [Bool.and_eq_true] at hb
      have b := rOk_b hb.1
      have b2 := rOk_b hb.2
      cases hvs with
      | cons hv ht =>
        cases ht with
        | cons hv2 ht =>
          cases ht
          cases hv
          cases hv2
          exact ⟨i, j, rfl, ⟨by omega, by omega, by omega, by omega⟩, po1 _ walkD_range⟩
theorem walkD_list {p : Pm} {K : PySem.W.Frag} {S : Hp} {a : Addr} {xs : List V} {ds : List PD} (hS : S a = some (.lst xs)) (hA : DqA S xs ds) : WalkD p S (Itl K a) ds where
  go := fun i L g H h ss rel => by
    have hl : i < xs.length := by rw [hA.len]; exact h
    exact ⟨xs, xs[i], SqL.of (rel.s _ _ (ss _ _ hS)), List.getElem?_eq_getElem hl⟩
  stop := fun L g H ss rel => ⟨xs, SqL.of (rel.s _ _ (ss _ _ hS)), by rw [hA.len]; exact Nat.le_refl _⟩
  yld := fun i d L g H x H' hd ss rel y => by
    obtain ⟨rfl, y⟩ := y
    obtain ⟨v, hv, hq⟩ := hA.get hd
    have e := y xs (SqL.of (rel.s _ _ (ss _ _ hS)))
    rw [hv] at e
    cases e
    exact ⟨L, Stp.refl rel, rel, hq.mono ss⟩
theorem walkD_tup {p : Pm} {K : PySem.W.Frag} {S : Hp} {a : Addr} {xs : List V} {ds : List PD} (hS : S a = some (.tup xs)) (hA : DqA S xs ds) : WalkD p S (Itt K a) ds where
  go := fun i L g H h ss rel => by
    have hl : i < xs.length := by rw [hA.len]; exact h
    exact ⟨xs, xs[i], SqT.of (rel.s _ _ (ss _ _ hS)), List.getElem?_eq_getElem hl⟩
  stop := fun L g H ss rel => ⟨xs, SqT.of (rel.s _ _ (ss _ _ hS)), by rw [hA.len]; exact Nat.le_refl _⟩
  yld := fun i d L g H x H' hd ss rel y => by
    obtain ⟨rfl, y⟩ := y
    obtain ⟨v, hv, hq⟩ := hA.get hd
    have e := y xs (SqT.of (rel.s _ _ (ss _ _ hS)))
    rw [hv] at e
    cases e
    exact ⟨L, Stp.refl rel, rel, hq.mono ss⟩
def charsD (x : Str) : List PD := x.cps.toList.map fun n => .str ⟨#[n]⟩
theorem walkD_str {p : Pm} {S : Hp} {x : Str} : WalkD p S (Its x) (charsD x) where
  go := fun i L g H h _ _ => by
    have h' : i < x.cps.size := by simpa [charsD] using h
    exact h'
  stop := fun L g H _ _ => by
    have : (charsD x).length = x.cps.size := by simp [charsD]
    rw [this]
    exact Nat.le_refl _
  yld := fun i d L g H v H' hd _ rel y => by
    obtain ⟨rfl, n, hn, rfl⟩ := y
    have e : d = .str ⟨#[n]⟩ := by
      unfold charsD at hd
      rw [List.getElem?_map, Array.getElem?_toList, hn] at hd
      exact (Option.some.inj hd).symm
    subst e
    exact ⟨L, Stp.refl rel, rel, .str _⟩
def itemsD : PD → Option (List PD)
  | .list ds => some ds
  | .tuple ds => some ds
  | .str x => some (charsD x)
  | _ => none
def iSeq (f : List Sl → Mo PD) : List Sl → Mo (List PD) := fun Γ => bnd (f Γ) fun d => lift (itemsD d)
theorem PI.or {X : Cx} {tg e : Expr} {t t' : TI} (h : PI X tg e t) (h' : PI X tg e t') : PI X tg e (fun σ H R => t σ H R ∨ t' σ H R) :=
  ⟨fun pins s σ H R I q => q.elim (h.run pins s σ H R I) (h'.run pins s σ H R I)⟩
theorem di_seq {tg e : Expr} {f : List Sl → Mo PD} (h : DE c e f) : DI c tg e (iSeq f) :=
  PI.imp (PI.or (pi_list h) (PI.or (pi_tup h) (pi_str h))) fun σ H R q => by
    obtain ⟨L0, H0, L, g, Γ, fr, po⟩ := q
    have po := Post.bind po
    cases e : f Γ g with
    | bad => rw [e] at po; exact po.elim
    | exc i g1 => rw [e] at po; exact .inl ⟨L0, H0, L, g, Γ, fr, by rw [e]; exact po⟩
    | ok d g1 =>
      rw [e] at po
      cases d with
      | list ds =>
        refine .inl ⟨L0, H0, L, g, Γ, fr, ?_⟩
        rw [e]
        intro L1 H1 st1 rel1 v hv
        have po1 := (po L1 H1 st1 rel1).pure rel1
        cases hv with
        | lst hS hA => exact ⟨_, rfl, ⟨_, SqL.of (rel1.s _ _ hS)⟩, po1 _ (walkD_list hS hA)⟩
      | tuple ds =>
        refine .inr (.inl ⟨L0, H0, L, g, Γ, fr, ?_⟩)
        rw [e]
        intro L1 H1 st1 rel1 v hv
        have po1 := (po L1 H1 st1 rel1).pure rel1
        cases hv with
        | tup hS hA => exact ⟨_, rfl, ⟨_, SqT.of (rel1.s _ _ hS)⟩, po1 _ (walkD_tup hS hA)⟩
      | str x =>
        refine .inr (.inr ⟨L0, H0, L, g, Γ, fr, ?_⟩)
        rw [e]
        intro L1 H1 st1 rel1 v hv
        have po1 := (po L1 H1 st1 rel1).pure rel1
        cases hv
        exact ⟨x, rfl, po1 _ walkD_str⟩
      | none => exact .inl ⟨L0, H0, L, g, Γ, fr, by rw [e]; exact fun L1 H1 st1 rel1 v _ => (po L1 H1 st1 rel1).elim⟩
      | bool _ => exact .inl ⟨L0, H0, L, g, Γ, fr, by rw [e]; exact fun L1 H1 st1 rel1 v _ => (po L1 H1 st1 rel1).elim⟩
      | int _ => exact .inl ⟨L0, H0, L, g, Γ, fr, by rw [e]; exact fun L1 H1 st1 rel1 v _ => (po L1 H1 st1 rel1).elim⟩
      | dict _ => exact .inl ⟨L0, H0, L, g, Γ, fr, by rw [e]; exact fun L1 H1 st1 rel1 v _ => (po L1 H1 st1 rel1).elim⟩
/-! ### operators on data -/
def int2 (h : Int → Int → Option PD) : PD → PD → Option PD
  | .int i, .int j => h i j
  | _, _ => none
theorem int2_some {h : Int → Int → Option PD} {d e z : PD} (q : int2 h d e = some z) : ∃ i j, d = .int i ∧ e = .int j ∧ h i j = some z := by
  match d, e, q with
  | .int i, .int j, q => exact ⟨i, j, rfl, rfl, q⟩
theorem ops_I0 {g : Int → Int → V} {h : Int → Int → PD} (hq : ∀ i j S, Dq S (g i j) (h i j)) : OpS c (rI0 g) (int2 fun i j => some (h i j)) := fun L gs H x y d e z Q rel hx hy hz k => by
  obtain ⟨i, j, rfl, rfl, hz⟩ := int2_some hz
  cases hz
  cases hx
  cases hy
  exact ⟨i, j, rfl, rfl, k _ L H (Stp.refl rel) rel (hq i j _)⟩
theorem ops_I {C : Int → Int → Prop} {cb : Int → Int → Bool} {g : Int → Int → V} {h : Int → Int → PD} (hc : ∀ i j, cb i j = true → C i j) (hq : ∀ i j S, Dq S (g i j) (h i j)) : OpS c (rI C g) (int2 fun i j => if cb i j = true then some (h i j) else none) := fun L gs H x y d e z Q rel hx hy hz k => by
  obtain ⟨i, j, rfl, rfl, hz⟩ := int2_some hz
  obtain ⟨hb, rfl⟩ := if_some hz
  cases hx
  cases hy
  exact ⟨i, j, rfl, rfl, hc i j hb, k _ L H (Stp.refl rel) rel (hq i j _)⟩
def subD : PD → PD → Option PD := int2 fun i j => some (.int (i - j))
theorem ops_sub : OpS c (rI0 fun i j => .int (i - j)) subD := ops_I0 fun i j _ => .int _
def fdivB (_ j : Int) : Bool := decide (0 < j) && decide (j < 1073741824)
def fdivD : PD → PD → Option PD := int2 fun i j => if fdivB i j = true then some (.int (i / j)) else none
theorem ops_fdiv : OpS c (rI CDiv fun i j => .int (i / j)) fdivD := ops_I (fun i j h => by
  unfold fdivB at h
  rw [Bool.and_eq_true, decide_eq_true_eq, decide_eq_true_eq] at h
  exact h) fun i j _ => .int _
def modB (_ j : Int) : Bool := decide (0 < j)
def modD : PD → PD → Option PD := int2 fun i j => if modB i j = true then some (.int (i % j)) else none
theorem ops_mod : OpS c (rI (fun _ j => 0 < j) fun i j => .int (i % j)) modD := ops_I (fun i j h => of_decide_eq_true h) fun i j _ => .int _
def powB (i j : Int) : Bool := decide (0 ≤ j) && decide (j ≤ 100) && decide (i.natAbs < 18446744073709551616)
def powD : PD → PD → Option PD := int2 fun i j => if powB i j = true then some (.int (i ^ j.toNat)) else none
theorem ops_pow : OpS c (rI CPow fun i j => .int (i ^ j.toNat)) powD := ops_I (fun i j h => by
  unfold powB at h
  rw [Bool.and_eq_true, Bool.and_eq_true, decide_eq_true_eq, decide_eq_true_eq, decide_eq_true_eq] at h
  exact ⟨h.1.1, by omega, h.2⟩) fun i j _ => .int _
theorem de_sub {a b : Expr} {fa fb : List Sl → Mo PD} {pos : Pos} (ha : DE c a fa) (hb : DE c b fb) : DE c (.BinOp a .Sub b pos) (eBin subD fa fb) := de_bin op_sub ops_sub ha hb
theorem de_fdiv {a b : Expr} {fa fb : List Sl → Mo PD} {pos : Pos} (ha : DE c a fa) (hb : DE c b fb) : DE c (.BinOp a .FloorDiv b pos) (eBin fdivD fa fb) := de_bin op_fdiv ops_fdiv ha hb
theorem de_mod {a b : Expr} {fa fb : List Sl → Mo PD} {pos : Pos} (ha : DE c a fa) (hb : DE c b fb) : DE c (.BinOp a .Mod b pos) (eBin modD fa fb) := de_bin op_mod ops_mod ha hb
theorem de_pow {a b : Expr} {fa fb : List Sl → Mo PD} {pos : Pos} (ha : DE c a fa) (hb : DE c b fb) : DE c (.BinOp a .Pow b pos) (eBin powD fa fb) := de_bin op_pow ops_pow ha hb
/-! + : ints, texts, tuples, lists -/
def addD : PD → PD → Option PD
  | .int i, .int j => some (.int (i + j))
  | .str x, .str y => if small (x.length + y.length) = true then some (.str (x ++ y)) else none
  | .tuple xs, .tuple ys => if small (xs.length + ys.length) = true then some (.tuple (xs ++ ys)) else none
  | .list xs, .list ys => if small (xs.length + ys.length) = true then some (.list (xs ++ ys)) else none
  | _, _ => none
def rAddA (K : PySem.W.Frag) : R2 := fun x y H Q => rI0 (fun i j => .int (i + j)) x y H Q ∨ (∃ i j, x = .str i ∧ y = .str j ∧ i.length + j.length ≤ sizeLine ∧ Q (.str (i ++ j)) H) ∨ rCatA K x y H Q ∨ rCat x y H Q
theorem op_addA {X : Cx} : OpR X (binaryOp .Add) (rAddA X.K) := op_add.or (op_add_str.or (op_catA.or op_cat))
theorem ops_add (hK : c.p.K = c.X.K) : OpS c (rAddA c.X.K) addD := fun L gs H x y d e z Q rel hx hy hz k => by
  match d, e, hz with
  | .int i, .int j, hz =>
    cases hz
    cases hx
    cases hy
    exact .inl ⟨i, j, rfl, rfl, k _ L H (Stp.refl rel) rel (.int _)⟩
  | .str a, .str b, hz =>
    obtain ⟨hb, rfl⟩ := if_some hz
    cases hx
    cases hy
    exact .inr (.inl ⟨a, b, rfl, rfl, small_le hb, k _ L H (Stp.refl rel) rel (.str _)⟩)
  | .tuple as, .tuple bs, hz =>
    obtain ⟨hb, rfl⟩ := if_some hz
    cases hx with
    | tup hS hA =>
      cases hy with
      | tup hS' hA' =>
        rename_i a xs b ys
        have la := hA.len
        have lb := hA'.len
        refine .inr (.inr (.inl ⟨a, b, xs, ys, rfl, rfl, SqT.of (rel.s _ _ hS), SqT.of (rel.s _ _ hS'), by rw [la, lb]; exact small_le hb, fun e => ?_, fun _ e => ?_, fun _ _ q hq => ?_⟩))
        · subst e
          cases hA
          exact k _ L H (Stp.refl rel) rel (.tup hS' hA')
        · subst e
          cases hA'
          rw [List.append_nil] at k
          exact k _ L H (Stp.refl rel) rel (.tup hS hA)
        · exact k _ _ _ (Stp.new rel hq) (rel.new hq) (.tup upd_same ((hA.app hA').mono (same_new (rel.sq hq))))
  | .list as, .list bs, hz =>
    obtain ⟨hb, rfl⟩ := if_some hz
    cases hx with
    | lst hS hA =>
      cases hy with
      | lst hS' hA' =>
        rename_i a xs b ys
        have la := hA.len
        have lb := hA'.len
        refine .inr (.inr (.inr ⟨a, b, xs, ys, rfl, rfl, rel.s _ _ hS, rel.s _ _ hS', by rw [la, lb]; exact small_le hb, fun q hq => ?_⟩))
        exact k _ _ _ (Stp.new rel hq) (rel.new hq) (.lst upd_same ((hA.app hA').mono (same_new (rel.sq hq))))
theorem de_add {a b : Expr} {fa fb : List Sl → Mo PD} {pos : Pos} (ok : c.Ok k) (ha : DE c a fa) (hb : DE c b fb) : DE c (.BinOp a .Add b pos) (eBin addD fa fb) := de_bin op_addA (ops_add ok.K) ha hb
/-! * : ints; a list by an int -/
def mulB (i j : Int) : Bool := (decide (-18446744073709551616 < i) && decide (i < 18446744073709551616)) || (decide (-18446744073709551616 < j) && decide (j < 18446744073709551616))
theorem mulB_ok {i j : Int} (h : mulB i j = true) : CMul i j := by
  unfold mulB at h
  rw [Bool.or_eq_true, Bool.and_eq_true, Bool.and_eq_true, decide_eq_true_eq, decide_eq_true_eq, decide_eq_true_eq, decide_eq_true_eq] at h
  exact h
def mulD : PD → PD → Option PD
  | .int i, .int j => if mulB i j = true then some (.int (i * j)) else none
  | .list xs, .int j => if (decide (0 ≤ j) && decide (j ≤ 1000) && Nat.ble xs.length 1000) = true then some (.list (List.replicate j.toNat xs).flatten) else none
  | _, _ => none
def rMulA : R2 := fun x y H Q => rI CMul (fun i j => .int (i * j)) x y H Q ∨ rRep x y H Q
theorem op_mulA {X : Cx} : OpR X (binaryOp .Mult) rMulA := op_mul.or op_rep
theorem ops_mul : OpS c rMulA mulD := fun L gs H x y d e z Q rel hx hy hz k => by
  match d, e, hz with
  | .int i, .int j, hz =>
    obtain ⟨hb, rfl⟩ := if_some hz
    cases hx
    cases hy
    exact .inl ⟨i, j, rfl, rfl, mulB_ok hb, k _ L H (Stp.refl rel) rel (.int _)⟩
  | .list as, .int j, hz =>
    obtain ⟨hb, rfl⟩ := if_some hz
    rw [Bool.and_eq_true, Bool.and_eq_true, decide_eq_true_eq, decide_eq_true_eq] at hb
    obtain ⟨⟨h1, h2⟩, h3⟩ := hb
    have h3 := Nat.le_of_ble_eq_true h3
    cases hy
    cases hx with
    | lst hS hA =>
      rename_i a xs
      have la := hA.len
      have hm : xs.length * j.toNat ≤ 1000 * 1000 := Nat.mul_le_mul (by omega) (by omega)
      refine .inr ⟨a, j, xs, rfl, rfl, rel.s _ _ hS, by omega, by omega, by rw [sizeLine_eq]; omega, fun q hq => ?_⟩
      exact k _ _ _ (Stp.new rel hq) (rel.new hq) (.lst upd_same ((hA.rep _).mono (same_new (rel.sq hq))))
theorem de_mul {a b : Expr} {fa fb : List Sl → Mo PD} {pos : Pos} (ha : DE c a fa) (hb : DE c b fb) : DE c (.BinOp a .Mult b pos) (eBin mulD fa fb) := de_bin op_mulA ops_mul ha hb
/-! ### comparisons -/
def leD : PD → PD → Option PD := int2 fun i j => some (.bool (decide (i ≤ j)))
def gtD : PD → PD → Option PD := int2 fun i j => some (.bool (decide (j < i)))
def geD : PD → PD → Option PD := int2 fun i j => some (.bool (decide (j ≤ i)))
theorem ops_le : OpS c (rI0 fun i j => .bl (decide (i ≤ j))) leD := ops_I0 fun i j _ => .bl _
theorem ops_gt : OpS c (rI0 fun i j => .bl (decide (j < i))) gtD := ops_I0 fun i j _ => .bl _
theorem ops_ge : OpS c (rI0 fun i j => .bl (decide (j ≤ i))) geD := ops_I0 fun i j _ => .bl _
def intsD : List PD → Option (List Int)
  | [] => some []
  | .int i :: r => (intsD r).map (i :: ·)
  | _ :: _ => none
theorem intsD_some : ∀ {ds : List PD} {ns : List Int}, intsD ds = some ns → ds = ns.map PyData.int
  | [], ns, h => by cases h; rfl
  | .int i :: r, ns, h => by
    obtain ⟨m, hm, rfl⟩ := Option.map_eq_some_iff.mp h
    rw [intsD_some hm]
    rfl
  | .none :: _, _, h => by cases h
  | .bool _ :: _, _, h => by cases h
  | .str _ :: _, _, h => by cases h
  | .list _ :: _, _, h => by cases h
  | .tuple _ :: _, _, h => by cases h
  | .dict _ :: _, _, h => by cases h
theorem DqA.ints {S : Hp} : ∀ {vs : List V} {ns : List Int}, DqA S vs (ns.map PyData.int) → vs = ns.map V.int
  | _, [], .nil => rfl
  | _, n :: ns, .cons (.int _) r => by rw [DqA.ints r]; rfl
def lt2 : Option (List Int) → Option (List Int) → Option PD
  | some a, some b => some (.bool (HT.lexLt a b))
  | _, _ => none
def ltD : PD → PD → Option PD
  | .int i, .int j => some (.bool (decide (i < j)))
  | .tuple xs, .tuple ys => lt2 (intsD xs) (intsD ys)
  | _, _ => none
def rLtA (K : PySem.W.Frag) : R2 := fun x y H Q => rI0 (fun i j => .bl (decide (i < j))) x y H Q ∨ rLtT K x y H Q
theorem op_ltA {X : Cx} (hu : X.A.units < cLine) : OpR X (compareOp .Lt) (rLtA X.K) := op_lt.or (op_ltT hu)
theorem ops_lt : OpS c (rLtA c.X.K) ltD := fun L gs H x y d e z Q rel hx hy hz k => by
  match d, e, hz with
  | .int i, .int j, hz =>
    cases hz
    cases hx
    cases hy
    exact .inl ⟨i, j, rfl, rfl, k _ L H (Stp.refl rel) rel (.bl _)⟩
  | .tuple as, .tuple bs, hz =>
    have hz : lt2 (intsD as) (intsD bs) = some z := hz
    cases ea : intsD as with
    | none => rw [ea] at hz; cases hz
    | some a =>
      cases eb : intsD bs with
      | none => rw [ea, eb] at hz; cases hz
      | some b =>
        rw [ea, eb] at hz
        cases hz
        cases intsD_some ea
        cases intsD_some eb
        cases hx with
        | tup hS hA =>
          cases hy with
          | tup hS' hA' =>
            rw [hA.ints] at hS
            rw [hA'.ints] at hS'
            exact .inr ⟨_, _, a, b, rfl, rfl, SqT.of (rel.s _ _ hS), SqT.of (rel.s _ _ hS'), k _ L H (Stp.refl rel) rel (.bl _)⟩
def eqD (d e : PD) : Option PD := if (SeqAt.shaped d && SeqAt.shaped e) = true then some (.bool (PyData.eqv d e)) else none
def neD (d e : PD) : Option PD := if (SeqAt.shaped d && SeqAt.shaped e) = true then some (.bool (!PyData.eqv d e)) else none
theorem ops_eq {K : PySem.W.Frag} : OpS c (rEqD K) eqD := fun L gs H x y d e z Q rel hx hy hz k => by
  obtain ⟨hb, rfl⟩ := if_some hz
  rw [Bool.and_eq_true] at hb
  exact ⟨d, e, (hx.mono rel.s).dp, (hy.mono rel.s).dp, hb.1, hb.2, k _ L H (Stp.refl rel) rel (.bl _)⟩
theorem ops_ne {K : PySem.W.Frag} : OpS c (rNeD K) neD := fun L gs H x y d e z Q rel hx hy hz k => by
  obtain ⟨hb, rfl⟩ := if_some hz
  rw [Bool.and_eq_true] at hb
  exact ⟨d, e, (hx.mono rel.s).dp, (hy.mono rel.s).dp, hb.1, hb.2, k _ L H (Stp.refl rel) rel (.bl _)⟩
def isNone : PD → Bool
  | .none => true
  | _ => false
def isD : PD → PD → Option PD
  | .bool a, .bool b => some (.bool (decide (a = b)))
  | d, .none => some (.bool (isNone d))
  | _, _ => none
def isNotD : PD → PD → Option PD
  | .bool a, .bool b => some (.bool (!decide (a = b)))
  | d, .none => some (.bool (!isNone d))
  | _, _ => none
theorem non_iff {S : Hp} {x : V} {d : PD} (h : Dq S x d) : decide (x = .non) = isNone d := by
  cases h <;> rfl
def rIsA : R2 := fun x y H Q => (∃ a b, x = .bl a ∧ y = .bl b ∧ Q (.bl (decide (a = b))) H) ∨ (y = .non ∧ Q (.bl (decide (x = .non))) H)
def rIsNotA : R2 := fun x y H Q => (∃ a b, x = .bl a ∧ y = .bl b ∧ Q (.bl (!decide (a = b))) H) ∨ (y = .non ∧ Q (.bl (!decide (x = .non))) H)
theorem op_isA {X : Cx} : OpR X (compareOp .Is) rIsA := op_is_bl.or op_isN
theorem op_isNotA {X : Cx} : OpR X (compareOp .IsNot) rIsNotA := op_isnot_bl.or op_notN
theorem ops_is : OpS c rIsA isD := fun L gs H x y d e z Q rel hx hy hz k => by
  cases hy with
  | bl b =>
    cases hx with
    | bl a => cases hz; exact .inl ⟨a, b, rfl, rfl, k _ L H (Stp.refl rel) rel (.bl _)⟩
    | non => cases hz
    | int _ => cases hz
    | str _ => cases hz
    | lst _ _ => cases hz
    | tup _ _ => cases hz
  | non =>
    refine .inr ⟨rfl, ?_⟩
    rw [non_iff hx]
    have e : z = .bool (isNone d) := by
      cases d <;> cases hz <;> rfl
    subst e
    exact k _ L H (Stp.refl rel) rel (.bl _)
  | int _ => cases hx <;> cases hz
  | str _ => cases hx <;> cases hz
  | lst _ _ => cases hx <;> cases hz
  | tup _ _ => cases hx <;> cases hz
theorem ops_isNot : OpS c rIsNotA isNotD := fun L gs H x y d e z Q rel hx hy hz k => by
  cases hy with
  | bl b =>
    cases hx with
    | bl a => cases hz; exact .inl ⟨a, b, rfl, rfl, k _ L H (Stp.refl rel) rel (.bl _)⟩
    | non => cases hz
    | int _ => cases hz
    | str _ => cases hz
    | lst _ _ => cases hz
    | tup _ _ => cases hz
  | non =>
    refine .inr ⟨rfl, ?_⟩
    rw [non_iff hx]
    have e : z = .bool (!isNone d) := by
      cases d <;> cases hz <;> rfl
    subst e
    exact k _ L H (Stp.refl rel) rel (.bl _)
  | int _ => cases hx <;> cases hz
  | str _ => cases hx <;> cases hz
  | lst _ _ => cases hx <;> cases hz
  | tup _ _ => cases hx <;> cases hz
/-! ### subscripts -/
def ixD : PD → PD → Option PD
  | .list ds, .int i => atI ds i
  | .tuple ds, .int i => atI ds i
  | .str x, .int i => if small x.length = true then (atI x.cps.toList i).map fun n => .str ⟨#[n]⟩ else none
  | _, _ => none
theorem DqA.atI {S : Hp} {vs : List V} {ds : List PD} {i : Int} {d : PD} (h : DqA S vs ds) (e : L2.atI ds i = some d) : ∃ v, L2.atI vs i = some v ∧ Dq S v d := by
  unfold L2.atI at e ⊢
  obtain ⟨j, hj, e⟩ := Option.bind_eq_some_iff.mp e
  obtain ⟨v, hv, hq⟩ := h.get e
  rw [h.len, hj]
  exact ⟨v, hv, hq⟩
theorem ops_ix : OpS c (rIx c.X.K) ixD := fun L gs H x y d e z Q rel hx hy hz k => by
  match d, e, hz with
  | .list ds, .int i, hz =>
    cases hy
    cases hx with
    | lst hS hA =>
      obtain ⟨v, hv, hq⟩ := hA.atI hz
      exact .inl ⟨_, _, i, v, rfl, rfl, SqL.of (rel.s _ _ hS), hv, k _ L H (Stp.refl rel) rel hq⟩
  | .tuple ds, .int i, hz =>
    cases hy
    cases hx with
    | tup hS hA =>
      obtain ⟨v, hv, hq⟩ := hA.atI hz
      exact .inr (.inl ⟨_, _, i, v, rfl, rfl, SqT.of (rel.s _ _ hS), hv, k _ L H (Stp.refl rel) rel hq⟩)
  | .str x, .int i, hz =>
    cases hy
    cases hx
    have hz : (if small x.length = true then (atI x.cps.toList i).map fun n => PyData.str ⟨#[n]⟩ else none) = some z := hz
    cases hs : small x.length with
    | true =>
      rw [hs, if_pos rfl] at hz
      obtain ⟨n, hn, rfl⟩ := Option.map_eq_some_iff.mp hz
      exact .inr (.inr ⟨x, i, n, rfl, rfl, small_le hs, hn, k _ L H (Stp.refl rel) rel (.str _)⟩)
    | false =>
      rw [hs, if_neg Bool.false_ne_true] at hz
      cases hz
theorem de_ix {a b : Expr} {fa fb : List Sl → Mo PD} {pos : Pos} (ha : DE c a fa) (hb : DE c b fb) (hs : PlainIx b := by exact fun _ _ => rfl) : DE c (.Subscript a b pos) (eBin ixD fa fb) :=
  PE.imp (pe_ix ix_seq ha hb hs) fun _ _ _ q => bin_of ops_ix q
/-! ### built-ins -/
def lenD : List PD → Option PD
  | [.list ds] => some (.int ds.length)
  | [.tuple ds] => some (.int ds.length)
  | [.str x] => if small x.length = true then some (.int x.length) else none
  | _ => none
def rLenA (K : PySem.W.Frag) : List V → Hp → VK → Prop := fun xs H Q => (∃ p ys, xs = [.ref p] ∧ (SqL K H p ys ∨ SqT K H p ys) ∧ Q (.int ys.length) H) ∨ ∃ z, xs = [.str z] ∧ z.length ≤ sizeLine ∧ Q (.int z.length) H
theorem call_lenA {X : Cx} : CallR X (.builtin "len") (rLenA X.K) := call_len_seq.or call_len_str
theorem calls_len : CallS c (rLenA c.X.K) lenD := fun L g H vs ds z Q rel hvs hz k => by
  match ds, hz with
  | [.list ds], hz =>
    cases hz
    cases hvs with
    | cons hv ht =>
      cases ht
      cases hv with
      | lst hS hA => exact .inl ⟨_, _, rfl, .inl (SqL.of (rel.s _ _ hS)), by rw [hA.len]; exact k _ L H (Stp.refl rel) rel (.int _)⟩
  | [.tuple ds], hz =>
    cases hz
    cases hvs with
    | cons hv ht =>
      cases ht
      cases hv with
      | tup hS hA => exact .inl ⟨_, _, rfl, .inr (SqT.of (rel.s _ _ hS)), by rw [hA.len]; exact k _ L H (Stp.refl rel) rel (.int _)⟩
  | [.str x], hz =>
    obtain ⟨hs, rfl⟩ := if_some hz
    cases hvs with
    | cons hv ht =>
      cases ht
      cases hv
      exact .inr ⟨x, rfl, small_le hs, k _ L H (Stp.refl rel) rel (.int _)⟩
theorem de_len {e : Expr} {f : List Sl → Mo PD} {p pos : Pos} (hm : c.X.mg "len" = none) (h : DE c e f) (hg : Gl c.X "len" := by rfl) (hs : starEach [e] c.X.env = (false, eval e c.X.env) :: starEach [] c.X.env := by rfl) (hpl : (backTo pos (starEach [] c.X.env)).any (·.1) = false := by rfl) :
    DE c (.Call (.Name "len" p) [e] [] pos) (eCall lenD (aCons f aNil)) := de_callB call_lenA calls_len hm PySem.boot_len (da_cons h da_nil hs) hg (by decide) (by decide) hs hpl
def sumD : List PD → Option PD
  | [.list ds] => (intsD ds).map fun ns => .int ns.sum
  | _ => none
theorem calls_sum : CallS c (rSum c.X.K) sumD := fun L g H vs ds z Q rel hvs hz k => by
  match ds, hz with
  | [.list ds], hz =>
    obtain ⟨ns, hn, rfl⟩ := Option.map_eq_some_iff.mp hz
    cases intsD_some hn
    cases hvs with
    | cons hv ht =>
      cases ht
      cases hv with
      | lst hS hA =>
        rw [hA.ints] at hS
        exact ⟨_, ns, rfl, SqL.of (rel.s _ _ hS), k _ L H (Stp.refl rel) rel (.int _)⟩
def mm2D (lt : Bool) : List PD → Option PD
  | [.int i, .int j] => some (.int (if (if lt then decide (j < i) else decide (j > i)) = true then j else i))
  | _ => none
theorem calls_min2 : CallS c (fun xs H Q => ∃ i j, xs = [.int i, .int j] ∧ Q (.int (if j < i then j else i)) H) (mm2D true) := fun L g H vs ds z Q rel hvs hz k => by
  match ds, hz with
  | [.int i, .int j], hz =>
    cases hz
    cases hvs with
    | cons hv ht =>
      cases ht with
      | cons hv2 ht =>
        cases ht
        cases hv
        cases hv2
        refine ⟨i, j, rfl, ?_⟩
        have e : (if j < i then j else i) = (if (if true = true then decide (j < i) else decide (j > i)) = true then j else i) := by simp
        rw [e]
        exact k _ L H (Stp.refl rel) rel (.int _)
theorem calls_max2 : CallS c (fun xs H Q => ∃ i j, xs = [.int i, .int j] ∧ Q (.int (if j > i then j else i)) H) (mm2D false) := fun L g H vs ds z Q rel hvs hz k => by
  match ds, hz with
  | [.int i, .int j], hz =>
    cases hz
    cases hvs with
    | cons hv ht =>
      cases ht with
      | cons hv2 ht =>
        cases ht
        cases hv
        cases hv2
        refine ⟨i, j, rfl, ?_⟩
        have e : (if j > i then j else i) = (if (if false = true then decide (j < i) else decide (j > i)) = true then j else i) := by simp
        rw [e]
        exact k _ L H (Stp.refl rel) rel (.int _)
/-! isinstance(e, T), T a built-in type -/
def tyD : PD → Option String
  | .none => some "NoneType"
  | .bool _ => some "bool"
  | .int _ => some "int"
  | .str _ => some "str"
  | .list _ => some "list"
  | .tuple _ => some "tuple"
  | .dict _ => none
def isiT (T : String) : List (String × Bool) := if T = "int" then [("NoneType", false), ("bool", true), ("int", true), ("str", false), ("list", false), ("tuple", false)]
  else if T = "bool" then [("NoneType", false), ("bool", true), ("int", false), ("str", false), ("list", false), ("tuple", false)]
  else if T = "tuple" then [("NoneType", false), ("bool", false), ("int", false), ("str", false), ("list", false), ("tuple", true)]
  else if T = "str" then [("NoneType", false), ("bool", false), ("int", false), ("str", true), ("list", false), ("tuple", false)]
  else if T = "list" then [("NoneType", false), ("bool", false), ("int", false), ("str", false), ("list", true), ("tuple", false)] else []
inductive IsiT where
  | int | bool | tuple | str | list
def IsiT.name : IsiT → String
  | .int => "int"
  | .bool => "bool"
  | .tuple => "tuple"
  | .str => "str"
  | .list => "list"
def isiD : IsiT → PD → Option Bool
  | .int, .int _ => some true
  | .int, .bool _ => some true
  | .bool, .bool _ => some true
  | .tuple, .tuple _ => some true
  | .str, .str _ => some true
  | .list, .list _ => some true
  | _, .dict _ => none
  | _, _ => some false
theorem dq_ty {K : PySem.W.Frag} {H : Hp} {v : V} {d : PD} (h : Dq H v d) : ∃ t, tyD d = some t ∧ TyX K H v (.type t) := by
  cases h with
  | non => exact ⟨_, rfl, .base .non⟩
  | bl b => exact ⟨_, rfl, .base (.bl b)⟩
  | int i => exact ⟨_, rfl, .base (.int i)⟩
  | str x => exact ⟨_, rfl, .base (.str x)⟩
  | lst hS hA => exact ⟨_, rfl, .base (.lst hS)⟩
  | tup hS hA => exact ⟨_, rfl, .base (.tup hS)⟩
theorem isi_kit {T : IsiT} {d : PD} {b : Bool} {t : String} (h : isiD T d = some b) (ht : tyD d = some t) : kitB t T.name = some b := by
  cases T <;> cases d <;> cases h <;> cases ht <;> decide +kernel
def eIsi (T : IsiT) (f : List Sl → Mo PD) : List Sl → Mo PD := fun Γ => bnd (f Γ) fun d => lift ((isiD T d).map PyData.bool)
theorem de_isi (T : IsiT) {x : Str} {e : Expr} {f : List Sl → Mo PD} {p p2 pos : Pos} (hm : c.X.mg "isinstance" = none) (hmT : c.X.mg x = none) (hv : bootBuiltins x = some (.type T.name)) (h : DE c e f) (hg : Gl c.X "isinstance" := by rfl) (hgT : Gl c.X x := by rfl)
    (hn : x ≠ "__name__" := by decide) (hdb : (x == ("__debug__" : Str)) = false := by decide)
    (hs : starEach [e, .Name x p2] c.X.env = (false, eval e c.X.env) :: starEach [.Name x p2] c.X.env := by rfl) (hs2 : starEach [.Name x p2] c.X.env = (false, eval (.Name x p2) c.X.env) :: starEach [] c.X.env := by rfl) (hpl : (backTo pos (starEach [.Name x p2] c.X.env)).any (·.1) = false := by rfl) :
    DE c (.Call (.Name "isinstance" p) [e, .Name x p2] [] pos) (eIsi T f) :=
  PE.imp (pe_callB call_isi hg hm PyProof.Rows.boot_isinstance (pa_cons h (pa_cons (pe_bltn (v := .ty T.name) hgT hmT hv rfl hn hdb) pa_nil hs2) hs) (by decide) (by decide) hs hpl) fun σ H Q q => by
    obtain ⟨L0, H0, L, g, Γ, fr, po⟩ := q
    have po := Post.bind po
    refine ⟨L0, H0, L, g, Γ, fr, po.mono fun d g1 L1 H1 st1 rel1 po1 v hv => ?_⟩
    obtain ⟨z, hz, po1⟩ := po1.lift rel1
    obtain ⟨b, hb, rfl⟩ := Option.map_eq_some_iff.mp hz
    obtain ⟨t, ht, ty⟩ := dq_ty (K := c.X.K) (hv.mono rel1.s)
    exact ⟨v, .ty T.name, .type t, .type T.name, b, rfl, .ty _, ty, kit_ty (isi_kit hb ht), po1 L1 H1 (Stp.refl rel1) rel1 _ (.bl b)⟩
/-! ### the script and the town -/
def isO (n : Nat) (o : Option Sl) : Option Unit := match o with
  | some (.obj i) => if Nat.beq i n = true then some () else none
  | _ => none
theorem isO_some {n : Nat} {o : Option Sl} {u : Unit} (h : isO n o = some u) : o = some (.obj n) := by
  unfold isO at h
  split at h
  · rename_i i
    split at h
    · rename_i e; rw [Nat.eq_of_beq_eq_true e]
    · cases h
  · cases h
theorem FR.obj {p : Pm} {L0 L : Lay} {H0 H : Hp} {g : G} {Γ : List Sl} {σ : St} {i n : Nat} (fr : FR p L0 H0 L g Γ σ H) (h : Γ[i]? = some (.obj n)) : ∃ a, σ[i]? = some (some (.ref a)) ∧ L.oa[n]? = some a := by
  have hlt : i < σ.length := by rw [← fr.len]; exact (List.getElem?_eq_some_iff.mp h).1
  obtain ⟨a, e, ha⟩ := fr.sl i _ _ h (List.getElem?_eq_getElem hlt)
  exact ⟨a, by rw [List.getElem?_eq_getElem hlt, e], ha⟩
theorem Rel.scr {p : Pm} {L : Lay} {g : G} {H : Hp} {a : Addr} (rel : Rel p L g H) (h : L.oa[1]? = some a) : SqL p.K H a (g.ns.map V.int) := by
  obtain ⟨b, hb, hq⟩ := rel.gi.scr
  rw [h] at hb
  cases hb
  rcases hq with ⟨o, hq⟩ | hq
  · exact .inl (.inr ⟨o, rel.m _ _ hq⟩)
  · exact .inr hq
/-- len(script) -/
def eScrLen (i : Nat) : List Sl → Mo PD := fun Γ => bnd (lift (isO 1 Γ[i]?)) fun _ g => .ok (.int (g.ns.length : Nat)) g
theorem de_scrLen (i : Nat) {x : Str} {p p2 pos : Pos} (ok : c.Ok k) (hm : c.X.mg "len" = none) (hN : c.X.N[i]? = some x := by rfl) (hv : Vis c.X.env.scope x := by first | exact Or.inl rfl | exact Or.inr (Or.inl rfl) | exact Or.inr (Or.inr rfl)) (hg : Gl c.X "len" := by rfl)
    (hd : (x == ("__debug__" : Str)) = false := by decide) (hcd : (x == ("__classdict__" : Str)) = false := by decide) : DE c (.Call (.Name "len" p) [.Name x p2] [] pos) (eScrLen i) :=
  PE.imp (pe_callB call_len_seq hg hm PySem.boot_len (pa_cons (pe_var hN hv hd hcd) pa_nil)) fun σ H Q q => by
    obtain ⟨L0, H0, L, g, Γ, fr, po⟩ := q
    obtain ⟨_, ho, po⟩ := Post.lift (Post.bind po) fr.rel
    have po := po L H (Stp.refl fr.rel) fr.rel
    obtain ⟨a, e, ha⟩ := fr.obj (isO_some ho)
    refine ⟨_, e, a, _, rfl, .inl (by rw [← ok.K]; exact fr.rel.scr ha), ?_⟩
    rw [List.length_map]
    exact po L H (Stp.refl fr.rel) fr.rel _ (.int _)
/-- script[e] -/
def atS (g : G) : PD → Option PD
  | .int i => (atI g.ns i).map PyData.int
  | _ => none
def eScrIx (i : Nat) (f : List Sl → Mo PD) : List Sl → Mo PD := fun Γ => bnd (lift (isO 1 Γ[i]?)) fun _ => bnd (f Γ) fun d g => lift (atS g d) g
theorem atI_map {α β : Type} {h : α → β} {xs : List α} {i : Int} {x : α} (e : atI xs i = some x) : atI (xs.map h) i = some (h x) := by
  unfold L2.atI at e ⊢
  obtain ⟨j, hj, e⟩ := Option.bind_eq_some_iff.mp e
  rw [List.length_map, hj]
  show (xs.map h)[j]? = some (h x)
  rw [List.getElem?_map, e]
  rfl
theorem de_scrIx (i : Nat) {x : Str} {e : Expr} {f : List Sl → Mo PD} {p2 pos : Pos} (ok : c.Ok k) (he : DE c e f) (hN : c.X.N[i]? = some x := by rfl) (hv : Vis c.X.env.scope x := by first | exact Or.inl rfl | exact Or.inr (Or.inl rfl) | exact Or.inr (Or.inr rfl)) (hs : PlainIx e := by exact fun _ _ => rfl)
    (hd : (x == ("__debug__" : Str)) = false := by decide) (hcd : (x == ("__classdict__" : Str)) = false := by decide) : DE c (.Subscript (.Name x p2) e pos) (eScrIx i f) :=
  PE.imp (pe_ix ix_list (pe_var hN hv hd hcd) he hs) fun σ H Q q => by
    obtain ⟨L0, H0, L, g, Γ, fr, po⟩ := q
    obtain ⟨_, ho, po⟩ := Post.lift (Post.bind po) fr.rel
    have po := Post.bind (po L H (Stp.refl fr.rel) fr.rel)
    obtain ⟨a, e, ha⟩ := fr.obj (isO_some ho)
    refine ⟨_, e, L0, H0, L, g, Γ, fr, po.mono fun d g1 L1 H1 st1 rel1 po1 v hv => ?_⟩
    obtain ⟨z, hz, po1⟩ := Post.lift po1 rel1
    cases hv with
    | int i =>
      obtain ⟨n, hn, rfl⟩ := Option.map_eq_some_iff.mp hz
      exact ⟨a, _, i, _, rfl, rfl, by rw [← ok.K]; exact rel1.scr (prefix_get st1.oa ha), atI_map hn, po1 L1 H1 (Stp.refl rel1) rel1 _ (.int n)⟩
    | non => cases hz
    | bl _ => cases hz
    | str _ => cases hz
    | lst _ _ => cases hz
    | tup _ _ => cases hz
/-- script == [] -/
def eScrNil (i : Nat) : List Sl → Mo Bool := fun Γ => bnd (lift (isO 1 Γ[i]?)) fun _ g => .ok g.ns.isEmpty g
theorem dpAll_ints {K : PySem.W.Frag} {H : Hp} : ∀ ns : List Int, DpAll K H (ns.map V.int) (ns.map PyData.int)
  | [] => .nil
  | n :: r => .cons (.int n) (dpAll_ints r)
theorem lay_ints : ∀ ns : List Int, PyData.canLayAll0 (ns.map PyData.int) = true
  | [] => by simp [PyData.canLayAll0]
  | n :: r => by simp [PyData.canLayAll0, PyData.canLay0, lay_ints r]
theorem depth_ints : ∀ ns : List Int, PyData.depthAll (ns.map PyData.int) = 0
  | [] => by simp [PyData.depthAll]
  | n :: r => by simp [PyData.depthAll, PyData.depth, depth_ints r]
theorem shaped_lints (ns : List Int) : SeqAt.shaped (.list (ns.map PyData.int)) = true := by
  show (PyData.canLay0 (.list (ns.map PyData.int)) && decide (PyData.depth (.list (ns.map PyData.int)) ≤ 64)) = true
  simp [PyData.canLay0, PyData.depth, lay_ints, depth_ints]
theorem shaped_tints (ns : List Int) : SeqAt.shaped (.tuple (ns.map PyData.int)) = true := by
  show (PyData.canLay0 (.tuple (ns.map PyData.int)) && decide (PyData.depth (.tuple (ns.map PyData.int)) ≤ 64)) = true
  simp [PyData.canLay0, PyData.depth, lay_ints, depth_ints]
theorem dt_scrNil (i : Nat) {x : Str} {p2 p3 pos : Pos} (ok : c.Ok k) (hN : c.X.N[i]? = some x := by rfl) (hv : Vis c.X.env.scope x := by first | exact Or.inl rfl | exact Or.inr (Or.inl rfl) | exact Or.inr (Or.inr rfl))
    (hd : (x == ("__debug__" : Str)) = false := by decide) (hcd : (x == ("__classdict__" : Str)) = false := by decide) : DT c (.Compare (.Name x p2) [.Eq] [.List [] p3] pos) (eScrNil i) :=
  PT.imp (pt_cmpR (op_eqD ok.rm.units) (pe_var hN hv hd hcd) (pe_lst pa_nil) (nomark _)) fun σ H Q q => by
    obtain ⟨L0, H0, L, g, Γ, fr, po⟩ := q
    obtain ⟨_, ho, po⟩ := Post.lift (Post.bind po) fr.rel
    have po := po L H (Stp.refl fr.rel) fr.rel
    obtain ⟨a, e, ha⟩ := fr.obj (isO_some ho)
    refine ⟨_, e, Nat.zero_le _, fun q hq => ?_⟩
    have rel' := fr.rel.new (o := .lst []) hq
    have st' := Stp.new fr.rel (o := .lst []) hq
    refine ⟨.list (g.ns.map PyData.int), .list [], .lst (by rw [← ok.K]; exact rel'.scr (prefix_get st'.oa ha)) (dpAll_ints _), .lst (SqL.of upd_same) .nil, shaped_lints _, by decide +kernel, _, rfl, ?_⟩
    have e2 : PyData.eqv (.list (g.ns.map PyData.int)) (.list []) = g.ns.isEmpty := by
      cases g.ns with
      | nil => simp [PyData.eqv, PyData.eqvAll]
      | cons n r => simp [PyData.eqv, PyData.eqvAll]
    rw [e2]
    exact po _ _ st' rel'
/-! the town -/
theorem Rel.town {p : Pm} {L : Lay} {g : G} {H : Hp} {a : Addr} (rel : Rel p L g H) (h : L.oa[0]? = some a) : L.M a = some (.lst (List.replicate g.n (V.int 0))) := by
  obtain ⟨b, hb, hq⟩ := rel.gi.town
  rw [h] at hb
  cases hb
  exact hq
/-- len(town) -/
def eTownLen (i : Nat) : List Sl → Mo PD := fun Γ => bnd (lift (isO 0 Γ[i]?)) fun _ g => .ok (.int (g.n : Nat)) g
theorem de_townLen (i : Nat) {x : Str} {p p2 pos : Pos} (ok : c.Ok k) (hm : c.X.mg "len" = none) (hN : c.X.N[i]? = some x := by rfl) (hv : Vis c.X.env.scope x := by first | exact Or.inl rfl | exact Or.inr (Or.inl rfl) | exact Or.inr (Or.inr rfl)) (hg : Gl c.X "len" := by rfl)
    (hd : (x == ("__debug__" : Str)) = false := by decide) (hcd : (x == ("__classdict__" : Str)) = false := by decide) : DE c (.Call (.Name "len" p) [.Name x p2] [] pos) (eTownLen i) :=
  PE.imp (pe_callB call_len_seq hg hm PySem.boot_len (pa_cons (pe_var hN hv hd hcd) pa_nil)) fun σ H Q q => by
    obtain ⟨L0, H0, L, g, Γ, fr, po⟩ := q
    obtain ⟨_, ho, po⟩ := Post.lift (Post.bind po) fr.rel
    have po := po L H (Stp.refl fr.rel) fr.rel
    obtain ⟨a, e, ha⟩ := fr.obj (isO_some ho)
    refine ⟨_, e, a, _, rfl, .inl (SqL.of (fr.rel.m _ _ (fr.rel.town ha))), ?_⟩
    rw [List.length_replicate]
    exact po L H (Stp.refl fr.rel) fr.rel _ (.int _)
/-- town.append(0) -/
def sTown (i : Nat) : List Sl → Mo Fl := fun Γ => bnd (lift (isO 0 Γ[i]?)) fun _ g => if small g.n = true then .ok (.next Γ) { g with n := g.n + 1 } else .bad
theorem Rel.townUp {p : Pm} {L : Lay} {g : G} {H : Hp} {a : Addr} (rel : Rel p L g H) (h : L.oa[0]? = some a) :
    Stp L H { L with M := upd L.M a (.lst (List.replicate g.n (V.int 0) ++ [V.int 0])) } (upd H a (.lst (List.replicate g.n (V.int 0) ++ [V.int 0]))) ∧ Rel p { L with M := upd L.M a (.lst (List.replicate g.n (V.int 0) ++ [V.int 0])) } { g with n := g.n + 1 } (upd H a (.lst (List.replicate g.n (V.int 0) ++ [V.int 0]))) := by
  have hM := rel.town h
  have hS : L.S a = none := by
    refine opt_none fun q => ?_
    rw [rel.sm a q] at hM
    cases hM
  have hMne : L.M a ≠ none := by rw [hM]; exact fun z => nomatch z
  refine ⟨⟨Same.refl _, List.prefix_refl _, fun b o hb e => ?_, fun b hb => .inl hb, fun b hb => ?_, fun b hb => ?_⟩, ⟨fun b o e => ?_, fun b o e => ?_, fun b hb => ?_, ⟨rel.gi.len, rel.gi.nd, ⟨a, h, ?_⟩, ?_, fun i w b hw hb => ?_⟩⟩⟩
  · have : b ≠ a := fun z => by subst z; exact hMne hb
    rw [upd_ne this]; exact e
  · have hb' : upd L.M a (.lst (List.replicate g.n (V.int 0) ++ [V.int 0])) b ≠ none := hb
    by_cases z : b = a
    · subst z; exact .inl hMne
    · rw [upd_ne z] at hb'; exact .inl hb'
  · by_cases z : b = a
    · subst z; rw [upd_same]; exact fun z => nomatch z
    · rw [upd_ne z]; exact rel.mh hb
  · have : b ≠ a := fun z => by subst z; have e' : L.S b = some o := e; rw [hS] at e'; cases e'
    rw [upd_ne this]; exact rel.s b o e
  · have e' : upd L.M a (.lst (List.replicate g.n (V.int 0) ++ [V.int 0])) b = some o := e
    by_cases z : b = a
    · subst z; rw [upd_same] at e' ⊢; exact e'
    · rw [upd_ne z] at e' ⊢; exact rel.m b o e'
  · show upd L.M a _ b = none
    have z : b ≠ a := fun z => by subst z; exact hb hS
    rw [upd_ne z]; exact rel.sm b hb
  · show upd L.M a _ a = _
    rw [upd_same, List.replicate_succ', ]
  · obtain ⟨b, hb, hq⟩ := rel.gi.scr
    refine ⟨b, hb, ?_⟩
    show ScrAt p.K (upd L.M a _) b _
    rcases hq with ⟨o, hq⟩ | hq
    · have z : b ≠ a := fun z => by
        subst z
        rw [hM] at hq
        cases hq
      exact .inl ⟨o, by rw [upd_ne z]; exact hq⟩
    · exact .inr hq
  · obtain ⟨dx, v, h1, h2, h3⟩ := rel.gi.wk i w b hw hb
    have z1 : b ≠ a := fun z => by subst z; rw [hM] at h1; cases h1
    have z2 : dx ≠ a := fun z => by subst z; rw [hM] at h2; cases h2
    exact ⟨dx, v, by show upd L.M a _ b = _; rw [upd_ne z1]; exact h1, by show upd L.M a _ dx = _; rw [upd_ne z2]; exact h2, h3⟩
theorem ds_town (i : Nat) {x : Str} {j : Nat} {p1 p2 p3 p4 p5 : Pos} (hN : c.X.N[i]? = some x := by rfl) (hv : Vis c.X.env.scope x := by first | exact Or.inl rfl | exact Or.inr (Or.inl rfl) | exact Or.inr (Or.inr rfl))
    (hd : (x == ("__debug__" : Str)) = false := by decide) (hcd : (x == ("__classdict__" : Str)) = false := by decide) (hline : (p2.endLine == p4.line) = true := by rfl) : DS c (.Expr (.Call (.Attribute (.Name x p1) "append" p2) [.Constant (.int 0) j p3] [] p4) p5) (sTown i) :=
  PS.imp (ps_expr (pe_bm PySem.F.plainAttrs_list PySem.F.slot_list_append PySem.F.type_list_append mt_append (pe_var hN hv hd hcd) (pa_cons pe_int pa_nil) (hline := hline))) fun D σ H q => by
    obtain ⟨L0, H0, L, g, Γ, fr, po⟩ := q
    obtain ⟨_, ho, po⟩ := Post.lift (PostS.bind fr po) fr.rel
    have po : PostS c.p c.W L0 H0 L D (if small g.n = true then Res.ok (Fl.next Γ) { g with n := g.n + 1 } else Res.bad) := po L H (Stp.refl fr.rel) fr.rel
    obtain ⟨a, e, ha⟩ := fr.obj (isO_some ho)
    have hM := fr.rel.m _ _ (fr.rel.town ha)
    cases hs : small g.n with
    | false => rw [hs] at po; exact po.elim
    | true =>
      rw [hs, if_pos rfl] at po
      refine ⟨_, e, .inl ⟨rfl, _, .inl (.inl hM)⟩, a, _, _, rfl, rfl, hM, by rw [List.length_replicate]; exact small_lt hs, ?_⟩
      obtain ⟨st, rel'⟩ := fr.rel.townUp ha
      exact po _ σ _ (fr.step st rel') (Same.refl _)
end
end Av

namespace Av
open PySem PySem.Spec L2
open PyProof.Rows hiding St
set_option autoImplicit false
/-! ### the end: the law's own def, which begins with town = [] -/
def spLaw (K : PySem.W.Frag) : Sp := fun vs H Q _ => ∃ (a : Addr) (ns : List Int), vs = [.ref a] ∧ SqL K H a (ns.map V.int) ∧ Only H ∧ ns.length ≤ 63 ∧ ∀ H', Q (.bl true) H'
def Γ0 (n it : Nat) : List Sl := (Sl.obj 1 :: List.replicate (n - 1) Sl.dead).set it (.obj 0)
theorem law_of {P : Program} {w : World} {K : PySem.W.Frag} {mg : Str → Option Value} {base : Heap} {st : Stmt} {f : Addr} {fd : FuncData} {N : List Str} {k : Nat} {p : Pm} {m : List Sl → Mo Fl} {it : Nat} {x : Str} {p1 p2 p3 : Pos} {rest : List Stmt}
    (F : Fun K "law" "law" st f fd) (S : FnScope N ["script"] (defScope st)) (hK : p.K = K) (hbody : defBody st = .Assign [.Name x p1] (.List [] p2) p3 :: rest) (hit : N[it]? = some x) (h0 : it ≠ 0) (hloc : Loc (defScope st) x)
    (hsw : ∀ env, swapsWith (.List [] p2) (some (.Name x p1)) p3.line env = pure false)
    (hb : ∀ (cdv : Value) (A : Around) (outer : List Env) (s : Shared) (H : Hp) (E : XK), Room k (A.deeper (envOfC "law" (defScope st) s.heap.objs.size f cdv)) →
      DSs ⟨cxOf (L2.CX P w) P w K mg base N "law" (defScope st) f cdv A outer s H E, p, fun cls d _ H' => E cls d H'⟩ rest m)
    (hm : ∀ ns : List Int, ns.length ≤ 63 → ∃ g', m (Γ0 N.length it) ⟨ns, 0, []⟩ = .ok (.ret (.bool true)) g') :
    FnOk P w K mg base (L2.CX P w) (k + 1) f fd ["script"] (spLaw K) := by
  refine F.okX S (fun vs H Q E h => ?_) fun cdv A outer s H vs Q E hr h => ⟨tSeq (tAsg (tLst tNil) (gName it)) (tS p (fun cls d _ H' => E cls d H') m), ?_, ?_⟩
  · obtain ⟨a, ns, rfl, _⟩ := h
    rfl
  · rw [hbody]
    exact pss_cons (ps_set (i := it) S.nd hit hloc (pe_lst pa_nil) (hsw _) (.inl rfl)) (hb cdv A outer s H E hr)
  · obtain ⟨a, ns, rfl, hS, hO, hlen, k⟩ := h
    refine ⟨Nat.zero_le _, fun q hq => ?_⟩
    have hN : it < N.length := (List.getElem?_eq_some_iff.mp hit).1
    obtain ⟨g', hg⟩ := hm ns hlen
    have hscr : ScrAt p.K (upd H q (.lst [])) a ns := by
      rw [hK]
      rcases hS with (hS | ⟨o, hS⟩) | hS
      · rcases hO a with z | ⟨o, xs, z⟩
        · rw [hS] at z; cases z
        · rw [hS] at z; cases z
      · exact .inl ⟨o, by rw [upd_ne (ne_of_none hS hq)]; exact hS⟩
      · exact .inr hS
    have rel : Rel p ⟨fun _ => none, upd H q (.lst []), [q, a]⟩ ⟨ns, 0, []⟩ (upd H q (.lst [])) :=
      ⟨(fun b o e => nomatch e), Same.refl _, fun b hb => absurd rfl hb, ⟨rfl, List.nodup_nil, ⟨q, rfl, upd_same⟩, ⟨a, rfl, hscr⟩, fun i w b hw => by simp at hw⟩⟩
    refine ⟨_, upd H q (.lst []), ⟨fun _ => none, upd H q (.lst []), [q, a]⟩, ⟨ns, 0, []⟩, Γ0 N.length it, ⟨rel, Stp.refl rel, ?_, fun i s o h1 h2 => ?_, fun i j ds es b hij h1 h2 => ?_⟩, ?_⟩
    · unfold Γ0 L2.start
      rw [List.length_set, List.length_set, List.length_cons, List.length_replicate, List.length_append, List.length_map, List.length_replicate]
      show N.length - 1 + 1 = 1 + (N.length - 1)
      omega
    · unfold Γ0 at h1
      by_cases hi : it = i
      · subst hi
        have hl : it < (Sl.obj 1 :: List.replicate (N.length - 1) Sl.dead).length := by rw [List.length_cons, List.length_replicate]; omega
        rw [List.getElem?_set_self hl] at h1
        cases h1
        have hl2 : it < (L2.start N [V.ref a]).length := by
          unfold L2.start
          rw [List.length_append, List.length_map, List.length_replicate]
          show it < 1 + (N.length - 1)
          omega
        rw [List.getElem?_set_self hl2] at h2
        cases h2
        exact ⟨q, rfl, rfl⟩
      · rw [List.getElem?_set_ne hi] at h1 h2
        cases i with
        | zero =>
          simp at h1
          subst h1
          unfold L2.start at h2
          simp at h2
          subst h2
          exact ⟨a, rfl, rfl⟩
        | succ i =>
          rw [List.getElem?_cons_succ, List.getElem?_replicate] at h1
          split at h1
          · cases h1; trivial
          · cases h1
    · exfalso
      unfold Γ0 at h1
      rw [List.getElem?_set] at h1
      split at h1
      · split at h1
        · cases h1
        · cases h1
      · cases i with
        | zero => simp at h1
        | succ i =>
          rw [List.getElem?_cons_succ, List.getElem?_replicate] at h1
          split at h1
          · cases h1
          · cases h1
    · show PostS _ _ _ _ _ _ (m (Γ0 N.length it) ⟨ns, 0, []⟩)
      rw [hg]
      intro v L' H' _ _ hv
      cases hv
      exact k H'
/-- -e of ints -/
def negD : PD → Option PD
  | .int i => some (.int (-i))
  | _ => none
def eUn (h : PD → Option PD) (f : List Sl → Mo PD) : List Sl → Mo PD := fun Γ => bnd (f Γ) fun d => lift (h d)
theorem de_neg {c : Ct} {e : Expr} {f : List Sl → Mo PD} {pos : Pos} (he : DE c e f) : DE c (.UnaryOp .USub e pos) (eUn negD f) :=
  PE.imp (pe_un un_neg he) fun σ H Q q => by
    obtain ⟨L0, H0, L, g, Γ, fr, po⟩ := q
    have po := Post.bind po
    refine ⟨L0, H0, L, g, Γ, fr, po.mono fun d g1 L1 H1 st1 rel1 po1 v hv => ?_⟩
    obtain ⟨z, hz, po1⟩ := po1.lift rel1
    cases hv with
    | int i => cases hz; exact ⟨i, rfl, po1 L1 H1 (Stp.refl rel1) rel1 _ (.int _)⟩
    | non => cases hz
    | bl _ => cases hz
    | str _ => cases hz
    | lst _ _ => cases hz
    | tup _ _ => cases hz
def ipAdd : PD → PD → Option PD := int2 fun i j => some (.int (i + j))
theorem ips_I {f : Int → Int → Int} : ipS (ipI f) (int2 fun i j => some (.int (f i j))) := fun S x y d e z H Q hx hy hz k => by
  obtain ⟨i, j, rfl, rfl, hz⟩ := int2_some hz
  cases hz
  cases hx
  cases hy
  exact ⟨i, j, rfl, rfl, k _ fun _ => .int _⟩
end Av

namespace Av
open PySem PySem.Spec L2
open PyProof.Rows hiding St
set_option autoImplicit false
/-! ### the draws of a law -/
def m__law_cell_at : List Sl → Mo Fl :=
  (sSeq (sIf (eTest (eBin ltD (eVar 1) (eScrLen 0))) (sRet (eScrIx 0 (eVar 1))) sNext)
    (sSeq (sIf (eScrNil 0) (sRet (eC (.int 0))) sNext)
    (sSeq (sAsg 2 (eScrIx 0 (eBin modD (eVar 1) (eScrLen 0))))
    (sSeq (sFor (iVia rng1 (aCons (eCall (mm2D true) (aCons (eBin fdivD (eVar 1) (eScrLen 0)) (aCons (eC (.int 60)) aNil))) aNil)) (.one 3) (sAsg 2 (eBin fdivD (eVar 2) (eC (.int 1000003)))))
    (sRet (eBin addD (eBin addD (eBin mulD (eScrIx 0 (eBin modD (eVar 1) (eScrLen 0))) (eC (.int 31))) (eVar 1)) (eBin mulD (eVar 2) (eC (.int 101)))))))))
def F__law_cell_at : List Sl → Mo PD := runB 2 4 m__law_cell_at
def m__law_mixed : List Sl → Mo Fl :=
  (sSeq (sAsg 3 (eBin modD (eBin addD (eBin addD (eBin mulD (eCallF F__law_cell_at (sObj 0 (sCons (eVar 1) sNil))) (eC (.int 1103515245))) (eBin mulD (eC (.int 7919)) (eVar 1))) (eC (.int 12345))) (eC (.int 2147483647))))
    (sRet (eBin modD (eBin modD (eBin modD (eBin powD (eVar 3) (eC (.int 5))) (eC (.int 2147483647))) (eC (.int 999983))) (eVar 2))))
def F__law_mixed : List Sl → Mo PD := runB 3 4 m__law_mixed
def m__law_draw : List Sl → Mo Fl :=
  (sSeq (sTown 1)
    (sRet (eCallF F__law_mixed (sObj 0 (sCons (eTownLen 1) (sCons (eVar 2) sNil))))))
def F__law_draw : List Sl → Mo PD := runB 3 3 m__law_draw

theorem shrink (o x : Sl) (g : G) : ∀ (n : Nat) (lo s : Int) (y : Sl), ∃ s' y', forL (.one 3) (sAsg 2 (eBin fdivD (eVar 2) (eC (.int 1000003)))) (rangeL lo n) [o, x, .val (.int s), y] g = .ok (.next [o, x, .val (.int s'), y']) g
  | 0, lo, s, y => ⟨s, y, rfl⟩
  | n + 1, lo, s, y => by
    obtain ⟨s', y', h⟩ := shrink o x g n (lo + 1) (s / 1000003) (.val (.int lo))
    exact ⟨s', y', h⟩
theorem atI_nonneg {α : Type} {xs : List α} {i : Int} (h0 : 0 ≤ i) (h1 : i < xs.length) : ∃ v, atI xs i = some v := by
  obtain ⟨j, rfl⟩ := Int.eq_ofNat_of_zero_le h0
  have hj : j < xs.length := by omega
  exact ⟨xs[j], atI_nat (List.getElem?_eq_getElem hj)⟩
theorem runB_eq {np n : Nat} {m : List Sl → Mo Fl} {as : List Sl} {g : G} (h : Nat.beq as.length np = true) : runB np n m as g = (m (as ++ List.replicate (n - as.length) .dead) g).bind fun r => match r with
  | .next _ => ret .none
  | .ret d => ret d := by
  unfold runB
  rw [if_pos h]
  rfl
theorem runB_ret {np n : Nat} {m : List Sl → Mo Fl} {as : List Sl} {g g' : G} {d : PD} (h : Nat.beq as.length np = true) (e : m (as ++ List.replicate (n - as.length) .dead) g = .ok (.ret d) g') : runB np n m as g = .ok d g' := by
  rw [runB_eq h, e]
  rfl
/-- one piece after another -/
theorem sSeq_next {f1 f2 : List Sl → Mo Fl} {Γ Γ' : List Sl} {g g' : G} (h : f1 Γ g = .ok (.next Γ') g') : sSeq f1 f2 Γ g = f2 Γ' g' := by
  unfold sSeq bnd
  rw [h]
  rfl
theorem sSeq_ret {f1 f2 : List Sl → Mo Fl} {Γ : List Sl} {g g' : G} {d : PD} (h : f1 Γ g = .ok (.ret d) g') : sSeq f1 f2 Γ g = .ok (.ret d) g' := by
  unfold sSeq bnd
  rw [h]
  rfl
theorem sIf_t {t : List Sl → Mo Bool} {f1 f2 : List Sl → Mo Fl} {Γ : List Sl} {g g' : G} (h : t Γ g = .ok true g') : sIf t f1 f2 Γ g = f1 Γ g' := by
  unfold sIf bnd
  rw [h]
  rfl
theorem sIf_f {t : List Sl → Mo Bool} {f1 f2 : List Sl → Mo Fl} {Γ : List Sl} {g g' : G} (h : t Γ g = .ok false g') : sIf t f1 f2 Γ g = f2 Γ g' := by
  unfold sIf bnd
  rw [h]
  rfl
theorem sRet_ok {f : List Sl → Mo PD} {Γ : List Sl} {g g' : G} {d : PD} (h : f Γ g = .ok d g') : sRet f Γ g = .ok (.ret d) g' := by
  unfold sRet bnd
  rw [h]
  rfl
theorem sAsg_ok {i : Nat} {f : List Sl → Mo PD} {Γ : List Sl} {g g' : G} {d : PD} (h : f Γ g = .ok d g') : sAsg i f Γ g = .ok (.next (Γ.set i (.val d))) g' := by
  unfold sAsg bnd
  rw [h]
  rfl
theorem sFor_eq {fi : List Sl → Mo (List PD)} {t : Tg} {fb : List Sl → Mo Fl} {Γ : List Sl} {g g' : G} {ds : List PD} (h : fi Γ g = .ok ds g') : sFor fi t fb Γ g = forL t fb ds Γ g' := by
  unfold sFor bnd
  rw [h]
  rfl
theorem eBin_ok {h : PD → PD → Option PD} {fa fb : List Sl → Mo PD} {Γ : List Sl} {g g1 g2 : G} {x y z : PD} (ha : fa Γ g = .ok x g1) (hb : fb Γ g1 = .ok y g2) (hz : h x y = some z) : eBin h fa fb Γ g = .ok z g2 := by
  unfold eBin bnd
  rw [ha]
  show (fb Γ g1).bind _ = _
  rw [hb]
  show lift (h x y) g2 = _
  rw [hz]
  rfl
theorem eTest_ok {f : List Sl → Mo PD} {Γ : List Sl} {g g' : G} {b : Bool} (h : f Γ g = .ok (.bool b) g') : eTest f Γ g = .ok b g' := by
  unfold eTest bnd
  rw [h]
  rfl
theorem cell_lt (ns : List Int) (n : Nat) (ws : List (List PD × Int)) (k : Nat) (h : (k : Int) < (ns.length : Int)) : ∃ v : Int, F__law_cell_at [.obj 1, .val (.int (k : Nat))] ⟨ns, n, ws⟩ = .ok (.int v) ⟨ns, n, ws⟩ := by
  obtain ⟨v, hv⟩ := atI_nonneg (xs := ns) (i := (k : Int)) (by omega) h
  refine ⟨v, runB_ret rfl (sSeq_ret ((sIf_t (eTest_ok (eBin_ok rfl rfl ?_))).trans (sRet_ok ?_)))⟩
  · exact congrArg (fun b => some (PyData.bool b)) (decide_eq_true h)
  · show lift ((atI ns (k : Int)).map PyData.int) ⟨ns, n, ws⟩ = _
    rw [hv]
    rfl
theorem cell_nil (n : Nat) (ws : List (List PD × Int)) (k : Nat) : F__law_cell_at [.obj 1, .val (.int (k : Nat))] ⟨[], n, ws⟩ = .ok (.int 0) ⟨[], n, ws⟩ := by
  refine runB_ret rfl ((sSeq_next (sIf_f (eTest_ok (eBin_ok rfl rfl ?_)))).trans (sSeq_ret rfl))
  exact congrArg (fun b => some (PyData.bool b)) (decide_eq_false (by show ¬ (k : Int) < ((0 : Nat) : Int); omega))
theorem cell_big (n0 : Int) (r : List Int) (n : Nat) (ws : List (List PD × Int)) (k : Nat) (hl : (n0 :: r).length ≤ 63) (h : ¬ (k : Int) < ((n0 :: r).length : Int)) : ∃ v : Int, F__law_cell_at [.obj 1, .val (.int (k : Nat))] ⟨n0 :: r, n, ws⟩ = .ok (.int v) ⟨n0 :: r, n, ws⟩ := by
  have hpos : (0 : Int) < ((n0 :: r).length : Int) := by rw [List.length_cons]; omega
  have hlt : ((n0 :: r).length : Int) < 1073741824 := by omega
  obtain ⟨v, hv⟩ := atI_nonneg (xs := n0 :: r) (i := (k : Int) % ((n0 :: r).length : Int)) (Int.emod_nonneg _ (by omega)) (Int.emod_lt_of_pos _ hpos)
  have hmod : modD (.int (k : Int)) (.int ((n0 :: r).length : Int)) = some (.int ((k : Int) % ((n0 :: r).length : Int))) := by
    show (if modB _ _ = true then _ else _) = _
    rw [if_pos (show modB _ _ = true from decide_eq_true hpos)]
  have hdiv : fdivD (.int (k : Int)) (.int ((n0 :: r).length : Int)) = some (.int ((k : Int) / ((n0 :: r).length : Int))) := by
    show (if fdivB _ _ = true then _ else _) = _
    rw [if_pos (by unfold fdivB; rw [decide_eq_true hpos, decide_eq_true hlt]; rfl)]
  have hd0 : 0 ≤ (k : Int) / ((n0 :: r).length : Int) := Int.ediv_nonneg (by omega) (by omega)
  have ix : ∀ Γ : List Sl, Γ[0]? = some (.obj 1) → Γ[1]? = some (.val (.int (k : Int))) → eScrIx 0 (eBin modD (eVar 1) (eScrLen 0)) Γ ⟨n0 :: r, n, ws⟩ = .ok (.int v) ⟨n0 :: r, n, ws⟩ := fun Γ h0 h1 => by
    unfold eScrIx bnd
    rw [h0]
    show ((eBin modD (eVar 1) (eScrLen 0) Γ ⟨n0 :: r, n, ws⟩).bind _) = _
    rw [eBin_ok (x := .int (k : Int)) (g1 := ⟨n0 :: r, n, ws⟩) (by unfold eVar; rw [h1]; rfl) (by unfold eScrLen bnd; rw [h0]; rfl) hmod]
    show lift ((atI (n0 :: r) ((k : Int) % ((n0 :: r).length : Int))).map PyData.int) _ = _
    rw [hv]
    rfl
  generalize hq : (k : Int) / ((n0 :: r).length : Int) = q at *
  generalize hmm : (if (if true = true then decide ((60 : Int) < q) else decide ((60 : Int) > q)) = true then (60 : Int) else q) = mm
  have hm0 : 0 ≤ mm ∧ mm ≤ 60 := by
    rw [← hmm, if_pos rfl]
    by_cases z : 60 < q
    · rw [if_pos (decide_eq_true z)]; omega
    · rw [if_neg (by rw [decide_eq_false z]; exact Bool.false_ne_true)]; omega
  obtain ⟨s', y', hs⟩ := shrink (.obj 1) (.val (.int (k : Nat))) ⟨n0 :: r, n, ws⟩ mm.toNat 0 v .dead
  refine ⟨v * 31 + k + s' * 101, runB_ret rfl ((sSeq_next (sIf_f (eTest_ok (eBin_ok rfl rfl ?_)))).trans ((sSeq_next (sIf_f rfl)).trans ((sSeq_next (sAsg_ok (ix _ rfl rfl))).trans ((sSeq_next ((sFor_eq (ds := rangeL 0 mm.toNat) ?_).trans hs)).trans (sRet_ok (eBin_ok (x := .int (v * 31 + k)) (y := .int (s' * 101)) (eBin_ok (x := .int (v * 31)) (y := .int k) (eBin_ok (ix _ rfl rfl) rfl ?_) rfl rfl) (eBin_ok (x := .int s') (y := .int 101) rfl rfl ?_) rfl))))))⟩
  · exact congrArg (fun b => some (PyData.bool b)) (decide_eq_false h)
  · have e1 : eBin fdivD (eVar 1) (eScrLen 0) [.obj 1, .val (.int (k : Nat)), .val (.int v), .dead] ⟨n0 :: r, n, ws⟩ = .ok (.int q) ⟨n0 :: r, n, ws⟩ := eBin_ok rfl rfl hdiv
    show ((eCall (mm2D true) (aCons (eBin fdivD (eVar 1) (eScrLen 0)) (aCons (eC (.int 60)) aNil)) [.obj 1, .val (.int (k : Nat)), .val (.int v), .dead] ⟨n0 :: r, n, ws⟩).bind _).bind _ = _
    have e2 : eCall (mm2D true) (aCons (eBin fdivD (eVar 1) (eScrLen 0)) (aCons (eC (.int 60)) aNil)) [.obj 1, .val (.int (k : Nat)), .val (.int v), .dead] ⟨n0 :: r, n, ws⟩ = .ok (.int mm) ⟨n0 :: r, n, ws⟩ := by
      unfold eCall aCons bnd
      rw [e1]
      show lift (some (PyData.int (if (if true = true then decide ((60 : Int) < q) else decide ((60 : Int) > q)) = true then (60 : Int) else q))) _ = _
      rw [hmm]
      rfl
    rw [e2]
    show lift (if rOk mm = true then some (rangeL 0 mm.toNat) else none) _ = _
    have : rOk mm = true := by simp [rOk]; omega
    rw [if_pos this]
    rfl
  · show (if mulB v 31 = true then _ else _) = _
    rw [if_pos (by simp [mulB])]
  · show (if mulB s' 101 = true then _ else _) = _
    rw [if_pos (by simp [mulB])]
theorem cell_ok (g : G) (k : Nat) (hk : k ≤ 100000) (hl : g.ns.length ≤ 63) : ∃ v : Int, F__law_cell_at [.obj 1, .val (.int (k : Nat))] g = .ok (.int v) g := by
  obtain ⟨ns, n, ws⟩ := g
  by_cases h : (k : Int) < (ns.length : Int)
  · exact cell_lt ns n ws k h
  · cases ns with
    | nil => exact ⟨0, cell_nil n ws k⟩
    | cons n0 r => exact cell_big n0 r n ws k hl h
theorem mixed_ok (g : G) (k : Nat) (many : Int) (hk : k ≤ 100000) (hl : g.ns.length ≤ 63) (hm : 0 < many) : ∃ v : Int, 0 ≤ v ∧ v < many ∧ F__law_mixed [.obj 1, .val (.int (k : Nat)), .val (.int many)] g = .ok (.int v) g := by
  obtain ⟨c, hc⟩ := cell_ok g k hk hl
  show ∃ v : Int, 0 ≤ v ∧ v < many ∧ ((m__law_mixed [.obj 1, .val (.int (k : Nat)), .val (.int many), .dead] g).bind _) = _
  unfold m__law_mixed
  generalize hs : (c * 1103515245 + 7919 * (k : Int) + 12345) % 2147483647 = spun
  have s0 : 0 ≤ spun := by rw [← hs]; exact Int.emod_nonneg _ (by decide)
  have s1 : spun < 2147483647 := by rw [← hs]; exact Int.emod_lt_of_pos _ (by decide)
  refine ⟨spun ^ 5 % 2147483647 % 999983 % many, Int.emod_nonneg _ (by omega), Int.emod_lt_of_pos _ hm, ?_⟩
  have hmulB : mulB c 1103515245 = true := by simp [mulB]
  have hmulB2 : mulB 7919 (k : Int) = true := by simp [mulB]
  have hp : powB spun 5 = true := by simp [powB]; omega
  simp [sSeq, sAsg, eBin, eCallF, sObj, getO, sCons, eVar, getV, sNil, bnd, lift, Res.bind, ret, hc, mulD, hmulB, hmulB2, eC, addD, modD, int2, modB, hs, sRet, powD, hp, hm]
/-- a draw: some number from 0 on below many -/
theorem draw_ok (g : G) (many : Int) (hk : g.n ≤ 99999) (hl : g.ns.length ≤ 63) (hm : 0 < many) : ∃ v : Int, 0 ≤ v ∧ v < many ∧ F__law_draw [.obj 1, .obj 0, .val (.int many)] g = .ok (.int v) { g with n := g.n + 1 } := by
  obtain ⟨v, h0, h1, hv⟩ := mixed_ok { g with n := g.n + 1 } (g.n + 1) many (by omega) hl hm
  refine ⟨v, h0, h1, ?_⟩
  show ((m__law_draw [.obj 1, .obj 0, .val (.int many)] g).bind _) = _
  unfold m__law_draw
  have hs : small g.n = true := Nat.ble_eq_true_of_le (by omega)
  have hv' : F__law_mixed [.obj 1, .val (.int ((g.n : Int) + 1)), .val (.int many)] { ns := g.ns, n := g.n + 1, ws := g.ws } = .ok (.int v) { ns := g.ns, n := g.n + 1, ws := g.ws } := hv
  simp [sSeq, sTown, isO, bnd, lift, Res.bind, hs, sRet, eCallF, sObj, getO, sCons, eTownLen, eVar, getV, sNil, ret, hv']
end Av
namespace Av
open PySem PySem.Spec L2
open PyProof.Rows hiding St
set_option autoImplicit false
/-! ### what the top has left -/
def FAt (K : PySem.W.Frag) (mg : Str → Option Value) (x : Str) (st : Stmt) : Prop := ∃ f fd, Fun K x x st f fd ∧ mg x = some (.ref f) ∧ PySem.W.keepIn K (.ref f) = true
theorem fat_mk {K : PySem.W.Frag} {h : Heap} {mg : Str → Option Value} {x : Str} {st : Stmt} {f : Addr} {oc : Value} {od an : Option Addr} {osl : Array (Option Value)} {kV doc pm cdv ct : Value} (X : K.In h) (G : h.Ns mainGlobals mg) (a : PySem.W.nsIn K mainGlobals x = some (some (.ref f)))
    (l : K.lookup f = some ⟨oc, od, .func (PySem.W.fnOf x x (defArgs st) (defBody st) (defScope st) .none kV doc pm an cdv ct), osl⟩) (c : PySem.W.codeIn K cdv x = true) (k : PySem.W.keepIn K (.ref f) = true) : FAt K mg x st :=
  ⟨f, _, fun_mk l c k, PySem.W.mg_of X G a, k⟩
theorem xc_mk {K : PySem.W.Frag} {h : Heap} {mg : Str → Option Value} {x : Str} {C : Addr} (X : K.In h) (G : h.Ns mainGlobals mg) (a : PySem.W.nsIn K mainGlobals x = some (some (.ref C)))
    (ex : PySem.W.excIn K C [.type "ValueError", .type "Exception", .type "BaseException", .type "object"] "ValueError.__new__" = true) (kp : PySem.W.keepIn K (.ref C) = true) (sb : PySem.W.subIn K (.ref C) (.type "BaseException") = some true) (ty : PySem.W.typeIn K (.ref C) = some (.type "type")) : ExC K mg x C :=
  ⟨ex, PySem.W.mg_of X G a, kp, sb, ty⟩
theorem gi_mk {K : PySem.W.Frag} {h : Heap} {mg : Str → Option Value} {x : Str} {i : Int} {t : Tok} (X : K.In h) (G : h.Ns mainGlobals mg) (a : PySem.W.nsIn K mainGlobals x = some (some (.int i t))) : ∃ t, mg x = some (.int i t) := ⟨t, PySem.W.mg_of X G a⟩
theorem walk_law {l : PySem.W.OpenLaw} {k : Nat} {q : Program} {loose : List Str} {XP : (Str → Option Value) → Heap → Prop} {YP : World → Heap → Prop} {d : DefRec} {K : Params → PySem.W.Frag} (hn : l.most = some 63) (hdf : d.params.defaults = [])
    (hd1 : callerA.depth + 3 * k + 5 < recursionLimit) (hd2 : callerA.units + 16 * k + 200 < cLine)
    (hY : ∀ (w : World) (h : Heap), YP w h → (K w.params).In h)
    (F : ∀ (w : World) (mg : Str → Option Value) (fa : Addr) (h : Heap), (K w.params).In h → h.Ns mainGlobals mg → mg d.name = some (.ref fa) →
      ∃ fd : FuncData, (∀ (s : Shared) (u : Value), BindsTo s fd ⟨[u], []⟩ [("script", u)]) ∧ ∀ base : Heap, (K w.params).In base → base.Ns mainGlobals mg → FnOk l.prog w (K w.params) mg base (L2.CX l.prog w) k fa fd ["script"] (spLaw (K w.params))) :
    PySem.W.WalkO q loose XP YP l.row.toRowW d [] (fun f vs => PySem.call f vs) :=
  L2.walk_of (n := 63) (k := k) (x := "script") (CX := fun w => L2.CX l.prog w) (sp := fun w => spLaw (K w.params)) hn (by decide) hdf ⟨rfl, hd1, hd2⟩ hY F (fun _ _ a ns hl hO hS => ⟨a, ns, rfl, hS, hO, hl, fun _ => rfl⟩) fun _ _ _ _ _ h => by
    obtain ⟨_, _, _, _, _, _, _, _, _, _, _, _, z⟩ := h
    exact z.elim
end Av

namespace Av
open PySem PySem.Spec L2
open PyProof.Rows hiding St
theorem cr_sumA {X : Cx} (hc : X.calm = true) : CallR X (.builtin "sum") (rSum X.K) := cr_sum hc
end Av

namespace Lw
open PySem PySem.Spec L2 Av
open PyProof.Rows hiding St
set_option autoImplicit false
def m_is_integer : List Sl → Mo Fl :=
  (sRet (eAnd (eIsi .int (eVar 0)) (eAnd (eNot (eIsi .bool (eVar 0))) (eChain leD leD (eVar 1) (eVar 0) (eVar 2)))))
def F_is_integer : List Sl → Mo PD := runB 3 3 m_is_integer
def m_choose : List Sl → Mo Fl :=
  (sSeq (sIf (bNot (eTest (eChain leD leD (eC (.int 0)) (eVar 1) (eVar 0)))) (sRet (eC (.int 0))) sNext)
    (sSeq (sAsg 2 (eC (.int 1)))
    (sSeq (sFor (iVia rng1 (aCons (eVar 1) aNil)) (.one 3) (sAsg 2 (eBin fdivD (eBin mulD (eVar 2) (eBin subD (eVar 0) (eVar 3))) (eBin addD (eVar 3) (eC (.int 1))))))
    (sRet (eVar 2)))))
def F_choose : List Sl → Mo PD := runB 2 4 m_choose
def m_check_steps : List Sl → Mo Fl :=
  (sIf (bOr (bNot (eTest (eCallF F_is_integer (sCons (eVar 0) (sCons (eC (.int 0)) (sCons (eC (.int 12)) sNil)))))) (bOr (bNot (eTest (eCallF F_is_integer (sCons (eVar 1) (sCons (eC (.int 0)) (sCons (eC (.int 12)) sNil)))))) (eTest (eBin gtD (eBin addD (eVar 0) (eVar 1)) (eC (.int 12)))))) (sRaise 2) sNext)
def F_check_steps : List Sl → Mo PD := runB 2 2 m_check_steps
def m_count_paths : List Sl → Mo Fl :=
  (sSeq (sDrop (eCallF F_check_steps (sCons (eVar 0) (sCons (eVar 1) sNil))))
    (sRet (eCallF F_choose (sCons (eBin addD (eVar 0) (eVar 1)) (sCons (eVar 0) sNil)))))
def F_count_paths : List Sl → Mo PD := runB 2 2 m_count_paths
def m_up_count : List Sl → Mo Fl :=
  (sRet (eIf (eTest (eBin geD (eVar 0) (eVar 1))) (eBin fdivD (eBin mulD (eCallF F_choose (sCons (eBin addD (eVar 0) (eVar 1)) (sCons (eVar 0) sNil))) (eBin addD (eBin subD (eVar 0) (eVar 1)) (eC (.int 1)))) (eBin addD (eVar 0) (eC (.int 1)))) (eC (.int 0))))
def F_up_count : List Sl → Mo PD := runB 2 2 m_up_count
def m_count_up : List Sl → Mo Fl :=
  (sSeq (sDrop (eCallF F_check_steps (sCons (eVar 0) (sCons (eVar 1) sNil))))
    (sRet (eCallF F_up_count (sCons (eVar 0) (sCons (eVar 1) sNil)))))
def F_count_up : List Sl → Mo PD := runB 2 2 m_count_up
def m_count_above : List Sl → Mo Fl :=
  (sSeq (sDrop (eCallF F_check_steps (sCons (eVar 0) (sCons (eVar 1) sNil))))
    (sSeq (sIf (eTest (eBin eqD (eBin addD (eVar 0) (eVar 1)) (eC (.int 0)))) (sRet (eC (.int 1))) sNext)
    (sRet (eIf (eTest (eBin gtD (eVar 0) (eVar 1))) (eBin fdivD (eBin mulD (eCallF F_choose (sCons (eBin addD (eVar 0) (eVar 1)) (sCons (eVar 0) sNil))) (eBin subD (eVar 0) (eVar 1))) (eBin addD (eVar 0) (eVar 1))) (eC (.int 0))))))
def F_count_above : List Sl → Mo PD := runB 2 2 m_count_above
def m_check_numbers : List Sl → Mo Fl :=
  (sIf (bOr (bNot (eTest (eCallF F_is_integer (sCons (eVar 0) (sCons (eC (.int 1)) (sCons (eC (.int 6)) sNil)))))) (bNot (eTest (eCallF F_is_integer (sCons (eVar 1) (sCons (eC (.int 0)) (sCons (eC (.int 6)) sNil))))))) (sRaise 2) sNext)
def F_check_numbers : List Sl → Mo PD := runB 2 2 m_check_numbers
def m_count_touches : List Sl → Mo Fl :=
  (sSeq (sDrop (eCallF F_check_numbers (sCons (eVar 0) (sCons (eVar 1) sNil))))
    (sRet (eIf (eTest (eBin leD (eVar 1) (eVar 0))) (eBin fdivD (eBin mulD (eCallF F_choose (sCons (eBin subD (eBin mulD (eC (.int 2)) (eVar 0)) (eVar 1)) (sCons (eVar 0) sNil))) (eVar 1)) (eBin subD (eBin mulD (eC (.int 2)) (eVar 0)) (eVar 1))) (eC (.int 0)))))
def F_count_touches : List Sl → Mo PD := runB 2 2 m_count_touches
def q_law_1 : List Sl → Mo Fl :=
  (sAsg 2 (eBin addD (eC (.int 1)) (eCallF F__law_draw (sObj 0 (sObj 1 (sCons (eC (.int 6)) sNil))))))
def q_law_2 : List Sl → Mo Fl :=
  (sAsg 3 (eBin addD (eC (.int 1)) (eCallF F__law_draw (sObj 0 (sObj 1 (sCons (eVar 2) sNil))))))
def q_law_3 : List Sl → Mo Fl :=
  (sIf (eTest (eBin neD (eBin subD (eCallF F_count_paths (sCons (eVar 2) (sCons (eVar 3) sNil))) (eCallF F_count_up (sCons (eVar 2) (sCons (eVar 3) sNil)))) (eCallF F_count_paths (sCons (eBin addD (eVar 2) (eC (.int 1))) (sCons (eBin subD (eVar 3) (eC (.int 1))) sNil))))) (sRet (eC (.bool false))) sNext)
def q_law_4 : List Sl → Mo Fl :=
  (sIf (bOr (eTest (eBin neD (eCallF F_count_paths (sCons (eVar 2) (sCons (eVar 3) sNil))) (eBin addD (eCallF F_count_paths (sCons (eBin subD (eVar 2) (eC (.int 1))) (sCons (eVar 3) sNil))) (eCallF F_count_paths (sCons (eVar 2) (sCons (eBin subD (eVar 3) (eC (.int 1))) sNil)))))) (eTest (eBin neD (eCallF F_count_paths (sCons (eVar 2) (sCons (eVar 3) sNil))) (eCallF F_count_paths (sCons (eVar 3) (sCons (eVar 2) sNil)))))) (sRet (eC (.bool false))) sNext)
def q_law_5 : List Sl → Mo Fl :=
  (sAsg 4 (eBin addD (eCallF F_count_up (sCons (eVar 2) (sCons (eBin subD (eVar 3) (eC (.int 1))) sNil))) (eIf (eTest (eBin gtD (eVar 2) (eVar 3))) (eCallF F_count_up (sCons (eBin subD (eVar 2) (eC (.int 1))) (sCons (eVar 3) sNil))) (eC (.int 0)))))
def q_law_6 : List Sl → Mo Fl :=
  (sIf (bOr (eTest (eBin neD (eCallF F_count_up (sCons (eVar 2) (sCons (eVar 3) sNil))) (eVar 4))) (eTest (eBin neD (eCallF F_count_up (sCons (eBin subD (eVar 3) (eC (.int 1))) (sCons (eVar 2) sNil))) (eC (.int 0))))) (sRet (eC (.bool false))) sNext)
def q_law_7 : List Sl → Mo Fl :=
  (sIf (eTest (eBin neD (eCallF F_count_above (sCons (eVar 2) (sCons (eVar 3) sNil))) (eIf (eTest (eBin gtD (eVar 2) (eVar 3))) (eCallF F_count_up (sCons (eBin subD (eVar 2) (eC (.int 1))) (sCons (eVar 3) sNil))) (eC (.int 0))))) (sRet (eC (.bool false))) sNext)
def q_law_8 : List Sl → Mo Fl :=
  (sAsg 5 (eLc (iVia rng1 (aCons (eC (.int 7)) aNil)) (.one 6) tYesM (eCallF F_count_up (sCons (eVar 6) (sCons (eVar 6) sNil)))))
def q_law_9 : List Sl → Mo Fl :=
  (sAsg 6 (eBin addD (eC (.int 1)) (eCallF F__law_draw (sObj 0 (sObj 1 (sCons (eC (.int 6)) sNil))))))
def q_law_10 : List Sl → Mo Fl :=
  (sIf (eTest (eBin neD (eBin ixD (eVar 5) (eVar 6)) (eCall sumD (aCons (eLc (iVia rng1 (aCons (eVar 6) aNil)) (.one 7) tYesM (eBin mulD (eBin ixD (eVar 5) (eVar 7)) (eBin ixD (eVar 5) (eBin subD (eBin subD (eVar 6) (eC (.int 1))) (eVar 7))))) aNil)))) (sRet (eC (.bool false))) sNext)
def q_law_11 : List Sl → Mo Fl :=
  (sIf (bOr (eTest (eBin neD (eCall sumD (aCons (eLc (iVia rng2 (aCons (eC (.int 1)) (aCons (eBin addD (eVar 6) (eC (.int 1))) aNil))) (.one 7) tYesM (eCallF F_count_touches (sCons (eVar 6) (sCons (eVar 7) sNil)))) aNil)) (eBin ixD (eVar 5) (eVar 6)))) (eTest (eBin neD (eCallF F_count_touches (sCons (eVar 6) (sCons (eC (.int 1)) sNil))) (eBin ixD (eVar 5) (eBin subD (eVar 6) (eC (.int 1))))))) (sRet (eC (.bool false))) sNext)
def q_law_12 : List Sl → Mo Fl :=
  (sAsg 8 (eCall sumD (aCons (eLc (iVia rng2 (aCons (eVar 6) (aCons (eBin addD (eBin mulD (eC (.int 2)) (eVar 6)) (eC (.int 1))) aNil))) (.one 7) tYesM (eCallF F_count_up (sCons (eVar 7) (sCons (eBin subD (eBin mulD (eC (.int 2)) (eVar 6)) (eVar 7)) sNil)))) aNil)))
def q_law_13 : List Sl → Mo Fl :=
  (sRet (eAnd (eBin eqD (eVar 8) (eCallF F_count_paths (sCons (eVar 6) (sCons (eVar 6) sNil)))) (eBin eqD (eVar 5) (eLst (aCons (eC (.int 1)) (aCons (eC (.int 1)) (aCons (eC (.int 2)) (aCons (eC (.int 5)) (aCons (eC (.int 14)) (aCons (eC (.int 42)) (aCons (eC (.int 132)) aNil)))))))))))
def m_law : List Sl → Mo Fl :=
  (sSeq q_law_1
    (sSeq q_law_2
    (sSeq q_law_3
    (sSeq q_law_4
    (sSeq q_law_5
    (sSeq q_law_6
    (sSeq q_law_7
    (sSeq q_law_8
    (sSeq q_law_9
    (sSeq q_law_10
    (sSeq q_law_11
    (sSeq q_law_12
    q_law_13))))))))))))
end Lw

namespace Lw
open PySem PySem.Spec L2 Av
open PyProof.Rows hiding St
set_option autoImplicit false
def topS (i : Nat) : Stmt := PySem.Challenge.pw_abovepaths_k20_whole_reflected_numbers.main.body.getD i (.Pass ⟨0, 0, 0, 0⟩)
abbrev s_is_integer : Stmt := topS 5
abbrev s_choose : Stmt := topS 7
abbrev s_check_steps : Stmt := topS 8
abbrev s_count_paths : Stmt := topS 9
abbrev s_up_count : Stmt := topS 10
abbrev s_count_up : Stmt := topS 11
abbrev s_count_above : Stmt := topS 12
abbrev s_check_numbers : Stmt := topS 14
abbrev s_count_touches : Stmt := topS 15
abbrev s__law_cell_at : Stmt := topS 17
abbrev s__law_mixed : Stmt := topS 18
abbrev s__law_draw : Stmt := topS 19
abbrev s_law : Stmt := topS 20
structure Tx (K : PySem.W.Frag) (mg : Str → Option Value) (p : Pm) : Prop where
  hK : p.K = K
  n_bool : mg "bool" = none
  n_int : mg "int" = none
  n_isinstance : mg "isinstance" = none
  n_len : mg "len" = none
  n_min : mg "min" = none
  n_range : mg "range" = none
  n_sum : mg "sum" = none
  x_InvalidNumber : ExC K mg "InvalidNumber" (p.cls 2)
  g_MOST : ∃ t, mg "MOST" = some (.int 12 t)
section
variable {P : Program} {w : World} {K : PySem.W.Frag} {mg : Str → Option Value} {base : Heap} {p : Pm}
theorem ok_mk {N : List Str} {qual : Str} {sc : Scope} {f : Addr} {cdv : Value} {A : Around} {outer : List Env} {s : Shared} {H : Hp} {E : XK} {k : Nat} (hK : p.K = K) (hr : Room k (A.deeper (envOfC qual sc s.heap.objs.size f cdv))) (nd : N.Nodup) :
    Ct.Ok ⟨cxOf (L2.CX P w) P w K mg base N qual sc f cdv A outer s H E, p, fun cls d _ H' => E cls d H'⟩ k :=
  ⟨hK, hr, rfl, nd, takes_of rfl rfl rfl rfl, passes_of rfl⟩
theorem okb {c : Ct} {k : Nat} (ok : c.Ok k) {s : Shared} {H : Hp} {scope : Scope} {C : Addr} {cl : List (Str × Addr)} {fp : List Addr} : (c.blk s H scope C cl fp).Ok k :=
  ⟨ok.K, ok.rm, ok.cm, ok.nd, takes0, PassesOwn.never⟩
abbrev N_is_integer : List Str := ["value", "low", "high"]
theorem sc_is_integer : FnScope N_is_integer ["value", "low", "high"] (defScope s_is_integer) := ⟨rfl, rfl, rfl, by decide +kernel, rfl, by decide +kernel, by decide +kernel⟩
theorem ok_is_integer {f : Addr} {fd : FuncData} (T : Tx K mg p) (F : Fun K "is_integer" "is_integer" s_is_integer f fd)  : FnOk P w K mg base (L2.CX P w) 1 f fd ["value", "low", "high"] (spF p F_is_integer) := by
  refine fn_of_body F sc_is_integer fun cdv A outer s H E hr => ?_
  have ok := ok_mk (P := P) (w := w) (mg := mg) (base := base) (outer := outer) (H := H) (E := E) T.hK hr sc_is_integer.nd
  
  exact (dss_one (ds_ret (de_and (de_isi .int T.n_isinstance T.n_int (by decide +kernel) (de_var 0)) (de_and (de_not (de_isi .bool T.n_isinstance T.n_bool (by decide +kernel) (de_var 0))) (de_one (de_chain op_le ops_le op_le ops_le (de_var 1) (de_var 0) (de_var 2)))))))
theorem fd_is_integer (T : Tx K mg p) (A : FAt K mg "is_integer" s_is_integer)  : FnD P w K mg base p 1 "is_integer" F_is_integer := by
  obtain ⟨f, fd, F, hm, hk⟩ := A
  exact ⟨f, fd, _, ok_is_integer T F , hm, hk, F.binds (ps := ["value", "low", "high"]) fun _ _ _ _ _ _ us hl => match us, hl with | [_, _, _], _ => rfl⟩
abbrev N_choose : List Str := ["many", "some", "result", "one"]
theorem sc_choose : FnScope N_choose ["many", "some"] (defScope s_choose) := ⟨rfl, rfl, rfl, by decide +kernel, rfl, by decide +kernel, by decide +kernel⟩
theorem ok_choose {f : Addr} {fd : FuncData} (T : Tx K mg p) (F : Fun K "choose" "choose" s_choose f fd)  : FnOk P w K mg base (L2.CX P w) 1 f fd ["many", "some"] (spF p F_choose) := by
  refine fn_of_body F sc_choose fun cdv A outer s H E hr => ?_
  have ok := ok_mk (P := P) (w := w) (mg := mg) (base := base) (outer := outer) (H := H) (E := E) T.hK hr sc_choose.nd
  
  exact (dss_cons (ds_if (dt_not (dt_chain op_le ops_le op_le ops_le de_int (de_var 1) (de_var 0))) (dss_one (ds_ret de_int)) dss_nil)
    (dss_cons (ds_asg 2 ok de_int)
    (dss_cons (ds_for ok (di_range1 T.n_range (da_cons (de_var 1) da_nil)) (dg_one 3 ok.nd) (dss_one (ds_asg 2 ok (de_fdiv (de_mul (de_var 2) (de_sub (de_var 0) (de_var 3))) (de_add ok (de_var 3) de_int)))))
    (dss_one (ds_ret (de_var 2))))))
theorem fd_choose (T : Tx K mg p) (A : FAt K mg "choose" s_choose)  : FnD P w K mg base p 1 "choose" F_choose := by
  obtain ⟨f, fd, F, hm, hk⟩ := A
  exact ⟨f, fd, _, ok_choose T F , hm, hk, F.binds (ps := ["many", "some"]) fun _ _ _ _ _ _ us hl => match us, hl with | [_, _], _ => rfl⟩
abbrev N_check_steps : List Str := ["ups", "downs"]
theorem sc_check_steps : FnScope N_check_steps ["ups", "downs"] (defScope s_check_steps) := ⟨rfl, rfl, rfl, by decide +kernel, rfl, by decide +kernel, by decide +kernel⟩
theorem ok_check_steps {f : Addr} {fd : FuncData} (T : Tx K mg p) (F : Fun K "check_steps" "check_steps" s_check_steps f fd) (f_is_integer : FnD P w K mg base p 1 "is_integer" F_is_integer) : FnOk P w K mg base (L2.CX P w) 2 f fd ["ups", "downs"] (spF p F_check_steps) := by
  refine fn_of_body F sc_check_steps fun cdv A outer s H E hr => ?_
  have ok := ok_mk (P := P) (w := w) (mg := mg) (base := base) (outer := outer) (H := H) (E := E) T.hK hr sc_check_steps.nd
  have f_is_integer := f_is_integer.mono (show 1 ≤ 1 by decide)
  exact (dss_one (ds_if (dt_w (dw_or (dt_not (dt_val (de_call ok f_is_integer (das_cons (de_var 0) (das_cons de_int (das_cons (de_gint T.g_MOST.choose_spec) das_nil)))))) (dw_or (dt_not (dt_val (de_call ok f_is_integer (das_cons (de_var 1) (das_cons de_int (das_cons (de_gint T.g_MOST.choose_spec) das_nil)))))) (dw_or1 (dt_cmp op_gt ops_gt (de_add ok (de_var 0) (de_var 1)) (de_gint T.g_MOST.choose_spec) (nomark _)))))) (dss_one (ds_raise 2 ok T.x_InvalidNumber)) dss_nil))
theorem fd_check_steps (T : Tx K mg p) (A : FAt K mg "check_steps" s_check_steps) (f_is_integer : FnD P w K mg base p 1 "is_integer" F_is_integer) : FnD P w K mg base p 2 "check_steps" F_check_steps := by
  obtain ⟨f, fd, F, hm, hk⟩ := A
  exact ⟨f, fd, _, ok_check_steps T F f_is_integer, hm, hk, F.binds (ps := ["ups", "downs"]) fun _ _ _ _ _ _ us hl => match us, hl with | [_, _], _ => rfl⟩
abbrev N_count_paths : List Str := ["ups", "downs"]
theorem sc_count_paths : FnScope N_count_paths ["ups", "downs"] (defScope s_count_paths) := ⟨rfl, rfl, rfl, by decide +kernel, rfl, by decide +kernel, by decide +kernel⟩
theorem ok_count_paths {f : Addr} {fd : FuncData} (T : Tx K mg p) (F : Fun K "count_paths" "count_paths" s_count_paths f fd) (f_check_steps : FnD P w K mg base p 2 "check_steps" F_check_steps) (f_choose : FnD P w K mg base p 1 "choose" F_choose) : FnOk P w K mg base (L2.CX P w) 3 f fd ["ups", "downs"] (spF p F_count_paths) := by
  refine fn_of_body F sc_count_paths fun cdv A outer s H E hr => ?_
  have ok := ok_mk (P := P) (w := w) (mg := mg) (base := base) (outer := outer) (H := H) (E := E) T.hK hr sc_count_paths.nd
  have f_check_steps := f_check_steps.mono (show 2 ≤ 2 by decide)
  have f_choose := f_choose.mono (show 1 ≤ 2 by decide)
  exact (dss_cons (ds_expr (de_call ok f_check_steps (das_cons (de_var 0) (das_cons (de_var 1) das_nil))))
    (dss_one (ds_ret (de_call ok f_choose (das_cons (de_add ok (de_var 0) (de_var 1)) (das_cons (de_var 0) das_nil))))))
theorem fd_count_paths (T : Tx K mg p) (A : FAt K mg "count_paths" s_count_paths) (f_check_steps : FnD P w K mg base p 2 "check_steps" F_check_steps) (f_choose : FnD P w K mg base p 1 "choose" F_choose) : FnD P w K mg base p 3 "count_paths" F_count_paths := by
  obtain ⟨f, fd, F, hm, hk⟩ := A
  exact ⟨f, fd, _, ok_count_paths T F f_check_steps f_choose, hm, hk, F.binds (ps := ["ups", "downs"]) fun _ _ _ _ _ _ us hl => match us, hl with | [_, _], _ => rfl⟩
abbrev N_up_count : List Str := ["ups", "downs"]
theorem sc_up_count : FnScope N_up_count ["ups", "downs"] (defScope s_up_count) := ⟨rfl, rfl, rfl, by decide +kernel, rfl, by decide +kernel, by decide +kernel⟩
theorem ok_up_count {f : Addr} {fd : FuncData} (T : Tx K mg p) (F : Fun K "up_count" "up_count" s_up_count f fd) (f_choose : FnD P w K mg base p 1 "choose" F_choose) : FnOk P w K mg base (L2.CX P w) 2 f fd ["ups", "downs"] (spF p F_up_count) := by
  refine fn_of_body F sc_up_count fun cdv A outer s H E hr => ?_
  have ok := ok_mk (P := P) (w := w) (mg := mg) (base := base) (outer := outer) (H := H) (E := E) T.hK hr sc_up_count.nd
  have f_choose := f_choose.mono (show 1 ≤ 1 by decide)
  exact (dss_one (ds_ret (de_if (dt_cmp op_ge ops_ge (de_var 0) (de_var 1) (nomark _)) (de_fdiv (de_mul (de_call ok f_choose (das_cons (de_add ok (de_var 0) (de_var 1)) (das_cons (de_var 0) das_nil))) (de_add ok (de_sub (de_var 0) (de_var 1)) de_int)) (de_add ok (de_var 0) de_int)) de_int)))
theorem fd_up_count (T : Tx K mg p) (A : FAt K mg "up_count" s_up_count) (f_choose : FnD P w K mg base p 1 "choose" F_choose) : FnD P w K mg base p 2 "up_count" F_up_count := by
  obtain ⟨f, fd, F, hm, hk⟩ := A
  exact ⟨f, fd, _, ok_up_count T F f_choose, hm, hk, F.binds (ps := ["ups", "downs"]) fun _ _ _ _ _ _ us hl => match us, hl with | [_, _], _ => rfl⟩
abbrev N_count_up : List Str := ["ups", "downs"]
theorem sc_count_up : FnScope N_count_up ["ups", "downs"] (defScope s_count_up) := ⟨rfl, rfl, rfl, by decide +kernel, rfl, by decide +kernel, by decide +kernel⟩
theorem ok_count_up {f : Addr} {fd : FuncData} (T : Tx K mg p) (F : Fun K "count_up" "count_up" s_count_up f fd) (f_check_steps : FnD P w K mg base p 2 "check_steps" F_check_steps) (f_up_count : FnD P w K mg base p 2 "up_count" F_up_count) : FnOk P w K mg base (L2.CX P w) 3 f fd ["ups", "downs"] (spF p F_count_up) := by
  refine fn_of_body F sc_count_up fun cdv A outer s H E hr => ?_
  have ok := ok_mk (P := P) (w := w) (mg := mg) (base := base) (outer := outer) (H := H) (E := E) T.hK hr sc_count_up.nd
  have f_check_steps := f_check_steps.mono (show 2 ≤ 2 by decide)
  have f_up_count := f_up_count.mono (show 2 ≤ 2 by decide)
  exact (dss_cons (ds_expr (de_call ok f_check_steps (das_cons (de_var 0) (das_cons (de_var 1) das_nil))))
    (dss_one (ds_ret (de_call ok f_up_count (das_cons (de_var 0) (das_cons (de_var 1) das_nil))))))
theorem fd_count_up (T : Tx K mg p) (A : FAt K mg "count_up" s_count_up) (f_check_steps : FnD P w K mg base p 2 "check_steps" F_check_steps) (f_up_count : FnD P w K mg base p 2 "up_count" F_up_count) : FnD P w K mg base p 3 "count_up" F_count_up := by
  obtain ⟨f, fd, F, hm, hk⟩ := A
  exact ⟨f, fd, _, ok_count_up T F f_check_steps f_up_count, hm, hk, F.binds (ps := ["ups", "downs"]) fun _ _ _ _ _ _ us hl => match us, hl with | [_, _], _ => rfl⟩
abbrev N_count_above : List Str := ["ups", "downs"]
theorem sc_count_above : FnScope N_count_above ["ups", "downs"] (defScope s_count_above) := ⟨rfl, rfl, rfl, by decide +kernel, rfl, by decide +kernel, by decide +kernel⟩
theorem ok_count_above {f : Addr} {fd : FuncData} (T : Tx K mg p) (F : Fun K "count_above" "count_above" s_count_above f fd) (f_check_steps : FnD P w K mg base p 2 "check_steps" F_check_steps) (f_choose : FnD P w K mg base p 1 "choose" F_choose) : FnOk P w K mg base (L2.CX P w) 3 f fd ["ups", "downs"] (spF p F_count_above) := by
  refine fn_of_body F sc_count_above fun cdv A outer s H E hr => ?_
  have ok := ok_mk (P := P) (w := w) (mg := mg) (base := base) (outer := outer) (H := H) (E := E) T.hK hr sc_count_above.nd
  have f_check_steps := f_check_steps.mono (show 2 ≤ 2 by decide)
  have f_choose := f_choose.mono (show 1 ≤ 2 by decide)
  exact (dss_cons (ds_expr (de_call ok f_check_steps (das_cons (de_var 0) (das_cons (de_var 1) das_nil))))
    (dss_cons (ds_if (dt_cmp (op_eqD ok.rm.units) ops_eq (de_add ok (de_var 0) (de_var 1)) de_int (nomark _)) (dss_one (ds_ret de_int)) dss_nil)
    (dss_one (ds_ret (de_if (dt_cmp op_gt ops_gt (de_var 0) (de_var 1) (nomark _)) (de_fdiv (de_mul (de_call ok f_choose (das_cons (de_add ok (de_var 0) (de_var 1)) (das_cons (de_var 0) das_nil))) (de_sub (de_var 0) (de_var 1))) (de_add ok (de_var 0) (de_var 1))) de_int)))))
theorem fd_count_above (T : Tx K mg p) (A : FAt K mg "count_above" s_count_above) (f_check_steps : FnD P w K mg base p 2 "check_steps" F_check_steps) (f_choose : FnD P w K mg base p 1 "choose" F_choose) : FnD P w K mg base p 3 "count_above" F_count_above := by
  obtain ⟨f, fd, F, hm, hk⟩ := A
  exact ⟨f, fd, _, ok_count_above T F f_check_steps f_choose, hm, hk, F.binds (ps := ["ups", "downs"]) fun _ _ _ _ _ _ us hl => match us, hl with | [_, _], _ => rfl⟩
abbrev N_check_numbers : List Str := ["n", "k"]
theorem sc_check_numbers : FnScope N_check_numbers ["n", "k"] (defScope s_check_numbers) := ⟨rfl, rfl, rfl, by decide +kernel, rfl, by decide +kernel, by decide +kernel⟩
theorem ok_check_numbers {f : Addr} {fd : FuncData} (T : Tx K mg p) (F : Fun K "check_numbers" "check_numbers" s_check_numbers f fd) (f_is_integer : FnD P w K mg base p 1 "is_integer" F_is_integer) : FnOk P w K mg base (L2.CX P w) 2 f fd ["n", "k"] (spF p F_check_numbers) := by
  refine fn_of_body F sc_check_numbers fun cdv A outer s H E hr => ?_
  have ok := ok_mk (P := P) (w := w) (mg := mg) (base := base) (outer := outer) (H := H) (E := E) T.hK hr sc_check_numbers.nd
  have f_is_integer := f_is_integer.mono (show 1 ≤ 1 by decide)
  exact (dss_one (ds_if (dt_w (dw_or (dt_not (dt_val (de_call ok f_is_integer (das_cons (de_var 0) (das_cons de_int (das_cons de_int das_nil)))))) (dw_or1 (dt_not (dt_val (de_call ok f_is_integer (das_cons (de_var 1) (das_cons de_int (das_cons de_int das_nil))))))))) (dss_one (ds_raise 2 ok T.x_InvalidNumber)) dss_nil))
theorem fd_check_numbers (T : Tx K mg p) (A : FAt K mg "check_numbers" s_check_numbers) (f_is_integer : FnD P w K mg base p 1 "is_integer" F_is_integer) : FnD P w K mg base p 2 "check_numbers" F_check_numbers := by
  obtain ⟨f, fd, F, hm, hk⟩ := A
  exact ⟨f, fd, _, ok_check_numbers T F f_is_integer, hm, hk, F.binds (ps := ["n", "k"]) fun _ _ _ _ _ _ us hl => match us, hl with | [_, _], _ => rfl⟩
abbrev N_count_touches : List Str := ["n", "k"]
theorem sc_count_touches : FnScope N_count_touches ["n", "k"] (defScope s_count_touches) := ⟨rfl, rfl, rfl, by decide +kernel, rfl, by decide +kernel, by decide +kernel⟩
theorem ok_count_touches {f : Addr} {fd : FuncData} (T : Tx K mg p) (F : Fun K "count_touches" "count_touches" s_count_touches f fd) (f_check_numbers : FnD P w K mg base p 2 "check_numbers" F_check_numbers) (f_choose : FnD P w K mg base p 1 "choose" F_choose) : FnOk P w K mg base (L2.CX P w) 3 f fd ["n", "k"] (spF p F_count_touches) := by
  refine fn_of_body F sc_count_touches fun cdv A outer s H E hr => ?_
  have ok := ok_mk (P := P) (w := w) (mg := mg) (base := base) (outer := outer) (H := H) (E := E) T.hK hr sc_count_touches.nd
  have f_check_numbers := f_check_numbers.mono (show 2 ≤ 2 by decide)
  have f_choose := f_choose.mono (show 1 ≤ 2 by decide)
  exact (dss_cons (ds_expr (de_call ok f_check_numbers (das_cons (de_var 0) (das_cons (de_var 1) das_nil))))
    (dss_one (ds_ret (de_if (dt_cmp op_le ops_le (de_var 1) (de_var 0) (nomark _)) (de_fdiv (de_mul (de_call ok f_choose (das_cons (de_sub (de_mul de_int (de_var 0)) (de_var 1)) (das_cons (de_var 0) das_nil))) (de_var 1)) (de_sub (de_mul de_int (de_var 0)) (de_var 1))) de_int))))
theorem fd_count_touches (T : Tx K mg p) (A : FAt K mg "count_touches" s_count_touches) (f_check_numbers : FnD P w K mg base p 2 "check_numbers" F_check_numbers) (f_choose : FnD P w K mg base p 1 "choose" F_choose) : FnD P w K mg base p 3 "count_touches" F_count_touches := by
  obtain ⟨f, fd, F, hm, hk⟩ := A
  exact ⟨f, fd, _, ok_count_touches T F f_check_numbers f_choose, hm, hk, F.binds (ps := ["n", "k"]) fun _ _ _ _ _ _ us hl => match us, hl with | [_, _], _ => rfl⟩
abbrev N__law_cell_at : List Str := ["script", "k", "spare", "again"]
theorem sc__law_cell_at : FnScope N__law_cell_at ["script", "k"] (defScope s__law_cell_at) := ⟨rfl, rfl, rfl, by decide +kernel, rfl, by decide +kernel, by decide +kernel⟩
theorem ok__law_cell_at {f : Addr} {fd : FuncData} (T : Tx K mg p) (F : Fun K "_law_cell_at" "_law_cell_at" s__law_cell_at f fd)  : FnOk P w K mg base (L2.CX P w) 1 f fd ["script", "k"] (spF p F__law_cell_at) := by
  refine fn_of_body F sc__law_cell_at fun cdv A outer s H E hr => ?_
  have ok := ok_mk (P := P) (w := w) (mg := mg) (base := base) (outer := outer) (H := H) (E := E) T.hK hr sc__law_cell_at.nd
  
  exact (dss_cons (ds_if (dt_cmp (op_ltA ok.rm.units0) ops_lt (de_var 1) (de_scrLen 0 ok T.n_len) (nomark _)) (dss_one (ds_ret (de_scrIx 0 ok (de_var 1)))) dss_nil)
    (dss_cons (ds_if (dt_scrNil 0 ok) (dss_one (ds_ret de_int)) dss_nil)
    (dss_cons (ds_asg 2 ok (de_scrIx 0 ok (de_mod (de_var 1) (de_scrLen 0 ok T.n_len))))
    (dss_cons (ds_for ok (di_range1 T.n_range (da_cons (de_callB (call_min2 ok.cm) calls_min2 T.n_min (by decide +kernel) (da_cons (de_fdiv (de_var 1) (de_scrLen 0 ok T.n_len)) (da_cons de_int da_nil))) da_nil)) (dg_one 3 ok.nd) (dss_one (ds_asg 2 ok (de_fdiv (de_var 2) de_int))))
    (dss_one (ds_ret (de_add ok (de_add ok (de_mul (de_scrIx 0 ok (de_mod (de_var 1) (de_scrLen 0 ok T.n_len))) de_int) (de_var 1)) (de_mul (de_var 2) de_int))))))))
theorem fd__law_cell_at (T : Tx K mg p) (A : FAt K mg "_law_cell_at" s__law_cell_at)  : FnD P w K mg base p 1 "_law_cell_at" F__law_cell_at := by
  obtain ⟨f, fd, F, hm, hk⟩ := A
  exact ⟨f, fd, _, ok__law_cell_at T F , hm, hk, F.binds (ps := ["script", "k"]) fun _ _ _ _ _ _ us hl => match us, hl with | [_, _], _ => rfl⟩
abbrev N__law_mixed : List Str := ["script", "k", "many", "spun"]
theorem sc__law_mixed : FnScope N__law_mixed ["script", "k", "many"] (defScope s__law_mixed) := ⟨rfl, rfl, rfl, by decide +kernel, rfl, by decide +kernel, by decide +kernel⟩
theorem ok__law_mixed {f : Addr} {fd : FuncData} (T : Tx K mg p) (F : Fun K "_law_mixed" "_law_mixed" s__law_mixed f fd) (f__law_cell_at : FnD P w K mg base p 1 "_law_cell_at" F__law_cell_at) : FnOk P w K mg base (L2.CX P w) 2 f fd ["script", "k", "many"] (spF p F__law_mixed) := by
  refine fn_of_body F sc__law_mixed fun cdv A outer s H E hr => ?_
  have ok := ok_mk (P := P) (w := w) (mg := mg) (base := base) (outer := outer) (H := H) (E := E) T.hK hr sc__law_mixed.nd
  have f__law_cell_at := f__law_cell_at.mono (show 1 ≤ 1 by decide)
  exact (dss_cons (ds_asg 3 ok (de_mod (de_add ok (de_add ok (de_mul (de_call ok f__law_cell_at (das_obj 0 (das_cons (de_var 1) das_nil))) de_int) (de_mul de_int (de_var 1))) de_int) de_int))
    (dss_one (ds_ret (de_mod (de_mod (de_mod (de_pow (de_var 3) de_int) de_int) de_int) (de_var 2)))))
theorem fd__law_mixed (T : Tx K mg p) (A : FAt K mg "_law_mixed" s__law_mixed) (f__law_cell_at : FnD P w K mg base p 1 "_law_cell_at" F__law_cell_at) : FnD P w K mg base p 2 "_law_mixed" F__law_mixed := by
  obtain ⟨f, fd, F, hm, hk⟩ := A
  exact ⟨f, fd, _, ok__law_mixed T F f__law_cell_at, hm, hk, F.binds (ps := ["script", "k", "many"]) fun _ _ _ _ _ _ us hl => match us, hl with | [_, _, _], _ => rfl⟩
abbrev N__law_draw : List Str := ["script", "town", "many"]
theorem sc__law_draw : FnScope N__law_draw ["script", "town", "many"] (defScope s__law_draw) := ⟨rfl, rfl, rfl, by decide +kernel, rfl, by decide +kernel, by decide +kernel⟩
theorem ok__law_draw {f : Addr} {fd : FuncData} (T : Tx K mg p) (F : Fun K "_law_draw" "_law_draw" s__law_draw f fd) (f__law_mixed : FnD P w K mg base p 2 "_law_mixed" F__law_mixed) : FnOk P w K mg base (L2.CX P w) 3 f fd ["script", "town", "many"] (spF p F__law_draw) := by
  refine fn_of_body F sc__law_draw fun cdv A outer s H E hr => ?_
  have ok := ok_mk (P := P) (w := w) (mg := mg) (base := base) (outer := outer) (H := H) (E := E) T.hK hr sc__law_draw.nd
  have f__law_mixed := f__law_mixed.mono (show 2 ≤ 2 by decide)
  exact (dss_cons (ds_town 1)
    (dss_one (ds_ret (de_call ok f__law_mixed (das_obj 0 (das_cons (de_townLen 1 ok T.n_len) (das_cons (de_var 2) das_nil)))))))
theorem fd__law_draw (T : Tx K mg p) (A : FAt K mg "_law_draw" s__law_draw) (f__law_mixed : FnD P w K mg base p 2 "_law_mixed" F__law_mixed) : FnD P w K mg base p 3 "_law_draw" F__law_draw := by
  obtain ⟨f, fd, F, hm, hk⟩ := A
  exact ⟨f, fd, _, ok__law_draw T F f__law_mixed, hm, hk, F.binds (ps := ["script", "town", "many"]) fun _ _ _ _ _ _ us hl => match us, hl with | [_, _, _], _ => rfl⟩
abbrev N_law : List Str := ["script", "town", "a", "b", "due", "hills", "n", "k", "even"]
theorem sc_law : FnScope N_law ["script"] (defScope s_law) := ⟨rfl, rfl, rfl, by decide +kernel, rfl, by decide +kernel, by decide +kernel⟩
theorem ok_law {f : Addr} {fd : FuncData} (T : Tx K mg p) (F : Fun K "law" "law" s_law f fd) (f__law_draw : FnD P w K mg base p 3 "_law_draw" F__law_draw) (f_count_paths : FnD P w K mg base p 3 "count_paths" F_count_paths) (f_count_up : FnD P w K mg base p 3 "count_up" F_count_up) (f_count_above : FnD P w K mg base p 3 "count_above" F_count_above) (f_count_touches : FnD P w K mg base p 3 "count_touches" F_count_touches)
    (hm : ∀ ns : List Int, ns.length ≤ 63 → ∃ g', m_law (Γ0 9 1) ⟨ns, 0, []⟩ = .ok (.ret (.bool true)) g') : FnOk P w K mg base (L2.CX P w) 4 f fd ["script"] (spLaw K) := by
  refine law_of (it := 1) F sc_law T.hK rfl rfl (by decide) (by first | exact Or.inl rfl | exact Or.inr rfl) (fun _ => rfl) (fun cdv A outer s H E hr => ?_) hm
  have ok := ok_mk (P := P) (w := w) (mg := mg) (base := base) (outer := outer) (H := H) (E := E) T.hK hr sc_law.nd
  have f__law_draw := f__law_draw.mono (show 3 ≤ 3 by decide)
  have f_count_paths := f_count_paths.mono (show 3 ≤ 3 by decide)
  have f_count_up := f_count_up.mono (show 3 ≤ 3 by decide)
  have f_count_above := f_count_above.mono (show 3 ≤ 3 by decide)
  have f_count_touches := f_count_touches.mono (show 3 ≤ 3 by decide)
  exact (dss_cons (ds_asg 2 ok (de_add ok de_int (de_call ok f__law_draw (das_obj 0 (das_obj 1 (das_cons de_int das_nil))))))
    (dss_cons (ds_asg 3 ok (de_add ok de_int (de_call ok f__law_draw (das_obj 0 (das_obj 1 (das_cons (de_var 2) das_nil))))))
    (dss_cons (ds_if (dt_cmp (op_neD ok.rm.units) ops_ne (de_sub (de_call ok f_count_paths (das_cons (de_var 2) (das_cons (de_var 3) das_nil))) (de_call ok f_count_up (das_cons (de_var 2) (das_cons (de_var 3) das_nil)))) (de_call ok f_count_paths (das_cons (de_add ok (de_var 2) de_int) (das_cons (de_sub (de_var 3) de_int) das_nil))) (nomark _)) (dss_one (ds_ret de_bl)) dss_nil)
    (dss_cons (ds_if (dt_w (dw_or (dt_cmp (op_neD ok.rm.units) ops_ne (de_call ok f_count_paths (das_cons (de_var 2) (das_cons (de_var 3) das_nil))) (de_add ok (de_call ok f_count_paths (das_cons (de_sub (de_var 2) de_int) (das_cons (de_var 3) das_nil))) (de_call ok f_count_paths (das_cons (de_var 2) (das_cons (de_sub (de_var 3) de_int) das_nil)))) (nomark _)) (dw_or1 (dt_cmp (op_neD ok.rm.units) ops_ne (de_call ok f_count_paths (das_cons (de_var 2) (das_cons (de_var 3) das_nil))) (de_call ok f_count_paths (das_cons (de_var 3) (das_cons (de_var 2) das_nil))) (nomark _))))) (dss_one (ds_ret de_bl)) dss_nil)
    (dss_cons (ds_asg 4 ok (de_add ok (de_call ok f_count_up (das_cons (de_var 2) (das_cons (de_sub (de_var 3) de_int) das_nil))) (de_if (dt_cmp op_gt ops_gt (de_var 2) (de_var 3) (nomark _)) (de_call ok f_count_up (das_cons (de_sub (de_var 2) de_int) (das_cons (de_var 3) das_nil))) de_int)))
    (dss_cons (ds_if (dt_w (dw_or (dt_cmp (op_neD ok.rm.units) ops_ne (de_call ok f_count_up (das_cons (de_var 2) (das_cons (de_var 3) das_nil))) (de_var 4) (nomark _)) (dw_or1 (dt_cmp (op_neD ok.rm.units) ops_ne (de_call ok f_count_up (das_cons (de_sub (de_var 3) de_int) (das_cons (de_var 2) das_nil))) de_int (nomark _))))) (dss_one (ds_ret de_bl)) dss_nil)
    (dss_cons (ds_if (dt_cmp (op_neD ok.rm.units) ops_ne (de_call ok f_count_above (das_cons (de_var 2) (das_cons (de_var 3) das_nil))) (de_if (dt_cmp op_gt ops_gt (de_var 2) (de_var 3) (nomark _)) (de_call ok f_count_up (das_cons (de_sub (de_var 2) de_int) (das_cons (de_var 3) das_nil))) de_int) (nomark _)) (dss_one (ds_ret de_bl)) dss_nil)
    (dss_cons (ds_asg 5 ok (de_lc ok (di_range1 T.n_range (da_cons de_int da_nil)) (blkOk_by (N := N_law) (sc := defScope s_law) (own := [("n", 6)]) (by decide +kernel)) rfl (fun _ _ _ _ _ => dg_one 6 ok.nd) (fun _ _ _ _ _ => dts_nil) (fun _ _ _ _ _ => (de_call (okb ok) f_count_up (das_cons (de_var 6) (das_cons (de_var 6) das_nil))))))
    (dss_cons (ds_asg 6 ok (de_add ok de_int (de_call ok f__law_draw (das_obj 0 (das_obj 1 (das_cons de_int das_nil))))))
    (dss_cons (ds_if (dt_cmp (op_neD ok.rm.units) ops_ne (de_ix (de_var 5) (de_var 6)) (de_callB (cr_sumA ok.cm) calls_sum T.n_sum (by decide +kernel) (da_cons (de_lc ok (di_range1 T.n_range (da_cons (de_var 6) da_nil)) (blkOk_by (N := N_law) (sc := defScope s_law) (own := [("k", 7)]) (by decide +kernel)) rfl (fun _ _ _ _ _ => dg_one 7 ok.nd) (fun _ _ _ _ _ => dts_nil) (fun _ _ _ _ _ => (de_mul (de_ix (de_var 5) (de_var 7)) (de_ix (de_var 5) (de_sub (de_sub (de_var 6) de_int) (de_var 7)))))) da_nil)) (nomark _)) (dss_one (ds_ret de_bl)) dss_nil)
    (dss_cons (ds_if (dt_w (dw_or (dt_cmp (op_neD ok.rm.units) ops_ne (de_callB (cr_sumA ok.cm) calls_sum T.n_sum (by decide +kernel) (da_cons (de_lc ok (di_range2 T.n_range (da_cons de_int (da_cons (de_add ok (de_var 6) de_int) da_nil))) (blkOk_by (N := N_law) (sc := defScope s_law) (own := [("k", 7)]) (by decide +kernel)) rfl (fun _ _ _ _ _ => dg_one 7 ok.nd) (fun _ _ _ _ _ => dts_nil) (fun _ _ _ _ _ => (de_call (okb ok) f_count_touches (das_cons (de_var 6) (das_cons (de_var 7) das_nil))))) da_nil)) (de_ix (de_var 5) (de_var 6)) (nomark _)) (dw_or1 (dt_cmp (op_neD ok.rm.units) ops_ne (de_call ok f_count_touches (das_cons (de_var 6) (das_cons de_int das_nil))) (de_ix (de_var 5) (de_sub (de_var 6) de_int)) (nomark _))))) (dss_one (ds_ret de_bl)) dss_nil)
    (dss_cons (ds_asg 8 ok (de_callB (cr_sumA ok.cm) calls_sum T.n_sum (by decide +kernel) (da_cons (de_lc ok (di_range2 T.n_range (da_cons (de_var 6) (da_cons (de_add ok (de_mul de_int (de_var 6)) de_int) da_nil))) (blkOk_by (N := N_law) (sc := defScope s_law) (own := [("k", 7)]) (by decide +kernel)) rfl (fun _ _ _ _ _ => dg_one 7 ok.nd) (fun _ _ _ _ _ => dts_nil) (fun _ _ _ _ _ => (de_call (okb ok) f_count_up (das_cons (de_var 7) (das_cons (de_sub (de_mul de_int (de_var 6)) (de_var 7)) das_nil))))) da_nil)))
    (dss_one (ds_ret (de_and (de_cmp (op_eqD ok.rm.units) ops_eq (de_var 8) (de_call ok f_count_paths (das_cons (de_var 6) (das_cons (de_var 6) das_nil))) (nomark _)) (de_one (de_cmp (op_eqD ok.rm.units) ops_eq (de_var 5) (de_lst (da_cons de_int (da_cons de_int (da_cons de_int (da_cons de_int (da_cons de_int (da_cons de_int (da_cons de_int da_nil)))))))) (nomark _))))))))))))))))))
end
theorem all_mk {l : PySem.W.OpenLaw} {w : World} {K : PySem.W.Frag} {h : Heap} {mg : Str → Option Value} {fa : Addr} (X : K.In h) (G : h.Ns mainGlobals mg) (hfa : mg "law" = some (.ref fa)) {C2 : Addr}
    (x_InvalidNumber : ExC K mg "InvalidNumber" C2) (g_MOST : ∃ t, mg "MOST" = some (.int 12 t))
    (n_bool : mg "bool" = none) (n_int : mg "int" = none) (n_isinstance : mg "isinstance" = none) (n_len : mg "len" = none) (n_min : mg "min" = none) (n_range : mg "range" = none) (n_sum : mg "sum" = none) (A_is_integer : FAt K mg "is_integer" s_is_integer) (A_choose : FAt K mg "choose" s_choose) (A_check_steps : FAt K mg "check_steps" s_check_steps) (A_count_paths : FAt K mg "count_paths" s_count_paths) (A_up_count : FAt K mg "up_count" s_up_count) (A_count_up : FAt K mg "count_up" s_count_up) (A_count_above : FAt K mg "count_above" s_count_above) (A_check_numbers : FAt K mg "check_numbers" s_check_numbers) (A_count_touches : FAt K mg "count_touches" s_count_touches) (A__law_cell_at : FAt K mg "_law_cell_at" s__law_cell_at) (A__law_mixed : FAt K mg "_law_mixed" s__law_mixed) (A__law_draw : FAt K mg "_law_draw" s__law_draw) (A_law : FAt K mg "law" s_law)
    (hm : ∀ ns : List Int, ns.length ≤ 63 → ∃ g', m_law (Γ0 9 1) ⟨ns, 0, []⟩ = .ok (.ret (.bool true)) g') :
    ∃ fd : FuncData, (∀ (s : Shared) (v : Value), BindsTo s fd ⟨[v], []⟩ [("script", v)]) ∧ ∀ base : Heap, K.In base → base.Ns mainGlobals mg → FnOk l.prog w K mg base (L2.CX l.prog w) 4 fa fd ["script"] (spLaw K) := by
  obtain ⟨f, fd, F, hm', hk⟩ := A_law
  have e := hfa.symm.trans hm'
  cases e
  have T : Tx K mg ⟨K, 0, fun i => match i with | 2 => C2 | _ => 0⟩ := ⟨rfl, n_bool, n_int, n_isinstance, n_len, n_min, n_range, n_sum, x_InvalidNumber, g_MOST⟩
  refine ⟨fd, fun s v => ?_, fun base _ _ => ?_⟩
  · obtain ⟨oc, od, kV, doc, pm, an, cdv, ct, osl, rfl, lk, hcd⟩ := F.ex
    exact .of_eq rfl
  · have f_is_integer := fd_is_integer (P := l.prog) (w := w) (base := base) T A_is_integer 
    have f_choose := fd_choose (P := l.prog) (w := w) (base := base) T A_choose 
    have f_check_steps := fd_check_steps (P := l.prog) (w := w) (base := base) T A_check_steps f_is_integer
    have f_count_paths := fd_count_paths (P := l.prog) (w := w) (base := base) T A_count_paths f_check_steps f_choose
    have f_up_count := fd_up_count (P := l.prog) (w := w) (base := base) T A_up_count f_choose
    have f_count_up := fd_count_up (P := l.prog) (w := w) (base := base) T A_count_up f_check_steps f_up_count
    have f_count_above := fd_count_above (P := l.prog) (w := w) (base := base) T A_count_above f_check_steps f_choose
    have f_check_numbers := fd_check_numbers (P := l.prog) (w := w) (base := base) T A_check_numbers f_is_integer
    have f_count_touches := fd_count_touches (P := l.prog) (w := w) (base := base) T A_count_touches f_check_numbers f_choose
    have f__law_cell_at := fd__law_cell_at (P := l.prog) (w := w) (base := base) T A__law_cell_at 
    have f__law_mixed := fd__law_mixed (P := l.prog) (w := w) (base := base) T A__law_mixed f__law_cell_at
    have f__law_draw := fd__law_draw (P := l.prog) (w := w) (base := base) T A__law_draw f__law_mixed
    exact ok_law T F f__law_draw f_count_paths f_count_up f_count_above f_count_touches hm
end Lw

namespace Lw
open PySem PySem.Spec L2 Av
set_option autoImplicit false
theorem seq_assoc (a b c : List Sl → Mo Fl) : sSeq (sSeq a b) c = sSeq a (sSeq b c) := by
  funext Γ g
  unfold sSeq bnd
  cases h : a Γ g with
  | ok r g' =>
    cases r with
    | next Γ' => rfl
    | ret d => rfl
  | exc c g' => rfl
  | bad => rfl
def hillsD : PD := .list [.int 1, .int 1, .int 2, .int 5, .int 14, .int 42, .int 132]
def pre : List Sl → Mo Fl := sSeq q_law_3 (sSeq q_law_4 (sSeq q_law_5 (sSeq q_law_6 (sSeq q_law_7 q_law_8))))
def post : List Sl → Mo Fl := sSeq q_law_10 (sSeq q_law_11 (sSeq q_law_12 q_law_13))
theorem tail_eq : sSeq q_law_3 (sSeq q_law_4 (sSeq q_law_5 (sSeq q_law_6 (sSeq q_law_7 (sSeq q_law_8 (sSeq q_law_9 post)))))) = sSeq pre (sSeq q_law_9 post) := by
  unfold pre
  rw [seq_assoc, seq_assoc, seq_assoc, seq_assoc, seq_assoc]
theorem post_ok (n : Int) (h0 : 1 ≤ n) (h1 : n ≤ 6) (x y z : Sl) (g : G) : post [.obj 1, .obj 0, x, y, z, .val hillsD, .val (.int n), .dead, .dead] g = .ok (.ret (.bool true)) g := by
  have h : n = 1 ∨ n = 2 ∨ n = 3 ∨ n = 4 ∨ n = 5 ∨ n = 6 := by omega
  rcases h with rfl | rfl | rfl | rfl | rfl | rfl
  · kernel_rfl
  · kernel_rfl
  · kernel_rfl
  · kernel_rfl
  · kernel_rfl
  · kernel_rfl
theorem pre_ok (a b : Int) (ha : 1 ≤ a) (ha6 : a ≤ 6) (hb : 1 ≤ b) (hb6 : b ≤ a) (g : G) : ∃ z, pre [.obj 1, .obj 0, .val (.int a), .val (.int b), .dead, .dead, .dead, .dead, .dead] g = .ok (.next [.obj 1, .obj 0, .val (.int a), .val (.int b), z, .val hillsD, .dead, .dead, .dead]) g := by
  have h : a = 1 ∨ a = 2 ∨ a = 3 ∨ a = 4 ∨ a = 5 ∨ a = 6 := by omega
  rcases h with rfl | rfl | rfl | rfl | rfl | rfl
  · have h : b = 1 := by omega
    rcases h with rfl
    · exact ⟨.val (.int 1), by kernel_rfl⟩
  · have h : b = 1 ∨ b = 2 := by omega
    rcases h with rfl | rfl
    · exact ⟨.val (.int 2), by kernel_rfl⟩
    · exact ⟨.val (.int 2), by kernel_rfl⟩
  · have h : b = 1 ∨ b = 2 ∨ b = 3 := by omega
    rcases h with rfl | rfl | rfl
    · exact ⟨.val (.int 3), by kernel_rfl⟩
    · exact ⟨.val (.int 5), by kernel_rfl⟩
    · exact ⟨.val (.int 5), by kernel_rfl⟩
  · have h : b = 1 ∨ b = 2 ∨ b = 3 ∨ b = 4 := by omega
    rcases h with rfl | rfl | rfl | rfl
    · exact ⟨.val (.int 4), by kernel_rfl⟩
    · exact ⟨.val (.int 9), by kernel_rfl⟩
    · exact ⟨.val (.int 14), by kernel_rfl⟩
    · exact ⟨.val (.int 14), by kernel_rfl⟩
  · have h : b = 1 ∨ b = 2 ∨ b = 3 ∨ b = 4 ∨ b = 5 := by omega
    rcases h with rfl | rfl | rfl | rfl | rfl
    · exact ⟨.val (.int 5), by kernel_rfl⟩
    · exact ⟨.val (.int 14), by kernel_rfl⟩
    · exact ⟨.val (.int 28), by kernel_rfl⟩
    · exact ⟨.val (.int 42), by kernel_rfl⟩
    · exact ⟨.val (.int 42), by kernel_rfl⟩
  · have h : b = 1 ∨ b = 2 ∨ b = 3 ∨ b = 4 ∨ b = 5 ∨ b = 6 := by omega
    rcases h with rfl | rfl | rfl | rfl | rfl | rfl
    · exact ⟨.val (.int 6), by kernel_rfl⟩
    · exact ⟨.val (.int 20), by kernel_rfl⟩
    · exact ⟨.val (.int 48), by kernel_rfl⟩
    · exact ⟨.val (.int 90), by kernel_rfl⟩
    · exact ⟨.val (.int 132), by kernel_rfl⟩
    · exact ⟨.val (.int 132), by kernel_rfl⟩
theorem law_true (ns : List Int) (hl : ns.length ≤ 63) : ∃ g', m_law (Γ0 9 1) ⟨ns, 0, []⟩ = .ok (.ret (.bool true)) g' := by
  obtain ⟨v1, a0, a1, h1⟩ := draw_ok ⟨ns, 0, []⟩ 6 (by show (0 : Nat) ≤ 99999; decide) hl (by decide)
  obtain ⟨v2, b0, b1, h2⟩ := draw_ok ⟨ns, 1, []⟩ (1 + v1) (by show (1 : Nat) ≤ 99999; decide) hl (by omega)
  obtain ⟨v3, c0, c1, h3⟩ := draw_ok ⟨ns, 2, []⟩ 6 (by show (2 : Nat) ≤ 99999; decide) hl (by decide)
  obtain ⟨z, hz⟩ := pre_ok (1 + v1) (1 + v2) (by omega) (by omega) (by omega) (by omega) ⟨ns, 2, []⟩
  have e1 : q_law_1 (Γ0 9 1) ⟨ns, 0, []⟩ = .ok (.next [.obj 1, .obj 0, .val (.int (1 + v1)), .dead, .dead, .dead, .dead, .dead, .dead]) ⟨ns, 1, []⟩ := sAsg_ok (eBin_ok (x := .int 1) (y := .int v1) rfl h1 rfl)
  have e2 : q_law_2 [.obj 1, .obj 0, .val (.int (1 + v1)), .dead, .dead, .dead, .dead, .dead, .dead] ⟨ns, 1, []⟩ = .ok (.next [.obj 1, .obj 0, .val (.int (1 + v1)), .val (.int (1 + v2)), .dead, .dead, .dead, .dead, .dead]) ⟨ns, 2, []⟩ := sAsg_ok (eBin_ok (x := .int 1) (y := .int v2) rfl h2 rfl)
  have e3 : q_law_9 [.obj 1, .obj 0, .val (.int (1 + v1)), .val (.int (1 + v2)), z, .val hillsD, .dead, .dead, .dead] ⟨ns, 2, []⟩ = .ok (.next [.obj 1, .obj 0, .val (.int (1 + v1)), .val (.int (1 + v2)), z, .val hillsD, .val (.int (1 + v3)), .dead, .dead]) ⟨ns, 3, []⟩ := sAsg_ok (eBin_ok (x := .int 1) (y := .int v3) rfl h3 rfl)
  refine ⟨⟨ns, 3, []⟩, ?_⟩
  show sSeq q_law_1 (sSeq q_law_2 (sSeq q_law_3 (sSeq q_law_4 (sSeq q_law_5 (sSeq q_law_6 (sSeq q_law_7 (sSeq q_law_8 (sSeq q_law_9 post)))))))) _ _ = _
  rw [tail_eq, sSeq_next e1, sSeq_next e2, sSeq_next hz, sSeq_next e3]
  exact post_ok (1 + v3) (by omega) (by omega) _ _ _ _
end Lw

open PySem PySem.W PyProof.Rows
set_option maxRecDepth 100000 in
set_option maxHeartbeats 0 in
theorem PySem.Challenge.cw_abovepaths_k20_whole_reflected_numbers_holds : PySem.Challenge.rw_abovepaths_k20_whole_reflected_numbers.Holds := by
  w_on; o_law; k_head; (case hw => w_witness2)
  k_fill
  refine Av.walk_law (k := 4) (l := PySem.Challenge.rw_abovepaths_k20_whole_reflected_numbers) rfl rfl (by decide) (by decide) (fun w h Y => PySem.W.kIn_of Y) ?F
  case F =>
    intro w mg fa h KX G hmg
    refine' Lw.all_mk KX G hmg (Av.xc_mk KX G ?xa2 ?xb2 ?xc2 ?xd2 ?xe2) (Av.gi_mk KX G ?g_MOST) (PySem.W.mg_none_of KX G ?n_bool) (PySem.W.mg_none_of KX G ?n_int) (PySem.W.mg_none_of KX G ?n_isinstance) (PySem.W.mg_none_of KX G ?n_len) (PySem.W.mg_none_of KX G ?n_min) (PySem.W.mg_none_of KX G ?n_range) (PySem.W.mg_none_of KX G ?n_sum) (Av.fat_mk KX G ?a_is_integer ?l_is_integer ?c_is_integer ?k_is_integer) (Av.fat_mk KX G ?a_choose ?l_choose ?c_choose ?k_choose) (Av.fat_mk KX G ?a_check_steps ?l_check_steps ?c_check_steps ?k_check_steps) (Av.fat_mk KX G ?a_count_paths ?l_count_paths ?c_count_paths ?k_count_paths) (Av.fat_mk KX G ?a_up_count ?l_up_count ?c_up_count ?k_up_count) (Av.fat_mk KX G ?a_count_up ?l_count_up ?c_count_up ?k_count_up) (Av.fat_mk KX G ?a_count_above ?l_count_above ?c_count_above ?k_count_above) (Av.fat_mk KX G ?a_check_numbers ?l_check_numbers ?c_check_numbers ?k_check_numbers) (Av.fat_mk KX G ?a_count_touches ?l_count_touches ?c_count_touches ?k_count_touches) (Av.fat_mk KX G ?a__law_cell_at ?l__law_cell_at ?c__law_cell_at ?k__law_cell_at) (Av.fat_mk KX G ?a__law_mixed ?l__law_mixed ?c__law_mixed ?k__law_mixed) (Av.fat_mk KX G ?a__law_draw ?l__law_draw ?c__law_draw ?k__law_draw) (Av.fat_mk KX G ?a_law ?l_law ?c_law ?k_law) Lw.law_true
    (case xa2 => k_is); (case xb2 => k_exc); (case xc2 => k_is); (case xd2 => k_is); (case xe2 => k_is)
    (case g_MOST => k_is)
    (case n_bool => k_is)
    (case n_int => k_is)
    (case n_isinstance => k_is)
    (case n_len => k_is)
    (case n_min => k_is)
    (case n_range => k_is)
    (case n_sum => k_is)
    (case a_is_integer => k_is); (case l_is_integer => k_is); (case c_is_integer => k_is); (case k_is_integer => k_is)
    (case a_choose => k_is); (case l_choose => k_is); (case c_choose => k_is); (case k_choose => k_is)
    (case a_check_steps => k_is); (case l_check_steps => k_is); (case c_check_steps => k_is); (case k_check_steps => k_is)
    (case a_count_paths => k_is); (case l_count_paths => k_is); (case c_count_paths => k_is); (case k_count_paths => k_is)
    (case a_up_count => k_is); (case l_up_count => k_is); (case c_up_count => k_is); (case k_up_count => k_is)
    (case a_count_up => k_is); (case l_count_up => k_is); (case c_count_up => k_is); (case k_count_up => k_is)
    (case a_count_above => k_is); (case l_count_above => k_is); (case c_count_above => k_is); (case k_count_above => k_is)
    (case a_check_numbers => k_is); (case l_check_numbers => k_is); (case c_check_numbers => k_is); (case k_check_numbers => k_is)
    (case a_count_touches => k_is); (case l_count_touches => k_is); (case c_count_touches => k_is); (case k_count_touches => k_is)
    (case a__law_cell_at => k_is); (case l__law_cell_at => k_is); (case c__law_cell_at => k_is); (case k__law_cell_at => k_is)
    (case a__law_mixed => k_is); (case l__law_mixed => k_is); (case c__law_mixed => k_is); (case k__law_mixed => k_is)
    (case a__law_draw => k_is); (case l__law_draw => k_is); (case c__law_draw => k_is); (case k__law_draw => k_is)
    (case a_law => k_is); (case l_law => k_is); (case c_law => k_is); (case k_law => k_is)

