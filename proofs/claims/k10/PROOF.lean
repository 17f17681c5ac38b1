import PyProof.Rows.All
import Wide.All
import OpenK.AllK
import Wide.FinOn
import HandS.ForMost
import HandS.Style
import HandS.TupAny
import HandS.Zip
import HandS.Deep
import HandS.IsInst
import KE.KDictKeyed
import HandS.Walk
import KE.GoesEnum
import KE.GoesMore
import KE.KDictCopyH
import HandS.TupSets
import KE.KeyNested
import KE.KDictSum
import KE.SortData
import HandS.DictComp
import HandS.Exc
import HandS.ExcInit
import HandS.ExcCtx
import HandS.HotCalls
import HandS.ExcIs
import HandS.ExcField
import HandS.SetFor
import HandS.Hot
import PyProof.ZipIter
import PyProof.TupleIter
import PyProof.EnumIter
import HandS.More
import HandS.Text
import HandS.Lambda
import HandS.EndTab
import KE.KNestM
import PySem.Challenge.RW_lorehall_k10_whole_orders_of_meetings
set_option Elab.async false
set_option linter.all false
set_option maxRecDepth 100000
set_option maxHeartbeats 4000000
/-! The pure layer: cells of data, own lists and dicts; what a reading does, told on cells alone. -/
namespace PL
open PySem PySem.Spec PyProof.Rows L2
abbrev St := L2.St

abbrev DD := PyData
/-- what a slot holds: nothing known, frozen data, an own list, an own dict, a raw value -/
inductive C where
  | no
  | d (x : DD)
  | l (a : Addr) (xs : List DD)
  | m (a : Addr) (kvs : List (NestedKey × DD))
  | raw (v : V)
def C.own : C → Option Addr
  | .l a _ => some a
  | .m a _ => some a
  | _ => none
/-- what an expression gives: a cell, or an own thing of the frame -/
inductive R where
  | c (x : C)
  | own (a : Addr)
abbrev R.dat (x : DD) : R := .c (.d x)

mutual
/-- a key as data -/
def kd : NestedKey → DD
  | .none => .none
  | .num i => .int i
  | .text x => .str x
  | .tup ks => .tuple (kds ks)
def kds : List NestedKey → List DD
  | [] => []
  | k :: ks => kd k :: kds ks
end

theorem Dp.mono {K : PySem.W.Frag} {H H' : Hp} (e : Same H H') : ∀ (d : DD) (v : V), Dp K H v d → Dp K H' v d := by
  have seqT : ∀ {a : Addr} {xs : List V}, SqT K H a xs → SqT K H' a xs := fun {a xs} h => by
    rcases h with (h | ⟨o, h⟩) | h
    · exact .inl (.inl (e _ _ h))
    · exact .inl (.inr ⟨o, e _ _ h⟩)
    · exact .inr h
  intro d
  apply PyData.rec (motive_1 := fun d => ∀ v, Dp K H v d → Dp K H' v d) (motive_2 := fun ds => ∀ vs, DpAll K H vs ds → DpAll K H' vs ds) (motive_3 := fun _ => True) (motive_4 := fun _ => True)
  · intro v h; cases h; exact .non
  · intro b v h; cases h; exact .bl b
  · intro i v h; cases h; exact .int i
  · intro x v h; cases h; exact .str x
  · intro ds ih v h
    cases h with
    | lst hs ha => exact .lst (e.seq hs) (ih _ ha)
  · intro ds ih v h
    cases h with
    | tup hs ha => exact .tup (seqT hs) (ih _ ha)
  · intro kvs _ v h; cases h
  · intro vs h; cases h; exact .nil
  · intro d ds ih1 ih2 vs h
    cases h with
    | cons h1 h2 => exact .cons (ih1 _ h1) (ih2 _ h2)
  · trivial
  · intros; trivial
  · intros; trivial
theorem _root_.L2.DpAll.pmono {K : PySem.W.Frag} {H H' : Hp} (e : Same H H') : ∀ {vs : List V} {ds : List DD}, DpAll K H vs ds → DpAll K H' vs ds
  | _, _, .nil => .nil
  | _, _, .cons h t => .cons (Dp.mono e _ _ h) (L2.DpAll.pmono e t)
theorem Same.seqT {K : PySem.W.Frag} {H H' : Hp} (e : Same H H') {a : Addr} {xs : List V} (h : SqT K H a xs) : SqT K H' a xs := by
  rcases h with (h | ⟨o, h⟩) | h
  · exact .inl (.inl (e _ _ h))
  · exact .inl (.inr ⟨o, e _ _ h⟩)
  · exact .inr h
theorem _root_.L2.DpAll.plength {K : PySem.W.Frag} {H : Hp} : ∀ {vs : List V} {ds : List DD}, DpAll K H vs ds → vs.length = ds.length
  | _, _, .nil => rfl
  | _, _, .cons _ t => congrArg (· + 1) (L2.DpAll.plength t)
theorem _root_.L2.DpAll.pappend {K : PySem.W.Frag} {H : Hp} : ∀ {vs ws : List V} {ds es : List DD}, DpAll K H vs ds → DpAll K H ws es → DpAll K H (vs ++ ws) (ds ++ es)
  | _, _, _, _, .nil, q => q
  | _, _, _, _, .cons h t, q => .cons h (L2.DpAll.pappend t q)
theorem _root_.L2.DpAll.ptake {K : PySem.W.Frag} {H : Hp} : ∀ (n : Nat) {vs : List V} {ds : List DD}, DpAll K H vs ds → DpAll K H (vs.take n) (ds.take n)
  | 0, _, _, _ => .nil
  | _ + 1, _, _, .nil => .nil
  | n + 1, _, _, .cons h t => .cons h (L2.DpAll.ptake n t)
theorem _root_.L2.DpAll.pdrop {K : PySem.W.Frag} {H : Hp} : ∀ (n : Nat) {vs : List V} {ds : List DD}, DpAll K H vs ds → DpAll K H (vs.drop n) (ds.drop n)
  | 0, _, _, h => h
  | _ + 1, _, _, .nil => .nil
  | n + 1, _, _, .cons h t => L2.DpAll.pdrop n t
theorem _root_.L2.DpAll.pset {K : PySem.W.Frag} {H : Hp} {v : V} {d : DD} (hv : Dp K H v d) : ∀ (i : Nat) {vs : List V} {ds : List DD}, DpAll K H vs ds → DpAll K H (vs.set i v) (ds.set i d)
  | _, _, _, .nil => .nil
  | 0, _, _, .cons h t => .cons hv t
  | i + 1, _, _, .cons h t => .cons h (L2.DpAll.pset hv i t)
theorem _root_.L2.DpAll.pget {K : PySem.W.Frag} {H : Hp} : ∀ {i : Nat} {vs : List V} {ds : List DD} {d : DD}, DpAll K H vs ds → ds[i]? = some d → ∃ v, vs[i]? = some v ∧ Dp K H v d
  | _, _, _, _, .nil, h => by simp at h
  | 0, _, _, _, .cons h t, e => by
    simp at e; subst e
    exact ⟨_, rfl, h⟩
  | i + 1, _, _, _, .cons h t, e => by
    obtain ⟨v, h1, h2⟩ := L2.DpAll.pget (i := i) t (by simpa using e)
    exact ⟨v, by simpa using h1, h2⟩
theorem _root_.L2.DpAll.pgetV {K : PySem.W.Frag} {H : Hp} : ∀ {i : Nat} {vs : List V} {ds : List DD} {v : V}, DpAll K H vs ds → vs[i]? = some v → ∃ d, ds[i]? = some d ∧ Dp K H v d
  | _, _, _, _, .nil, h => by simp at h
  | 0, _, _, _, .cons h t, e => by
    simp at e; subst e
    exact ⟨_, rfl, h⟩
  | i + 1, _, _, _, .cons h t, e => by
    obtain ⟨v, h1, h2⟩ := L2.DpAll.pgetV (i := i) t (by simpa using e)
    exact ⟨v, by simpa using h1, h2⟩

/-! ### own dicts -/
/-- an own dict's entries: key, the key's tuple, the value -/
def DictIn (P : Program) (w : World) (a : Addr) (ents : List (NestedKey × Addr × V)) (h : Heap) : Prop :=
  (a == sysModules) = false ∧ ∃ xs : List (NestedKey × Addr × Value), Paired (fun (p : NestedKey × Addr × V) (q : NestedKey × Addr × Value) => p.1 = q.1 ∧ p.2.1 = q.2.1 ∧ RelV p.2.2 q.2.2) ents xs ∧
    ∃ o es ep, h.get? a = some o ∧ o.ExactDict ∧ o.data = .dict es ep ∧ es.toList = xs.map (entryOfKey (nestedKind P w)) ∧ (xs.map (·.1)).Nodup
def DictO (P : Program) (w : World) (a : Addr) (ents : List (NestedKey × Addr × V)) : HO := .ext (DictIn P w a ents)
def Ents (K : PySem.W.Frag) (G : Hp) : List (NestedKey × Addr × V) → List (NestedKey × DD) → Prop :=
  Paired fun (p : NestedKey × Addr × V) (q : NestedKey × DD) => p.1 = q.1 ∧ p.1.depth ≤ 8 ∧ Dp K G (.ref p.2.1) (kd p.1) ∧ Dp K G p.2.2 q.2
theorem Ents.mono {K : PySem.W.Frag} {G G' : Hp} (e : Same G G') {xs : List (NestedKey × Addr × V)} {ys : List (NestedKey × DD)} (h : Ents K G xs ys) : Ents K G' xs ys :=
  Paired.mapP h fun _ _ z => ⟨z.1, z.2.1, Dp.mono e _ _ z.2.2.1, Dp.mono e _ _ z.2.2.2⟩

section
variable (K : PySem.W.Frag) (P : Program) (w : World)
/-- the value v is the cell c -/
def CellOk (G H : Hp) (v : V) : C → Prop
  | .no => True
  | .d x => Dp K G v x
  | .l a xs => v = .ref a ∧ G a = none ∧ ∃ vs, H a = some (.lst vs) ∧ DpAll K G vs xs
  | .m a kvs => v = .ref a ∧ G a = none ∧ kvs.length ≤ sizeLine ∧ ∃ ents, H a = some (DictO P w a ents) ∧ Ents K G ents kvs
  | .raw u => v = u
def Owns (env : List C) (a : Addr) : Prop := ∃ (i : Nat) (c : C), env[i]? = some c ∧ c.own = some a
structure Rep (env : List C) (σ : PL.St) (G H : Hp) : Prop where
  len : σ.length = env.length
  sub : Same G H
  ok : ∀ (i : Nat) (c : C), env[i]? = some c → c = .no ∨ ∃ v, σ[i]? = some (some v) ∧ CellOk K P w G H v c
  inj : ∀ (i j : Nat) (ci cj : C) (a : Addr), env[i]? = some ci → env[j]? = some cj → ci.own = some a → cj.own = some a → i = j
/-- from (env, G, H) to (env', G', H'); S: addresses that may come to be owned though they stood -/
structure Step (S : Addr → Prop) (env : List C) (G H : Hp) (env' : List C) (G' H' : Hp) : Prop where
  g : Same G G'
  fresh : ∀ a, H a ≠ none → G a = none → ¬ Owns env a → ¬ S a → G' a = none
  keep : ∀ a o, H a = some o → ¬ Owns env a → ¬ S a → H' a = some o
  dom : ∀ a, H a ≠ none → H' a ≠ none
  own : ∀ a, Owns env' a → Owns env a ∨ H a = none ∨ S a
abbrev Stp := Step fun _ => False
/-- the value v is the result r -/
def ResOk (G H : Hp) (v : V) : R → Prop
  | .c c => CellOk K P w G H v c
  | .own a => v = .ref a
/-- a result of one's own is new, or was the frame's and is no more -/
def Fr (env : List C) (H : Hp) (env' : List C) : R → Prop
  | .c c => ∀ a, c.own = some a → ¬ Owns env' a ∧ (H a = none ∨ Owns env a)
  | .own _ => True
/-- a result that waits -/
def Pend (env : List C) (G H : Hp) (v : V) (r : R) : Prop := ResOk K P w G H v r ∧ ∀ c a, r = .c c → c.own = some a → ¬ Owns env a
end

section
variable {K : PySem.W.Frag} {P : Program} {w : World}
variable {env env1 env2 env' : List C} {σ σ' : PL.St} {G G1 G2 G' H H1 H2 H' : Hp} {env0 : List C} {H0 : Hp} {S S' : Addr → Prop} {v u x y : V} {r : R}
theorem Stp.refl : Stp env G H env G H := ⟨fun _ _ h => h, fun _ _ h _ _ => h, fun _ _ h _ _ => h, fun _ h => h, fun _ h => .inl h⟩
theorem some_of_ne {α : Type} {o : Option α} (h : o ≠ none) : ∃ x, o = some x := by
  cases o with
  | none => exact absurd rfl h
  | some x => exact ⟨x, rfl⟩
theorem Step.close (a : Stp env G H env1 G1 H1) (b : Step S env1 G1 H1 env2 G2 H2) (hS : ∀ z, S z → H z = none ∨ Owns env z) : Stp env G H env2 G2 H2 where
  g := fun c o h => b.g c o (a.g c o h)
  fresh := fun c h1 h2 n _ => b.fresh c (a.dom c h1) (a.fresh c h1 h2 n id) (fun z => by
    rcases a.own c z with y | y | y
    · exact n y
    · exact h1 y
    · exact y) (fun z => (hS c z).elim h1 n)
  keep := fun c o h n _ => b.keep c o (a.keep c o h n id) (fun z => by
    rcases a.own c z with y | y | y
    · exact n y
    · rw [h] at y; cases y
    · exact y) (fun z => (hS c z).elim (fun y => by rw [h] at y; cases y) n)
  dom := fun c h => b.dom c (a.dom c h)
  own := fun c h => by
    rcases b.own c h with z | z | z
    · exact a.own c z
    · refine .inr (.inl ?_)
      cases q : H c with
      | none => rfl
      | some o => exact absurd z (a.dom c (by rw [q]; simp))
    · rcases hS c z with y | y
      · exact .inr (.inl y)
      · exact .inl y
theorem Stp.trans (a : Stp env G H env1 G1 H1) (b : Stp env1 G1 H1 env2 G2 H2) : Stp env G H env2 G2 H2 := a.close b fun _ z => z.elim
theorem Stp.weak (a : Stp env G H env1 G1 H1) : Step S env G H env1 G1 H1 := ⟨a.g, fun c h1 h2 n _ => a.fresh c h1 h2 n id, fun c o h n _ => a.keep c o h n id, a.dom, fun c h => (a.own c h).elim .inl fun z => z.elim (fun y => .inr (.inl y)) fun y => y.elim⟩
/-- a waiting result still stands behind a step -/
theorem Pend.step (p : Pend K P w env G H v r) (a : Stp env G H env1 G1 H1) : Pend K P w env1 G1 H1 v r := by
  obtain ⟨ok, ne⟩ := p
  cases r with
  | own a => exact ⟨ok, fun _ _ z => by cases z⟩
  | c c =>
    have stay : ∀ b o, c.own = some b → H b = some o → H1 b = some o ∧ ¬ Owns env1 b ∧ ¬ Owns env b := fun b o hb ho => by
      have n := ne c b rfl hb
      refine ⟨a.keep b o ho n id, fun z => ?_, n⟩
      rcases a.own b z with y | y | y
      · exact n y
      · rw [ho] at y; cases y
      · exact y
    cases c with
    | no => exact ⟨True.intro, fun _ _ z q => by cases z; cases q⟩
    | d x => exact ⟨Dp.mono a.g _ _ ok, fun _ _ z q => by cases z; cases q⟩
    | raw u => exact ⟨ok, fun _ _ z q => by cases z; cases q⟩
    | l b xs =>
      obtain ⟨e, hg, vs, ho, hd⟩ := ok
      obtain ⟨h1, h2, h3⟩ := stay b _ rfl ho
      refine ⟨⟨e, a.fresh b (by rw [ho]; simp) hg h3 id, vs, h1, L2.DpAll.pmono a.g hd⟩, fun c' b' z q => ?_⟩
      cases z; cases q
      exact h2
    | m b kvs =>
      obtain ⟨e, hg, hz, vs, ho, hd⟩ := ok
      obtain ⟨h1, h2, h3⟩ := stay b _ rfl ho
      refine ⟨⟨e, a.fresh b (by rw [ho]; simp) hg h3 id, hz, vs, h1, Ents.mono a.g hd⟩, fun c' b' z q => ?_⟩
      cases z; cases q
      exact h2
/-- from a result that has just come -/
theorem Pend.of (ok : ResOk K P w G H v r) (f : Fr env0 H0 env r) : Pend K P w env G H v r := ⟨ok, fun c a e q => by
  subst e
  exact (f a q).1⟩
/-- a result is new for the elder start too -/
theorem Fr.back {r : R} (f : Fr env1 H1 env2 r) (a : Stp env G H env1 G1 H1) : Fr env H env2 r := by
  cases r with
  | own _ => trivial
  | c c =>
    intro b hb
    obtain ⟨h1, h2⟩ := f b hb
    refine ⟨h1, ?_⟩
    rcases h2 with z | z
    · refine .inl ?_
      cases q : H b with
      | none => rfl
      | some o => exact absurd z (a.dom b (by rw [q]; simp))
    · rcases a.own b z with y | y | y
      · exact .inr y
      · exact .inl y
      · exact y.elim
theorem Fr.dat {x : DD} : Fr env H env' (.c (.d x)) := fun _ h => by cases h
theorem Fr.rw {u : V} : Fr env H env' (.c (.raw u)) := fun _ h => by cases h
theorem Fr.non : Fr env H env' (.c .no) := fun _ h => by cases h

/-! ### what has come of an expression, of a statement -/
def Out (K : PySem.W.Frag) (P : Program) (w : World) (env : List C) (σ : PL.St) (G H : Hp) (Po : R → List C → Prop) (Q : VK) : Prop :=
  ∀ r v env' G' H', Po r env' → Stp env G H env' G' H' → Rep K P w env' σ G' H' → ResOk K P w G' H' v r → Fr env H env' r → Q v H'
theorem Out.step {Po : R → List C → Prop} {Q : VK} (o : Out K P w env σ G H Po Q) (a : Stp env G H env1 G1 H1) : Out K P w env1 σ G1 H1 Po Q :=
  fun r v env' G' H' p b rp ok f => o r v env' G' H' p (a.trans b) rp ok (f.back a)
/-- nothing changes -/
theorem Out.now {Po : R → List C → Prop} {Q : VK} (o : Out K P w env σ G H Po Q) (rp : Rep K P w env σ G H) {r : R} (p : Po r env) (ok : ResOk K P w G H v r) (f : Fr env H env r) : Q v H :=
  o r v env G H p Stp.refl rp ok f

theorem Same.none_of (e : Same G H) {a : Addr} (h : H a = none) : G a = none := e.free h
theorem same_new {o : HO} {a : Addr} (h : H a = none) : Same H (upd H a o) := fun b x e => by
  rw [upd_ne (ne_of_none e h)]
  exact e
theorem cell_mono {c : C} (ok : CellOk K P w G H v c) (g : Same G G') (hfr : ∀ a, c.own = some a → G' a = none) (hk : ∀ a, c.own = some a → H' a = H a) : CellOk K P w G' H' v c := by
  cases c with
  | no => trivial
  | d x => exact Dp.mono g _ _ ok
  | raw u => exact ok
  | l b xs =>
    obtain ⟨e, hg, vs, ho, hd⟩ := ok
    exact ⟨e, hfr b rfl, vs, (hk b rfl).trans ho, L2.DpAll.pmono g hd⟩
  | m b kvs =>
    obtain ⟨e, hg, hz, vs, ho, hd⟩ := ok
    exact ⟨e, hfr b rfl, hz, vs, (hk b rfl).trans ho, Ents.mono g hd⟩
theorem cell_there {c : C} {a : Addr} (ok : CellOk K P w G H v c) (h : c.own = some a) : v = .ref a ∧ G a = none ∧ ∃ o, H a = some o := by
  cases c with
  | no => cases h
  | d x => cases h
  | raw u => cases h
  | l b xs =>
    cases h
    exact ⟨ok.1, ok.2.1, let ⟨vs, ho, _⟩ := ok.2.2; ⟨_, ho⟩⟩
  | m b kvs =>
    cases h
    exact ⟨ok.1, ok.2.1, let ⟨_, vs, ho, _⟩ := ok.2.2; ⟨_, ho⟩⟩
theorem Rep.owned (rp : Rep K P w env σ G H) {a : Addr} (h : Owns env a) : G a = none ∧ ∃ o, H a = some o := by
  obtain ⟨i, c, hi, hc⟩ := h
  rcases rp.ok i c hi with z | ⟨v, _, ok⟩
  · subst z; cases hc
  · exact (cell_there ok hc).2
/-- a new object, own or dropped -/
theorem Rep.new (rp : Rep K P w env σ G H) {o : HO} {a : Addr} (h : H a = none) : Rep K P w env σ G (upd H a o) ∧ Stp env G H env G (upd H a o) := by
  have ne : ∀ b, Owns env b → b ≠ a := fun b hb z => by
    obtain ⟨_, o, ho⟩ := rp.owned hb
    rw [z, h] at ho; cases ho
  refine ⟨⟨rp.len, fun b x e => same_new h b x (rp.sub b x e), fun i c hi => ?_, rp.inj⟩, ⟨fun _ _ h => h, fun _ _ h _ _ => h, fun b x e _ _ => same_new h b x e, fun b e => ?_, fun _ h => .inl h⟩⟩
  · rcases rp.ok i c hi with z | ⟨v, hv, ok⟩
    · exact .inl z
    · refine .inr ⟨v, hv, cell_mono ok (fun _ _ h => h) (fun b hb => (cell_there ok hb).2.1) fun b hb => ?_⟩
      exact upd_ne (ne b ⟨i, c, hi, hb⟩)
  · obtain ⟨x, hx⟩ := some_of_ne e
    rw [same_new h b x hx]; simp
/-- a new object, frozen -/
theorem Rep.newD (rp : Rep K P w env σ G H) {o : HO} {a : Addr} (h : H a = none) : Rep K P w env σ (upd G a o) (upd H a o) ∧ Stp env G H env (upd G a o) (upd H a o) := by
  have hg : G a = none := Same.none_of rp.sub h
  have ne : ∀ b, Owns env b → b ≠ a := fun b hb z => by
    obtain ⟨_, o, ho⟩ := rp.owned hb
    rw [z, h] at ho; cases ho
  refine ⟨⟨rp.len, fun b x e => ?_, fun i c hi => ?_, rp.inj⟩, ⟨same_new hg, fun b e n _ _ => ?_, fun b x e _ _ => same_new h b x e, fun b e => ?_, fun _ h => .inl h⟩⟩
  · by_cases q : b = a
    · subst q; rw [upd_same] at e ⊢; exact e
    · rw [upd_ne q] at e ⊢; exact rp.sub b x e
  · rcases rp.ok i c hi with z | ⟨v, hv, ok⟩
    · exact .inl z
    · refine .inr ⟨v, hv, cell_mono ok (same_new hg) (fun b hb => ?_) fun b hb => ?_⟩
      · rw [upd_ne (ne b ⟨i, c, hi, hb⟩)]
        exact (cell_there ok hb).2.1
      · exact upd_ne (ne b ⟨i, c, hi, hb⟩)
  · rw [upd_ne (fun z => e (by rw [z]; exact h))]; exact n
  · obtain ⟨x, hx⟩ := some_of_ne e
    rw [same_new h b x hx]; simp
/-- an unowned own thing is frozen -/
theorem Rep.freeze (rp : Rep K P w env σ G H) {o : HO} {a : Addr} (h : H a = some o) (hn : ¬ Owns env a) (hg : G a = none) : Rep K P w env σ (upd G a o) H := by
  refine ⟨rp.len, fun b x e => ?_, fun i c hi => ?_, rp.inj⟩
  · by_cases q : b = a
    · subst q; rw [upd_same] at e; rw [h]; exact e
    · rw [upd_ne q] at e; exact rp.sub b x e
  · rcases rp.ok i c hi with z | ⟨v, hv, ok⟩
    · exact .inl z
    · refine .inr ⟨v, hv, cell_mono ok (same_new hg) (fun b hb => ?_) fun b hb => rfl⟩
      rw [upd_ne (fun z => hn ⟨i, c, hi, by rw [hb, z]⟩)]
      exact (cell_there ok hb).2.1
/-- an own thing is written -/
theorem Rep.write (rp : Rep K P w env σ G H) {o : HO} {i : Nat} {c c' : C} {a : Addr} (hi : env[i]? = some c) (hc : c.own = some a) (hc' : c'.own = some a) (ok' : CellOk K P w G (upd H a o) (.ref a) c') :
    Rep K P w (env.set i c') σ G (upd H a o) ∧ Stp env G H (env.set i c') G (upd H a o) := by
  have hil : i < env.length := (List.getElem?_eq_some_iff.mp hi).1
  obtain ⟨hg, o0, ho⟩ := rp.owned ⟨i, c, hi, hc⟩
  have gk : Same G (upd H a o) := fun b x e => by
    rw [upd_ne (fun z => by rw [z, hg] at e; cases e)]
    exact rp.sub b x e
  have oset : ∀ b, Owns (env.set i c') b → Owns env b := fun b ⟨j, cj, hj, hb⟩ => by
    by_cases q : j = i
    · subst q
      rw [List.getElem?_set_self hil] at hj
      cases hj
      exact ⟨j, c, hi, by rw [hc, ← hc', hb]⟩
    · rw [List.getElem?_set_ne (Ne.symm q)] at hj
      exact ⟨j, cj, hj, hb⟩
  refine ⟨⟨by rw [List.length_set]; exact rp.len, gk, fun j cj hj => ?_, fun j k cj ck b hj hk h1 h2 => ?_⟩, ⟨fun _ _ h => h, fun _ _ h _ _ => h, fun b x e n _ => ?_, fun b e => ?_, fun b h => .inl (oset b h)⟩⟩
  · by_cases q : j = i
    · subst q
      rw [List.getElem?_set_self hil] at hj
      cases hj
      rcases rp.ok j c hi with z | ⟨v, hv, ok⟩
      · subst z; cases hc
      · refine .inr ⟨v, hv, ?_⟩
        rw [(cell_there ok hc).1]
        exact ok'
    · rw [List.getElem?_set_ne (Ne.symm q)] at hj
      rcases rp.ok j cj hj with z | ⟨v, hv, ok⟩
      · exact .inl z
      · refine .inr ⟨v, hv, cell_mono ok (fun _ _ h => h) (fun b hb => (cell_there ok hb).2.1) fun b hb => upd_ne fun z => q ?_⟩
        exact rp.inj j i cj c a hj hi (by rw [hb, z]) hc
  · have back : ∀ (m : Nat) (cm : C), (env.set i c')[m]? = some cm → cm.own = some b → ∃ cm' : C, env[m]? = some cm' ∧ cm'.own = some b := fun m cm hm hb => by
      by_cases q : m = i
      · subst q
        rw [List.getElem?_set_self hil] at hm
        cases hm
        exact ⟨c, hi, by rw [hc, ← hc', hb]⟩
      · rw [List.getElem?_set_ne (Ne.symm q)] at hm
        exact ⟨cm, hm, hb⟩
    obtain ⟨c1, a1, a2⟩ := back j cj hj h1
    obtain ⟨c2, b1, b2⟩ := back k ck hk h2
    exact rp.inj j k c1 c2 b a1 b1 a2 b2
  · rw [upd_ne (fun z => n ⟨i, c, hi, by rw [hc, z]⟩)]
    exact e
  · by_cases q : b = a
    · subst q; rw [upd_same]; simp
    · rw [upd_ne q]; exact e
/-- the cell at a place -/
theorem Rep.at (rp : Rep K P w env σ G H) {i : Nat} {c : C} (hi : env[i]? = some c) (hn : c ≠ .no) : ∃ v, σ[i]? = some (some v) ∧ CellOk K P w G H v c :=
  (rp.ok i c hi).elim (fun z => absurd z hn) id
end
end PL

/-! The judgements on cells, and a rule for each reading. -/
namespace PL
open PySem PySem.Spec PyProof.Rows L2

def R.new : R → Option Addr
  | .c x => x.own
  | .own _ => none
/-- results that wait together -/
structure Pends (K : PySem.W.Frag) (P : Program) (w : World) (env : List C) (G H : Hp) (vs : List V) (rs : List R) : Prop where
  all : Paired (Pend K P w env G H) vs rs
  nd : (rs.filterMap R.new).Nodup
structure PD where
  nx : List C → Prop
  rt : R → List C → Prop
  bk : List C → Prop := fun _ => False
  ct : List C → Prop := fun _ => False
structure OutS (K : PySem.W.Frag) (P : Program) (w : World) (env : List C) (G H : Hp) (Po : PD) (D : Ends) : Prop where
  nx : ∀ env' σ' G' H', Po.nx env' → Stp env G H env' G' H' → Rep K P w env' σ' G' H' → D.nx σ' H'
  rt : ∀ r v env' σ' G' H', Po.rt r env' → Stp env G H env' G' H' → Rep K P w env' σ' G' H' → ResOk K P w G' H' v r → Fr env H env' r → D.rt v H'
  bk : ∀ env' σ' G' H', Po.bk env' → Stp env G H env' G' H' → Rep K P w env' σ' G' H' → D.bk σ' H'
  ct : ∀ env' σ' G' H', Po.ct env' → Stp env G H env' G' H' → Rep K P w env' σ' G' H' → D.ct σ' H'

section
variable (K : PySem.W.Frag) (P : Program) (w : World)
def WE (te : TE) (env : List C) (Po : R → List C → Prop) : Prop := ∀ σ G H, Rep K P w env σ G H → ∀ Q : VK, Out K P w env σ G H Po Q → te σ H Q
def WT (tt : TT) (env : List C) (Po : Bool → List C → Prop) : Prop :=
  ∀ σ G H, Rep K P w env σ G H → ∀ Q : Bool → Hp → Prop, (∀ b env' G' H', Po b env' → Stp env G H env' G' H' → Rep K P w env' σ G' H' → Q b H') → tt σ H Q
def OutA (env : List C) (σ : PL.St) (G H : Hp) (Po : List R → List C → Prop) (Q : List V → Hp → Prop) : Prop :=
  ∀ rs vs env' G' H', Po rs env' → Stp env G H env' G' H' → Rep K P w env' σ G' H' → Pends K P w env' G' H' vs rs → (∀ r ∈ rs, Fr env H env' r) → Q vs H'
def WA (ta : TA) (env : List C) (Po : List R → List C → Prop) : Prop := ∀ σ G H, Rep K P w env σ G H → ∀ Q : List V → Hp → Prop, OutA K P w env σ G H Po Q → ta σ H Q
/-- operations on values that wait -/
def W1 (r : V → Hp → VK → Prop) (a : R) (env : List C) (Po : R → List C → Prop) : Prop := ∀ σ G H x, Rep K P w env σ G H → Pend K P w env G H x a → ∀ Q : VK, Out K P w env σ G H Po Q → r x H Q
def W2 (r : R2) (a b : R) (env : List C) (Po : R → List C → Prop) : Prop :=
  ∀ σ G H x y, Rep K P w env σ G H → Pend K P w env G H x a → Pend K P w env G H y b → ∀ Q : VK, Out K P w env σ G H Po Q → r x y H Q
def WL (r : List V → Hp → VK → Prop) (rs : List R) (env : List C) (Po : R → List C → Prop) : Prop := ∀ σ G H vs, Rep K P w env σ G H → Pends K P w env G H vs rs → ∀ Q : VK, Out K P w env σ G H Po Q → r vs H Q
/-- a target takes a result -/
def WG (g : TG) (r : R) (env : List C) (Po : List C → Prop) : Prop :=
  ∀ σ G H v, Rep K P w env σ G H → Pend K P w env G H v r → ∀ Q : PL.St → Hp → Prop,
    (∀ env' σ' G' H', Po env' → Step (fun a => r.new = some a) env G H env' G' H' → Rep K P w env' σ' G' H' → Q σ' H') → g v σ H Q
def WGs (g : TGs) (rs : List R) (env : List C) (Po : List C → Prop) : Prop :=
  ∀ σ G H vs, Rep K P w env σ G H → Pends K P w env G H vs rs → ∀ Q : PL.St → Hp → Prop,
    (∀ env' σ' G' H', Po env' → Step (fun a => a ∈ rs.filterMap R.new) env G H env' G' H' → Rep K P w env' σ' G' H' → Q σ' H') → g vs σ H Q
def WS (ts : TS) (env : List C) (Po : PD) : Prop := ∀ σ G H, Rep K P w env σ G H → ∀ D : Ends, OutS K P w env G H Po D → ts D σ H
/-- an iterator over frozen data gives the items -/
def Iter (J : It) (items : List DD) (G0 : Hp) : Prop :=
  ∀ G H, Same G0 G → Same G H → (∀ i, i < items.length → J.go i H) ∧ J.stop items.length H ∧
    ∀ i x H' d, items[i]? = some d → J.yld i H x H' → ∃ G', Same G G' ∧ Same G' H' ∧ Same H H' ∧ (∀ a, H a ≠ none → G a = none → G' a = none) ∧ Dp K G' x d
def WI (wi : TI) (env : List C) (Po : List DD → List C → Prop) : Prop :=
  ∀ σ G H, Rep K P w env σ G H → ∀ Q : It → Hp → Prop, (∀ J items env' G' H', Po items env' → Stp env G H env' G' H' → Rep K P w env' σ G' H' → Iter K J items G' → Q J H') → wi σ H Q
end

section
variable {K : PySem.W.Frag} {P : Program} {w : World}
variable {env env' env1 : List C} {Po Po' : R → List C → Prop} {te ta tb tc : TE} {σ : PL.St} {G G' H H' : Hp}
theorem WE.mono (h : WE K P w te env Po) (m : ∀ r e, Po r e → Po' r e) : WE K P w te env Po' := fun σ G H rp Q o => h σ G H rp Q fun r v env' G' H' p => o r v env' G' H' (m r env' p)
theorem OutS.step {Po : PD} {D : Ends} {G1 H1 : Hp} (o : OutS K P w env G H Po D) (a : Stp env G H env1 G1 H1) : OutS K P w env1 G1 H1 Po D :=
  ⟨fun e s g h p b rp => o.nx e s g h p (a.trans b) rp, fun r v e s g h p b rp ok f => o.rt r v e s g h p (a.trans b) rp ok (f.back a), fun e s g h p b rp => o.bk e s g h p (a.trans b) rp, fun e s g h p b rp => o.ct e s g h p (a.trans b) rp⟩
theorem WS.mono {ts : TS} {Po Po' : PD} (h : WS K P w ts env Po) (m1 : ∀ e, Po.nx e → Po'.nx e) (m2 : ∀ r e, Po.rt r e → Po'.rt r e) (m3 : ∀ e, Po.bk e → Po'.bk e) (m4 : ∀ e, Po.ct e → Po'.ct e) : WS K P w ts env Po' :=
  fun σ G H rp D o => h σ G H rp D ⟨fun e s g h p => o.nx e s g h (m1 _ p), fun r v e s g h p => o.rt r v e s g h (m2 _ _ p), fun e s g h p => o.bk e s g h (m3 _ p), fun e s g h p => o.ct e s g h (m4 _ p)⟩

/-! ### names, constants -/
theorem we_d {i : Nat} {x : DD} (h : env[i]? = some (.d x)) (p : Po (.c (.d x)) env) : WE K P w (tVar i) env Po := fun σ G H rp Q o => by
  obtain ⟨v, hv, ok⟩ := rp.at h (by simp)
  exact ⟨v, hv, o.now rp p ok Fr.dat⟩
theorem we_raw {i : Nat} {x : V} (h : env[i]? = some (.raw x)) (p : Po (.c (.raw x)) env) : WE K P w (tVar i) env Po := fun σ G H rp Q o => by
  obtain ⟨v, hv, ok⟩ := rp.at h (by simp)
  exact ⟨v, hv, o.now rp p ok Fr.rw⟩
theorem we_own {i : Nat} {c : C} {a : Addr} (h : env[i]? = some c) (hc : c.own = some a) (p : Po (.own a) env) : WE K P w (tVar i) env Po := fun σ G H rp Q o => by
  obtain ⟨v, hv, ok⟩ := rp.at h (by rintro rfl; cases hc)
  exact ⟨v, hv, o.now rp p (show v = .ref a from (cell_there ok hc).1) trivial⟩
/-- a cell is forgotten -/
theorem Rep.drop (rp : Rep K P w env σ G H) {i : Nat} : Rep K P w (env.set i .no) σ G H ∧ Stp env G H (env.set i .no) G H := by
  have key : ∀ (j : Nat) (c : C), (env.set i .no)[j]? = some c → c = .no ∨ (j ≠ i ∧ env[j]? = some c) := fun j c hj => by
    by_cases q : j = i
    · subst q
      by_cases hl : j < env.length
      · rw [List.getElem?_set_self hl] at hj
        cases hj
        exact .inl rfl
      · rw [List.getElem?_eq_none (by simpa using hl)] at hj
        cases hj
    · rw [List.getElem?_set_ne (Ne.symm q)] at hj
      exact .inr ⟨q, hj⟩
  refine ⟨⟨by rw [List.length_set]; exact rp.len, rp.sub, fun j c hj => ?_, fun j k cj ck a hj hk h1 h2 => ?_⟩, ⟨fun _ _ h => h, fun _ _ h _ _ => h, fun _ _ h _ _ => h, fun _ h => h, fun a ⟨j, c, hj, hc⟩ => ?_⟩⟩
  · rcases key j c hj with z | ⟨_, z⟩
    · exact .inl z
    · exact rp.ok j c z
  · rcases key j cj hj with z | ⟨_, z⟩
    · subst z; cases h1
    · rcases key k ck hk with y | ⟨_, y⟩
      · subst y; cases h2
      · exact rp.inj j k cj ck a z y h1 h2
  · rcases key j c hj with z | ⟨_, z⟩
    · subst z; cases hc
    · exact .inl ⟨j, c, z, hc⟩
/-- an own thing is handed out of its slot -/
theorem we_move {i : Nat} {c : C} {a : Addr} (h : env[i]? = some c) (hc : c.own = some a) (p : Po (.c c) (env.set i .no)) : WE K P w (tVar i) env Po := fun σ G H rp Q o => by
  obtain ⟨v, hv, ok⟩ := rp.at h (by rintro rfl; cases hc)
  obtain ⟨rp', st⟩ := rp.drop (i := i)
  refine ⟨v, hv, o (.c c) v _ G H p st rp' ok fun b hb => ⟨fun ⟨j, cj, hj, hcj⟩ => ?_, .inr ⟨i, c, h, hb⟩⟩⟩
  have hil : i < env.length := (List.getElem?_eq_some_iff.mp h).1
  by_cases q : j = i
  · subst q
    rw [List.getElem?_set_self hil] at hj
    cases hj; cases hcj
  · rw [List.getElem?_set_ne (Ne.symm q)] at hj
    exact q (rp.inj j i cj c b hj h hcj hb)
theorem we_int {i : Int} (p : Po (.c (.d (.int i))) env) : WE K P w (tC (.int i)) env Po := fun _ _ _ rp _ o => o.now rp p (Dp.int i) Fr.dat
theorem we_bl {b : Bool} (p : Po (.c (.d (.bool b))) env) : WE K P w (tC (.bl b)) env Po := fun _ _ _ rp _ o => o.now rp p (Dp.bl b) Fr.dat
theorem we_non (p : Po (.c (.d .none)) env) : WE K P w (tC .non) env Po := fun _ _ _ rp _ o => o.now rp p Dp.non Fr.dat
theorem we_str {x : Str} (p : Po (.c (.d (.str x))) env) : WE K P w (tC (.str x)) env Po := fun _ _ _ rp _ o => o.now rp p (Dp.str x) Fr.dat
theorem we_cv {v : V} (p : Po (.c (.raw v)) env) : WE K P w (tC v) env Po := fun _ _ _ rp _ o => o.now rp p (show v = v from rfl) Fr.rw

/-- a new own thing is frozen -/
theorem we_frz (h : WE K P w te env fun r e => ∃ a xs, r = .c (.l a xs) ∧ Po (.c (.d (.list xs))) e) : WE K P w te env Po := fun σ G H rp Q o =>
  h σ G H rp Q fun r v env' G' H' ⟨a, xs, e, p⟩ st rp' ok f => by
    subst e
    obtain ⟨ev, hg, vs, ho, hd⟩ := ok
    obtain ⟨f1, f2⟩ := f a rfl
    have sg : Same G' (upd G' a (.lst vs)) := same_new hg
    refine o (.c (.d (.list xs))) v env' (upd G' a (.lst vs)) H' p ⟨fun b x e => sg b x (st.g b x e), fun b h1 h2 n _ => ?_, st.keep, st.dom, st.own⟩ (rp'.freeze ho f1 hg) ?_ Fr.dat
    · by_cases q : b = a
      · subst q
        exfalso
        rcases f2 with z | z
        · exact h1 z
        · exact n z
      · rw [upd_ne q]; exact st.fresh b h1 h2 n id
    · subst ev
      exact Dp.lst (.inl (.inl upd_same)) (L2.DpAll.pmono sg hd)
end
end PL

/-! Rules: operations, calls of built-ins, displays, tests, targets, statements. -/
namespace PL
open PySem PySem.Spec PyProof.Rows L2

section
variable {K : PySem.W.Frag} {P : Program} {w : World}
variable {env env' env1 : List C} {Po Po' : R → List C → Prop} {te ta tb tc : TE} {σ : PL.St} {G G' G1 H H' H1 : Hp} {S : Addr → Prop} {v x y : V} {r : R}

/-- a waiting result behind a target's step -/
theorem Pend.stepS (p : Pend K P w env G H v r) (a : Step S env G H env1 G1 H1) (hS : ∀ c b, r = .c c → c.own = some b → ¬ S b) : Pend K P w env1 G1 H1 v r := by
  obtain ⟨ok, ne⟩ := p
  cases r with
  | own a => exact ⟨ok, fun _ _ z => by cases z⟩
  | c c =>
    have own1 : ∀ b, c.own = some b → ¬ Owns env1 b := fun b hb z => by
      rcases a.own b z with y | y | y
      · exact ne c b rfl hb y
      · obtain ⟨_, _, o, ho⟩ := cell_there ok hb
        rw [ho] at y; cases y
      · exact hS c b rfl hb y
    refine ⟨cell_mono ok a.g (fun b hb => ?_) (fun b hb => ?_), fun c' b e hb => ?_⟩
    · obtain ⟨_, hg, o, ho⟩ := cell_there ok hb
      exact a.fresh b (by rw [ho]; simp) hg (ne c b rfl hb) (hS c b rfl hb)
    · obtain ⟨_, hg, o, ho⟩ := cell_there ok hb
      rw [ho]
      exact a.keep b o ho (ne c b rfl hb) (hS c b rfl hb)
    · cases e
      exact own1 b hb

/-! ### operations -/
theorem we_op {q : R2} (h : WE K P w ta env fun a e1 => WE K P w tb e1 fun b e2 => W2 K P w q a b e2 Po) : WE K P w (tOp q ta tb) env Po := fun σ G H rp Q o =>
  h σ G H rp _ fun a va e1 G1 H1 pa s1 r1 oka fa => pa σ G1 H1 r1 _ fun b vb e2 G2 H2 pb s2 r2 okb fb =>
    pb σ G2 H2 va vb r2 ((Pend.of oka fa).step s2) (Pend.of okb fb) Q (o.step (s1.trans s2))
theorem we_un {q : V → Hp → VK → Prop} (h : WE K P w ta env fun a e1 => W1 K P w q a e1 Po) : WE K P w (tUn q ta) env Po := fun σ G H rp Q o =>
  h σ G H rp _ fun a va e1 G1 H1 pa s1 r1 oka fa => pa σ G1 H1 va r1 (Pend.of oka fa) Q (o.step s1)
theorem w2_I0 {g : Int → Int → V} {d : DD} {i j : Int} (hd : ∀ H, Dp K H (g i j) d) (p : Po (.c (.d d)) env) : W2 K P w (rI0 g) (.c (.d (.int i))) (.c (.d (.int j))) env Po := fun σ G H x y rp px py Q o => by
  have e1 : x = .int i := by have := px.1; cases this; rfl
  have e2 : y = .int j := by have := py.1; cases this; rfl
  exact ⟨i, j, e1, e2, o.now rp p (hd G) Fr.dat⟩
theorem w2_I {Cd : Int → Int → Prop} {g : Int → Int → V} {d : DD} {i j : Int} (hc : Cd i j) (hd : ∀ H, Dp K H (g i j) d) (p : Po (.c (.d d)) env) : W2 K P w (rI Cd g) (.c (.d (.int i))) (.c (.d (.int j))) env Po := fun σ G H x y rp px py Q o => by
  have e1 : x = .int i := by have := px.1; cases this; rfl
  have e2 : y = .int j := by have := py.1; cases this; rfl
  exact ⟨i, j, e1, e2, hc, o.now rp p (hd G) Fr.dat⟩
theorem w2_int {g : Int → Int → Int} {i j : Int} (p : Po (.c (.d (.int (g i j)))) env) : W2 K P w (rI0 fun i j => .int (g i j)) (.c (.d (.int i))) (.c (.d (.int j))) env Po := w2_I0 (fun _ => Dp.int _) p
theorem w2_bl {g : Int → Int → Bool} {i j : Int} (p : Po (.c (.d (.bool (g i j)))) env) : W2 K P w (rI0 fun i j => .bl (g i j)) (.c (.d (.int i))) (.c (.d (.int j))) env Po := w2_I0 (fun _ => Dp.bl _) p
theorem w2_intC {Cd : Int → Int → Prop} {g : Int → Int → Int} {i j : Int} (hc : Cd i j) (p : Po (.c (.d (.int (g i j)))) env) : W2 K P w (rI Cd fun i j => .int (g i j)) (.c (.d (.int i))) (.c (.d (.int j))) env Po := w2_I hc (fun _ => Dp.int _) p
theorem W2.inl {q q' : R2} {a b : R} (h : W2 K P w q a b env Po) : W2 K P w (fun x y H Q => q x y H Q ∨ q' x y H Q) a b env Po := fun σ G H x y rp px py Q o => .inl (h σ G H x y rp px py Q o)
theorem W2.inr {q q' : R2} {a b : R} (h : W2 K P w q' a b env Po) : W2 K P w (fun x y H Q => q x y H Q ∨ q' x y H Q) a b env Po := fun σ G H x y rp px py Q o => .inr (h σ G H x y rp px py Q o)

/-- the result reads as a list of data -/
def LL (env : List C) (r : R) (xs : List DD) : Prop := r = .c (.d (.list xs)) ∨ (∃ a, r = .c (.l a xs)) ∨ ∃ (a : Addr) (i : Nat), r = .own a ∧ env[i]? = some (.l a xs)
theorem LL.dat {xs : List DD} : LL env (.c (.d (.list xs))) xs := .inl rfl
theorem LL.new {a : Addr} {xs : List DD} : LL env (.c (.l a xs)) xs := .inr (.inl ⟨a, rfl⟩)
theorem LL.own {a : Addr} {xs : List DD} (i : Nat) (h : env[i]? = some (.l a xs)) : LL env (.own a) xs := .inr (.inr ⟨a, i, rfl, h⟩)
theorem LL.seq {xs : List DD} (h : LL env r xs) (rp : Rep K P w env σ G H) (p : Pend K P w env G H v r) : ∃ a vs, v = .ref a ∧ SqL K H a vs ∧ DpAll K G vs xs := by
  rcases h with e | ⟨a, e⟩ | ⟨a, i, e, hi⟩
  · subst e
    have ok : Dp K G v (.list xs) := p.1
    cases ok with
    | lst hs ha => exact ⟨_, _, rfl, Same.seq rp.sub hs, ha⟩
  · subst e
    obtain ⟨e1, hg, vs, ho, hd⟩ : CellOk K P w G H v (.l a xs) := p.1
    exact ⟨a, vs, e1, .inl (.inl ho), hd⟩
  · subst e
    have ev : v = .ref a := p.1
    obtain ⟨u, _, ok⟩ := rp.at hi (by simp)
    obtain ⟨_, hg, vs, ho, hd⟩ : CellOk K P w G H u (.l a xs) := ok
    exact ⟨a, vs, ev, .inl (.inl ho), hd⟩
theorem LL.dp {xs : List DD} (h : LL env r xs) (rp : Rep K P w env σ G H) (p : Pend K P w env G H v r) : Dp K H v (.list xs) := by
  obtain ⟨a, vs, e, hs, hd⟩ := h.seq rp p
  subst e
  exact .lst hs (L2.DpAll.pmono rp.sub hd)
theorem dat_tup {xs : List DD} (p : Pend K P w env G H v (.c (.d (.tuple xs)))) : ∃ a vs, v = .ref a ∧ SqT K G a vs ∧ DpAll K G vs xs := by
  have ok : Dp K G v (.tuple xs) := p.1
  cases ok with
  | tup hs ha => exact ⟨_, _, rfl, hs, ha⟩
/-- the result reads as data, in the whole heap -/
def Rd (env : List C) (r : R) (d : DD) : Prop := r = .c (.d d) ∨ ∃ xs, d = .list xs ∧ LL env r xs
theorem Rd.dp {d : DD} (h : Rd env r d) (rp : Rep K P w env σ G H) (p : Pend K P w env G H v r) : Dp K H v d := by
  rcases h with e | ⟨xs, e, h⟩
  · subst e
    exact Dp.mono rp.sub _ _ (show Dp K G v d from p.1)
  · subst e
    exact h.dp rp p
theorem Rd.dat {d : DD} : Rd env (.c (.d d)) d := .inl rfl
theorem Rd.of {xs : List DD} (h : LL env r xs) : Rd env r (.list xs) := .inr ⟨xs, rfl, h⟩

theorem w2_eqD {a b : R} {d e : DD} (ha : Rd env a d) (hb : Rd env b e) (sd : SeqAt.shaped d = true) (se : SeqAt.shaped e = true) (p : Po (.c (.d (.bool (PyData.eqv d e)))) env) : W2 K P w (rEqD K) a b env Po := fun σ G H x y rp px py Q o =>
  ⟨d, e, ha.dp rp px, hb.dp rp py, sd, se, o.now rp p (Dp.bl _) Fr.dat⟩
theorem w2_neD {a b : R} {d e : DD} (ha : Rd env a d) (hb : Rd env b e) (sd : SeqAt.shaped d = true) (se : SeqAt.shaped e = true) (p : Po (.c (.d (.bool (!PyData.eqv d e)))) env) : W2 K P w (rNeD K) a b env Po := fun σ G H x y rp px py Q o =>
  ⟨d, e, ha.dp rp px, hb.dp rp py, sd, se, o.now rp p (Dp.bl _) Fr.dat⟩
theorem w2_inD {a b : R} {d : DD} {ds : List DD} (ha : Rd env a d) (hb : LL env b ds) (sd : SeqAt.shaped d = true) (se : SeqAt.shaped (.list ds) = true) (p : Po (.c (.d (.bool (ds.any fun z => PyData.eqv z d)))) env) : W2 K P w (rInD K) a b env Po := fun σ G H x y rp px py Q o =>
  ⟨d, ds, ha.dp rp px, hb.dp rp py, sd, se, o.now rp p (Dp.bl _) Fr.dat⟩
theorem w2_notInD {a b : R} {d : DD} {ds : List DD} (ha : Rd env a d) (hb : LL env b ds) (sd : SeqAt.shaped d = true) (se : SeqAt.shaped (.list ds) = true) (p : Po (.c (.d (.bool (!ds.any fun z => PyData.eqv z d)))) env) : W2 K P w (rNotInD K) a b env Po := fun σ G H x y rp px py Q o =>
  ⟨d, ds, ha.dp rp px, hb.dp rp py, sd, se, o.now rp p (Dp.bl _) Fr.dat⟩
theorem atI_len {α β : Type} {xs : List α} {ys : List β} (h : xs.length = ys.length) {i : Int} {d : β} (e : atI ys i = some d) : ∃ j : Nat, ys[j]? = some d ∧ ∀ u, xs[j]? = some u → atI xs i = some u := by
  unfold atI at e ⊢
  rw [h]
  cases q : ixN ys.length i with
  | none => rw [q] at e; cases e
  | some j =>
    rw [q] at e
    exact ⟨j, e, fun u hu => hu⟩
theorem w2_ixT {xs : List DD} {i : Int} {d : DD} (h : atI xs i = some d) (p : Po (.c (.d d)) env) : W2 K P w (rIxT K) (.c (.d (.tuple xs))) (.c (.d (.int i))) env Po := fun σ G H x y rp px py Q o => by
  obtain ⟨a, vs, e1, hs, hd⟩ := dat_tup px
  have e2 : y = .int i := by have := py.1; cases this; rfl
  obtain ⟨j, hj, k⟩ := atI_len hd.plength h
  obtain ⟨u, hu, du⟩ := hd.pget hj
  exact ⟨a, vs, i, u, e1, e2, Same.seqT rp.sub hs, k u hu, o.now rp p (show Dp K G u d from du) Fr.dat⟩
theorem w2_ixL {a : R} {xs : List DD} {i : Int} {d : DD} (ha : LL env a xs) (h : atI xs i = some d) (p : Po (.c (.d d)) env) : W2 K P w (rIxL K) a (.c (.d (.int i))) env Po := fun σ G H x y rp px py Q o => by
  obtain ⟨b, vs, e1, hs, hd⟩ := ha.seq rp px
  have e2 : y = .int i := by have := py.1; cases this; rfl
  obtain ⟨j, hj, k⟩ := atI_len hd.plength h
  obtain ⟨u, hu, du⟩ := hd.pget hj
  exact ⟨b, vs, i, u, e1, e2, hs, k u hu, o.now rp p (show Dp K G u d from du) Fr.dat⟩
/-- a new frozen tuple -/
theorem Out.tup {Q : VK} (o : Out K P w env σ G H Po Q) (rp : Rep K P w env σ G H) {vs : List V} {ds : List DD} (hd : DpAll K G vs ds) (p : Po (.c (.d (.tuple ds))) env) {a : Addr} (ha : H a = none) : Q (.ref a) (upd H a (.tup vs)) := by
  obtain ⟨rp', st⟩ := rp.newD (o := .tup vs) ha
  exact o _ _ env _ _ p st rp' (Dp.tup (.inl (.inl upd_same)) (L2.DpAll.pmono st.g hd)) Fr.dat
/-- a new own list -/
theorem Out.lst {Q : VK} (o : Out K P w env σ G H Po Q) (rp : Rep K P w env σ G H) {vs : List V} {ds : List DD} (hd : DpAll K G vs ds) {a : Addr} (p : Po (.c (.l a ds)) env) (ha : H a = none) : Q (.ref a) (upd H a (.lst vs)) := by
  obtain ⟨rp', st⟩ := rp.new (o := .lst vs) ha
  refine o _ _ env _ _ p st rp' ⟨rfl, Same.none_of rp.sub ha, vs, upd_same, hd⟩ fun b e => ?_
  cases e
  refine ⟨fun z => ?_, .inl ha⟩
  obtain ⟨_, x, hx⟩ := rp.owned z
  rw [ha] at hx
  cases hx
theorem w2_catT {xs ys : List DD} (hz : xs.length + ys.length ≤ 100000) (p : Po (.c (.d (.tuple (xs ++ ys)))) env) : W2 K P w (rCatA K) (.c (.d (.tuple xs))) (.c (.d (.tuple ys))) env Po := fun σ G H x y rp px py Q o => by
  obtain ⟨a, vs, e1, hs, hd⟩ := dat_tup px
  obtain ⟨b, us, e2, hs2, hd2⟩ := dat_tup py
  have l1 := hd.plength
  have l2 := hd2.plength
  refine ⟨a, b, vs, us, e1, e2, Same.seqT rp.sub hs, Same.seqT rp.sub hs2, Nat.le_trans (by omega) (show 100000 ≤ sizeLine by decide), fun h0 => ?_, fun _ h0 => ?_, fun _ _ q hq => o.tup rp (hd.pappend hd2) p hq⟩
  · subst h0
    have e : xs = [] := List.length_eq_zero_iff.mp (by rw [← l1]; rfl)
    subst e
    exact o.now rp p (show Dp K G (.ref b) _ from .tup hs2 hd2) Fr.dat
  · subst h0
    have e : ys = [] := List.length_eq_zero_iff.mp (by rw [← l2]; rfl)
    subst e
    refine o.now rp p (show Dp K G (.ref a) _ from ?_) Fr.dat
    rw [List.append_nil]
    exact .tup hs hd
end

/-! ### list + list, whatever they are -/
def rCatL (K : PySem.W.Frag) : R2 := fun x y H Q => ∃ l b xs zs, x = .ref l ∧ y = .ref b ∧ SqL K H l xs ∧ SqL K H b zs ∧ xs.length + zs.length ≤ sizeLine ∧ ∀ p, H p = none → Q (.ref p) (upd H p (.lst (xs ++ zs)))
theorem op_catL {X : Cx} : OpR X (binaryOp .Add) (rCatL X.K) := by
  intro pins s σ H x y v u Q I rx ry h
  obtain ⟨l, b, xs, zs, rfl, rfl, hL, hB, hz, q⟩ := h
  cases rx
  cases ry
  obtain ⟨its, r, ⟨⟨cls, dd, data, sl⟩, n, ho, hc, hdd, hd⟩, _⟩ := I.list hL
  obtain ⟨its2, r2, ⟨⟨cls2, dd2, data2, sl2⟩, n2, ho2, hc2, hdd2, hd2⟩, _⟩ := I.list hB
  simp only at hc hd hdd hc2 hd2 hdd2
  subst hc hd hdd hc2 hd2 hdd2
  have e : its.toArray ++ its2.toArray = (its ++ its2).toArray := by simp
  have h1 := r.length
  have h2 := r2.length
  refine concat_meets ⟨_, ho, rfl⟩ ⟨_, ho2, rfl⟩ noFill_list_add seq_list_add PySem.F.slot_list_add PySem.F.entry_list_add (PySem.F.args_list_add_2 _ _) (list_addW l b its.toArray its2.toArray n n2 none none sl sl2 (by simp; omega)) ⟨ho, ho2, ?_⟩
  rw [e]
  exact ⟨.ref _, _, I.lnew (t' := s.toks) (r.append r2) (by rw [List.length_append]; omega), rfl, q _ I.fresh⟩

section
variable {K : PySem.W.Frag} {P : Program} {w : World}
variable {env env' env1 : List C} {Po Po' : R → List C → Prop} {te ta tb tc : TE} {σ : PL.St} {G G' G1 H H' H1 : Hp} {S : Addr → Prop} {v x y : V} {r : R}
theorem w2_catL {a b : R} {xs ys : List DD} (ha : LL env a xs) (hb : LL env b ys) (hz : xs.length + ys.length ≤ 10000000) (p : ∀ q, Po (.c (.l q (xs ++ ys))) env) : W2 K P w (rCatL K) a b env Po := fun σ G H x y rp px py Q o => by
  obtain ⟨a, vs, e1, hs, hd⟩ := ha.seq rp px
  obtain ⟨b, us, e2, hs2, hd2⟩ := hb.seq rp py
  have l1 := hd.plength
  have l2 := hd2.plength
  exact ⟨a, b, vs, us, e1, e2, hs, hs2, Nat.le_trans (by omega) (show 10000000 ≤ sizeLine by decide), fun q hq => o.lst rp (hd.pappend hd2) (p q) hq⟩

/-! ### argument lists, displays -/
theorem wa_nil {Po : List R → List C → Prop} (p : Po [] env) : WA K P w tNil env Po := fun σ G H rp Q o => o [] [] env G H p Stp.refl rp ⟨.nil, List.nodup_nil⟩ fun _ h => by cases h
theorem Pends.step {rs : List R} {vs : List V} (p : Pends K P w env G H vs rs) (a : Stp env G H env1 G1 H1) : Pends K P w env1 G1 H1 vs rs := ⟨Paired.mapP p.all fun _ _ z => z.step a, p.nd⟩
theorem Pends.stepS {rs : List R} {vs : List V} (p : Pends K P w env G H vs rs) (a : Step S env G H env1 G1 H1) (hS : ∀ b ∈ rs.filterMap R.new, ¬ S b) : Pends K P w env1 G1 H1 vs rs := by
  obtain ⟨h, nd⟩ := p
  refine ⟨?_, nd⟩
  clear nd
  induction h with
  | nil => exact .nil
  | @cons v r vs rs h1 _ ih =>
    refine .cons (h1.stepS a fun c b e hb => hS b ?_) (ih fun b hb => hS b ?_)
    · subst e
      rw [List.filterMap_cons_some (show R.new (.c c) = some b from hb)]
      exact List.mem_cons_self
    · rw [List.filterMap_cons]
      cases R.new r with
      | none => exact hb
      | some _ => exact List.mem_cons_of_mem _ hb
theorem wa_cons {t : TA} {Po : List R → List C → Prop} (h : WE K P w te env fun r e1 => WA K P w t e1 fun rs e2 => Po (r :: rs) e2) : WA K P w (tCons te t) env Po := fun σ G H rp Q o =>
  h σ G H rp _ fun r v e1 G1 H1 p1 s1 r1 ok1 f1 => p1 σ G1 H1 r1 _ fun rs vs e2 G2 H2 p2 s2 r2 ps f2 => by
    have pd := (Pend.of ok1 f1).step s2
    refine o (r :: rs) (v :: vs) e2 G2 H2 p2 (s1.trans s2) r2 ⟨.cons pd ps.all, ?_⟩ fun r' hr => ?_
    · cases hn : R.new r with
      | none => rw [List.filterMap_cons_none hn]; exact ps.nd
      | some a =>
        rw [List.filterMap_cons_some hn]
        refine List.nodup_cons.mpr ⟨fun hm => ?_, ps.nd⟩
        obtain ⟨r', hr', hn'⟩ := List.mem_filterMap.mp hm
        cases r with
        | own _ => cases hn
        | c c =>
          cases r' with
          | own _ => cases hn'
          | c c' =>
            have g1 := (f1 a hn).1
            obtain ⟨_, _, x, hx⟩ := cell_there ok1 hn
            rcases (f2 _ hr' a hn').2 with z | z
            · rw [hx] at z; cases z
            · exact g1 z
    · rcases List.mem_cons.mp hr with e | hr
      · subst e
        cases r' with
        | own _ => trivial
        | c c =>
          intro a ha
          refine ⟨pd.2 c a rfl ha, (f1 a ha).2⟩
      · exact (f2 r' hr).back s1
theorem Pends.dats {vs : List V} : ∀ {ds : List DD}, Pends K P w env G H vs (ds.map fun d => .c (.d d)) → DpAll K G vs ds := by
  intro ds h
  have := h.all
  clear h
  induction ds generalizing vs with
  | nil => cases this; exact .nil
  | cons d ds ih =>
    cases this with
    | cons h1 h2 => exact .cons h1.1 (ih h2)
theorem we_tup {t : TA} (h : WA K P w t env fun rs e => ∃ ds, rs = ds.map (fun d => R.c (.d d)) ∧ ds.length ≤ 100000 ∧ Po (.c (.d (.tuple ds))) e) : WE K P w (tTup t) env Po := fun σ G H rp Q o =>
  h σ G H rp _ fun rs vs e1 G1 H1 ⟨ds, er, hz, p⟩ s1 r1 ps fs => by
    subst er
    have hd := ps.dats
    have hl := hd.plength
    exact ⟨Nat.le_trans (by omega) (show 100000 ≤ sizeLine by decide), fun q hq => (o.step s1).tup r1 hd p hq⟩
theorem we_lst {t : TA} (h : WA K P w t env fun rs e => ∃ ds, rs = ds.map (fun d => R.c (.d d)) ∧ ds.length ≤ 100000 ∧ ∀ a, Po (.c (.l a ds)) e) : WE K P w (tLst t) env Po := fun σ G H rp Q o =>
  h σ G H rp _ fun rs vs e1 G1 H1 ⟨ds, er, hz, p⟩ s1 r1 ps fs => by
    subst er
    have hd := ps.dats
    have hl := hd.plength
    exact ⟨Nat.le_trans (by omega) (show 100000 ≤ sizeLine by decide), fun q hq => (o.step s1).lst r1 hd (p q) hq⟩

/-! ### calls of built-ins -/
theorem we_cb {t : TA} {q : List V → Hp → VK → Prop} (h : WA K P w t env fun rs e => WL K P w q rs e Po) : WE K P w (tCB q t) env Po := fun σ G H rp Q o =>
  h σ G H rp _ fun rs vs e1 G1 H1 p s1 r1 ps fs => p σ G1 H1 vs r1 ps Q (o.step s1)
theorem Pends.one {vs : List V} (h : Pends K P w env G H vs [r]) : ∃ v, vs = [v] ∧ Pend K P w env G H v r := by
  have := h.all
  cases this with
  | cons h1 h2 => cases h2; exact ⟨_, rfl, h1⟩
theorem Pends.two {vs : List V} {r2 : R} (h : Pends K P w env G H vs [r, r2]) : ∃ v u, vs = [v, u] ∧ Pend K P w env G H v r ∧ Pend K P w env G H u r2 := by
  have := h.all
  cases this with
  | cons h1 h2 =>
    cases h2 with
    | cons h2 h3 => cases h3; exact ⟨_, _, rfl, h1, h2⟩
theorem dat_int {i : Int} (p : Pend K P w env G H v (.c (.d (.int i)))) : v = .int i := by
  have := p.1
  cases this
  rfl
theorem wl_lenT {xs : List DD} (p : Po (.c (.d (.int (xs.length : Nat)))) env) : WL K P w (fun us H Q => ∃ u n, us = [u] ∧ LenV K u H n ∧ Q (.int (n : Nat)) H) [.c (.d (.tuple xs))] env Po := fun σ G H vs rp ps Q o => by
  obtain ⟨v, e, p1⟩ := ps.one
  obtain ⟨a, us, e1, hs, hd⟩ := dat_tup p1
  subst e1
  exact ⟨.ref a, us.length, e, .inr ⟨us, Same.seqT rp.sub hs, rfl⟩, o.now rp (r := .c (.d (.int (us.length : Nat)))) (by rw [hd.plength]; exact p) (Dp.int _) Fr.dat⟩
theorem wl_lenL {a : R} {xs : List DD} (ha : LL env a xs) (p : Po (.c (.d (.int (xs.length : Nat)))) env) : WL K P w (fun us H Q => ∃ u n, us = [u] ∧ LenV K u H n ∧ Q (.int (n : Nat)) H) [a] env Po := fun σ G H vs rp ps Q o => by
  obtain ⟨v, e, p1⟩ := ps.one
  obtain ⟨b, us, e1, hs, hd⟩ := ha.seq rp p1
  subst e1
  exact ⟨.ref b, us.length, e, .inl ⟨us, hs, rfl⟩, o.now rp (r := .c (.d (.int (us.length : Nat)))) (by rw [hd.plength]; exact p) (Dp.int _) Fr.dat⟩
theorem dats_bl : ∀ {vs : List V} {bs : List Bool}, DpAll K G vs (bs.map PyData.bool) → vs = bs.map V.bl
  | _, [], .nil => rfl
  | _, b :: bs, .cons h t => by
    cases h
    rw [dats_bl t]; rfl
theorem wl_all {a : R} {bs : List Bool} (ha : LL env a (bs.map .bool)) (p : Po (.c (.d (.bool (bs.all id)))) env) : WL K P w (rAll K) [a] env Po := fun σ G H vs rp ps Q o => by
  obtain ⟨v, e, p1⟩ := ps.one
  obtain ⟨b, us, e1, hs, hd⟩ := ha.seq rp p1
  subst e1
  have := dats_bl hd
  subst this
  exact ⟨b, bs, e, hs, o.now rp p (Dp.bl _) Fr.dat⟩
theorem wl_min {i j : Int} (p : Po (.c (.d (.int (if j < i then j else i)))) env) : WL K P w (fun xs H Q => ∃ i j, xs = [.int i, .int j] ∧ Q (.int (if j < i then j else i)) H) [.c (.d (.int i)), .c (.d (.int j))] env Po := fun σ G H vs rp ps Q o => by
  obtain ⟨v, u, e, p1, p2⟩ := ps.two
  rw [dat_int p1, dat_int p2] at e
  exact ⟨i, j, e, o.now rp p (Dp.int _) Fr.dat⟩
theorem wl_max {i j : Int} (p : Po (.c (.d (.int (if j > i then j else i)))) env) : WL K P w (fun xs H Q => ∃ i j, xs = [.int i, .int j] ∧ Q (.int (if j > i then j else i)) H) [.c (.d (.int i)), .c (.d (.int j))] env Po := fun σ G H vs rp ps Q o => by
  obtain ⟨v, u, e, p1, p2⟩ := ps.two
  rw [dat_int p1, dat_int p2] at e
  exact ⟨i, j, e, o.now rp p (Dp.int _) Fr.dat⟩
/-- tuple(a list) -/
theorem wl_tuple {a : R} {xs : List DD} (ha : LL env a xs) (p : Po (.c (.d (.tuple xs))) env) : WL K P w (fun us H Q => ∃ p ys, us = [.ref p] ∧ ((SqL K H p ys ∧ ∀ l, H l = none → Q (.ref l) (upd H l (.tup ys))) ∨ (SqT K H p ys ∧ Q (.ref p) H))) [a] env Po := fun σ G H vs rp ps Q o => by
  obtain ⟨v, e, p1⟩ := ps.one
  obtain ⟨b, us, e1, hs, hd⟩ := ha.seq rp p1
  subst e1
  exact ⟨b, us, e, .inl ⟨hs, fun l hl => o.tup rp hd p hl⟩⟩
/-- list(a list) -/
theorem wl_list {a : R} {xs : List DD} (ha : LL env a xs) (p : ∀ q, Po (.c (.l q xs)) env) : WL K P w (fun us H Q => ∃ p ys, us = [.ref p] ∧ (SqL K H p ys ∨ SqT K H p ys) ∧ ∀ l, H l = none → Q (.ref l) (upd H l (.lst ys))) [a] env Po := fun σ G H vs rp ps Q o => by
  obtain ⟨v, e, p1⟩ := ps.one
  obtain ⟨b, us, e1, hs, hd⟩ := ha.seq rp p1
  subst e1
  exact ⟨b, us, e, .inl hs, fun l hl => o.lst rp hd (p l) hl⟩
end
end PL

/-! enumerate(a tuple). -/
namespace PL
open PySem PySem.Spec PyProof.Rows L2

theorem enumT_new (t : Addr) (items : Array Value) : Meets (Builtin.«enumerate.__new__» ⟨[.type "enumerate", .ref t], []⟩) (fun _ R s => s.heap.IsTuple t items ∧
      R (.ok (.ret (.ref (s.heap.push { cls := .type "tuple_iterator", data := .fields #[.ref t, .int 0 0] }).objs.size)))
        { s with heap := (s.heap.push { cls := .type "tuple_iterator", data := .fields #[.ref t, .int 0 0] }).push { cls := .type "enumerate", data := .fields #[.none, .bool false, .ref s.heap.objs.size, rawInt 0, .none, .none] } }) :=
  .of_wp fun prog w A R s h => by
    obtain ⟨hp, g, d, tk, os⟩ := s
    obtain ⟨hT, h⟩ := h
    have hsub := sub_enumerate
    have q1 : ∀ {A' : Around} {E : Value → Shared → Prop} {Q : Value → Shared → Prop}, Q (.ref hp.objs.size) ⟨hp.push { cls := .type "tuple_iterator", data := .fields #[.ref t, .int 0 0] }, g, d, tk, os⟩ → wpAny (model prog w) A' (pyIter (.ref t)) Q E ⟨hp, g, d, tk, os⟩ :=
      fun q => wpAny_pyIter_tuple hT q
    wp_walk using q1
    refine wpAny_stack_any fun st => wpAny_pure ?_
    split
    · rename_i c _ _ _ _ _
      cases (c == Value.type "enumerate")
      · wp_walk using q1
        exact ⟨_, rfl, h⟩
      · wp_walk using q1
        exact ⟨_, rfl, h⟩
    · wp_walk using q1
      exact ⟨_, rfl, h⟩
theorem call_enumT {prog : Program} {w : World} {A : Around} {E : Value → Shared → Prop} {s : Shared} {t : Addr} {items : Array Value} {Q : Value → Shared → Prop} (hT : s.heap.IsTuple t items)
    (h : ∀ h', IsEnum h' (s.heap.objs.size + 1) s.heap.objs.size 0 .none → h'.IsTupleIter s.heap.objs.size t 0 → h'.objs.size = s.heap.objs.size + 2 →
      (∀ b o, s.heap.get? b = some o → h'.get? b = some o) → Q (.ref (s.heap.objs.size + 1)) { s with heap := h' }) :
    wpAny (model prog w) A (call (.type "enumerate") [.ref t]) Q E s := by
  refine callType_new F.called_enumerate (by decide) (F.typeCall_enumerate_1 _) (F.newCall_enumerate_1 _) (fun obj => F.args_object_init_2 obj _) F.entry_enumerate_new
    (enumT_new t items) ⟨hT, ?_⟩
  have hz : (s.heap.push { cls := .type "tuple_iterator", data := .fields #[.ref t, .int 0 0] }).objs.size = s.heap.objs.size + 1 := Heap.size_push ..
  show _ ∧ _
  rw [hz]
  have he : IsEnum ((s.heap.push { cls := .type "tuple_iterator", data := .fields #[.ref t, .int 0 0] }).push
      { cls := .type "enumerate", data := .fields #[.none, .bool false, .ref s.heap.objs.size, rawInt 0, .none, .none] }) (s.heap.objs.size + 1) s.heap.objs.size 0 .none := by
    have q := Heap.get?_push_size (s.heap.push { cls := .type "tuple_iterator", data := .fields #[.ref t, .int 0 0] })
      (o := { cls := .type "enumerate", data := .fields #[.none, .bool false, .ref s.heap.objs.size, rawInt 0, .none, .none] }) rfl
    rw [hz] at q
    exact q
  exact ⟨⟨_, he, rfl⟩, h _ he ⟨_, Heap.get?_push_of_some _ (Heap.get?_push_size _ rfl), rfl, rfl⟩ (by rw [Heap.size_push, hz]) fun b o x => Heap.get?_push_of_some _ (Heap.get?_push_of_some _ x)⟩
/-- the tuple at a as it stands at each turn, each item in a new pair -/
def IteT (K : PySem.W.Frag) (a : Addr) : It :=
  ⟨fun i H => ∃ (xs : List V) (x : V), SqT K H a xs ∧ xs[i]? = some x, fun i H v H' => ∃ T x, v = .ref T ∧ H T = none ∧ H' = upd H T (.tup [.int (i : Nat), x]) ∧ ∀ xs, SqT K H a xs → xs[i]? = some x, fun i H => ∃ xs : List V, SqT K H a xs ∧ xs.length = i⟩
theorem turn_enumT {P : Program} {w : World} {K : PySem.W.Frag} {elts : List Expr} {kk : Nat} {tpos : Pos} (a e it : Addr) (hia : a ≠ it) (hea : e ≠ a) :
    Turn P w K (.Tuple elts kk tpos) (IteT K a) [e, it] e (fun i h => (∃ old, IsEnum h e it ((i : Nat) : Int) old) ∧ h.IsTupleIter it a i ∧ e ≠ it) where
  mem := by simp
  obj := fun i h st b hb => by
    obtain ⟨⟨old, he⟩, ⟨o, ho, hc, hd⟩, _⟩ := st
    have e' : b = e ∨ b = it := by simpa using hb
    rcases e' with z | z
    · rw [z]; exact ⟨_, he, fun v q => nomatch q⟩
    · rw [z]; exact ⟨o, ho, fun v q => by rw [hd] at q; cases q⟩
  keep := fun i h h' st k => let ⟨⟨old, he⟩, hi, hne⟩ := st; ⟨⟨old, k e (by simp) _ he⟩, hi.at fun o q => k it (by simp) o q, hne⟩
  item := by
    intro X hP hw hK hc i pins s σ H E I hf st hg
    subst hP hw hK
    obtain ⟨⟨old, he⟩, hit, hne⟩ := st
    obtain ⟨xs, x, hq, hx⟩ := hg
    obtain ⟨its, rv, p, hz⟩ := I.tuple hq
    obtain ⟨u, hu, ru⟩ := rv.get hx
    have hil : i < its.toArray.size := by
      have := (List.getElem?_eq_some_iff.mp hu).1
      simpa using this
    have hel : e < s.heap.objs.size := Heap.lt_size he
    have hitl : it < s.heap.objs.size := by obtain ⟨_, q, _⟩ := hit; exact Heap.lt_size q
    have D := Draws.tuple (prog := X.prog) (w := X.w) (A := X.A.in1) (I.ok.hd hc) it a hia its.toArray
    refine wpAny_pyNext_enum_itemD D he ⟨hit, show s.heap.IsTuple a its.toArray from p⟩ hil hne (by simp [hne, hea]) fun x1 h' tk hPx ho hst hT hsz hk => ?_
    have ex : x1 = u := by
      have h1 : its.toArray[i]? = some x1 := hPx
      have h2 : its.toArray[i]? = some u := by simpa using hu
      rw [h2] at h1
      exact (Option.some.inj h1).symm
    subst ex
    refine ⟨_, rfl, wpAny_letOwnedTupleGo_enum (s := { s with heap := h', toks := tk + 1 }) ho fun h'' he' sb => ?_⟩
    have hT2 : h''.get? s.heap.objs.size = some { cls := .type "tuple", data := .seq #[.int i tk, x1] } := (sb.2 _ (Nat.ne_of_gt hel)).trans hT
    have new : ObjOk X.prog X.w (upd H s.heap.objs.size (.tup [.int (i : Nat), x])) h'' s.heap.objs.size (.tup [.int (i : Nat), x]) :=
      ⟨by show 2 ≤ sizeLine; decide, [.int i tk, x1], .cons ⟨_, rfl⟩ (.cons ru .nil), ⟨_, hT2, rfl, _, rfl⟩⟩
    have I1 : Inv X pins σ (upd H s.heap.objs.size (.tup [.int (i : Nat), x])) { s with heap := h'', toks := tk + 1 } :=
      I.turnedNew (ch := [e, it]) (fun b ob hb q => (sb.2 b (fun z => hb (by simp [z]))).trans (hk b ob (fun z => hb (by simp [z])) (fun z => hb (by simp [z])) q)) hf (Nat.le_refl _) new
    refine ⟨.ref s.heap.objs.size, _, I1, rfl, ⟨_, x, rfl, I.hok.fresh (Nat.le_refl _), rfl, fun ys hy => by rw [I.tuple_inj hy hq]; exact hx⟩, ⟨⟨x1, ?_⟩, hst.1.at fun o q => (sb.2 it (Ne.symm hne)).trans q, hne⟩, fun b hb => ?_⟩
    · have e1 : ((i + 1 : Nat) : Int) = (i : Int) + 1 := by omega
      rw [e1]; exact he'
    · have hb' : b < s.heap.objs.size := by
        have e' : b = e ∨ b = it := by simpa using hb
        rcases e' with z | z
        · rw [z]; exact hel
        · rw [z]; exact hitl
      rw [upd_ne (Nat.ne_of_lt hb')]
      exact (hf b hb).1
  done := by
    intro X hP hw hK hc i pins s σ H E I hf st hg
    subst hP hw hK
    obtain ⟨⟨old, he⟩, hit, hne⟩ := st
    obtain ⟨xs, hq, hx⟩ := hg
    obtain ⟨its, rv, p, hz⟩ := I.tuple hq
    obtain ⟨f0, f1, f2, f3, f4, f5⟩ := hf it (by simp)
    have hl := rv.length
    have hn : i = its.toArray.size := by rw [List.size_toArray]; omega
    subst hn
    have D := Draws.tuple (prog := X.prog) (w := X.w) (A := X.A.in1) (I.ok.hd hc) it a hia its.toArray
    exact wpAny_pyNext_enum_endD D he ⟨hit, show s.heap.IsTuple a its.toArray from p⟩ fun h' eb => ⟨rfl, I.turned (t' := s.toks) (fun b o hb q => eb b o hb q) f0 f1 f3 f4 f5⟩
  self := fun A i s Q E st h => let ⟨⟨_, he⟩, _⟩ := st; wpAny_pyIter_enum he h
/-- enumerate of a list, of a tuple -/
def iEnumA (K : PySem.W.Frag) (ta : TA) : TI := fun σ H R => ta σ H fun vs H1 => ∃ a xs, vs = [.ref a] ∧ ((SqL K H1 a xs ∧ R (Ite K a) H1) ∨ (SqT K H1 a xs ∧ R (IteT K a) H1))
theorem pi_enumA {X : Cx} {e : Expr} {ta : TA} {p pos tpos : Pos} {elts : List Expr} {kk : Nat} (hg : Gl X "enumerate") (hm : X.mg "enumerate" = none) (ha : PA X [e] ta) (hs : starEach [e] X.env = [(false, eval e X.env)] := by rfl) :
    PI X (.Tuple elts kk tpos) (.Call (.Name "enumerate" p) [e] [] pos) (iEnumA X.K ta) := by
  refine ⟨fun pins s σ H R I h => ?_⟩
  refine Call_ (ld_blt I hg hm boot_enumerate (PyProof.Rows.callWith_type1 (thn (ha.run pos pins s σ H _ I h) fun us s1 ⟨vs, H1, I1, r1, q1⟩ => ?_) hs rfl))
  obtain ⟨a, xs, ex, q1⟩ := q1
  subst ex
  have fresh2 : ∀ b, b ∈ [s1.heap.objs.size + 1, s1.heap.objs.size] → FpOk X pins H1 b := fun b hb => by
    have e' : b = s1.heap.objs.size + 1 ∨ b = s1.heap.objs.size := by simpa using hb
    have hle : s1.heap.objs.size ≤ b := by
      rcases e' with z | z
      · rw [z]; exact Nat.le_add_right _ _
      · rw [z]; exact Nat.le_refl _
    exact I1.fpOk hle (I1.hok.fresh hle)
  cases r1 with
  | cons r rr =>
    cases rr
    cases r
    rcases q1 with ⟨hq, q⟩ | ⟨hq, q⟩
    · obtain ⟨its, rv, p', hz⟩ := I1.list hq
      refine call_enumerate_list p'.isList fun h' he hit hsz hk => wpAny_pyIter_enum he ?_
      have I2 : Inv X pins σ H1 { s1 with heap := h' } := I1.kept (t' := s1.toks) hk
      exact ⟨s1.heap.objs.size + 1, [s1.heap.objs.size + 1, s1.heap.objs.size], _, _, H1, rfl, I2, turn_enum a (s1.heap.objs.size + 1) s1.heap.objs.size, ⟨⟨.none, he⟩, hit, Nat.succ_ne_self _⟩, fresh2, q⟩
    · obtain ⟨its, rv, p', hz⟩ := I1.tuple hq
      have hal : a < s1.heap.objs.size := p'.lt
      refine call_enumT (show s1.heap.IsTuple a its.toArray from p') fun h' he hit hsz hk => wpAny_pyIter_enum he ?_
      have I2 : Inv X pins σ H1 { s1 with heap := h' } := I1.kept (t' := s1.toks) hk
      exact ⟨s1.heap.objs.size + 1, [s1.heap.objs.size + 1, s1.heap.objs.size], _, _, H1, rfl, I2, turn_enumT a (s1.heap.objs.size + 1) s1.heap.objs.size (Nat.ne_of_lt hal) (Nat.ne_of_gt (Nat.lt_succ_of_lt hal)), ⟨⟨.none, he⟩, hit, Nat.succ_ne_self _⟩, fresh2, q⟩
end PL

/-! Rules: slices, tests, defs, targets, statements, iterators, loops. -/
namespace PL
open PySem PySem.Spec PyProof.Rows L2

/-! ### slices -/
def cutA {α : Type} (xs : List α) (lo hi : Option Int) : List α := (xs.drop (HT.sIx xs.length 0 lo)).take (HT.sIx xs.length xs.length hi - HT.sIx xs.length 0 lo)
section
variable {K : PySem.W.Frag} {P : Program} {w : World}
variable {env env' env1 : List C} {Po Po' : R → List C → Prop} {te ta tb tc : TE} {σ : PL.St} {G G' G1 H H' H1 : Hp} {S : Addr → Prop} {v x y : V} {r : R}
theorem dps_cut {vs : List V} {ds : List DD} (h : DpAll K G vs ds) (lo hi : Option Int) : DpAll K G (cutV vs lo hi) (cutA ds lo hi) := by
  unfold cutV cutA
  rw [h.plength]
  exact (h.pdrop _).ptake _
variable (K P w) in
def WO (to : TO) (env : List C) (Po : Option Int → List C → Prop) : Prop :=
  ∀ σ G H, Rep K P w env σ G H → ∀ Q : Option Int → Hp → Prop, (∀ o env' G' H', Po o env' → Stp env G H env' G' H' → Rep K P w env' σ G' H' → Q o H') → to σ H Q
theorem wo_none {Po : Option Int → List C → Prop} (p : Po none env) : WO K P w tNoPart env Po := fun _ _ _ rp _ o => o none env _ _ p Stp.refl rp
theorem wo_some {Po : Option Int → List C → Prop} (h : WE K P w te env fun r e => ∃ i, r = .c (.d (.int i)) ∧ Po (some i) e) : WO K P w (tPart te) env Po := fun σ G H rp Q o =>
  h σ G H rp _ fun r v e1 G1 H1 ⟨i, er, p⟩ s1 r1 ok f => by
    subst er
    exact ⟨i, dat_int (Pend.of ok f), o _ e1 G1 H1 p s1 r1⟩
theorem we_slT {tl th : TO} (h : WE K P w te env fun r e1 => ∃ xs, r = .c (.d (.tuple xs)) ∧ WO K P w tl e1 fun lo e2 => WO K P w th e2 fun hi e3 => Po (.c (.d (.tuple (cutA xs lo hi)))) e3) : WE K P w (tSl (rSlA K) te tl th) env Po := fun σ G H rp Q o =>
  h σ G H rp _ fun r v e1 G1 H1 ⟨xs, er, p⟩ s1 r1 ok f => by
    subst er
    refine p σ G1 H1 r1 _ fun lo e2 G2 H2 p2 s2 r2 => p2 σ G2 H2 r2 _ fun hi e3 G3 H3 p3 s3 r3 => ?_
    have pd := ((Pend.of ok f).step s2).step s3
    obtain ⟨a, vs, ev, hs, hd⟩ := dat_tup pd
    have o3 := o.step ((s1.trans s2).trans s3)
    refine ⟨a, vs, ev, Same.seqT r3.sub hs, fun hw => ?_, fun _ q hq => o3.tup r3 (dps_cut hd lo hi) p3 hq⟩
    subst ev
    refine o3.now r3 p3 (show Dp K G3 (.ref a) _ from ?_) Fr.dat
    have e : cutA xs lo hi = xs := by
      unfold cutA
      rw [← hd.plength, hw.1, hw.2, List.drop_zero, Nat.sub_zero]
      exact List.take_of_length_le (Nat.le_of_eq hd.plength.symm)
    rw [e]
    exact .tup hs hd
theorem we_slL {tl th : TO} (h : WE K P w te env fun r e1 => WO K P w tl e1 fun lo e2 => WO K P w th e2 fun hi e3 => ∃ xs, LL e3 r xs ∧ ∀ q, Po (.c (.l q (cutA xs lo hi))) e3) : WE K P w (tSl (rSlL K) te tl th) env Po := fun σ G H rp Q o =>
  h σ G H rp _ fun r v e1 G1 H1 p s1 r1 ok f => by
    refine p σ G1 H1 r1 _ fun lo e2 G2 H2 p2 s2 r2 => p2 σ G2 H2 r2 _ fun hi e3 G3 H3 ⟨xs, hl, p3⟩ s3 r3 => ?_
    have pd := ((Pend.of ok f).step s2).step s3
    obtain ⟨a, vs, ev, hs, hd⟩ := hl.seq r3 pd
    have o3 := o.step ((s1.trans s2).trans s3)
    exact ⟨a, vs, ev, hs, fun q hq => o3.lst r3 (dps_cut hd lo hi) (p3 q) hq⟩

/-! ### tests, and, or, not, if -/
variable {Pb : Bool → List C → Prop} {tt tu : TT}
theorem dat_bl {b : Bool} (p : Pend K P w env G H v (.c (.d (.bool b)))) : v = .bl b := by
  have := p.1
  cases this
  rfl
theorem wt_test (h : WE K P w te env fun r e => ∃ b, r = .c (.d (.bool b)) ∧ Pb b e) : WT K P w (tTest te) env Pb := fun σ G H rp Q o =>
  h σ G H rp _ fun r v e1 G1 H1 ⟨b, er, p⟩ s1 r1 ok f => by
    subst er
    exact ⟨b, dat_bl (Pend.of ok f), o b e1 G1 H1 p s1 r1⟩
theorem wt_B (h : WE K P w te env fun r e => ∃ b, r = .c (.d (.bool b)) ∧ Pb b e) : WT K P w (tB te) env Pb := wt_test h
theorem wt_yes (p : Pb true env) : WT K P w tYes env Pb := fun σ G H rp Q o => o true env G H p Stp.refl rp
theorem wt_and (h : WT K P w tt env fun b e => (b = true → WT K P w tu e Pb) ∧ (b = false → Pb false e)) : WT K P w (tAnd tt tu) env Pb := fun σ G H rp Q o =>
  h σ G H rp _ fun b e1 G1 H1 p s1 r1 => by
    cases b with
    | true => exact p.1 rfl σ G1 H1 r1 Q fun b e2 G2 H2 p2 s2 r2 => o b e2 G2 H2 p2 (s1.trans s2) r2
    | false => exact o false e1 G1 H1 (p.2 rfl) s1 r1
theorem wt_or (h : WT K P w tt env fun b e => (b = true → Pb true e) ∧ (b = false → WT K P w tu e Pb)) : WT K P w (tOr tt tu) env Pb := fun σ G H rp Q o =>
  h σ G H rp _ fun b e1 G1 H1 p s1 r1 => by
    cases b with
    | false => exact p.2 rfl σ G1 H1 r1 Q fun b e2 G2 H2 p2 s2 r2 => o b e2 G2 H2 p2 (s1.trans s2) r2
    | true => exact o true e1 G1 H1 (p.1 rfl) s1 r1
theorem wt_not (h : WT K P w tt env fun b e => Pb (!b) e) : WT K P w (tNot tt) env Pb := fun σ G H rp Q o =>
  h σ G H rp _ fun b e1 G1 H1 p s1 r1 => o (!b) e1 G1 H1 p s1 r1
theorem we_andV (h : WE K P w ta env fun r e => ∃ b, r = .c (.d (.bool b)) ∧ (b = true → WE K P w tb e Po) ∧ (b = false → Po (.c (.d (.bool false))) e)) : WE K P w (tAndV ta tb) env Po := fun σ G H rp Q o =>
  h σ G H rp _ fun r v e1 G1 H1 ⟨b, er, p⟩ s1 r1 ok f => by
    subst er
    refine ⟨b, dat_bl (Pend.of ok f), ?_⟩
    cases b with
    | true => exact p.1 rfl σ G1 H1 r1 Q (o.step s1)
    | false => exact (o.step s1).now r1 (p.2 rfl) (Dp.bl _) Fr.dat
theorem we_orV (h : WE K P w ta env fun r e => ∃ b, r = .c (.d (.bool b)) ∧ (b = true → Po (.c (.d (.bool true))) e) ∧ (b = false → WE K P w tb e Po)) : WE K P w (tOrV ta tb) env Po := fun σ G H rp Q o =>
  h σ G H rp _ fun r v e1 G1 H1 ⟨b, er, p⟩ s1 r1 ok f => by
    subst er
    refine ⟨b, dat_bl (Pend.of ok f), ?_⟩
    cases b with
    | false => exact p.2 rfl σ G1 H1 r1 Q (o.step s1)
    | true => exact (o.step s1).now r1 (p.1 rfl) (Dp.bl _) Fr.dat
theorem we_notV (h : WE K P w ta env fun r e => ∃ b, r = .c (.d (.bool b)) ∧ Po (.c (.d (.bool (!b)))) e) : WE K P w (tNotV ta) env Po := fun σ G H rp Q o =>
  h σ G H rp _ fun r v e1 G1 H1 ⟨b, er, p⟩ s1 r1 ok f => by
    subst er
    exact ⟨b, dat_bl (Pend.of ok f), (o.step s1).now r1 p (Dp.bl _) Fr.dat⟩
theorem we_if (h : WT K P w tt env fun b e => (b = true → WE K P w ta e Po) ∧ (b = false → WE K P w tb e Po)) : WE K P w (tIf tt ta tb) env Po := fun σ G H rp Q o =>
  h σ G H rp _ fun b e1 G1 H1 p s1 r1 => by
    cases b with
    | true => exact p.1 rfl σ G1 H1 r1 Q (o.step s1)
    | false => exact p.2 rfl σ G1 H1 r1 Q (o.step s1)
theorem we_chain {q q' : R2} (h : WE K P w ta env fun a e1 => WE K P w tb e1 fun b e2 => W2 K P w q a b e2 fun z e3 => ∃ k, z = .c (.d (.bool k)) ∧ (k = true → WE K P w tc e3 fun c e4 => W2 K P w q' b c e4 Po) ∧ (k = false → Po (.c (.d (.bool false))) e3)) :
    WE K P w (tChain q q' ta tb tc) env Po := fun σ G H rp Q o =>
  h σ G H rp _ fun a va e1 G1 H1 pa s1 r1 oka fa => pa σ G1 H1 r1 _ fun b vb e2 G2 H2 pb s2 r2 okb fb => by
    have p1 := (Pend.of oka fa).step s2
    have p2 : Pend K P w e2 G2 H2 vb b := Pend.of okb fb
    refine pb σ G2 H2 va vb r2 p1 p2 _ fun z vz e3 G3 H3 ⟨k, ez, p3⟩ s3 r3 okz fz => ?_
    subst ez
    refine ⟨k, dat_bl (Pend.of okz fz), ?_⟩
    have o3 := o.step ((s1.trans s2).trans s3)
    cases k with
    | true => exact p3.1 rfl σ G3 H3 r3 _ fun c vc e4 G4 H4 pc s4 r4 okc fc => pc σ G4 H4 vb vc r4 ((p2.step s3).step s4) (Pend.of okc fc) Q (o3.step s4)
    | false => exact o3.now r3 (p3.2 rfl) (Dp.bl _) Fr.dat

/-! ### targets -/
variable {Pe : List C → Prop}
theorem Rep.setC (rp : Rep K P w env σ G H) {c : C} {i : Nat} (p : Pend K P w env G H v (.c c)) :
    Rep K P w (env.set i c) (σ.set i (some v)) G H ∧ Step (fun a => c.own = some a) env G H (env.set i c) G H := by
  have key : ∀ (j : Nat) (cj : C), (env.set i c)[j]? = some cj → (j = i ∧ cj = c ∧ i < env.length) ∨ (j ≠ i ∧ env[j]? = some cj) := fun j cj hj => by
    by_cases q : j = i
    · subst q
      by_cases hl : j < env.length
      · rw [List.getElem?_set_self hl] at hj
        cases hj
        exact .inl ⟨rfl, rfl, hl⟩
      · rw [List.getElem?_eq_none (by simpa using hl)] at hj
        cases hj
    · rw [List.getElem?_set_ne (Ne.symm q)] at hj
      exact .inr ⟨q, hj⟩
  refine ⟨⟨by rw [List.length_set, List.length_set]; exact rp.len, rp.sub, fun j cj hj => ?_, fun j k cj ck a hj hk h1 h2 => ?_⟩, ⟨fun _ _ h => h, fun _ _ h _ _ => h, fun _ _ h _ _ => h, fun _ h => h, fun a ⟨j, cj, hj, hc⟩ => ?_⟩⟩
  · rcases key j cj hj with ⟨e1, e2, hl⟩ | ⟨z, hj'⟩
    · subst e1 e2
      refine .inr ⟨v, ?_, p.1⟩
      rw [List.getElem?_set_self (by rw [rp.len]; exact hl)]
    · rcases rp.ok j cj hj' with y | ⟨u, hu, ok⟩
      · exact .inl y
      · refine .inr ⟨u, ?_, ok⟩
        rw [List.getElem?_set_ne (Ne.symm z)]
        exact hu
  · rcases key j cj hj with ⟨e1, e2, hl⟩ | ⟨z, hj'⟩
    · rcases key k ck hk with ⟨f1, f2, _⟩ | ⟨y, hk'⟩
      · rw [e1, f1]
      · subst e2
        exact absurd ⟨k, ck, hk', h2⟩ (p.2 cj a rfl h1)
    · rcases key k ck hk with ⟨f1, f2, _⟩ | ⟨y, hk'⟩
      · subst f2
        exact absurd ⟨j, cj, hj', h1⟩ (p.2 ck a rfl h2)
      · exact rp.inj j k cj ck a hj' hk' h1 h2
  · rcases key j cj hj with ⟨e1, e2, hl⟩ | ⟨z, hj'⟩
    · subst e2
      exact .inr (.inr hc)
    · exact .inl ⟨j, cj, hj', hc⟩
theorem wg_name {i : Nat} {c : C} (p : Pe (env.set i c)) : WG K P w (gName i) (.c c) env Pe := fun σ G H v rp pd Q o => by
  obtain ⟨rp', st⟩ := rp.setC (i := i) pd
  exact o _ _ G H p st rp'
theorem wgs_nil (p : Pe env) : WGs K P w gNil [] env Pe := fun σ G H vs rp ps Q o => by
  have := ps.all
  cases this
  exact ⟨rfl, o env σ G H p Stp.refl.weak rp⟩
theorem wgs_cons {g : TG} {gs : TGs} {rs : List R} (h : WG K P w g r env fun e => WGs K P w gs rs e Pe) : WGs K P w (gCons g gs) (r :: rs) env Pe := fun σ G H vs rp ps Q o => by
  obtain ⟨hall, nd⟩ := ps
  cases hall with
  | @cons v _ vs _ h1 h2 =>
    refine ⟨v, vs, rfl, h σ G H v rp h1 _ fun e1 σ1 G1 H1 p1 s1 r1 => ?_⟩
    have nd2 : (rs.filterMap R.new).Nodup := by
      rw [List.filterMap_cons] at nd
      cases hn : R.new r with
      | none => rw [hn] at nd; exact nd
      | some a => rw [hn] at nd; exact (List.nodup_cons.mp nd).2
    have hS : ∀ b ∈ rs.filterMap R.new, ¬ r.new = some b := fun b hb e => by
      rw [List.filterMap_cons_some e] at nd
      exact (List.nodup_cons.mp nd).1 hb
    have ps2 : Pends K P w env G H vs rs := ⟨h2, nd2⟩
    refine p1 σ1 G1 H1 vs r1 (ps2.stepS s1 hS) Q fun e2 σ2 G2 H2 p2 s2 r2 => o e2 σ2 G2 H2 p2 ?_ r2
    have mem1 : ∀ a, r.new = some a → a ∈ (r :: rs).filterMap R.new := fun a e => by
      rw [List.filterMap_cons_some e]
      exact List.mem_cons_self
    have mem2 : ∀ a, a ∈ rs.filterMap R.new → a ∈ (r :: rs).filterMap R.new := fun a e => by
      rw [List.filterMap_cons]
      cases R.new r with
      | none => exact e
      | some _ => exact List.mem_cons_of_mem _ e
    -- what stood and is not ours stays
    have ow : ∀ c, Owns e1 c → Owns env c ∨ H c = none ∨ r.new = some c := s1.own
    refine ⟨fun c x hx => s2.g c x (s1.g c x hx), fun c h1 h2 hn hs => ?_, fun c x hx hn hs => ?_, fun c hc => s2.dom c (s1.dom c hc), fun c hc => ?_⟩
    · refine s2.fresh c (s1.dom c h1) (s1.fresh c h1 h2 hn fun z => hs (mem1 c z)) (fun z => ?_) fun z => hs (mem2 c z)
      rcases ow c z with y | y | y
      · exact hn y
      · exact h1 y
      · exact hs (mem1 c y)
    · refine s2.keep c x (s1.keep c x hx hn fun z => hs (mem1 c z)) (fun z => ?_) fun z => hs (mem2 c z)
      rcases ow c z with y | y | y
      · exact hn y
      · rw [hx] at y; cases y
      · exact hs (mem1 c y)
    · rcases s2.own c hc with z | z | z
      · rcases ow c z with y | y | y
        · exact .inl y
        · exact .inr (.inl y)
        · exact .inr (.inr (mem1 c y))
      · refine .inr (.inl ?_)
        cases q : H c with
        | none => rfl
        | some x => exact absurd z (s1.dom c (by rw [q]; simp))
      · exact .inr (.inr (mem2 c z))
end
end PL

/-! Rules: tuple targets, stores, statements, iterators, loops. -/
namespace PL
open PySem PySem.Spec PyProof.Rows L2 RZ
section
variable {K : PySem.W.Frag} {P : Program} {w : World}
variable {env env' env1 : List C} {Po Po' : R → List C → Prop} {te ta tb tc : TE} {σ : PL.St} {G G' G1 H H' H1 : Hp} {S : Addr → Prop} {v x y : V} {r : R} {Pe : List C → Prop}
theorem dats_pends {vs : List V} {ds : List DD} (h : DpAll K G vs ds) : Pends K P w env G H vs (ds.map fun d => .c (.d d)) := by
  refine ⟨?_, ?_⟩
  · induction ds generalizing vs with
    | nil => cases h; exact .nil
    | cons d ds ih =>
      cases h with
      | cons h1 h2 => exact .cons ⟨h1, fun c a e hc => by cases e; cases hc⟩ (ih h2)
  · have e : (ds.map fun d => R.c (.d d)).filterMap R.new = [] := by
      induction ds generalizing vs with
      | nil => rfl
      | cons d ds ih =>
        cases h with
        | cons h1 h2 => exact ih h2
    rw [e]
    exact List.nodup_nil
theorem dats_new (ds : List DD) : (ds.map fun d => R.c (.d d)).filterMap R.new = [] := by
  induction ds with
  | nil => rfl
  | cons d ds ih => exact ih
theorem wg_tup {n : Nat} {gs : TGs} {ds : List DD} (hn : ds.length = n) (h : WGs K P w gs (ds.map fun d => .c (.d d)) env Pe) : WG K P w (gTup K n gs) (.c (.d (.tuple ds))) env Pe := fun σ G H v rp pd Q o => by
  obtain ⟨a, vs, ev, hs, hd⟩ := dat_tup pd
  refine ⟨a, vs, ev, Same.seqT rp.sub hs, by rw [hd.plength]; exact hn, h σ G H vs rp (dats_pends hd) Q fun env' σ' G' H' p st rp' => o env' σ' G' H' p ?_ rp'⟩
  have e := dats_new ds
  exact ⟨st.g, fun a h1 h2 h3 _ => st.fresh a h1 h2 h3 (by rw [e]; simp), fun a x h1 h2 _ => st.keep a x h1 h2 (by rw [e]; simp), st.dom, fun a h => (st.own a h).elim .inl fun z => z.elim (fun y => .inr (.inl y)) fun y => absurd y (by rw [e]; simp)⟩
/-- xs[k] = x of an own list -/
theorem wg_setL {to ti : TE} {x : DD} (h : WE K P w to env fun ro e1 => ∃ a, ro = .own a ∧ WE K P w ti e1 fun ri e2 => ∃ (k : Int) (j n : Nat) (xs : List DD), ri = .c (.d (.int k)) ∧ e2[n]? = some (.l a xs) ∧ ixN xs.length k = some j ∧ Pe (e2.set n (.l a (xs.set j x)))) :
    WG K P w (gSub to ti rSetL) (.c (.d x)) env Pe := fun σ G H v rp pd Q o =>
  h σ G H rp _ fun ro o1 e1 G1 H1 ⟨a, er, p1⟩ s1 r1 ok1 f1 => p1 σ G1 H1 r1 _ fun ri o2 e2 G2 H2 ⟨k, j, n, xs, ei, hn, hk, p2⟩ s2 r2 ok2 f2 => by
    subst er ei
    have ev : o1 = .ref a := ok1
    obtain ⟨u, _, okc⟩ := r2.at hn (by simp)
    obtain ⟨_, hg, vs, ho, hd⟩ : CellOk K P w G2 H2 u (.l a xs) := okc
    have pd2 := (pd.step s1).step s2
    obtain ⟨r3, s3⟩ := r2.write (c' := .l a (xs.set j x)) (o := .lst (vs.set j v)) hn rfl rfl ⟨rfl, hg, _, upd_same, hd.pset pd2.1 j⟩
    refine ⟨a, vs, k, j, ev, dat_int (Pend.of ok2 f2), ho, by rw [hd.plength]; exact hk, o _ σ G2 _ p2 (Stp.weak ((s1.trans s2).trans s3)) r3⟩

/-! ### statements -/
variable {ts tu : TS} {Po : PD}
theorem ws_nx (p : Po.nx env) : WS K P w tNext env Po := fun σ G H rp D o => o.nx env σ G H p Stp.refl rp
theorem ws_brk (p : Po.bk env) : WS K P w tBreak env Po := fun σ G H rp D o => o.bk env σ G H p Stp.refl rp
theorem ws_cont (p : Po.ct env) : WS K P w tCont env Po := fun σ G H rp D o => o.ct env σ G H p Stp.refl rp
theorem ws_seq (h : WS K P w ts env { Po with nx := fun e => WS K P w tu e Po }) : WS K P w (tSeq ts tu) env Po := fun σ G H rp D o =>
  h σ G H rp _ ⟨fun e s g h' p st r => p s g h' r D (o.step st), o.rt, o.bk, o.ct⟩
theorem ws_asg {g : TG} (h : WE K P w te env fun r e => WG K P w g r e Po.nx) : WS K P w (tAsg te g) env Po := fun σ G H rp D o =>
  h σ G H rp _ fun r v e1 G1 H1 p s1 r1 ok f => p σ G1 H1 v r1 (Pend.of ok f) _ fun e2 σ2 G2 H2 p2 s2 r2 => o.nx e2 σ2 G2 H2 p2 (s1.close s2 fun z hz => by
    cases r with
    | own _ => cases hz
    | c c => exact (f z hz).2) r2
theorem frs_all {rs : List R} (f : ∀ r ∈ rs, Fr env H env1 r) : ∀ z, z ∈ rs.filterMap R.new → H z = none ∨ Owns env z := fun z hz => by
  obtain ⟨r, hr, e⟩ := List.mem_filterMap.mp hz
  cases r with
  | own _ => cases e
  | c c => exact (f _ hr z e).2
theorem ws_par {i j : Nat} {t : TA} (h : WA K P w t env fun rs e => rs.length = 2 ∧ WGs K P w (gCons (gName i) (gCons (gName j) gNil)) rs e Po.nx) : WS K P w (tPar i j t) env Po := fun σ G H rp D o =>
  h σ G H rp _ fun rs vs e1 G1 H1 ⟨hl, p⟩ s1 r1 ps fs => by
    have q := p σ G1 H1 vs r1 ps (fun σ' H' => D.nx σ' H') fun e2 σ2 G2 H2 p2 s2 r2 => o.nx e2 σ2 G2 H2 p2 (s1.close s2 (frs_all fs)) r2
    obtain ⟨v, r, ev, v2, r2, er, er2, q⟩ := q
    subst er er2
    exact ⟨v, v2, ev, q⟩
/-- a, b = (x, y), the pair made on the way -/
theorem ws_asgT {t : TA} {n : Nat} {gs : TGs} (h : WA K P w t env fun rs e => rs.length = n ∧ n ≤ 1000 ∧ WGs K P w gs rs e Po.nx) : WS K P w (tAsg (tTup t) (gTup K n gs)) env Po := fun σ G H rp D o =>
  h σ G H rp _ fun rs vs e1 G1 H1 ⟨hl, hn, p⟩ s1 r1 ps fs => by
    have lv : vs.length = rs.length := Paired.length ps.all
    refine ⟨Nat.le_trans (by omega) (show 1000 ≤ sizeLine by decide), fun a ha => ⟨a, vs, rfl, .inl (.inl upd_same), by omega, ?_⟩⟩
    obtain ⟨r2, s2⟩ := r1.new (o := .tup vs) ha
    exact p σ G1 _ vs r2 (ps.step s2) _ fun e2 σ2 G2 H2 p2 s3 r3 => o.nx e2 σ2 G2 H2 p2 ((s1.trans s2).close s3 fun z hz => by
      exact frs_all fs z hz) r3
theorem ws_drop (h : WE K P w te env fun _ e => Po.nx e) : WS K P w (tDrop te) env Po := fun σ G H rp D o =>
  h σ G H rp _ fun r v e1 G1 H1 p s1 r1 _ _ => o.nx e1 σ G1 H1 p s1 r1
theorem ws_ret (h : WE K P w te env Po.rt) : WS K P w (tRet te) env Po := fun σ G H rp D o =>
  h σ G H rp _ fun r v e1 G1 H1 p s1 r1 ok f => o.rt r v e1 σ G1 H1 p s1 r1 ok f
theorem ws_retN (p : Po.rt (.c (.d .none)) env) : WS K P w tRetN env Po := fun σ G H rp D o => o.rt _ .non env σ G H p Stp.refl rp Dp.non Fr.dat
theorem ws_if {tt : TT} (h : WT K P w tt env fun b e => (b = true → WS K P w ts e Po) ∧ (b = false → WS K P w tu e Po)) : WS K P w (tIfS tt ts tu) env Po := fun σ G H rp D o =>
  h σ G H rp _ fun b e1 G1 H1 p s1 r1 => by
    cases b with
    | true => exact p.1 rfl σ G1 H1 r1 D (o.step s1)
    | false => exact p.2 rfl σ G1 H1 r1 D (o.step s1)
/-- x op= e, x data -/
theorem ws_aug {i : Nat} {x : DD} {ti : V → V → Hp → VK → Prop} (hx : env[i]? = some (.d x)) (h : WE K P w te env fun r e => W2 K P w ti (.c (.d x)) r e fun z e2 => ∃ d, z = .c (.d d) ∧ Po.nx (e2.set i (.d d))) : WS K P w (tAug i te ti) env Po := fun σ G H rp D o => by
  obtain ⟨u, hu, ok⟩ := rp.at hx (by simp)
  have pu : Pend K P w env G H u (.c (.d x)) := ⟨ok, fun c a e hc => by cases e; cases hc⟩
  refine ⟨u, hu, h σ G H rp _ fun r v e1 G1 H1 p s1 r1 ok1 f1 => p σ G1 H1 u v r1 (pu.step s1) (Pend.of ok1 f1) _ fun z vz e2 G2 H2 ⟨d, ez, p2⟩ s2 r2 ok2 f2 => ?_⟩
  subst ez
  obtain ⟨r3, s3⟩ := r2.setC (i := i) (Pend.of ok2 f2)
  exact o.nx _ _ G2 H2 p2 ((s1.trans s2).close s3 fun z hz => by cases hz) r3
/-- xs += [..], xs an own list -/
theorem ws_ext {i : Nat} {a : Addr} {xs : List DD} (hx : env[i]? = some (.l a xs)) (h : WE K P w te env fun r e => ∃ b ys xs', r = .c (.l b ys) ∧ e[i]? = some (.l a xs') ∧ xs'.length + ys.length ≤ 10000000 ∧ Po.nx (e.set i (.l a (xs' ++ ys)))) : WS K P w (tAug i te rExt2) env Po := fun σ G H rp D o => by
  obtain ⟨u, hu, ok⟩ := rp.at hx (by simp)
  obtain ⟨eu, _⟩ : CellOk K P w G H u (.l a xs) := ok
  refine ⟨u, hu, h σ G H rp _ fun r v e1 G1 H1 ⟨b, ys, xs', er, he, hz, p⟩ s1 r1 ok1 f1 => ?_⟩
  subst er eu
  obtain ⟨v1, hv1, ok2⟩ := r1.at he (by simp)
  obtain ⟨e1', hg, vs, ho, hd⟩ : CellOk K P w G1 H1 v1 (.l a xs') := ok2
  obtain ⟨e2', hg2, us, ho2, hd2⟩ : CellOk K P w G1 H1 v (.l b ys) := ok1
  have l1 := hd.plength
  have l2 := hd2.plength
  obtain ⟨r3, s3⟩ := r1.write (c' := .l a (xs' ++ ys)) (o := .lst (vs ++ us)) he rfl rfl ⟨rfl, hg, _, upd_same, hd.pappend hd2⟩
  refine ⟨a, b, vs, us, rfl, e2', ho, ho2, Nat.le_trans (by omega) (show 10000000 ≤ sizeLine by decide), ?_⟩
  have es : σ.set i (some (.ref a)) = σ := by
    refine List.ext_getElem? fun j => ?_
    by_cases q : i = j
    · subst q
      rw [List.getElem?_set_self (List.getElem?_eq_some_iff.mp hu).1, hu]
    · rw [List.getElem?_set_ne q]
  show D.nx (σ.set i (some (.ref a))) (upd H1 a (HO.lst (vs ++ us)))
  rw [es]
  exact o.nx _ σ G1 _ p (s1.trans s3) r3
/-- xs.append(e) -/
theorem ws_app {i : Nat} {a : Addr} {xs : List DD} (hx : env[i]? = some (.l a xs)) (h : WE K P w te env fun r e => ∃ d xs', r = .c (.d d) ∧ e[i]? = some (.l a xs') ∧ xs'.length < 16000000 ∧ Po.nx (e.set i (.l a (xs' ++ [d])))) :
    WS K P w (tDrop (tBM K "list" rAppend (tVar i) (tCons te tNil))) env Po := fun σ G H rp D o => by
  obtain ⟨u, hu, ok⟩ := rp.at hx (by simp)
  obtain ⟨eu, _, vs0, ho0, _⟩ : CellOk K P w G H u (.l a xs) := ok
  subst eu
  refine ⟨.ref a, hu, .inl ⟨rfl, _, .inl (.inl ho0)⟩, h σ G H rp _ fun r v e1 G1 H1 ⟨d, xs', er, he, hz, p⟩ s1 r1 ok1 f1 => ?_⟩
  subst er
  obtain ⟨v1, hv1, ok2⟩ := r1.at he (by simp)
  obtain ⟨e1', hg, vs, ho, hd⟩ : CellOk K P w G1 H1 v1 (.l a xs') := ok2
  have l1 := hd.plength
  obtain ⟨r3, s3⟩ := r1.write (c' := .l a (xs' ++ [d])) (o := .lst (vs ++ [v])) he rfl rfl ⟨rfl, hg, _, upd_same, hd.pappend (.cons ok1 .nil)⟩
  exact ⟨a, vs, v, rfl, rfl, ho, Nat.lt_of_lt_of_le (by omega) (show 16000000 ≤ sizeLine by decide), o.nx _ σ G1 _ p (s1.trans s3) r3⟩

/-! ### iterators -/
variable {Pi : List DD → List C → Prop}
theorem iter_at {J : It} {n : Nat} {Gd : Hp → Prop} {xs : List V} {items : List DD} (wk : Walk J n Gd (YAt xs)) (hn : n = items.length) (hd : DpAll K G xs items) (hG : ∀ G1 H1, Same G G1 → Same G1 H1 → Gd H1) : Iter K J items G := fun G1 H1 sg sh => by
  refine ⟨fun i hi => wk.goes i H1 (by omega) (hG _ _ sg sh), by rw [← hn]; exact wk.stops H1 (hG _ _ sg sh), fun i x H' d hi hy => ?_⟩
  have hil := (List.getElem?_eq_some_iff.mp hi).1
  obtain ⟨e, hx⟩ := wk.yields i H1 x H' (by omega) (hG _ _ sg sh) hy
  subst e
  obtain ⟨d', hd', hdp⟩ := hd.pgetV hx
  rw [hi] at hd'
  cases hd'
  exact ⟨G1, fun _ _ h => h, sh, fun _ _ h => h, fun _ _ h => h, Dp.mono sg _ _ hdp⟩
theorem iter_pair {J : It} {n : Nat} {Gd : Hp → Prop} {fx fy : Nat → Option V} {items : List DD} (wk : Walk J n Gd (YPair fx fy)) (hn : n = items.length) (hG : ∀ G1 H1, Same G G1 → Same G1 H1 → Gd H1)
    (hd : ∀ (i : Nat) x y, fx i = some x → fy i = some y → i < n → ∃ a b, items[i]? = some (.tuple [a, b]) ∧ Dp K G x a ∧ Dp K G y b) : Iter K J items G := fun G1 H1 sg sh => by
  refine ⟨fun i hi => wk.goes i H1 (by omega) (hG _ _ sg sh), by rw [← hn]; exact wk.stops H1 (hG _ _ sg sh), fun i x H' d hi hy => ?_⟩
  have hil := (List.getElem?_eq_some_iff.mp hi).1
  obtain ⟨T, u, v, e1, hT, e2, hu, hv⟩ := wk.yields i H1 x H' (by omega) (hG _ _ sg sh) hy
  subst e1 e2
  obtain ⟨a, b, hab, da, db⟩ := hd i u v hu hv (by omega)
  rw [hi] at hab
  cases hab
  have hg : G1 T = none := Same.none_of sh hT
  refine ⟨upd G1 T (.tup [u, v]), same_new hg, fun c z hz => ?_, same_new hT, fun c h1 h2 => ?_, .tup (.inl (.inl upd_same)) (.cons (Dp.mono (same_new hg) _ _ (Dp.mono sg _ _ da)) (.cons (Dp.mono (same_new hg) _ _ (Dp.mono sg _ _ db)) .nil))⟩
  · by_cases q : c = T
    · subst q; rw [upd_same] at hz ⊢; exact hz
    · rw [upd_ne q] at hz ⊢; exact sh c z hz
  · rw [upd_ne (fun z => h1 (by rw [z]; exact hT))]
    exact h2
theorem Iter.same {J : It} {items : List DD} (i : Iter K J items G) (s : Same G G1) : Iter K J items G1 := fun G2 H2 sg sh => i G2 H2 (fun c o h => sg c o (s c o h)) sh
theorem wi_list (h : WE K P w te env fun r e => ∃ xs, r = .c (.d (.list xs)) ∧ Pi xs e) : WI K P w (iList K te) env Pi := fun σ G H rp Q o =>
  h σ G H rp _ fun r v e1 G1 H1 ⟨xs, er, p⟩ s1 r1 ok f => by
    subst er
    have ok' : Dp K G1 v (.list xs) := ok
    cases ok' with
    | lst hs hd => exact ⟨_, rfl, ⟨_, Same.seq r1.sub hs⟩, o _ xs e1 G1 H1 p s1 r1 (iter_at walk_list hd.plength hd fun G2 H2 sg sh => Same.seq sh (Same.seq sg hs))⟩
theorem wi_tup (h : WE K P w te env fun r e => ∃ xs, r = .c (.d (.tuple xs)) ∧ Pi xs e) : WI K P w (iTup K te) env Pi := fun σ G H rp Q o =>
  h σ G H rp _ fun r v e1 G1 H1 ⟨xs, er, p⟩ s1 r1 ok f => by
    subst er
    have ok' : Dp K G1 v (.tuple xs) := ok
    cases ok' with
    | tup hs hd => exact ⟨_, rfl, ⟨_, Same.seqT r1.sub hs⟩, o _ xs e1 G1 H1 p s1 r1 (iter_at walk_tup hd.plength hd fun G2 H2 sg sh => Same.seqT sh (Same.seqT sg hs))⟩
theorem wi_range1 {t : TA} (h : WA K P w t env fun rs e => ∃ n : Int, rs = [.c (.d (.int n))] ∧ -(2 ^ 62) ≤ n ∧ n < 2 ^ 62 ∧ Pi ((List.range n.toNat).map fun (i : Nat) => .int (i : Int)) e) : WI K P w (iRng1 t) env Pi := fun σ G H rp Q o =>
  h σ G H rp _ fun rs vs e1 G1 H1 ⟨n, er, h1, h2, p⟩ s1 r1 ps fs => by
    subst er
    obtain ⟨v, ev, pv⟩ := ps.one
    rw [dat_int pv] at ev
    refine ⟨n, ev, h1, h2, o _ _ e1 G1 H1 p s1 r1 fun G2 H2 sg sh => ⟨fun i hi => ?_, ?_, fun i x H' d hi hy => ?_⟩⟩
    · show i < n.toNat
      simpa using hi
    · show n.toNat ≤ _
      simp
    · obtain ⟨e, ex⟩ := hy
      subst e ex
      rw [List.getElem?_map] at hi
      obtain ⟨j, hj, ed⟩ := Option.map_eq_some_iff.mp hi
      have ej : j = i := by
        obtain ⟨hl, e⟩ := List.getElem?_eq_some_iff.mp hj
        rw [List.getElem_range] at e
        exact e.symm
      subst ej ed
      refine ⟨G2, fun _ _ h => h, sh, fun _ _ h => h, fun _ _ h => h, ?_⟩
      rw [Int.zero_add]
      exact .int _
theorem zip_item {xs ys : List DD} {i : Nat} {a b : DD} (h1 : xs[i]? = some a) (h2 : ys[i]? = some b) : ((xs.zip ys).map fun p => PyData.tuple [p.1, p.2])[i]? = some (.tuple [a, b]) := by
  have q : (xs.zip ys)[i]? = some (a, b) := List.getElem?_zip_eq_some.mpr ⟨h1, h2⟩
  rw [List.getElem?_map, q]
  rfl
theorem wi_zipL {t : TA} (h : WA K P w t env fun rs e => ∃ xs ys, rs = [.c (.d (.list xs)), .c (.d (.list ys))] ∧ Pi ((xs.zip ys).map fun p => .tuple [p.1, p.2]) e) : WI K P w (iZipA K t) env Pi := fun σ G H rp Q o =>
  h σ G H rp _ fun rs vs e1 G1 H1 ⟨xs, ys, er, p⟩ s1 r1 ps fs => by
    subst er
    obtain ⟨v, u, ev, p1, p2⟩ := ps.two
    obtain ⟨a, us, e1', hs1, hd1⟩ := LL.dat.seq (env := e1) r1 p1
    obtain ⟨b, us2, e2', hs2, hd2⟩ := LL.dat.seq (env := e1) r1 p2
    have k1 : Dp K G1 v (.list xs) := p1.1
    have k2 : Dp K G1 u (.list ys) := p2.1
    cases k1 with
    | lst g1 d1 =>
      cases k2 with
      | lst g2 d2 =>
        rename_i a1 vs1 a2 vs2
        have l1 := d1.plength
        have l2 := d2.plength
        refine ⟨_, _, _, _, ev, .inl ⟨Same.seq r1.sub g1, Same.seq r1.sub g2, o _ _ e1 G1 H1 p s1 r1 ?_⟩⟩
        refine iter_pair (walk_zip rfl) (by simp [l1, l2]) (fun G2 H2 sg sh => ⟨Same.seq sh (Same.seq sg g1), Same.seq sh (Same.seq sg g2)⟩) fun i x y hx hy hi => ?_
        obtain ⟨d, hd, q⟩ := d1.pgetV hx
        obtain ⟨e, he, q2⟩ := d2.pgetV hy
        exact ⟨d, e, zip_item hd he, q, q2⟩
theorem walk_zipT {a b : Addr} {xs ys : List V} : Walk (ItzT K a b) (min xs.length ys.length) (fun H => SqT K H a xs ∧ SqT K H b ys) (YPair (fun i => xs[i]?) (fun i => ys[i]?)) := by
  refine ⟨fun i _ hi q => ?_, fun _ q => ⟨xs, ys, q.1, q.2, by omega⟩, fun i H v H' _ q y => ?_⟩
  · have h1 : i < xs.length := by omega
    have h2 : i < ys.length := by omega
    exact ⟨xs, ys, xs[i], ys[i], q.1, q.2, by simp [h1], by simp [h2]⟩
  · obtain ⟨T, x, z, h1, h2, h3, h4, h5⟩ := y
    exact ⟨T, x, z, h1, h2, h3, h4 xs q.1, h5 ys q.2⟩
theorem wi_zipT {t : TA} (h : WA K P w t env fun rs e => ∃ xs ys, rs = [.c (.d (.tuple xs)), .c (.d (.tuple ys))] ∧ Pi ((xs.zip ys).map fun p => .tuple [p.1, p.2]) e) : WI K P w (iZipA K t) env Pi := fun σ G H rp Q o =>
  h σ G H rp _ fun rs vs e1 G1 H1 ⟨xs, ys, er, p⟩ s1 r1 ps fs => by
    subst er
    obtain ⟨v, u, ev, p1, p2⟩ := ps.two
    have k1 : Dp K G1 v (.tuple xs) := p1.1
    have k2 : Dp K G1 u (.tuple ys) := p2.1
    cases k1 with
    | tup g1 d1 =>
      cases k2 with
      | tup g2 d2 =>
        have l1 := d1.plength
        have l2 := d2.plength
        refine ⟨_, _, _, _, ev, .inr ⟨Same.seqT r1.sub g1, Same.seqT r1.sub g2, o _ _ e1 G1 H1 p s1 r1 ?_⟩⟩
        refine iter_pair walk_zipT (by simp [l1, l2]) (fun G2 H2 sg sh => ⟨Same.seqT sh (Same.seqT sg g1), Same.seqT sh (Same.seqT sg g2)⟩) fun i x y hx hy hi => ?_
        obtain ⟨d, hd, q⟩ := d1.pgetV hx
        obtain ⟨e, he, q2⟩ := d2.pgetV hy
        exact ⟨d, e, zip_item hd he, q, q2⟩
def enumD (xs : List DD) : List DD := xs.zipIdx.map fun p => .tuple [.int (p.2 : Nat), p.1]
theorem enum_item {xs : List DD} {i : Nat} {a : DD} (h : xs[i]? = some a) : (enumD xs)[i]? = some (.tuple [.int (i : Nat), a]) := by
  unfold enumD
  rw [List.getElem?_map, List.getElem?_zipIdx, h]
  simp
theorem wi_enumL {t : TA} (h : WA K P w t env fun rs e => ∃ xs, rs = [.c (.d (.list xs))] ∧ Pi (enumD xs) e) : WI K P w (iEnumA K t) env Pi := fun σ G H rp Q o =>
  h σ G H rp _ fun rs vs e1 G1 H1 ⟨xs, er, p⟩ s1 r1 ps fs => by
    subst er
    obtain ⟨v, ev, p1⟩ := ps.one
    have k1 : Dp K G1 v (.list xs) := p1.1
    cases k1 with
    | lst g1 d1 =>
      refine ⟨_, _, ev, .inl ⟨Same.seq r1.sub g1, o _ _ e1 G1 H1 p s1 r1 ?_⟩⟩
      refine iter_pair walk_enum (by unfold enumD; simp [d1.plength]) (fun G2 H2 sg sh => Same.seq sh (Same.seq sg g1)) fun i x y hx hy hi => ?_
      cases hx
      obtain ⟨d, hd, q⟩ := d1.pgetV hy
      exact ⟨_, d, enum_item hd, .int _, q⟩
theorem walk_enumT {a : Addr} {xs : List V} : Walk (IteT K a) xs.length (fun H => SqT K H a xs) (YPair (fun i => some (.int (i : Nat))) (fun i => xs[i]?)) := by
  refine ⟨fun i _ hi q => ⟨xs, xs[i], q, by simp [hi]⟩, fun _ q => ⟨xs, q, rfl⟩, fun i H v H' _ q y => ?_⟩
  obtain ⟨T, x, h1, h2, h3, h4⟩ := y
  exact ⟨T, .int (i : Nat), x, h1, h2, h3, rfl, h4 xs q⟩
theorem wi_enumT {t : TA} (h : WA K P w t env fun rs e => ∃ xs, rs = [.c (.d (.tuple xs))] ∧ Pi (enumD xs) e) : WI K P w (iEnumA K t) env Pi := fun σ G H rp Q o =>
  h σ G H rp _ fun rs vs e1 G1 H1 ⟨xs, er, p⟩ s1 r1 ps fs => by
    subst er
    obtain ⟨v, ev, p1⟩ := ps.one
    have k1 : Dp K G1 v (.tuple xs) := p1.1
    cases k1 with
    | tup g1 d1 =>
      refine ⟨_, _, ev, .inr ⟨Same.seqT r1.sub g1, o _ _ e1 G1 H1 p s1 r1 ?_⟩⟩
      refine iter_pair walk_enumT (by unfold enumD; simp [d1.plength]) (fun G2 H2 sg sh => Same.seqT sh (Same.seqT sg g1)) fun i x y hx hy hi => ?_
      cases hx
      obtain ⟨d, hd, q⟩ := d1.pgetV hy
      exact ⟨_, d, enum_item hd, .int _, q⟩
theorem WI.inl {i i' : TI} (h : WI K P w i env Pi) : WI K P w (fun σ H R => i σ H R ∨ i' σ H R) env Pi := fun σ G H rp Q o => .inl (h σ G H rp Q o)
theorem WI.inr {i i' : TI} (h : WI K P w i' env Pi) : WI K P w (fun σ H R => i σ H R ∨ i' σ H R) env Pi := fun σ G H rp Q o => .inr (h σ G H rp Q o)
end
end PL

/-! Loops, comprehensions, calls of defs. -/
namespace PL
open PySem PySem.Spec PyProof.Rows L2 RZ
section
variable {K : PySem.W.Frag} {P : Program} {w : World}
variable {env env' env1 : List C} {te ta tb tc : TE} {σ σ' : PL.St} {G G' G1 G2 H H' H1 H2 : Hp} {S : Addr → Prop} {v x y : V} {r : R} {Pe : List C → Prop}
/-- the heap grows by objects that nobody owns -/
theorem Rep.grow (rp : Rep K P w env σ G H) (h1 : Same G G2) (h2 : Same G2 H2) (h3 : Same H H2) (h4 : ∀ a, H a ≠ none → G a = none → G2 a = none) : Rep K P w env σ G2 H2 ∧ Stp env G H env G2 H2 := by
  refine ⟨⟨rp.len, h2, fun i c hi => ?_, rp.inj⟩, ⟨h1, fun a x y _ _ => h4 a x y, fun a o e _ _ => h3 a o e, fun a e => ?_, fun _ h => .inl h⟩⟩
  · rcases rp.ok i c hi with z | ⟨v, hv, ok⟩
    · exact .inl z
    · refine .inr ⟨v, hv, cell_mono ok h1 (fun a ha => ?_) fun a ha => ?_⟩
      · obtain ⟨_, hg, o, ho⟩ := cell_there ok ha
        exact h4 a (by rw [ho]; simp) hg
      · obtain ⟨_, hg, o, ho⟩ := cell_there ok ha
        rw [ho]
        exact h3 a o ho
  · obtain ⟨o, ho⟩ := some_of_ne e
    rw [h3 a o ho]
    simp
/-- an object that the frame does not own is written -/
theorem Rep.other (rp : Rep K P w env σ G H) {a : Addr} {o : HO} (hn : ¬ Owns env a) (hg : G a = none) : Rep K P w env σ G (upd H a o) := by
  refine ⟨rp.len, fun b x e => ?_, fun i c hi => ?_, rp.inj⟩
  · rw [upd_ne (fun z => by rw [z, hg] at e; cases e)]
    exact rp.sub b x e
  · rcases rp.ok i c hi with z | ⟨v, hv, ok⟩
    · exact .inl z
    · exact .inr ⟨v, hv, cell_mono ok (fun _ _ h => h) (fun b hb => (cell_there ok hb).2.1) fun b hb => upd_ne fun z => hn ⟨i, c, hi, by rw [hb, z]⟩⟩
theorem Stp.other (s : Stp env G H env1 G1 H1) {a : Addr} {o : HO} (ha : H a = none) : Stp env G H env1 G1 (upd H1 a o) :=
  ⟨s.g, s.fresh, fun b x e n1 n2 => by
    rw [upd_ne (fun z => by rw [z, ha] at e; cases e)]
    exact s.keep b x e n1 n2, fun b e => by
    by_cases q : b = a
    · rw [q, upd_same]; simp
    · rw [upd_ne q]; exact s.dom b e, s.own⟩

/-! ### for -/
theorem ws_for {wi : TI} {g : TG} {tb : TS} {Po : PD} (h : WI K P w wi env fun items e => ∃ Iv : Nat → List C → Prop, Iv 0 e ∧
      (∀ k x e, items[k]? = some x → Iv k e → WG K P w g (.c (.d x)) e fun e2 => WS K P w tb e2 { nx := Iv (k + 1), rt := Po.rt, bk := Po.nx, ct := Iv (k + 1) }) ∧ ∀ e, Iv items.length e → Po.nx e) : WS K P w (tFor wi g tb) env Po := fun σ G H rp D o =>
  h σ G H rp _ fun J items e1 G1 H1 ⟨Iv, i0, is, id⟩ s1 r1 it => by
    refine ⟨fun i m σ' H' => m = items.length - i ∧ i ≤ items.length ∧ ∃ e' G', Iv i e' ∧ Stp env G H e' G' H' ∧ Rep K P w e' σ' G' H' ∧ Same G1 G', ⟨items.length, by simp, Nat.zero_le _, e1, G1, i0, s1, r1, fun _ _ h => h⟩, ?_⟩
    rintro i m σ2 H2 ⟨rfl, hi, e2, G2, iv, s2, r2, sg⟩
    obtain ⟨hgo, hstop, hy⟩ := it G2 H2 sg r2.sub
    by_cases hlt : i < items.length
    · refine .inr ⟨hgo i hlt, fun σ' H' => ∃ e' G', Iv (i + 1) e' ∧ Stp env G H e' G' H' ∧ Rep K P w e' σ' G' H' ∧ Same G1 G', fun σ' H' q => ⟨items.length - (i + 1), by omega, rfl, hlt, q⟩, fun x H3 hyl => ?_⟩
      have hx : items[i]? = some items[i] := List.getElem?_eq_getElem hlt
      obtain ⟨G3, a1, a2, a3, a4, a5⟩ := hy i x H3 _ hx hyl
      obtain ⟨r3, s3⟩ := r2.grow a1 a2 a3 a4
      refine is i _ e2 hx iv σ2 G3 H3 x r3 ⟨a5, fun c a e hc => by cases e; cases hc⟩ _ fun e4 σ4 G4 H4 p4 s4 r4 => ?_
      have s24 : Stp env G H e4 G4 H4 := (s2.trans s3).close s4 fun z hz => by cases hz
      have sg4 : Same G1 G4 := fun c z hz => s4.g c z (a1 c z (sg c z hz))
      refine p4 σ4 G4 H4 r4 _ ⟨fun e' σ' G' H' p st rp' => ⟨e', G', p, s24.trans st, rp', fun c z hz => st.g c z (sg4 c z hz)⟩, fun r v e' σ' G' H' p st rp' ok f => o.rt r v e' σ' G' H' p (s24.trans st) rp' ok (f.back s24),
        fun e' σ' G' H' p st rp' => o.nx e' σ' G' H' p (s24.trans st) rp', fun e' σ' G' H' p st rp' => ⟨e', G', p, s24.trans st, rp', fun c z hz => st.g c z (sg4 c z hz)⟩⟩
    · have e : i = items.length := by omega
      subst e
      exact .inl ⟨hstop, o.nx e2 σ2 G2 H2 (id e2 iv) s2 r2⟩

/-! ### while -/
theorem ws_while {tt : TT} {tb : TS} {Po : PD} (Iv : Nat → List C → Prop) {m0 : Nat} (h0 : Iv m0 env)
    (hs : ∀ m e, Iv m e → WT K P w tt e fun b e1 => (b = true → WS K P w tb e1 { nx := fun e2 => ∃ m', m' < m ∧ Iv m' e2, rt := Po.rt, bk := Po.nx, ct := fun e2 => ∃ m', m' < m ∧ Iv m' e2 }) ∧ (b = false → Po.nx e1)) : WS K P w (tWhile tt tb) env Po := fun σ G H rp D o => by
  refine ⟨fun m σ' H' => ∃ e' G', Iv m e' ∧ Stp env G H e' G' H' ∧ Rep K P w e' σ' G' H', ⟨m0, env, G, h0, Stp.refl, rp⟩, ?_⟩
  rintro m σ2 H2 ⟨e2, G2, iv, s2, r2⟩
  refine hs m e2 iv σ2 G2 H2 r2 _ fun b e3 G3 H3 p3 s3 r3 => ?_
  have s23 := s2.trans s3
  cases b with
  | false => exact o.nx e3 σ2 G3 H3 (p3.2 rfl) s23 r3
  | true =>
    refine ⟨fun σ' H' => ∃ m', m' < m ∧ ∃ e' G', Iv m' e' ∧ Stp env G H e' G' H' ∧ Rep K P w e' σ' G' H', fun σ' H' q => q, ?_⟩
    exact p3.1 rfl σ2 G3 H3 r3 _ ⟨fun e' σ' G' H' ⟨m', hm, p⟩ st rp' => ⟨m', hm, e', G', p, s23.trans st, rp'⟩, fun r v e' σ' G' H' p st rp' ok f => o.rt r v e' σ' G' H' p (s23.trans st) rp' ok (f.back s23),
      fun e' σ' G' H' p st rp' => o.nx e' σ' G' H' p (s23.trans st) rp', fun e' σ' G' H' ⟨m', hm, p⟩ st rp' => ⟨m', hm, e', G', p, s23.trans st, rp'⟩⟩

/-! ### comprehensions -/
def wipeE (env : List C) : List Nat → List C
  | [] => env
  | v :: vs => (wipeE env vs).set v .no
def restE (env0 e : List C) : List Nat → List C
  | [] => e
  | v :: vs => (restE env0 e vs).set v (env0.getD v .no)
theorem wipeE_len (env : List C) : ∀ vs, (wipeE env vs).length = env.length
  | [] => rfl
  | v :: vs => by
    show ((wipeE env vs).set v .no).length = _
    rw [List.length_set, wipeE_len env vs]
theorem wipeE_at {env : List C} {i : Nat} {c : C} : ∀ {vs : List Nat}, (wipeE env vs)[i]? = some c → (i ∈ vs ∧ c = .no) ∨ (i ∉ vs ∧ env[i]? = some c)
  | [], h => .inr ⟨by simp, h⟩
  | v :: vs, h => by
    have h : ((wipeE env vs).set v .no)[i]? = some c := h
    by_cases q : i = v
    · subst q
      by_cases hl : i < (wipeE env vs).length
      · rw [List.getElem?_set_self hl] at h
        cases h
        exact .inl ⟨List.mem_cons_self, rfl⟩
      · rw [List.getElem?_eq_none (by simpa using hl)] at h
        cases h
    · rw [List.getElem?_set_ne (Ne.symm q)] at h
      rcases wipeE_at h with ⟨a, b⟩ | ⟨a, b⟩
      · exact .inl ⟨List.mem_cons_of_mem _ a, b⟩
      · exact .inr ⟨by simp [q, a], b⟩
theorem wipe_at {σ : PL.St} {i : Nat} : ∀ {vs : List Nat}, i ∉ vs → (wipe σ vs)[i]? = σ[i]?
  | [], _ => rfl
  | v :: vs, h => by
    show ((wipe σ vs).set v none)[i]? = _
    rw [List.getElem?_set_ne (fun z => h (by simp [z])), wipe_at fun z => h (List.mem_cons_of_mem _ z)]
theorem Rep.wipe (rp : Rep K P w env σ G H) (vs : List Nat) : Rep K P w (wipeE env vs) (wipe σ vs) G H ∧ Stp env G H (wipeE env vs) G H := by
  refine ⟨⟨by rw [wipe_length, wipeE_len]; exact rp.len, rp.sub, fun i c hi => ?_, fun i j ci cj a hi hj h1 h2 => ?_⟩, ⟨fun _ _ h => h, fun _ _ h _ _ => h, fun _ _ h _ _ => h, fun _ h => h, fun a ⟨i, c, hi, hc⟩ => ?_⟩⟩
  · rcases wipeE_at hi with ⟨_, z⟩ | ⟨n, z⟩
    · exact .inl z
    · rw [wipe_at n]
      exact rp.ok i c z
  · rcases wipeE_at hi with ⟨_, z⟩ | ⟨n, z⟩
    · subst z; cases h1
    · rcases wipeE_at hj with ⟨_, y⟩ | ⟨m, y⟩
      · subst y; cases h2
      · exact rp.inj i j ci cj a z y h1 h2
  · rcases wipeE_at hi with ⟨_, z⟩ | ⟨n, z⟩
    · subst z; cases hc
    · exact .inl ⟨i, c, z, hc⟩
theorem restE_at {env0 e : List C} {i : Nat} {c : C} : ∀ {vs : List Nat}, (restE env0 e vs)[i]? = some c → (i ∈ vs ∧ c = env0.getD i .no) ∨ (i ∉ vs ∧ e[i]? = some c)
  | [], h => .inr ⟨by simp, h⟩
  | v :: vs, h => by
    have h : ((restE env0 e vs).set v (env0.getD v .no))[i]? = some c := h
    by_cases q : i = v
    · subst q
      by_cases hl : i < (restE env0 e vs).length
      · rw [List.getElem?_set_self hl] at h
        cases h
        exact .inl ⟨List.mem_cons_self, rfl⟩
      · rw [List.getElem?_eq_none (by simpa using hl)] at h
        cases h
    · rw [List.getElem?_set_ne (Ne.symm q)] at h
      rcases restE_at h with ⟨a, b⟩ | ⟨a, b⟩
      · exact .inl ⟨List.mem_cons_of_mem _ a, b⟩
      · exact .inr ⟨by simp [q, a], b⟩
theorem restE_len (env0 e : List C) : ∀ vs, (restE env0 e vs).length = e.length
  | [] => rfl
  | v :: vs => by
    show ((restE env0 e vs).set v _).length = _
    rw [List.length_set, restE_len env0 e vs]
/-- behind a comprehension the names that it had of its own are as they were -/
theorem Rep.rest {env0 e : List C} {G0 H0 : Hp} (r0 : Rep K P w env0 σ G0 H0) {vs : List Nat} (rp : Rep K P w e (L2.wipe σ vs) G H) (sg : Same G0 G) (hv : ∀ i ∈ vs, (env0.getD i .no).own = none) :
    Rep K P w (restE env0 e vs) σ G H ∧ ∀ a, Owns (restE env0 e vs) a → Owns e a := by
  have ow : ∀ (i : Nat) (c : C) (a : Addr), (restE env0 e vs)[i]? = some c → c.own = some a → e[i]? = some c := fun i c a hi hc => by
    rcases restE_at hi with ⟨n, z⟩ | ⟨n, z⟩
    · rw [z, hv i n] at hc
      cases hc
    · exact z
  refine ⟨⟨by rw [restE_len, ← rp.len, wipe_length], rp.sub, fun i c hi => ?_, fun i j ci cj a hi hj h1 h2 => rp.inj i j ci cj a (ow i ci a hi h1) (ow j cj a hj h2) h1 h2⟩, fun a ⟨i, c, hi, hc⟩ => ⟨i, c, ow i c a hi hc, hc⟩⟩
  rcases restE_at hi with ⟨n, z⟩ | ⟨n, z⟩
  · have hn := hv i n
    rw [← z] at hn
    by_cases hl : i < env0.length
    · have hc : env0[i]? = some c := by
        rw [z, List.getD_eq_getElem?_getD, List.getElem?_eq_getElem hl]
        rfl
      rcases r0.ok i c hc with y | ⟨v, hv', ok⟩
      · exact .inl y
      · exact .inr ⟨v, hv', cell_mono ok sg (fun a ha => by rw [hn] at ha; cases ha) fun a ha => by rw [hn] at ha; cases ha⟩
    · rw [List.getD_eq_getElem?_getD, List.getElem?_eq_none (by simpa using hl)] at z
      exact .inl z
  · rcases rp.ok i c z with y | ⟨v, hv', ok⟩
    · exact .inl y
    · rw [wipe_at n] at hv'
      exact .inr ⟨v, hv', ok⟩
/-- a target stores into the comprehension's own names alone -/
def GIn (vs : List Nat) (g : TG) : Prop := ∀ v σ H (Q Q' : PL.St → Hp → Prop), (∀ σ' H', wipe σ' vs = wipe σ vs → Q σ' H' → Q' σ' H') → g v σ H Q → g v σ H Q'
def GIns (vs : List Nat) (g : TGs) : Prop := ∀ us σ H (Q Q' : PL.St → Hp → Prop), (∀ σ' H', wipe σ' vs = wipe σ vs → Q σ' H' → Q' σ' H') → g us σ H Q → g us σ H Q'
theorem wipe_set {σ : PL.St} {j : Nat} {o : Option V} : ∀ {vs : List Nat}, j ∈ vs → wipe (σ.set j o) vs = wipe σ vs
  | v :: vs, h => by
    show (wipe (σ.set j o) vs).set v none = (wipe σ vs).set v none
    by_cases q : j ∈ vs
    · rw [wipe_set q]
    · have e : j = v := by
        rcases List.mem_cons.mp h with z | z
        · exact z
        · exact absurd z q
      subst e
      have key : ∀ {us : List Nat}, j ∉ us → wipe (σ.set j o) us = (wipe σ us).set j o := fun {us} => by
        induction us with
        | nil => intro _; rfl
        | cons u us ih =>
          intro hn
          show (wipe (σ.set j o) us).set u none = ((wipe σ us).set u none).set j o
          rw [ih fun z => hn (List.mem_cons_of_mem _ z)]
          exact List.set_comm _ _ (fun z => hn (by simp [z]))
      rw [key q, List.set_set]
theorem gin_name {vs : List Nat} {j : Nat} (h : j ∈ vs) : GIn vs (gName j) := fun v σ H Q Q' m q => m _ _ (wipe_set h) q
theorem gins_nil {vs : List Nat} : GIns vs gNil := fun us σ H Q Q' m q => ⟨q.1, m _ _ rfl q.2⟩
theorem gins_cons {vs : List Nat} {g : TG} {gs : TGs} (h : GIn vs g) (hs : GIns vs gs) : GIns vs (gCons g gs) := fun us σ H Q Q' m ⟨v, r, e, q⟩ =>
  ⟨v, r, e, h v σ H _ _ (fun σ1 H1 e1 q1 => hs r σ1 H1 Q Q' (fun σ2 H2 e2 q2 => m σ2 H2 (e2.trans e1) q2) q1) q⟩
theorem gins_name {vs : List Nat} {j : Nat} {gs : TGs} (h : j ∈ vs) (hs : GIns vs gs) : GIns vs (gCons (gName j) gs) := gins_cons (gin_name h) hs
theorem gin_tup {vs : List Nat} {n : Nat} {gs : TGs} (hs : GIns vs gs) : GIn vs (gTup K n gs) := fun v σ H Q Q' m ⟨a, xs, e, hq, hl, q⟩ => ⟨a, xs, e, hq, hl, hs xs σ H Q Q' m q⟩
theorem wipe_wipe (σ : PL.St) (vs : List Nat) : wipe (wipe σ vs) vs = wipe σ vs := by
  have key : ∀ us : List Nat, (∀ u ∈ us, u ∈ vs) → wipe (wipe σ vs) us = wipe σ vs := by
    intro us
    induction us with
    | nil => intro _; rfl
    | cons u us ih =>
      intro hu
      show (wipe (wipe σ vs) us).set u none = wipe σ vs
      rw [ih fun z hz => hu z (List.mem_cons_of_mem _ hz)]
      refine List.ext_getElem? fun j => ?_
      by_cases qj : u = j
      · subst qj
        by_cases hl : u < (wipe σ vs).length
        · rw [List.getElem?_set_self hl]
          cases e : (wipe σ vs)[u]? with
          | none => rw [List.getElem?_eq_none_iff] at e; omega
          | some o =>
            cases o with
            | none => rfl
            | some z => exact absurd (hu u List.mem_cons_self) (wipe_some e).2
        · rw [List.getElem?_eq_none (by simpa using hl), List.getElem?_eq_none (by simpa using hl)]
      · rw [List.getElem?_set_ne qj]
  exact key vs fun _ h => h

theorem we_lc {wi : TI} {g : TG} {tt : TT} {vs : List Nat} {Po : R → List C → Prop} (hg : GIn vs g)
    (h : WI K P w wi env fun items e1 => items.length ≤ 10000000 ∧ (∀ i ∈ vs, (e1.getD i .no).own = none) ∧ ∃ Iv : Nat → List DD → List C → Prop, Iv 0 [] (wipeE e1 vs) ∧
      (∀ k x acc e, items[k]? = some x → Iv k acc e → WG K P w g (.c (.d x)) e fun e2 => WT K P w tt e2 fun b e3 => (b = true → WE K P w te e3 fun r e4 => ∃ d, r = .c (.d d) ∧ Iv (k + 1) (acc ++ [d]) (wipeE e4 vs)) ∧ (b = false → Iv (k + 1) acc (wipeE e3 vs))) ∧
      ∀ acc e a, Iv items.length acc e → Po (.c (.l a acc)) (restE e1 e vs)) : WE K P w (tLc wi g tt te vs) env Po := fun σ G H rp Q o =>
  h σ G H rp _ fun J items e1 G1 H1 ⟨hz, hv, Iv, i0, is, id⟩ s1 r1 it Dl hD => by
    obtain ⟨rw1, sw1⟩ := r1.wipe vs
    have hg1 : G1 Dl = none := Same.none_of r1.sub hD
    have nD : ¬ Owns (wipeE e1 vs) Dl := fun z => by
      obtain ⟨_, x, hx⟩ := rw1.owned z
      rw [hD] at hx; cases hx
    refine ⟨fun i m H' => m = items.length - i ∧ i ≤ items.length ∧ ∃ e' G' accD accV, Iv i accD e' ∧ accD.length ≤ i ∧ Stp e1 G1 H1 e' G' H' ∧ Rep K P w e' (L2.wipe σ vs) G' H' ∧ Same G1 G' ∧ H' Dl = some (.lst accV) ∧ G' Dl = none ∧ DpAll K G' accV accD ∧ ¬ Owns e' Dl,
      ⟨items.length, by simp, Nat.zero_le _, wipeE e1 vs, G1, [], [], i0, Nat.le_refl _, sw1.other hD, rw1.other nD hg1, fun _ _ h => h, upd_same, hg1, .nil, nD⟩, ?_⟩
    rintro i m H2 ⟨rfl, hi, e2, G2, accD, accV, iv, hl, s2, r2, sg, ho, hgD, hd, n2⟩
    obtain ⟨hgo, hstop, hy⟩ := it G2 H2 sg r2.sub
    by_cases hlt : i < items.length
    · refine .inr ⟨hgo i hlt, fun H' => ∃ e' G' accD accV, Iv (i + 1) accD e' ∧ accD.length ≤ i + 1 ∧ Stp e1 G1 H1 e' G' H' ∧ Rep K P w e' (L2.wipe σ vs) G' H' ∧ Same G1 G' ∧ H' Dl = some (.lst accV) ∧ G' Dl = none ∧ DpAll K G' accV accD ∧ ¬ Owns e' Dl,
        fun H' q => ⟨items.length - (i + 1), by omega, rfl, hlt, q⟩, fun x H3 hyl => ?_⟩
      have hx : items[i]? = some items[i] := List.getElem?_eq_getElem hlt
      obtain ⟨G3, a1, a2, a3, a4, a5⟩ := hy i x H3 _ hx hyl
      obtain ⟨r3, s3⟩ := r2.grow a1 a2 a3 a4
      have ho3 : H3 Dl = some (.lst accV) := a3 _ _ ho
      have hg3 : G3 Dl = none := a4 Dl (by rw [ho]; simp) hgD
      -- what a step from here leaves of the list
      have stay : ∀ {e' : List C} {G' H' : Hp}, Stp e2 G3 H3 e' G' H' → H' Dl = some (.lst accV) ∧ G' Dl = none ∧ DpAll K G' accV accD ∧ ¬ Owns e' Dl := fun {e' G' H'} st =>
        ⟨st.keep Dl _ ho3 n2 (fun z => z), st.fresh Dl (by rw [ho3]; simp) hg3 n2 (fun z => z), L2.DpAll.pmono (fun c z hz => st.g c z (a1 c z hz)) hd, fun z => by
          rcases st.own Dl z with y | y | y
          · exact n2 y
          · rw [ho3] at y; cases y
          · exact y⟩
      refine hg x (wipe σ vs) H3 _ _ (fun σ4 H4 ew q => ⟨ew.trans (wipe_wipe σ vs), q ew⟩) (is i _ accD e2 hx iv (L2.wipe σ vs) G3 H3 x r3 ⟨a5, fun c a e hc => by cases e; cases hc⟩ (fun σ4 H4 => wipe σ4 vs = wipe (L2.wipe σ vs) vs → _) fun e4 σ4 G4 H4 p4 s4 r4 ew => ?_)
      have s4' : Stp e2 G3 H3 e4 G4 H4 := Stp.refl.close s4 fun z hz => by cases hz
      refine p4 σ4 G4 H4 r4 _ fun b e5 G5 H5 p5 s5 r5 => ?_
      have s5' := s4'.trans s5
      have sg5 : Same G1 G5 := fun c z hz => s5'.g c z (a1 c z (sg c z hz))
      cases b with
      | true =>
        refine p5.1 rfl σ4 G5 H5 r5 _ fun r v e6 G6 H6 ⟨d, er, iv'⟩ s6 r6 ok6 f6 => ?_
        subst er
        have s6' := s5'.trans s6
        obtain ⟨t1, t2, t3, t4⟩ := stay s6'
        obtain ⟨r7, s7⟩ := r6.wipe vs
        rw [ew, wipe_wipe] at r7
        have n7 : ¬ Owns (wipeE e6 vs) Dl := fun z => by
          rcases s7.own Dl z with y | y | y
          · exact t4 y
          · rw [t1] at y; cases y
          · exact y
        have lv := t3.plength
        refine ⟨accV, t1, Nat.lt_of_lt_of_le (show accV.length < 10000001 by omega) (show 10000001 ≤ sizeLine by decide), wipeE e6 vs, G6, accD ++ [d], accV ++ [v], iv', by rw [List.length_append]; exact Nat.add_le_add_right hl 1, ?_, r7.other n7 t2, fun c z hz => s6.g c z (sg5 c z hz), upd_same, t2, t3.pappend (.cons ok6 .nil), n7⟩
        exact (((s2.trans s3).trans s6').trans s7).other hD
      | false =>
        obtain ⟨t1, t2, t3, t4⟩ := stay s5'
        obtain ⟨r7, s7⟩ := r5.wipe vs
        rw [ew, wipe_wipe] at r7
        have n7 : ¬ Owns (wipeE e5 vs) Dl := fun z => by
          rcases s7.own Dl z with y | y | y
          · exact t4 y
          · rw [t1] at y; cases y
          · exact y
        exact ⟨wipeE e5 vs, G5, accD, accV, p5.2 rfl, Nat.le_succ_of_le hl, ((s2.trans s3).trans s5').trans s7, r7, sg5, t1, t2, t3, n7⟩
    · have e : i = items.length := by omega
      subst e
      obtain ⟨r3, own3⟩ := r1.rest r2 sg hv
      refine .inl ⟨hstop, o.step s1 (.c (.l Dl accD)) (.ref Dl) _ G2 H2 (id accD e2 Dl iv) ⟨s2.g, s2.fresh, s2.keep, s2.dom, fun a ha => s2.own a (own3 a ha)⟩ r3 ⟨rfl, hgD, accV, ho, hd⟩ fun a ha => ?_⟩
      cases ha
      exact ⟨fun z => n2 (own3 Dl z), .inl hD⟩
end
end PL

/-! Comprehensions of two clauses; calls of defs. -/
namespace PL
open PySem PySem.Spec PyProof.Rows L2 RZ
section
variable {K : PySem.W.Frag} {P : Program} {w : World}
variable {env env' env1 : List C} {te ta tb tc : TE} {σ σ' : PL.St} {G G' G1 G2 H H' H1 H2 : Hp} {S : Addr → Prop} {v x y : V} {r : R} {Pe : List C → Prop}
theorem wipe_sub (σ : PL.St) {us vs : List Nat} (h : ∀ i ∈ us, i ∈ vs) : wipe (wipe σ us) vs = wipe σ vs := by
  induction us with
  | nil => rfl
  | cons u us ih =>
    show wipe ((wipe σ us).set u none) vs = _
    rw [wipe_set (h u List.mem_cons_self)]
    exact ih fun i hi => h i (List.mem_cons_of_mem _ hi)
/-- the list that grows, beside the frame -/
structure Grow (K : PySem.W.Frag) (env : List C) (G H : Hp) (Dl : Addr) (acc : List DD) : Prop where
  ex : ∃ vs, H Dl = some (.lst vs) ∧ DpAll K G vs acc
  g : G Dl = none
  no : ¬ Owns env Dl
theorem Grow.step {Dl : Addr} {acc : List DD} (g : Grow K env G H Dl acc) (s : Stp env G H env1 G1 H1) : Grow K env1 G1 H1 Dl acc := by
  obtain ⟨⟨vs, ho, hd⟩, hg, hn⟩ := g
  refine ⟨⟨vs, s.keep Dl _ ho hn (fun z => z), L2.DpAll.pmono s.g hd⟩, s.fresh Dl (by rw [ho]; simp) hg hn (fun z => z), fun z => ?_⟩
  rcases s.own Dl z with y | y | y
  · exact hn y
  · rw [ho] at y; cases y
  · exact y
theorem we_lc2 {wi wi1 : TI} {g g1 : TG} {tt tt1 : TT} {vs vs1 : List Nat} {Po : R → List C → Prop} (hg : GIn vs g) (hg1 : GIn vs1 g1) (hs1 : ∀ i ∈ vs1, i ∈ vs)
    (h : WI K P w wi env fun items e1 => (∀ i ∈ vs, (e1.getD i .no).own = none) ∧ ∃ Iv : Nat → List DD → List C → Prop, Iv 0 [] (wipeE e1 vs) ∧
      (∀ k x acc e, items[k]? = some x → Iv k acc e → WG K P w g (.c (.d x)) e fun e2 => WT K P w tt e2 fun b e3 => (b = true → WI K P w wi1 e3 fun items1 e4 => ∃ Jv : Nat → List DD → List C → Prop, Jv 0 acc (wipeE e4 vs1) ∧
          (∀ j y acc' e', items1[j]? = some y → Jv j acc' e' → WG K P w g1 (.c (.d y)) e' fun e5 => WT K P w tt1 e5 fun b e6 => (b = true → WE K P w te e6 fun r e7 => ∃ d, r = .c (.d d) ∧ acc'.length < 16000000 ∧ Jv (j + 1) (acc' ++ [d]) (wipeE e7 vs1)) ∧ (b = false → Jv (j + 1) acc' (wipeE e6 vs1))) ∧
          ∀ acc' e', Jv items1.length acc' e' → Iv (k + 1) acc' (wipeE e' vs)) ∧ (b = false → Iv (k + 1) acc (wipeE e3 vs))) ∧
      ∀ acc e a, Iv items.length acc e → Po (.c (.l a acc)) (restE e1 e vs)) : WE K P w (tLc2 wi g tt wi1 g1 tt1 te vs vs1) env Po := fun σ G H rp Q o =>
  h σ G H rp _ fun J items e1 G1 H1 ⟨hv, Iv, i0, is, id⟩ s1 r1 it Dl hD => by
    obtain ⟨rw1, sw1⟩ := r1.wipe vs
    have hg1' : G1 Dl = none := Same.none_of r1.sub hD
    have nD : ¬ Owns (wipeE e1 vs) Dl := fun z => by
      obtain ⟨_, x, hx⟩ := rw1.owned z
      rw [hD] at hx; cases hx
    refine ⟨fun i m H' => m = items.length - i ∧ i ≤ items.length ∧ ∃ e' G' acc, Iv i acc e' ∧ Stp e1 G1 H1 e' G' H' ∧ Rep K P w e' (L2.wipe σ vs) G' H' ∧ Same G1 G' ∧ Grow K e' G' H' Dl acc,
      ⟨items.length, by simp, Nat.zero_le _, wipeE e1 vs, G1, [], i0, sw1.other hD, rw1.other nD hg1', fun _ _ h => h, ⟨[], upd_same, .nil⟩, hg1', nD⟩, ?_⟩
    rintro i m H2 ⟨rfl, hi, e2, G2, acc, iv, s2, r2, sg, gr⟩
    obtain ⟨hgo, hstop, hy⟩ := it G2 H2 sg r2.sub
    by_cases hlt : i < items.length
    · refine .inr ⟨hgo i hlt, fun H' => ∃ e' G' acc, Iv (i + 1) acc e' ∧ Stp e1 G1 H1 e' G' H' ∧ Rep K P w e' (L2.wipe σ vs) G' H' ∧ Same G1 G' ∧ Grow K e' G' H' Dl acc,
        fun H' q => ⟨items.length - (i + 1), by omega, rfl, hlt, q⟩, fun x H3 hyl => ?_⟩
      have hx : items[i]? = some items[i] := List.getElem?_eq_getElem hlt
      obtain ⟨G3, a1, a2, a3, a4, a5⟩ := hy i x H3 _ hx hyl
      obtain ⟨r3, s3⟩ := r2.grow a1 a2 a3 a4
      refine hg x (wipe σ vs) H3 _ _ (fun σ4 H4 ew q => ⟨ew.trans (wipe_wipe σ vs), q ew⟩) (is i _ acc e2 hx iv (L2.wipe σ vs) G3 H3 x r3 ⟨a5, fun c a e hc => by cases e; cases hc⟩ (fun σ4 H4 => wipe σ4 vs = wipe (L2.wipe σ vs) vs → _) fun e4 σ4 G4 H4 p4 s4 r4 ew => ?_)
      have s4' : Stp e2 G3 H3 e4 G4 H4 := Stp.refl.close s4 fun z hz => by cases hz
      refine p4 σ4 G4 H4 r4 _ fun b e5 G5 H5 p5 s5 r5 => ?_
      have s5' := (s3.trans s4').trans s5
      have sg5 : Same G1 G5 := fun c z hz => s5'.g c z (sg c z hz)
      have gr5 := gr.step s5'
      cases b with
      | true =>
        refine p5.1 rfl σ4 G5 H5 r5 _ fun J1 items1 e6 G6 H6 ⟨Jv, j0, js, jd⟩ s6 r6 it1 => ?_
        obtain ⟨rw6, sw6⟩ := r6.wipe vs1
        have s16 := ((s2.trans s5').trans s6).trans sw6
        refine ⟨fun j m H' => m = items1.length - j ∧ j ≤ items1.length ∧ ∃ e' G' acc, Jv j acc e' ∧ Stp e1 G1 H1 e' G' H' ∧ Rep K P w e' (L2.wipe σ4 vs1) G' H' ∧ Same G6 G' ∧ Grow K e' G' H' Dl acc,
          ⟨items1.length, by simp, Nat.zero_le _, wipeE e6 vs1, G6, acc, j0, s16, rw6, fun _ _ h => h, (gr5.step s6).step sw6⟩, ?_⟩
        rintro j m H7 ⟨rfl, hj, e7, G7, acc', jv, s7, r7, sg7, gr7⟩
        obtain ⟨hgo1, hstop1, hy1⟩ := it1 G7 H7 sg7 r7.sub
        by_cases hlt1 : j < items1.length
        · refine .inr ⟨hgo1 j hlt1, fun H' => ∃ e' G' acc, Jv (j + 1) acc e' ∧ Stp e1 G1 H1 e' G' H' ∧ Rep K P w e' (L2.wipe σ4 vs1) G' H' ∧ Same G6 G' ∧ Grow K e' G' H' Dl acc,
            fun H' q => ⟨items1.length - (j + 1), by omega, rfl, hlt1, q⟩, fun y H8 hyl1 => ?_⟩
          have hy' : items1[j]? = some items1[j] := List.getElem?_eq_getElem hlt1
          obtain ⟨G8, b1, b2, b3, b4, b5⟩ := hy1 j y H8 _ hy' hyl1
          obtain ⟨r8, s8⟩ := r7.grow b1 b2 b3 b4
          refine hg1 y (wipe σ4 vs1) H8 _ _ (fun σ9 H9 ew q => ⟨ew.trans (wipe_wipe σ4 vs1), q ew⟩) (js j _ acc' e7 hy' jv (L2.wipe σ4 vs1) G8 H8 y r8 ⟨b5, fun c a e hc => by cases e; cases hc⟩ (fun σ9 H9 => wipe σ9 vs1 = wipe (L2.wipe σ4 vs1) vs1 → _) fun e9 σ9 G9 H9 p9 s9 r9 ew9 => ?_)
          have s9' : Stp e7 G8 H8 e9 G9 H9 := Stp.refl.close s9 fun z hz => by cases hz
          refine p9 σ9 G9 H9 r9 _ fun b eA GA HA pA sA rA => ?_
          have sA' := (s8.trans s9').trans sA
          have sgA : Same G6 GA := fun c z hz => sA'.g c z (sg7 c z hz)
          have grA := gr7.step sA'
          cases b with
          | true =>
            refine pA.1 rfl σ9 GA HA rA _ fun r v eB GB HB ⟨d, er, hl, jv'⟩ sB rB okB fB => ?_
            subst er
            obtain ⟨rC, sC⟩ := rB.wipe vs1
            rw [ew9, wipe_wipe] at rC
            obtain ⟨⟨vv, ho, hd⟩, hgD, hnD⟩ := (grA.step sB).step sC
            have lv := hd.plength
            exact ⟨vv, ho, Nat.lt_of_lt_of_le (show vv.length < 16000000 by omega) (show 16000000 ≤ sizeLine by decide), wipeE eB vs1, GB, acc' ++ [d], jv', (((s7.trans sA').trans sB).trans sC).other hD, rC.other hnD hgD, fun c z hz => sB.g c z (sgA c z hz), ⟨vv ++ [v], upd_same, hd.pappend (.cons okB .nil)⟩, hgD, hnD⟩
          | false =>
            obtain ⟨rC, sC⟩ := rA.wipe vs1
            rw [ew9, wipe_wipe] at rC
            exact ⟨wipeE eA vs1, GA, acc', pA.2 rfl, (s7.trans sA').trans sC, rC, sgA, grA.step sC⟩
        · have e : j = items1.length := by omega
          subst e
          obtain ⟨rC, sC⟩ := r7.wipe vs
          rw [wipe_sub σ4 hs1, ew, wipe_wipe] at rC
          exact .inl ⟨hstop1, wipeE e7 vs, G7, acc', jd acc' e7 jv, s7.trans sC, rC, fun c z hz => sg7 c z (s6.g c z (sg5 c z hz)), gr7.step sC⟩
      | false =>
        obtain ⟨r7, s7⟩ := r5.wipe vs
        rw [ew, wipe_wipe] at r7
        exact ⟨wipeE e5 vs, G5, acc, p5.2 rfl, (s2.trans s5').trans s7, r7, sg5, gr5.step s7⟩
    · have e : i = items.length := by omega
      subst e
      obtain ⟨r3, own3⟩ := r1.rest r2 sg hv
      obtain ⟨⟨vv, ho, hd⟩, hgD, hnD⟩ := gr
      refine .inl ⟨hstop, o.step s1 (.c (.l Dl acc)) (.ref Dl) _ G2 H2 (id acc e2 Dl iv) ⟨s2.g, s2.fresh, s2.keep, s2.dom, fun a ha => s2.own a (own3 a ha)⟩ r3 ⟨rfl, hgD, vv, ho, hd⟩ fun a ha => ?_⟩
      cases ha
      exact ⟨fun z => hnD (own3 Dl z), .inl hD⟩

/-! ### defs -/
/-- own parameters are still there -/
def Kept : List C → List C → Prop
  | [], _ => True
  | c :: cs, e => (match c.own with | none => True | some a => ∃ c', e.head? = some c' ∧ c'.own = some a) ∧ Kept cs e.tail
theorem Kept.at : ∀ {cs e : List C} {i : Nat} {c : C} {a : Addr}, Kept cs e → cs[i]? = some c → c.own = some a → ∃ c', e[i]? = some c' ∧ c'.own = some a
  | [], _, _, _, _, _, h, _ => by simp at h
  | c :: cs, e, 0, c0, a, k, h, ha => by
    simp at h; subst h
    have k1 := k.1
    rw [ha] at k1
    obtain ⟨c', h1, h2⟩ := k1
    cases e with
    | nil => cases h1
    | cons x xs => exact ⟨c', h1, h2⟩
  | c :: cs, e, i + 1, c0, a, k, h, ha => by
    obtain ⟨c', h1, h2⟩ := Kept.at (i := i) k.2 (by simpa using h) ha
    cases e with
    | nil => simp at h1
    | cons x xs => exact ⟨c', by simpa using h1, h2⟩
/-- a promise on cells: the arguments, what is wanted of the result and of the arguments behind the call -/
abbrev PW := List C → (R → List C → Prop) → Prop
variable (K P w) in
def spW (W : PW) : Sp := fun vs H Q _ => ∃ (cs : List C) (G : Hp) (Po : R → List C → Prop), W cs Po ∧ vs.length = cs.length ∧ Rep K P w cs (vs.map some) G H ∧
  ∀ r v cs' G' H', Po r cs' → Stp cs G H cs' G' H' → Kept cs cs' → (∀ (i : Nat) c a, cs'[i]? = some c → c.own = some a → CellOk K P w G' H' (.ref a) c) → Same G' H' → ResOk K P w G' H' v r → Fr cs H cs' r → Q v H'
end
section
variable {P : Program} {w : World} {K : PySem.W.Frag} {mg : Str → Option Value} {base : Heap}
theorem start_rep {N : List Str} {vs : List V} {cs : List C} {G H : Hp} (hl : vs.length = cs.length) (rp : Rep K P w cs (vs.map some) G H) : Rep K P w (cs ++ List.replicate (N.length - cs.length) .no) (L2.start N vs) G H ∧ Stp cs G H (cs ++ List.replicate (N.length - cs.length) .no) G H := by
  have key : ∀ (i : Nat) (c : C), (cs ++ List.replicate (N.length - cs.length) .no)[i]? = some c → c = .no ∨ (i < cs.length ∧ cs[i]? = some c) := fun i c hi => by
    by_cases q : i < cs.length
    · rw [List.getElem?_append_left q] at hi
      exact .inr ⟨q, hi⟩
    · rw [List.getElem?_append_right (by omega), List.getElem?_replicate] at hi
      split at hi
      · cases hi; exact .inl rfl
      · cases hi
  refine ⟨⟨?_, rp.sub, fun i c hi => ?_, fun i j ci cj a hi hj h1 h2 => ?_⟩, ⟨fun _ _ h => h, fun _ _ h _ _ => h, fun _ _ h _ _ => h, fun _ h => h, fun a ⟨i, c, hi, hc⟩ => ?_⟩⟩
  · unfold L2.start
    simp [hl]
  · rcases key i c hi with z | ⟨q, z⟩
    · exact .inl z
    · rcases rp.ok i c z with y | ⟨v, hv, ok⟩
      · exact .inl y
      · refine .inr ⟨v, ?_, ok⟩
        unfold L2.start
        rw [List.getElem?_append_left (by simp; omega)]
        exact hv
  · rcases key i ci hi with z | ⟨_, z⟩
    · subst z; cases h1
    · rcases key j cj hj with y | ⟨_, y⟩
      · subst y; cases h2
      · exact rp.inj i j ci cj a z y h1 h2
  · rcases key i c hi with z | ⟨_, z⟩
    · subst z; cases hc
    · exact .inl ⟨i, c, z, hc⟩
/-- what a def's end wants -/
def Fin (cs : List C) (Po : R → List C → Prop) (r : R) (e : List C) : Prop := Kept cs (e.take cs.length) ∧ Po r (e.take cs.length)
theorem owns_take {e : List C} {n : Nat} {a : Addr} (h : Owns (e.take n) a) : Owns e a := by
  obtain ⟨i, c, hi, hc⟩ := h
  rw [List.getElem?_take] at hi
  split at hi
  · exact ⟨i, c, hi, hc⟩
  · cases hi
/-- THE RULE for a def -/
theorem fnW {x qual : Str} {st : Stmt} {f : Addr} {fd : FuncData} {N ps : List Str} {k : Nat} {W : PW} (F : Fun K x qual st f fd) (S : FnScope N ps (defScope st)) (hl : ∀ cs Po, W cs Po → cs.length = ps.length)
    (hbody : ∀ (cdv : Value) (A : Around) (outer : List Env) (s : Shared) (H : Hp) (E : XK), Room k (A.deeper (envOfC qual (defScope st) s.heap.objs.size f cdv)) →
      ∃ t, PSs (cxOf CX0 P w K mg base N qual (defScope st) f cdv A outer s H E).nox (defBody st) t ∧ ∀ cs Po, W cs Po → WS K P w t (cs ++ List.replicate (N.length - cs.length) .no) { nx := Fin cs Po (.c (.d .none)), rt := Fin cs Po }) :
    FnOk P w K mg base CX0 (k + 1) f fd ps (spW K P w W) := by
  refine F.ok S (fun vs H Q E ⟨cs, G, Po, hW, h1, _⟩ => h1.trans (hl cs Po hW)) fun cdv A outer s H vs Q E hr hsp => ?_
  obtain ⟨cs, G, Po, hW, h1, rp, q⟩ := hsp
  obtain ⟨t, ht, hw⟩ := hbody cdv A outer s H E hr
  refine ⟨t, ht, ?_⟩
  obtain ⟨r1, s1⟩ := start_rep (N := N) h1 rp
  have fin : ∀ (r : R) v (e' : List C) σ' G' H', Fin cs Po r e' → Stp (cs ++ List.replicate (N.length - cs.length) .no) G H e' G' H' → Rep K P w e' σ' G' H' → ResOk K P w G' H' v r → Fr (cs ++ List.replicate (N.length - cs.length) .no) H e' r → Q v H' := fun r v e' σ' G' H' p st rp' ok fr => by
    have st' := s1.trans st
    refine q r v (e'.take cs.length) G' H' p.2 ⟨st'.g, st'.fresh, st'.keep, st'.dom, fun a ha => st'.own a (owns_take ha)⟩ p.1 (fun i c a hi hc => ?_) rp'.sub ok ?_
    · rw [List.getElem?_take] at hi
      split at hi
      · obtain ⟨u, _, ok'⟩ := rp'.at hi (by rintro rfl; cases hc)
        have e := (cell_there ok' hc).1
        rw [e] at ok'
        exact ok'
      · cases hi
    · cases r with
      | own _ => trivial
      | c c =>
        intro a ha
        obtain ⟨z1, z2⟩ := fr.back s1 a ha
        exact ⟨fun z => z1 (owns_take z), z2⟩
  exact hw cs Po hW (L2.start N vs) G H r1 _ ⟨fun e' σ' G' H' p st rp' => fin _ .non e' σ' G' H' p st rp' Dp.non Fr.dat, fun r v e' σ' G' H' p st rp' ok fr => fin r v e' σ' G' H' p st rp' ok fr, fun _ _ _ _ z => z.elim, fun _ _ _ _ z => z.elim⟩
end
section
variable {K : PySem.W.Frag} {P : Program} {w : World}
variable {env env' env1 : List C} {σ σ' : PL.St} {G G' G1 G2 H H' H1 H2 : Hp} {Po : R → List C → Prop}
/-- waiting results as arguments -/
inductive Args (e : List C) : List R → List C → Prop
  | nil : Args e [] []
  | d {x : DD} {rs : List R} {cs : List C} : Args e rs cs → Args e (.c (.d x) :: rs) (.d x :: cs)
  | raw {x : V} {rs : List R} {cs : List C} : Args e rs cs → Args e (.c (.raw x) :: rs) (.raw x :: cs)
  | own {a : Addr} {c : C} {rs : List R} {cs : List C} (j : Nat) : e[j]? = some c → c.own = some a → Args e rs cs → Args e (.own a :: rs) (c :: cs)
theorem Args.cells {rs : List R} {cs : List C} {vs : List V} (a : Args env rs cs) (rp : Rep K P w env σ G H) (ps : Paired (Pend K P w env G H) vs rs) :
    vs.length = cs.length ∧ (∀ (i : Nat) (c : C), cs[i]? = some c → ∃ v, (vs.map some)[i]? = some (some v) ∧ CellOk K P w G H v c) ∧ ∀ (i : Nat) (c : C) b, cs[i]? = some c → c.own = some b → Owns env b := by
  induction a generalizing vs with
  | nil => cases ps; exact ⟨rfl, fun i c h => by simp at h, fun i c b h => by simp at h⟩
  | @d x rs cs _ ih =>
    cases ps with
    | cons h1 h2 =>
      obtain ⟨l, q1, q2⟩ := ih h2
      refine ⟨congrArg (· + 1) l, fun i c h => ?_, fun i c b h hc => ?_⟩
      · cases i with
        | zero => simp at h; subst h; exact ⟨_, rfl, h1.1⟩
        | succ i => simpa using q1 i c (by simpa using h)
      · cases i with
        | zero => simp at h; subst h; cases hc
        | succ i => exact q2 i c b (by simpa using h) hc
  | @raw x rs cs _ ih =>
    cases ps with
    | cons h1 h2 =>
      obtain ⟨l, q1, q2⟩ := ih h2
      refine ⟨congrArg (· + 1) l, fun i c h => ?_, fun i c b h hc => ?_⟩
      · cases i with
        | zero => simp at h; subst h; exact ⟨_, rfl, h1.1⟩
        | succ i => simpa using q1 i c (by simpa using h)
      · cases i with
        | zero => simp at h; subst h; cases hc
        | succ i => exact q2 i c b (by simpa using h) hc
  | @own a0 c0 rs cs j hj hc0 _ ih =>
    cases ps with
    | cons h1 h2 =>
      obtain ⟨l, q1, q2⟩ := ih h2
      refine ⟨congrArg (· + 1) l, fun i c h => ?_, fun i c b h hc => ?_⟩
      · cases i with
        | zero =>
          simp at h; subst h
          obtain ⟨u, _, ok⟩ := rp.at hj (by rintro rfl; cases hc0)
          rw [(cell_there ok hc0).1] at ok
          refine ⟨_, rfl, ?_⟩
          rw [show (_ : V) = .ref a0 from h1.1]
          exact ok
        | succ i => simpa using q1 i c (by simpa using h)
      · cases i with
        | zero => simp at h; subst h; exact ⟨j, c0, hj, hc⟩
        | succ i => exact q2 i c b (by simpa using h) hc
/-- a call, its arguments data -/
theorem we_call {W : PW} {E : XK} {t : TA} (h : WA K P w t env fun rs e => ∃ cs Pc, W cs Pc ∧ Args e rs cs ∧ (∀ c ∈ cs, c.own = none) ∧ ∀ r cs', Pc r cs' → Po r e) : WE K P w (tCall (spW K P w W) [] E t) env Po := fun σ G H rp Q o =>
  h σ G H rp _ fun rs vs e1 G1 H1 ⟨cs, Pc, hW, ha, hn, hp⟩ s1 r1 ps fs => by
    obtain ⟨l, q1, q2⟩ := ha.cells r1 ps.all
    have no : ∀ b, ¬ Owns cs b := fun b ⟨i, c, hi, hc⟩ => by
      rw [hn c (List.mem_of_getElem? hi)] at hc; cases hc
    refine ⟨cs, G1, Pc, hW, by rw [List.append_nil]; exact l, ⟨by rw [List.append_nil, List.length_map]; exact l, r1.sub, fun i c hi => .inr (by rw [List.append_nil]; exact q1 i c hi), fun i j ci cj a hi hj h1 h2 => absurd ⟨i, ci, hi, h1⟩ (no a)⟩, fun r v cs' G' H' p st kp ok sub res fr => ?_⟩
    have s2 : Stp e1 G1 H1 e1 G' H' := ⟨st.g, fun a x y _ z => st.fresh a x y (no a) z, fun a x y _ z => st.keep a x y (no a) z, st.dom, fun a h => .inl h⟩
    refine o r v e1 G' H' (hp r cs' p) (s1.trans s2) ⟨r1.len, sub, fun i c hi => ?_, r1.inj⟩ res ?_
    · rcases r1.ok i c hi with z | ⟨u, hu, ok'⟩
      · exact .inl z
      · refine .inr ⟨u, hu, cell_mono ok' st.g (fun b hb => ?_) fun b hb => ?_⟩
        · obtain ⟨_, hg, x, hx⟩ := cell_there ok' hb
          exact st.fresh b (by rw [hx]; simp) hg (no b) fun z => z
        · obtain ⟨_, hg, x, hx⟩ := cell_there ok' hb
          rw [hx]
          exact st.keep b x hx (no b) fun z => z
    · cases r with
      | own _ => trivial
      | c c =>
        intro a hc
        have f1 := fr a hc
        have h1n : H1 a = none := f1.2.elim id fun z => absurd z (no a)
        refine ⟨fun z => ?_, .inl ?_⟩
        · obtain ⟨_, x, hx⟩ := r1.owned z
          rw [h1n] at hx; cases hx
        · cases q : H a with
          | none => rfl
          | some x => exact absurd h1n (s1.dom a (by rw [q]; simp))
/-- a call that is handed one own thing (slot j, the k-th argument) -/
theorem we_call1 {W : PW} {E : XK} {t : TA} (h : WA K P w t env fun rs e => ∃ cs Pc j k c a, W cs Pc ∧ Args e rs cs ∧ e[j]? = some c ∧ c.own = some a ∧ cs[k]? = some c ∧ (∀ (i : Nat) c', cs[i]? = some c' → c'.own ≠ none → i = k) ∧ ∀ r cs' c', Pc r cs' → cs'[k]? = some c' → c'.own = some a → Po r (e.set j c')) :
    WE K P w (tCall (spW K P w W) [] E t) env Po := fun σ G H rp Q o =>
  h σ G H rp _ fun rs vs e1 G1 H1 ⟨cs, Pc, j, k, c, a, hW, ha, hj, hca, hk, hone, hp⟩ s1 r1 ps fs => by
    obtain ⟨l, q1, q2⟩ := ha.cells r1 ps.all
    have only : ∀ b, Owns cs b → b = a := fun b ⟨i, c', hi, hc'⟩ => by
      have e := hone i c' hi (by rw [hc']; simp)
      subst e
      rw [hk] at hi
      cases hi
      rw [hca] at hc'
      exact (Option.some.inj hc').symm
    refine ⟨cs, G1, Pc, hW, by rw [List.append_nil]; exact l, ⟨by rw [List.append_nil, List.length_map]; exact l, r1.sub, fun i c hi => .inr (by rw [List.append_nil]; exact q1 i c hi), fun i j ci cj b hi hj h1 h2 => ?_⟩, fun r v cs' G' H' p st kp ok sub res fr => ?_⟩
    · rw [hone i ci hi (by rw [h1]; simp), hone j cj hj (by rw [h2]; simp)]
    obtain ⟨c', hk', hc'⟩ := kp.at hk hca
    have okc' := ok k c' a hk' hc'
    have hjl : j < e1.length := (List.getElem?_eq_some_iff.mp hj).1
    have owA : Owns e1 a := ⟨j, c, hj, hca⟩
    have csub : ∀ b, Owns cs b → Owns e1 b := fun b hb => by rw [only b hb]; exact owA
    have back : ∀ (i : Nat) (ci : C), (e1.set j c')[i]? = some ci → (i = j ∧ ci = c') ∨ (i ≠ j ∧ e1[i]? = some ci) := fun i ci hi => by
      by_cases q : i = j
      · subst q
        rw [List.getElem?_set_self hjl] at hi
        exact .inl ⟨rfl, (Option.some.inj hi).symm⟩
      · rw [List.getElem?_set_ne (Ne.symm q)] at hi
        exact .inr ⟨q, hi⟩
    have osub : ∀ b, Owns (e1.set j c') b → Owns e1 b := fun b ⟨i, ci, hi, hb⟩ => by
      rcases back i ci hi with ⟨e2, e3⟩ | ⟨_, z⟩
      · subst e3
        rw [hc'] at hb
        cases hb
        exact owA
      · exact ⟨i, ci, z, hb⟩
    have s2 : Stp e1 G1 H1 (e1.set j c') G' H' := ⟨st.g, fun b x y n z => st.fresh b x y (fun hb => n (csub b hb)) z, fun b x y n z => st.keep b x y (fun hb => n (csub b hb)) z, st.dom, fun b h => .inl (osub b h)⟩
    refine o r v (e1.set j c') G' H' (hp r cs' c' p hk' hc') (s1.trans s2) ⟨by rw [List.length_set]; exact r1.len, sub, fun i ci hi => ?_, fun i m ci cm b hi hm h1 h2 => ?_⟩ res ?_
    · rcases back i ci hi with ⟨e2, e3⟩ | ⟨ne, z⟩
      · subst e2 e3
        rcases r1.ok i c hj with z | ⟨u, hu, ok'⟩
        · subst z; cases hca
        · refine .inr ⟨u, hu, ?_⟩
          rw [(cell_there ok' hca).1]
          exact okc'
      · rcases r1.ok i ci z with y | ⟨u, hu, ok'⟩
        · exact .inl y
        · have nb : ∀ b, ci.own = some b → ¬ Owns cs b := fun b hb hcs => by
            have e := only b hcs
            subst e
            exact ne (r1.inj i j ci c b z hj hb hca)
          refine .inr ⟨u, hu, cell_mono ok' st.g (fun b hb => ?_) fun b hb => ?_⟩
          · obtain ⟨_, hg, x, hx⟩ := cell_there ok' hb
            exact st.fresh b (by rw [hx]; simp) hg (nb b hb) fun z => z
          · obtain ⟨_, hg, x, hx⟩ := cell_there ok' hb
            rw [hx]
            exact st.keep b x hx (nb b hb) fun z => z
    · rcases back i ci hi with ⟨e2, e3⟩ | ⟨n1, z1⟩
      · rcases back m cm hm with ⟨f2, f3⟩ | ⟨n2, z2⟩
        · rw [e2, f2]
        · subst e3
          rw [hc'] at h1
          cases h1
          exact absurd (r1.inj m j cm c _ z2 hj h2 hca) n2
      · rcases back m cm hm with ⟨f2, f3⟩ | ⟨n2, z2⟩
        · subst f3
          rw [hc'] at h2
          cases h2
          exact absurd (r1.inj i j ci c _ z1 hj h1 hca) n1
        · exact r1.inj i m ci cm b z1 z2 h1 h2
    · cases r with
      | own _ => trivial
      | c c0 =>
        intro b hb
        obtain ⟨f1, f2⟩ := fr b hb
        have h1n : H1 b = none := by
          rcases f2 with z | z
          · exact z
          · exfalso
            have e := only b z
            subst e
            exact f1 ⟨k, c', hk', hc'⟩
        refine ⟨fun z => ?_, .inl ?_⟩
        · obtain ⟨_, x, hx⟩ := r1.owned (osub b z)
          rw [h1n] at hx; cases hx
        · cases q : H b with
          | none => rfl
          | some x => exact absurd h1n (s1.dom b (by rw [q]; simp))
end
end PL

/-! Own dicts whose keys are nested tuples of ints. -/
namespace PL
open PySem PySem.Spec PyProof.Rows L2 RZ
abbrev Ent := NestedKey × Addr × V
def putE (es : List Ent) (k : NestedKey) (t : Addr) (v : V) : List Ent := if es.any (fun p => decide (p.1 = k)) then es.map (fun p => if p.1 = k then (p.1, p.2.1, v) else p) else es ++ [(k, t, v)]
def putD (kvs : List (NestedKey × DD)) (k : NestedKey) (d : DD) : List (NestedKey × DD) := if kvs.any (fun p => decide (p.1 = k)) then kvs.map (fun p => if p.1 = k then (p.1, d) else p) else kvs ++ [(k, d)]
def getD (kvs : List (NestedKey × DD)) (k : NestedKey) : Option DD := (kvs.find? fun p => decide (p.1 = k)).map (·.2)
def hasD (kvs : List (NestedKey × DD)) (k : NestedKey) : Bool := kvs.any fun p => decide (p.1 = k)
/-- the keys' tuples stand -/
def EKeys (K : PySem.W.Frag) (H : Hp) (es : List Ent) : Prop := ∀ p ∈ es, Dp K H (.ref p.2.1) (kd p.1) ∧ p.1.depth ≤ 8
abbrev ERel : List Ent → List (NestedKey × Addr × Value) → Prop := Paired fun (p : Ent) (q : NestedKey × Addr × Value) => p.1 = q.1 ∧ p.2.1 = q.2.1 ∧ RelV p.2.2 q.2.2
theorem ERel.any {es : List Ent} {xs : List (NestedKey × Addr × Value)} (r : ERel es xs) (k : NestedKey) : (es.any fun p => decide (p.1 = k)) = (atKey xs k).isSome := by
  induction r with
  | nil => rfl
  | @cons p q ps qs h _ ih =>
    unfold atKey at ih ⊢
    rw [List.any_cons, List.find?_cons, h.1, ih]
    by_cases e : q.1 = k <;> simp [e]
theorem ERel.find {es : List Ent} {xs : List (NestedKey × Addr × Value)} (r : ERel es xs) {k : NestedKey} {v : V} (h : (es.find? fun p => decide (p.1 = k)).map (fun p => p.2.2) = some v) : ∃ q, atKey xs k = some q ∧ RelV v q.2 := by
  induction r with
  | nil => cases h
  | @cons p q ps qs h1 _ ih =>
    unfold atKey at ih ⊢
    rw [List.find?_cons] at h ⊢
    rw [h1.1] at h
    by_cases e : q.1 = k
    · simp only [e, decide_true] at h ⊢
      cases h
      exact ⟨q.2, rfl, h1.2.2⟩
    · simp only [e, decide_false] at h ⊢
      exact ih h
theorem ERel.putMap {es : List Ent} {xs : List (NestedKey × Addr × Value)} (r : ERel es xs) {k : NestedKey} {v : V} {u : Value} (hv : RelV v u) : ERel (es.map fun p => if p.1 = k then (p.1, p.2.1, v) else p) (xs.map (putAt k u)) := by
  induction r with
  | nil => exact .nil
  | @cons p q ps qs h _ ih =>
    refine .cons ?_ ih
    obtain ⟨p1, p2, p3⟩ := p
    obtain ⟨q1, q2, q3⟩ := q
    obtain ⟨e1, e2, e3⟩ := h
    simp only at e1 e2 e3
    subst e1 e2
    unfold putAt
    by_cases e : p1 = k
    · have q1 : (fun p : Ent => if p.1 = k then (p.1, p.2.1, v) else p) (p1, p2, p3) = (p1, p2, v) := if_pos e
      rw [if_pos e, q1]
      exact ⟨rfl, rfl, hv⟩
    · have q1 : (fun p : Ent => if p.1 = k then (p.1, p.2.1, v) else p) (p1, p2, p3) = (p1, p2, p3) := if_neg e
      rw [if_neg e, q1]
      exact ⟨rfl, rfl, e3⟩
theorem ERel.snoc {es : List Ent} {xs : List (NestedKey × Addr × Value)} (r : ERel es xs) {k : NestedKey} {t : Addr} {v : V} {u : Value} (hv : RelV v u) : ERel (es ++ [(k, t, v)]) (xs ++ [(k, t, u)]) := Paired.snoc r ⟨rfl, rfl, hv⟩
theorem ERel.put {es : List Ent} {xs : List (NestedKey × Addr × Value)} (r : ERel es xs) {k : NestedKey} {t : Addr} {v : V} {u : Value} (hv : RelV v u) : ERel (putE es k t v) (storedH xs k t u) := by
  unfold putE storedH
  rw [r.any k]
  by_cases e : (atKey xs k).isSome = true
  · rw [if_pos e, if_pos e]
    exact r.putMap hv
  · rw [if_neg e, if_neg e]
    exact r.snoc hv
/-! ### keys -/
section
variable {X : Cx} {pins : List (Addr × Obj)} {σ : PL.St} {H : Hp} {s : Shared}
mutual
theorem key_is (I : Inv X pins σ H s) : ∀ (k : NestedKey) (v : V) (u : Value), Dp X.K H v (kd k) → RelV v u → NestedIs s.heap k u
  | .none, v, u, h, r => by
    cases h
    cases r
    exact .none
  | .num i, v, u, h, r => by
    cases h
    obtain ⟨t, rfl⟩ := r
    exact .int i t
  | .text x, v, u, h, r => by
    cases h
    obtain ⟨t, rfl⟩ := r
    exact .text x t
  | .tup ks, v, u, h, r => by
    cases h with
    | tup hs ha =>
      cases r
      obtain ⟨its, rv, ⟨o, ho, hc, n, hd⟩, _⟩ := I.tuple hs
      exact .tup ho hc hd (by simpa using keys_are I ks _ its ha rv)
theorem keys_are (I : Inv X pins σ H s) : ∀ (ks : List NestedKey) (vs : List V) (us : List Value), DpAll X.K H vs (kds ks) → Vals vs us → NestedAll s.heap ks us
  | [], vs, us, h, r => by
    cases h
    cases r
    exact .nil
  | k :: ks, vs, us, h, r => by
    cases h with
    | cons h1 h2 =>
      cases r with
      | cons r1 r2 => exact .cons (key_is I k _ _ h1 r1) (keys_are I ks _ _ h2 r2)
end
theorem key_at (I : Inv X pins σ H s) {k : NestedKey} {t : Addr} (h : Dp X.K H (.ref t) (kd k)) (hd : k.depth ≤ 8) : (nestedKind X.prog X.w).is s.heap k t := ⟨key_is I k _ _ h rfl, hd⟩
theorem room_k {A : Around} (hu : A.units + 64 < cLine) : (nestedKind X.prog X.w).room A.in1 := by
  show A.in1.units + 8 < cLine
  rw [Around.in1_units]
  omega
theorem dict_at (I : Inv X pins σ H s) {a : Addr} {es : List Ent} (ho : H a = some (DictO X.prog X.w a es)) (hk : EKeys X.K H es) : (a == sysModules) = false ∧ ∃ xs, ERel es xs ∧ s.heap.DictOfH (nestedKind X.prog X.w) a xs := by
  have ⟨⟨h1, xs, r, o, es', ep, e1, e2, e3, e4, e5⟩, hex, hst⟩ := I.hok a _ ho
  clear hex hst
  refine ⟨h1, xs, r, o, es', ep, e1, e2, e3, e4, fun x hx => ?_, e5⟩
  obtain ⟨p, hp, q⟩ : ∃ p ∈ es, p.1 = x.1 ∧ p.2.1 = x.2.1 := by
    clear e1 e4 e5 hk ho I
    induction r with
    | nil => cases hx
    | @cons p q ps qs h _ ih =>
      rcases List.mem_cons.mp hx with z | z
      · subst z
        exact ⟨p, List.mem_cons_self, h.1, h.2.1⟩
      · obtain ⟨p', hp', q'⟩ := ih z
        exact ⟨p', List.mem_cons_of_mem _ hp', q'⟩
  obtain ⟨g1, g2⟩ := hk p hp
  rw [q.1, q.2] at g1
  rw [q.1] at g2
  exact key_at I g1 g2
theorem dict_ok {P : Program} {w : World} {H : Hp} {h : Heap} {a : Addr} {es : List Ent} {xs : List (NestedKey × Addr × Value)} (ha : (a == sysModules) = false) (r : ERel es xs) (d : h.DictOfH (nestedKind P w) a xs) : ObjOk P w H h a (DictO P w a es) := by
  obtain ⟨o, es', ep, e1, e2, e3, e4, e5, e6⟩ := d
  refine ⟨⟨ha, xs, r, o, es', ep, e1, e2, e3, e4, e6⟩, ⟨o, e1⟩, fun h1 h2 ⟨f0, ys, f1, o', es2, ep2, f2, f3, f4, f5, f6⟩ k => ⟨f0, ys, f1, o', es2, ep2, k _ f2, f3, f4, f5, f6⟩⟩
end
section
variable {X : Cx}
def tDNewN (P : Program) (w : World) : TE := fun _ H Q => ∀ p, H p = none → Q (.ref p) (upd H p (DictO P w p []))
theorem pe_dnewN {pos : Pos} : PE X (.Dict [] [] pos) (tDNewN X.prog X.w) := ⟨fun pins s σ H Q I h => by
  have hb : (s.heap.objs.size == sysModules) = false := by
    have := I.big
    exact beq_eq_false_iff_ne.mpr (Nat.ne_of_gt this)
  exact wpAny_Dict_empty ⟨.ref s.heap.objs.size, _, I.laid (a := s.heap.objs.size) (o := DictO X.prog X.w s.heap.objs.size []) (t' := s.toks) (fun _ _ q => Heap.get?_push_of_some _ q) (Nat.le_refl _) (dict_ok hb .nil (Heap.DictOfH.new s.heap)), rfl, h _ (I.hok.fresh (Nat.le_refl _))⟩⟩
def rDIn (K : PySem.W.Frag) (P : Program) (w : World) (neg : Bool) : R2 := fun x y H Q => ∃ (a t : Addr) (es : List Ent) (k : NestedKey), x = .ref t ∧ y = .ref a ∧ H a = some (DictO P w a es) ∧ EKeys K H es ∧ Dp K H (.ref t) (kd k) ∧ k.depth ≤ 8 ∧
  Q (.bl (neg ^^ es.any fun p => decide (p.1 = k))) H
theorem op_dIn (hu : X.A.units + 64 < cLine) : OpR X (compareOp .In) (rDIn X.K X.prog X.w false) := by
  intro pins s σ H x y v u Q I rx ry h
  obtain ⟨a, t, es, k, rfl, rfl, ho, hk, hd, hl, q⟩ := h
  cases rx
  cases ry
  obtain ⟨ha, xs, r, dd⟩ := dict_at I ho hk
  refine wpAny_in_heap (room_k hu) (key_at I hd hl) ha dd ⟨.bl _, H, I.tok _, rfl, ?_⟩
  rw [← r.any k]
  simpa using q
theorem op_dNotIn (hu : X.A.units + 64 < cLine) : OpR X (compareOp .NotIn) (rDIn X.K X.prog X.w true) := by
  intro pins s σ H x y v u Q I rx ry h
  obtain ⟨a, t, es, k, rfl, rfl, ho, hk, hd, hl, q⟩ := h
  cases rx
  cases ry
  obtain ⟨ha, xs, r, dd⟩ := dict_at I ho hk
  show wpAny _ _ (do return Value.bool (!(← contains (.ref a) (.ref t)))) _ _ s
  refine wpAny_bind (wpAny_contains_heap (room_k hu) (key_at I hd hl) ha dd (wpAny_pure ⟨.bl _, H, I.tok _, rfl, ?_⟩))
  rw [← r.any k]
  simpa using q
def rDGet (K : PySem.W.Frag) (P : Program) (w : World) : R2 := fun x y H Q => ∃ (a t : Addr) (es : List Ent) (k : NestedKey) (v : V), x = .ref a ∧ y = .ref t ∧ H a = some (DictO P w a es) ∧ EKeys K H es ∧ Dp K H (.ref t) (kd k) ∧ k.depth ≤ 8 ∧
  (es.find? fun p => decide (p.1 = k)).map (fun p => p.2.2) = some v ∧ Q v H
theorem ix_dict (hu : X.A.units + 64 < cLine) : IxR X (rDGet X.K X.prog X.w) := by
  intro value slice pins s σ H x y v u Q I rx ry h hs
  obtain ⟨a, t, es, k, z, rfl, rfl, ho, hk, hd, hl, hf, q⟩ := h
  cases rx
  cases ry
  obtain ⟨ha, xs, r, dd⟩ := dict_at I ho hk
  obtain ⟨p, hp, rv⟩ := r.find hf
  exact subscriptTail_builtinR (x := p.2) dd.typeIs PySem.F.slot_dict_getitem.lookup
    (wpAny_getItem_heap (Q := fun r s' => r = p.2 ∧ EP X pins σ Q r s') (room_k hu) (key_at I hd hl) dd hp ⟨rfl, z, H, I.tok _, rv, q⟩) hs
def rDSet (K : PySem.W.Frag) (P : Program) (w : World) : TSet := fun o i v H Q => ∃ (a t : Addr) (es : List Ent) (k : NestedKey), o = .ref a ∧ i = .ref t ∧ H a = some (DictO P w a es) ∧ EKeys K H es ∧ Dp K H (.ref t) (kd k) ∧ k.depth ≤ 8 ∧ es.length ≤ sizeLine ∧
  Q (upd H a (DictO P w a (putE es k t v)))
theorem set_dict (hu : X.A.units + 64 < cLine) : PSet X (rDSet X.K X.prog X.w) := by
  intro pins s σ H o i v ov iv u Q I ro ri rv h
  obtain ⟨a, t, es, k, rfl, rfl, ho, hk, hd, hl, hz, q⟩ := h
  cases ro
  cases ri
  obtain ⟨ha, xs, r, dd⟩ := dict_at I ho hk
  have hlen : es.length = xs.length := Paired.length r
  refine wpAny_setItem_heap (hsz := by omega) (room_k hu) (key_at I hd hl) dd fun h' dd' hs => ?_
  obtain ⟨ob, eb, ep, e1, _⟩ := id dd'
  exact ⟨_, I.write (x := a) (e := a) (t' := s.toks + (nestedKind X.prog X.w).draws k) (by rw [ho]; exact trivial) (.inl rfl) (fun b x hb hx => (hs.2 b hb).trans hx) ⟨ob, e1⟩ (dict_ok ha (r.put rv) dd'), q⟩
end

/-! ### the rules on cells -/
section
variable {K : PySem.W.Frag} {P : Program} {w : World}
variable {env env' env1 : List C} {te ta tb tc : TE} {σ σ' : PL.St} {G G' G1 G2 H H' H1 H2 : Hp} {v x y : V} {r : R} {Pe : List C → Prop} {Po : R → List C → Prop}
theorem Ents.keys {es : List Ent} {kvs : List (NestedKey × DD)} (e : Ents K G es kvs) (s : Same G H) : EKeys K H es := by
  intro p hp
  induction e with
  | nil => cases hp
  | @cons q r qs rs h _ ih =>
    rcases List.mem_cons.mp hp with z | z
    · subst z
      exact ⟨Dp.mono s _ _ h.2.2.1, h.2.1⟩
    · exact ih z
theorem Ents.any {es : List Ent} {kvs : List (NestedKey × DD)} (e : Ents K G es kvs) (k : NestedKey) : (es.any fun p => decide (p.1 = k)) = hasD kvs k := by
  unfold hasD
  induction e with
  | nil => rfl
  | @cons p q ps qs h _ ih => rw [List.any_cons, List.any_cons, h.1, ih]
theorem Ents.get {es : List Ent} {kvs : List (NestedKey × DD)} (e : Ents K G es kvs) {k : NestedKey} {d : DD} (h : getD kvs k = some d) : ∃ v, (es.find? fun p => decide (p.1 = k)).map (fun p => p.2.2) = some v ∧ Dp K G v d := by
  unfold getD at h
  induction e with
  | nil => cases h
  | @cons p q ps qs h1 _ ih =>
    rw [List.find?_cons] at h ⊢
    rw [h1.1]
    by_cases e : q.1 = k
    · simp only [e, decide_true] at h ⊢
      cases h
      exact ⟨_, rfl, h1.2.2.2⟩
    · simp only [e, decide_false] at h ⊢
      exact ih h
theorem Ents.put {es : List Ent} {kvs : List (NestedKey × DD)} (e : Ents K G es kvs) {k : NestedKey} {t : Addr} {v : V} {d : DD} (hk : Dp K G (.ref t) (kd k)) (hl : k.depth ≤ 8) (hv : Dp K G v d) : Ents K G (putE es k t v) (putD kvs k d) := by
  unfold putE putD
  rw [e.any k]
  unfold hasD
  by_cases z : (kvs.any fun p => decide (p.1 = k)) = true
  · rw [if_pos z, if_pos z]
    clear z
    induction e with
    | nil => exact .nil
    | @cons p q ps qs h _ ih =>
      refine .cons ?_ ih
      obtain ⟨p1, p2, p3⟩ := p
      obtain ⟨q1, q2⟩ := q
      obtain ⟨e1, e2, e3, e4⟩ := h
      simp only at e1 e2 e3 e4
      subst e1
      by_cases y : p1 = k
      · have q1 : (fun p : Ent => if p.1 = k then (p.1, p.2.1, v) else p) (p1, p2, p3) = (p1, p2, v) := if_pos y
        have q2 : (fun p : NestedKey × DD => if p.1 = k then (p.1, d) else p) (p1, q2) = (p1, d) := if_pos y
        rw [q1, q2]
        exact ⟨rfl, e2, e3, hv⟩
      · have q1 : (fun p : Ent => if p.1 = k then (p.1, p.2.1, v) else p) (p1, p2, p3) = (p1, p2, p3) := if_neg y
        have q2 : (fun p : NestedKey × DD => if p.1 = k then (p.1, d) else p) (p1, q2) = (p1, q2) := if_neg y
        rw [q1, q2]
        exact ⟨rfl, e2, e3, e4⟩
  · rw [if_neg z, if_neg z]
    exact Paired.snoc e ⟨rfl, hl, hk, hv⟩
theorem putD_len (kvs : List (NestedKey × DD)) (k : NestedKey) (d : DD) : (putD kvs k d).length ≤ kvs.length + 1 := by
  unfold putD
  split
  · rw [List.length_map]; omega
  · rw [List.length_append]; simp
/-- {} -/
theorem we_dnew (p : ∀ a, Po (.c (.m a [])) env) : WE K P w (tDNewN P w) env Po := fun σ G H rp Q o a ha => by
  obtain ⟨rp', st⟩ := rp.new (o := DictO P w a []) ha
  refine o _ _ env _ _ (p a) st rp' ⟨rfl, Same.none_of rp.sub ha, Nat.zero_le _, [], upd_same, .nil⟩ fun b e => ?_
  cases e
  refine ⟨fun z => ?_, .inl ha⟩
  obtain ⟨_, x, hx⟩ := rp.owned z
  rw [ha] at hx
  cases hx
/-- the own dict at an address -/
theorem Rep.dict (rp : Rep K P w env σ G H) {a : Addr} {kvs : List (NestedKey × DD)} {i : Nat} (h : env[i]? = some (.m a kvs)) : G a = none ∧ kvs.length ≤ sizeLine ∧ ∃ es, H a = some (DictO P w a es) ∧ Ents K G es kvs := by
  obtain ⟨u, _, ok⟩ := rp.at h (by simp)
  obtain ⟨_, hg, hz, es, ho, he⟩ : CellOk K P w G H u (.m a kvs) := ok
  exact ⟨hg, hz, es, ho, he⟩
theorem key_ref {k : NestedKey} {ks : List NestedKey} (hk : k = .tup ks) (p : Pend K P w env G H v (.c (.d (kd k)))) : ∃ t, v = .ref t ∧ Dp K G (.ref t) (kd k) := by
  subst hk
  have ok : Dp K G v (.tuple (kds ks)) := p.1
  obtain ⟨a, vs, e, hs, hd⟩ := dat_tup p
  subst e
  exact ⟨a, rfl, ok⟩
theorem w2_dIn {neg : Bool} {a : Addr} {kvs : List (NestedKey × DD)} {k : NestedKey} {ks : List NestedKey} (i : Nat) (hi : env[i]? = some (.m a kvs)) (hk : k = .tup ks) (hl : k.depth ≤ 8) (p : Po (.c (.d (.bool (neg ^^ hasD kvs k)))) env) : W2 K P w (rDIn K P w neg) (.c (.d (kd k))) (.own a) env Po := fun σ G H x y rp px py Q o => by
  obtain ⟨t, e1, d1⟩ := key_ref hk px
  obtain ⟨hg, hz, es, ho, he⟩ := rp.dict hi
  have e2 : y = .ref a := py.1
  exact ⟨a, t, es, k, e1, e2, ho, he.keys rp.sub, Dp.mono rp.sub _ _ d1, hl, by rw [he.any k]; exact o.now rp p (Dp.bl _) Fr.dat⟩
theorem w2_dGet {a : Addr} {kvs : List (NestedKey × DD)} {k : NestedKey} {ks : List NestedKey} {d : DD} (i : Nat) (hi : env[i]? = some (.m a kvs)) (hk : k = .tup ks) (hl : k.depth ≤ 8) (hd : getD kvs k = some d) (p : Po (.c (.d d)) env) : W2 K P w (rDGet K P w) (.own a) (.c (.d (kd k))) env Po := fun σ G H x y rp px py Q o => by
  obtain ⟨t, e1, d1⟩ := key_ref hk py
  obtain ⟨hg, hz, es, ho, he⟩ := rp.dict hi
  have e2 : x = .ref a := px.1
  obtain ⟨z, hf, dz⟩ := he.get hd
  exact ⟨a, t, es, k, z, e2, e1, ho, he.keys rp.sub, Dp.mono rp.sub _ _ d1, hl, hf, o.now rp p (show Dp K G z d from dz) Fr.dat⟩
/-- d[k] = x of an own dict -/
theorem wg_setD {to ti : TE} {x : DD} (h : WE K P w to env fun ro e1 => ∃ a, ro = .own a ∧ WE K P w ti e1 fun ri e2 => ∃ (k : NestedKey) (ks : List NestedKey) (n : Nat) (kvs : List (NestedKey × DD)), ri = .c (.d (kd k)) ∧ k = .tup ks ∧ k.depth ≤ 8 ∧ e2[n]? = some (.m a kvs) ∧ kvs.length < 16000000 ∧ Pe (e2.set n (.m a (putD kvs k x)))) :
    WG K P w (gSub to ti (rDSet K P w)) (.c (.d x)) env Pe := fun σ G H v rp pd Q o =>
  h σ G H rp _ fun ro o1 e1 G1 H1 ⟨a, er, p1⟩ s1 r1 ok1 f1 => p1 σ G1 H1 r1 _ fun ri o2 e2 G2 H2 ⟨k, ks, n, kvs, ei, hk, hl, hn, hz, p2⟩ s2 r2 ok2 f2 => by
    subst er ei
    have ev : o1 = .ref a := ok1
    obtain ⟨t, et, dt⟩ := key_ref hk (Pend.of ok2 f2)
    obtain ⟨hg, _, es, ho, he⟩ := r2.dict hn
    have pd2 := (pd.step s1).step s2
    have le : es.length = kvs.length := Paired.length he
    have big : (16000000 : Nat) ≤ sizeLine := by decide
    obtain ⟨r3, s3⟩ := r2.write (c' := .m a (putD kvs k x)) (o := DictO P w a (putE es k t v)) hn rfl rfl ⟨rfl, hg, by have := putD_len kvs k x; omega, _, upd_same, he.put dt hl pd2.1⟩
    exact ⟨a, t, es, k, ev, et, ho, he.keys r2.sub, Dp.mono r2.sub _ _ dt, hl, by omega, o _ σ G2 _ p2 (Stp.weak ((s1.trans s2).trans s3)) r3⟩
end
end PL

/-! isinstance by data; unions, so that a text's derivation is read off its syntax. -/
namespace PL
open PySem PySem.Spec PyProof.Rows L2 RZ
def tyD : DD → String
  | .none => "NoneType"
  | .bool _ => "bool"
  | .int _ => "int"
  | .str _ => "str"
  | .list _ => "list"
  | .tuple _ => "tuple"
  | .dict _ => "dict"
section
variable {K : PySem.W.Frag} {P : Program} {w : World}
variable {env env' env1 : List C} {te ta tb tc : TE} {σ σ' : PL.St} {G G' G1 G2 H H' H1 H2 : Hp} {v x y : V} {r : R} {Pe : List C → Prop} {Po : R → List C → Prop}
theorem dp_ty {d : DD} (h : Dp K H v d) : TyX K H v (.type (tyD d)) := by
  cases h with
  | non => exact .base .non
  | bl b => exact .base (.bl b)
  | int i => exact .base (.int i)
  | str x => exact .base (.str x)
  | lst hs _ =>
    rcases hs with (h | ⟨o, h⟩) | ⟨o, its, n, h, c, _⟩
    · exact .base (.lst h)
    · exact .base (.frz h)
    · exact .kList h c
  | tup hs _ =>
    rcases hs with (h | ⟨o, h⟩) | ⟨o, its, n, h, c, _⟩
    · exact .base (.tup h)
    · exact .fTuple h
    · exact .kTuple h c
theorem wl_isi {a : R} {d : DD} {T : String} {b : Bool} (hd : L2.kitB (tyD d) T = some b) (p : Po (.c (.d (.bool b))) env) (ha : Rd env a d) : WL K P w (rIsi K) [a, .c (.raw (.ty T))] env Po := fun σ G H vs rp ps Q o => by
  obtain ⟨v, u, e, p1, p2⟩ := ps.two
  have e2 : u = .ty T := p2.1
  subst e2
  exact ⟨v, .ty T, _, _, b, e, .ty T, dp_ty (ha.dp rp p1), kit_ty hd, o.now rp p (Dp.bl _) Fr.dat⟩
end

/-! ### unions -/
def rAddU (K : PySem.W.Frag) : R2 := fun x y H Q => rI0 (fun i j => .int (i + j)) x y H Q ∨ rCatA K x y H Q ∨ rCatL K x y H Q
def rIxU (K : PySem.W.Frag) (P : Program) (w : World) : R2 := fun x y H Q => rIxT K x y H Q ∨ rIxL K x y H Q ∨ rDGet K P w x y H Q
def rInU (K : PySem.W.Frag) (P : Program) (w : World) : R2 := fun x y H Q => rDIn K P w false x y H Q ∨ rInD K x y H Q
def rNotInU (K : PySem.W.Frag) (P : Program) (w : World) : R2 := fun x y H Q => rDIn K P w true x y H Q ∨ rNotInD K x y H Q
def rSlU (K : PySem.W.Frag) : V → Option Int → Option Int → Hp → VK → Prop := fun x lo hi H Q => rSlA K x lo hi H Q ∨ rSlL K x lo hi H Q
def iSeqU (K : PySem.W.Frag) (te : TE) : TI := fun σ H R => iTup K te σ H R ∨ iList K te σ H R
def tSetU (K : PySem.W.Frag) (P : Program) (w : World) : TSet := fun o i v H Q => rSetL o i v H Q ∨ rDSet K P w o i v H Q
section
variable {X : Cx}
theorem op_addU : OpR X (binaryOp .Add) (rAddU X.K) := OpR.or op_add (OpR.or op_catA op_catL)
theorem ix_U (hu : X.A.units + 64 < cLine) : IxR X (rIxU X.K X.prog X.w) := IxR.or ix_tup (IxR.or ix_list (ix_dict hu))
theorem op_inU (hu : X.A.units + 65 < cLine) : OpR X (compareOp .In) (rInU X.K X.prog X.w) := OpR.or (op_dIn (by omega)) (op_inD hu)
theorem op_notInU (hu : X.A.units + 65 < cLine) : OpR X (compareOp .NotIn) (rNotInU X.K X.prog X.w) := OpR.or (op_dNotIn (by omega)) (op_notInD hu)
theorem sl_U : SlR X (rSlU X.K) := SlR.or sl_tupA sl_list
theorem pi_seqU {tg e : Expr} {te : TE} (h : PE X e te) : PI X tg e (iSeqU X.K te) := ⟨fun pins s σ H R I q => by
  rcases q with q | q
  · exact (pi_tup h).run pins s σ H R I q
  · exact (pi_list h).run pins s σ H R I q⟩
theorem set_U (hu : X.A.units + 64 < cLine) : PSet X (tSetU X.K X.prog X.w) := fun pins s σ H o i v ov iv u Q I ro ri rv q => by
  rcases q with q | q
  · exact set_list pins s σ H o i v ov iv u Q I ro ri rv q
  · exact set_dict hu pins s σ H o i v ov iv u Q I ro ri rv q
theorem room65 {k : Nat} {A : Around} (hr : Room k A) : A.units + 65 < cLine := by
  have := hr.un
  omega
end
section
variable {K : PySem.W.Frag} {P : Program} {w : World}
variable {env env' env1 : List C} {te ta tb tc : TE} {σ σ' : PL.St} {G G' G1 G2 H H' H1 H2 : Hp} {v x y : V} {r : R} {Pe : List C → Prop} {Po : R → List C → Prop}
theorem wu_add {i j : Int} (p : Po (.c (.d (.int (i + j)))) env) : W2 K P w (rAddU K) (.c (.d (.int i))) (.c (.d (.int j))) env Po := W2.inl (w2_int p)
theorem wu_catT {xs ys : List DD} (hz : xs.length + ys.length ≤ 100000) (p : Po (.c (.d (.tuple (xs ++ ys)))) env) : W2 K P w (rAddU K) (.c (.d (.tuple xs))) (.c (.d (.tuple ys))) env Po := W2.inr (W2.inl (w2_catT hz p))
theorem wu_catL {a b : R} {xs ys : List DD} (ha : LL env a xs) (hb : LL env b ys) (hz : xs.length + ys.length ≤ 10000000) (p : ∀ q, Po (.c (.l q (xs ++ ys))) env) : W2 K P w (rAddU K) a b env Po := W2.inr (W2.inr (w2_catL ha hb hz p))
theorem wu_ixT {xs : List DD} {i : Int} {d : DD} (h : atI xs i = some d) (p : Po (.c (.d d)) env) : W2 K P w (rIxU K P w) (.c (.d (.tuple xs))) (.c (.d (.int i))) env Po := W2.inl (w2_ixT h p)
theorem wu_ixL {a : R} {xs : List DD} {i : Int} {d : DD} (ha : LL env a xs) (h : atI xs i = some d) (p : Po (.c (.d d)) env) : W2 K P w (rIxU K P w) a (.c (.d (.int i))) env Po := W2.inr (W2.inl (w2_ixL ha h p))
theorem wu_dGet {a : Addr} {kvs : List (NestedKey × DD)} {k : NestedKey} {ks : List NestedKey} {d : DD} (i : Nat) (hi : env[i]? = some (.m a kvs)) (hk : k = .tup ks) (hl : k.depth ≤ 8) (hd : getD kvs k = some d) (p : Po (.c (.d d)) env) : W2 K P w (rIxU K P w) (.own a) (.c (.d (kd k))) env Po := W2.inr (W2.inr (w2_dGet i hi hk hl hd p))
theorem wu_dIn {a : Addr} {kvs : List (NestedKey × DD)} {k : NestedKey} {ks : List NestedKey} (i : Nat) (hi : env[i]? = some (.m a kvs)) (hk : k = .tup ks) (hl : k.depth ≤ 8) (p : Po (.c (.d (.bool (hasD kvs k)))) env) : W2 K P w (rInU K P w) (.c (.d (kd k))) (.own a) env Po := W2.inl (w2_dIn i hi hk hl (by rw [Bool.false_xor]; exact p))
theorem wu_dNotIn {a : Addr} {kvs : List (NestedKey × DD)} {k : NestedKey} {ks : List NestedKey} (i : Nat) (hi : env[i]? = some (.m a kvs)) (hk : k = .tup ks) (hl : k.depth ≤ 8) (p : Po (.c (.d (.bool (!hasD kvs k)))) env) : W2 K P w (rNotInU K P w) (.c (.d (kd k))) (.own a) env Po := W2.inl (w2_dIn i hi hk hl (by rw [Bool.true_xor]; exact p))
theorem wu_inL {a b : R} {d : DD} {ds : List DD} (ha : Rd env a d) (hb : LL env b ds) (sd : SeqAt.shaped d = true) (se : SeqAt.shaped (.list ds) = true) (p : Po (.c (.d (.bool (ds.any fun z => PyData.eqv z d)))) env) : W2 K P w (rInU K P w) a b env Po := W2.inr (w2_inD ha hb sd se p)
theorem wu_notInL {a b : R} {d : DD} {ds : List DD} (ha : Rd env a d) (hb : LL env b ds) (sd : SeqAt.shaped d = true) (se : SeqAt.shaped (.list ds) = true) (p : Po (.c (.d (.bool (!ds.any fun z => PyData.eqv z d)))) env) : W2 K P w (rNotInU K P w) a b env Po := W2.inr (w2_notInD ha hb sd se p)
theorem wu_seqT {Pi : List DD → List C → Prop} (h : WE K P w te env fun r e => ∃ xs, r = .c (.d (.tuple xs)) ∧ Pi xs e) : WI K P w (iSeqU K te) env Pi := WI.inl (wi_tup h)
theorem wu_seqL {Pi : List DD → List C → Prop} (h : WE K P w te env fun r e => ∃ xs, r = .c (.d (.list xs)) ∧ Pi xs e) : WI K P w (iSeqU K te) env Pi := WI.inr (wi_list h)
variable (K P w) in
def W3 (q : V → Option Int → Option Int → Hp → VK → Prop) (a : R) (lo hi : Option Int) (env : List C) (Po : R → List C → Prop) : Prop := ∀ σ G H x, Rep K P w env σ G H → Pend K P w env G H x a → ∀ Q : VK, Out K P w env σ G H Po Q → q x lo hi H Q
theorem we_sl {q : V → Option Int → Option Int → Hp → VK → Prop} {tl th : TO} (h : WE K P w te env fun r e1 => WO K P w tl e1 fun lo e2 => WO K P w th e2 fun hi e3 => W3 K P w q r lo hi e3 Po) : WE K P w (tSl q te tl th) env Po := fun σ G H rp Q o =>
  h σ G H rp _ fun r v e1 G1 H1 p s1 r1 ok f => p σ G1 H1 r1 _ fun lo e2 G2 H2 p2 s2 r2 => p2 σ G2 H2 r2 _ fun hi e3 G3 H3 p3 s3 r3 =>
    p3 σ G3 H3 v r3 (((Pend.of ok f).step s2).step s3) Q (o.step ((s1.trans s2).trans s3))
theorem wu_slT {xs : List DD} {lo hi : Option Int} (p : Po (.c (.d (.tuple (cutA xs lo hi)))) env) : W3 K P w (rSlU K) (.c (.d (.tuple xs))) lo hi env Po := fun σ G H x rp px Q o => by
  obtain ⟨a, vs, ev, hs, hd⟩ := dat_tup px
  refine .inl ⟨a, vs, ev, Same.seqT rp.sub hs, fun hw => ?_, fun _ q hq => o.tup rp (dps_cut hd lo hi) p hq⟩
  subst ev
  refine o.now rp p (show Dp K G (.ref a) _ from ?_) Fr.dat
  have e : cutA xs lo hi = xs := by
    unfold cutA
    rw [← hd.plength, hw.1, hw.2, List.drop_zero, Nat.sub_zero]
    exact List.take_of_length_le (Nat.le_of_eq hd.plength.symm)
  rw [e]
  exact .tup hs hd
theorem wu_slL {a : R} {xs : List DD} {lo hi : Option Int} (ha : LL env a xs) (p : ∀ q, Po (.c (.l q (cutA xs lo hi))) env) : W3 K P w (rSlU K) a lo hi env Po := fun σ G H x rp px Q o => by
  obtain ⟨b, vs, ev, hs, hd⟩ := ha.seq rp px
  exact .inr ⟨b, vs, ev, hs, fun q hq => o.lst rp (dps_cut hd lo hi) (p q) hq⟩
/-- xs[k] = x, d[k] = x -/
theorem wg_set {to ti : TE} {x : DD} (h : WE K P w to env fun ro e1 => ∃ a, ro = .own a ∧ WE K P w ti e1 fun ri e2 =>
      (∃ (k : Int) (j n : Nat) (xs : List DD), ri = .c (.d (.int k)) ∧ e2[n]? = some (.l a xs) ∧ ixN xs.length k = some j ∧ Pe (e2.set n (.l a (xs.set j x)))) ∨
      ∃ (k : NestedKey) (ks : List NestedKey) (n : Nat) (kvs : List (NestedKey × DD)), ri = .c (.d (kd k)) ∧ k = .tup ks ∧ k.depth ≤ 8 ∧ e2[n]? = some (.m a kvs) ∧ kvs.length < 16000000 ∧ Pe (e2.set n (.m a (putD kvs k x)))) :
    WG K P w (gSub to ti (tSetU K P w)) (.c (.d x)) env Pe := fun σ G H v rp pd Q o =>
  h σ G H rp _ fun ro o1 e1 G1 H1 ⟨a, er, p1⟩ s1 r1 ok1 f1 => p1 σ G1 H1 r1 _ fun ri o2 e2 G2 H2 p2 s2 r2 ok2 f2 => by
    subst er
    have pd2 := (pd.step s1).step s2
    have q1 : ∀ (ri' : R), ri' = ri → Pend K P w e2 G2 H2 o2 ri' := fun _ e => e ▸ Pend.of ok2 f2
    rcases p2 with ⟨k, j, n, xs, ei, hn, hk, p2⟩ | ⟨k, ks, n, kvs, ei, hk, hl, hn, hz, p2⟩
    · have ev : o1 = .ref a := ok1
      obtain ⟨u, _, okc⟩ := r2.at hn (by simp)
      obtain ⟨_, hg, vs, ho, hd⟩ : CellOk K P w G2 H2 u (.l a xs) := okc
      obtain ⟨r3, s3⟩ := r2.write (c' := .l a (xs.set j x)) (o := .lst (vs.set j v)) hn rfl rfl ⟨rfl, hg, _, upd_same, hd.pset pd2.1 j⟩
      exact .inl ⟨a, vs, k, j, ev, dat_int (q1 _ ei.symm), ho, by rw [hd.plength]; exact hk, o _ σ G2 _ p2 (Stp.weak ((s1.trans s2).trans s3)) r3⟩
    · have ev : o1 = .ref a := ok1
      obtain ⟨t, et, dt⟩ := key_ref hk (q1 _ ei.symm)
      obtain ⟨hg, _, es, ho, he⟩ := r2.dict hn
      have le : es.length = kvs.length := Paired.length he
      have big : (16000000 : Nat) ≤ sizeLine := by decide
      obtain ⟨r3, s3⟩ := r2.write (c' := .m a (putD kvs k x)) (o := DictO P w a (putE es k t v)) hn rfl rfl ⟨rfl, hg, by have := putD_len kvs k x; omega, _, upd_same, he.put dt hl pd2.1⟩
      exact .inr ⟨a, t, es, k, ev, et, ho, he.keys r2.sub, Dp.mono r2.sub _ _ dt, hl, by omega, o _ σ G2 _ p2 (Stp.weak ((s1.trans s2).trans s3)) r3⟩
end
end PL

/-! Names for readings that the printed texts use. -/
namespace PL
open PySem PySem.Spec PyProof.Rows L2 RZ
def rLen (K : PySem.W.Frag) : List V → Hp → VK → Prop := fun us H Q => ∃ u n, us = [u] ∧ LenV K u H n ∧ Q (.int (n : Nat)) H
def rMin : List V → Hp → VK → Prop := fun xs H Q => ∃ i j, xs = [.int i, .int j] ∧ Q (.int (if j < i then j else i)) H
def rMax : List V → Hp → VK → Prop := fun xs H Q => ∃ i j, xs = [.int i, .int j] ∧ Q (.int (if j > i then j else i)) H
def rTupleOf (K : PySem.W.Frag) : List V → Hp → VK → Prop := fun us H Q => ∃ p ys, us = [.ref p] ∧ ((SqL K H p ys ∧ ∀ l, H l = none → Q (.ref l) (upd H l (.tup ys))) ∨ (SqT K H p ys ∧ Q (.ref p) H))
section
variable {K : PySem.W.Frag} {P : Program} {w : World} {env : List C} {Po : R → List C → Prop}
theorem wk_lenT {xs : List DD} (p : Po (.c (.d (.int (xs.length : Nat)))) env) : WL K P w (rLen K) [.c (.d (.tuple xs))] env Po := wl_lenT p
theorem wk_lenL {a : R} {xs : List DD} (ha : LL env a xs) (p : Po (.c (.d (.int (xs.length : Nat)))) env) : WL K P w (rLen K) [a] env Po := wl_lenL ha p
theorem wk_min {i j : Int} (p : Po (.c (.d (.int (min i j)))) env) : WL K P w rMin [.c (.d (.int i)), .c (.d (.int j))] env Po := wl_min (by
  have e : (if j < i then j else i) = min i j := by split <;> omega
  rw [e]; exact p)
theorem wk_max {i j : Int} (p : Po (.c (.d (.int (max i j)))) env) : WL K P w rMax [.c (.d (.int i)), .c (.d (.int j))] env Po := wl_max (by
  have e : (if j > i then j else i) = max i j := by split <;> omega
  rw [e]; exact p)
theorem wk_tuple {a : R} {xs : List DD} (ha : LL env a xs) (p : Po (.c (.d (.tuple xs))) env) : WL K P w (rTupleOf K) [a] env Po := wl_tuple ha p
end
end PL

/-! Shorter rules for displays and calls. -/
namespace PL
open PySem PySem.Spec PyProof.Rows L2 RZ
def undat : List R → Option (List DD)
  | [] => some []
  | .c (.d x) :: rs => (undat rs).map (x :: ·)
  | _ :: _ => none
def argsD : List R → Option (List C)
  | [] => some []
  | .c (.d x) :: rs => (argsD rs).map (.d x :: ·)
  | _ :: _ => none
theorem undat_eq : ∀ {rs : List R} {ds : List DD}, undat rs = some ds → rs = ds.map fun d => R.c (.d d)
  | [], ds, h => by cases h; rfl
  | .c (.d x) :: rs, ds, h => by
    obtain ⟨es, he, e⟩ := Option.map_eq_some_iff.mp (show (undat rs).map (x :: ·) = some ds from h)
    subst e
    rw [undat_eq he]; rfl
theorem argsD_ok {env : List C} : ∀ {rs : List R} {cs : List C}, argsD rs = some cs → Args env rs cs ∧ ∀ c ∈ cs, c.own = none
  | [], cs, h => by cases h; exact ⟨.nil, fun c hc => by cases hc⟩
  | .c (.d x) :: rs, cs, h => by
    obtain ⟨es, he, e⟩ := Option.map_eq_some_iff.mp (show (argsD rs).map (C.d x :: ·) = some cs from h)
    subst e
    obtain ⟨a, b⟩ := argsD_ok he
    refine ⟨.d a, fun c hc => ?_⟩
    rcases List.mem_cons.mp hc with z | z
    · subst z; rfl
    · exact b c z
/-- the promises of a def, all in one -/
def WSok (K : PySem.W.Frag) (P : Program) (w : World) (rd : TS) (n : Nat) (W : PW) : Prop :=
  ∀ cs Po, W cs Po → WS K P w rd (cs ++ List.replicate (n - cs.length) .no) { nx := Fin cs Po (.c (.d .none)), rt := Fin cs Po }
section
variable {K : PySem.W.Frag} {P : Program} {w : World}
variable {env : List C} {Po : R → List C → Prop} {t : TA}
theorem we_tupU (h : WA K P w t env fun rs e => ∃ ds, undat rs = some ds ∧ ds.length ≤ 100000 ∧ Po (.c (.d (.tuple ds))) e) : WE K P w (tTup t) env Po :=
  we_tup fun σ G H rp Q o => h σ G H rp Q fun rs vs e G' H' ⟨ds, h1, h2, h3⟩ => o rs vs e G' H' ⟨ds, undat_eq h1, h2, h3⟩
theorem we_lstU (h : WA K P w t env fun rs e => ∃ ds, undat rs = some ds ∧ ds.length ≤ 100000 ∧ ∀ a, Po (.c (.l a ds)) e) : WE K P w (tLst t) env Po :=
  we_lst fun σ G H rp Q o => h σ G H rp Q fun rs vs e G' H' ⟨ds, h1, h2, h3⟩ => o rs vs e G' H' ⟨ds, undat_eq h1, h2, h3⟩
theorem we_callP {W : PW} {E : XK} (h : WA K P w t env fun rs e => ∃ cs, argsD rs = some cs ∧ W cs fun r _ => Po r e) : WE K P w (tCall (spW K P w W) [] E t) env Po :=
  we_call fun σ G H rp Q o => h σ G H rp Q fun rs vs e G' H' ⟨cs, h1, h2⟩ => o rs vs e G' H' ⟨cs, _, h2, (argsD_ok h1).1, (argsD_ok (env := e) h1).2, fun _ _ z => z⟩
/-- the first argument is the own thing of slot j -/
theorem we_callO {W : PW} {E : XK} (j : Nat) (h : WA K P w t env fun rs e => ∃ a c rest cs, rs = .own a :: rest ∧ e[j]? = some c ∧ c.own = some a ∧ argsD rest = some cs ∧ W (c :: cs) fun r cs' => ∀ c', cs'.head? = some c' → c'.own = some a → Po r (e.set j c')) : WE K P w (tCall (spW K P w W) [] E t) env Po :=
  we_call1 fun σ G H rp Q o => h σ G H rp Q fun rs vs e G' H' ⟨a, c, rest, cs, h0, h1, h2, h3, h4⟩ => by
    subst h0
    refine o _ vs e G' H' ⟨c :: cs, _, j, 0, c, a, h4, .own j h1 h2 (argsD_ok h3).1, h1, h2, rfl, fun i c' hi hn => ?_, fun r cs' c' p hk ho => p c' (by rw [List.head?_eq_getElem?]; exact hk) ho⟩
    cases i with
    | zero => rfl
    | succ i => exact absurd ((argsD_ok (env := e) h3).2 c' (List.mem_of_getElem? (by simpa using hi))) hn
/-- the second argument is the own thing of slot j -/
theorem we_callO1 {W : PW} {E : XK} (j : Nat) (h : WA K P w t env fun rs e => ∃ x a c rest cs, rs = .c (.d x) :: .own a :: rest ∧ e[j]? = some c ∧ c.own = some a ∧ argsD rest = some cs ∧ W (.d x :: c :: cs) fun r cs' => ∀ c', cs'[1]? = some c' → c'.own = some a → Po r (e.set j c')) : WE K P w (tCall (spW K P w W) [] E t) env Po :=
  we_call1 fun σ G H rp Q o => h σ G H rp Q fun rs vs e G' H' ⟨x, a, c, rest, cs, h0, h1, h2, h3, h4⟩ => by
    subst h0
    refine o _ vs e G' H' ⟨.d x :: c :: cs, _, j, 1, c, a, h4, .d (.own j h1 h2 (argsD_ok h3).1), h1, h2, rfl, fun i c' hi hn => ?_, fun r cs' c' p hk ho => p c' hk ho⟩
    cases i with
    | zero => simp at hi; subst hi; exact absurd rfl hn
    | succ i =>
      cases i with
      | zero => rfl
      | succ i => exact absurd ((argsD_ok (env := e) h3).2 c' (List.mem_of_getElem? (by simpa using hi))) hn
theorem wgs_consD {g : TG} {gs : TGs} {d : DD} {ds : List DD} {Pe : List C → Prop} (h : WG K P w g (.c (.d d)) env fun e => WGs K P w gs (ds.map fun d => .c (.d d)) e Pe) : WGs K P w (gCons g gs) ((d :: ds).map fun d => .c (.d d)) env Pe := wgs_cons h
theorem wgs_nilD {Pe : List C → Prop} (p : Pe env) : WGs K P w gNil (([] : List DD).map fun d => .c (.d d)) env Pe := wgs_nil p
theorem le_big {n : Nat} (h : Nat.ble n 100000 = true) : n ≤ 100000 := Nat.le_of_ble_eq_true h
end
/-! ### facts about types -/
theorem k_int_int : L2.kitB "int" "int" = some true := by decide +kernel
theorem k_int_bool : L2.kitB "int" "bool" = some false := by decide +kernel
theorem k_tup_tup : L2.kitB "tuple" "tuple" = some true := by decide +kernel
theorem k_tup_bool : L2.kitB "tuple" "bool" = some false := by decide +kernel
theorem k_tup_int : L2.kitB "tuple" "int" = some false := by decide +kernel
theorem k_tup_str : L2.kitB "tuple" "str" = some false := by decide +kernel
theorem k_tup_list : L2.kitB "tuple" "list" = some false := by decide +kernel
theorem k_list_bool : L2.kitB "list" "bool" = some false := by decide +kernel
theorem k_list_int : L2.kitB "list" "int" = some false := by decide +kernel
theorem k_list_str : L2.kitB "list" "str" = some false := by decide +kernel
theorem k_list_list : L2.kitB "list" "list" = some true := by decide +kernel
theorem k_bool_bool : L2.kitB "bool" "bool" = some true := by decide +kernel
theorem k_non_bool : L2.kitB "NoneType" "bool" = some false := by decide +kernel
theorem k_non_int : L2.kitB "NoneType" "int" = some false := by decide +kernel
theorem k_non_str : L2.kitB "NoneType" "str" = some false := by decide +kernel
theorem k_non_list : L2.kitB "NoneType" "list" = some false := by decide +kernel
theorem k_non_tup : L2.kitB "NoneType" "tuple" = some false := by decide +kernel
end PL

/-! Comprehensions that tell a thing of each item; lengths; cuts. -/
namespace PL
open PySem PySem.Spec PyProof.Rows L2 RZ
section
variable {K : PySem.W.Frag} {P : Program} {w : World}
/-- a comprehension that gives what f tells of each item -/
theorem we_lcF {wi : TI} {g : TG} {te : TE} {env : List C} {vs : List Nat} {Po : R → List C → Prop} (hg : GIn vs g) (h : WI K P w wi env fun items e1 => items.length ≤ 10000000 ∧ (∀ i ∈ vs, (e1.getD i .no).own = none) ∧ ∃ f : Nat → DD,
      (∀ k x, items[k]? = some x → WG K P w g (.c (.d x)) (wipeE e1 vs) fun e2 => WE K P w te e2 fun r e3 => r = .c (.d (f k)) ∧ wipeE e3 vs = wipeE e1 vs) ∧
      ∀ a, Po (.c (.l a ((List.range items.length).map f))) (restE e1 (wipeE e1 vs) vs)) : WE K P w (tLc wi g tYes te vs) env Po :=
  we_lc hg fun σ G H rp Q o => h σ G H rp Q fun J items e1 G' H' ⟨hz, hv, f, h1, h2⟩ => o J items e1 G' H' ⟨hz, hv, fun k acc e => acc = (List.range k).map f ∧ e = wipeE e1 vs, ⟨rfl, rfl⟩,
    fun k x acc e hx ⟨e1', e2'⟩ => by
      subst e1' e2'
      intro σ G H v rp pd Q o
      refine h1 k x hx σ G H v rp pd Q fun e' σ' G' H' p st rp' => o e' σ' G' H' (wt_yes ⟨fun _ => ?_, fun z => nomatch z⟩) st rp'
      refine p.mono fun r e ⟨er, ee⟩ => ⟨f k, er, ?_, ee⟩
      rw [List.range_succ, List.map_append]
      rfl,
    fun acc e a ⟨q1, q2⟩ => by subst q1 q2; exact h2 a⟩
/-- all([..]) of what f tells of each item -/
theorem we_all {wi : TI} {g : TG} {te : TE} {env : List C} {vs : List Nat} {Po : R → List C → Prop} (hg : GIn vs g) (h : WI K P w wi env fun items e1 => items.length ≤ 10000000 ∧ (∀ i ∈ vs, (e1.getD i .no).own = none) ∧ ∃ f : Nat → Bool,
      (∀ k x, items[k]? = some x → WG K P w g (.c (.d x)) (wipeE e1 vs) fun e2 => WE K P w te e2 fun r e3 => r = .c (.d (.bool (f k))) ∧ wipeE e3 vs = wipeE e1 vs) ∧
      Po (.c (.d (.bool ((List.range items.length).all f)))) (restE e1 (wipeE e1 vs) vs)) : WE K P w (tCB (rAll K) (tCons (tLc wi g tYes te vs) tNil)) env Po :=
  we_cb (wa_cons (we_lcF hg fun σ G H rp Q o => h σ G H rp Q fun J items e1 G' H' ⟨hz, hv, f, h1, h2⟩ => o J items e1 G' H' ⟨hz, hv, fun k => .bool (f k), h1, fun a => wa_nil (by
    have e : ((List.range items.length).map fun k => PyData.bool (f k)) = ((List.range items.length).map f).map .bool := by rw [List.map_map]; rfl
    rw [e]
    refine wl_all .new ?_
    have e2 : ((List.range items.length).map f).all id = (List.range items.length).all f := by rw [List.all_map]; rfl
    rw [e2]
    exact h2)⟩))
theorem own1 {e : List C} {i : Nat} (h : (e.getD i .no).own = none) : ∀ j ∈ [i], (e.getD j .no).own = none := fun j hj => by rw [List.mem_singleton.mp hj]; exact h
theorem own2 {e : List C} {i k : Nat} (h : (e.getD i .no).own = none) (h2 : (e.getD k .no).own = none) : ∀ j ∈ [i, k], (e.getD j .no).own = none := fun j hj => by
  rcases List.mem_cons.mp hj with z | z
  · rw [z]; exact h
  · exact own1 h2 j z
theorem enumD_len (xs : List DD) : (enumD xs).length = xs.length := by unfold enumD; simp
theorem enumD_at {xs : List DD} {k : Nat} {x : DD} (h : (enumD xs)[k]? = some x) : ∃ d, xs[k]? = some d ∧ x = .tuple [.int (k : Nat), d] := by
  unfold enumD at h
  rw [List.getElem?_map, List.getElem?_zipIdx] at h
  obtain ⟨p, hp, e⟩ := Option.map_eq_some_iff.mp h
  obtain ⟨d, hd, e2⟩ := Option.map_eq_some_iff.mp hp
  subst e2
  rw [Nat.zero_add] at e
  exact ⟨d, hd, e.symm⟩
theorem get_map {α β : Type} {f : α → β} {xs : List α} {k : Nat} {y : β} (h : (xs.map f)[k]? = some y) : ∃ x, xs[k]? = some x ∧ y = f x := by
  rw [List.getElem?_map] at h
  obtain ⟨x, h1, h2⟩ := Option.map_eq_some_iff.mp h
  exact ⟨x, h1, h2.symm⟩
theorem all_true {n : Nat} : ((List.range n).all fun _ => true) = true := by rw [List.all_eq_true]; intros; rfl
theorem len_big {α β : Type} {f : α → β} {xs : List α} {n : Nat} (h : xs.length ≤ n) (hn : n ≤ 10000000) : (xs.map f).length ≤ 10000000 := by rw [List.length_map]; omega
theorem ws_dropC {env : List C} {W : PW} {E : XK} {t : TA} {Po : PD} (h : WE K P w (tCall (spW K P w W) [] E t) env fun _ e => Po.nx e) : WS K P w (tDrop (tCall (spW K P w W) [] E t)) env Po := ws_drop h
theorem wo_intC {env : List C} {i : Int} {Po : Option Int → List C → Prop} (p : Po (some i) env) : WO K P w (tPart (tC (.int i))) env Po := wo_some (we_int ⟨i, rfl, p⟩)
theorem wo_var {env : List C} {n : Nat} {i : Int} {Po : Option Int → List C → Prop} (h : env[n]? = some (.d (.int i))) (p : Po (some i) env) : WO K P w (tPart (tVar n)) env Po := wo_some (we_d h ⟨i, rfl, p⟩)
theorem wo_suc {env : List C} {n : Nat} {i j : Int} {Po : Option Int → List C → Prop} (h : env[n]? = some (.d (.int i))) (p : Po (some (i + j)) env) : WO K P w (tPart (tOp (rAddU K) (tVar n) (tC (.int j)))) env Po := wo_some (we_op (we_d h (we_int (wu_add ⟨_, rfl, p⟩))))
theorem cutA_from {α : Type} (xs : List α) (k : Nat) : cutA xs (some (k : Int)) none = xs.drop k := by
  unfold cutA
  rw [HT.sIx_nat, HT.sIx_none]
  by_cases h : k ≤ xs.length
  · rw [Nat.min_eq_left h]
    exact List.take_of_length_le (by rw [List.length_drop]; omega)
  · rw [Nat.min_eq_right (by omega), List.drop_of_length_le (Nat.le_refl _), List.drop_of_length_le (by omega)]
    simp
theorem cutA_to {α : Type} (xs : List α) (k : Nat) : cutA xs none (some (k : Int)) = xs.take k := by
  unfold cutA
  rw [HT.sIx_nat, HT.sIx_none, List.drop_zero, Nat.sub_zero]
  by_cases h : k ≤ xs.length
  · rw [Nat.min_eq_left h]
  · rw [Nat.min_eq_right (by omega), List.take_of_length_le (Nat.le_refl _), List.take_of_length_le (by omega)]
/-- rising numbers from lo on, below n -/
theorem up_len0 : ∀ {ns : List Nat} {lo n : Nat}, ns.Pairwise (· < ·) → (∀ x ∈ ns, lo ≤ x ∧ x < n) → ns.length ≤ n - lo
  | [], _, _, _, _ => Nat.zero_le _
  | a :: r, lo, n, hp, hn => by
    obtain ⟨h1, h2⟩ := List.pairwise_cons.mp hp
    have ha := hn a List.mem_cons_self
    have ih := up_len0 (ns := r) (lo := a + 1) (n := n) h2 fun x hx => ⟨h1 x hx, (hn x (List.mem_cons_of_mem _ hx)).2⟩
    rw [List.length_cons]
    omega
theorem up_len {ns : List Nat} {n : Nat} (hp : ns.Pairwise (· < ·)) (hn : ∀ x ∈ ns, x < n) : ns.length ≤ n := by
  have := up_len0 (lo := 0) hp fun x hx => ⟨Nat.zero_le _, hn x hx⟩
  omega
end
end PL

/-! Halls, stands, meetings: the mirror. -/
namespace MA
open PySem
structure Lore where
  needs : List Nat
  teach : Int
  cap : Int
  loss : Int
structure Hall where
  folk : Nat
  things : List Lore
abbrev Stand := List (List Int)
structure Meet where
  one : Nat
  other : Nat
  thing : Nat
  deriving DecidableEq
abbrev Beat := List Meet
abbrev encNs (ns : List Nat) : PyData := .tuple (ns.map fun (n : Nat) => .int (n : Int))
abbrev encLore (l : Lore) : PyData := .tuple [encNs l.needs, .int l.teach, .int l.cap, .int l.loss]
abbrev encHall (h : Hall) : PyData := .tuple [.int (h.folk : Nat), .tuple (h.things.map encLore)]
abbrev encRow (r : List Int) : PyData := .tuple (r.map .int)
abbrev encStand (s : Stand) : PyData := .tuple (s.map encRow)
abbrev encMeet (m : Meet) : PyData := .tuple [.int (m.one : Nat), .int (m.other : Nat), .int (m.thing : Nat)]
abbrev encBeat (b : Beat) : PyData := .tuple (b.map encMeet)
structure LoreOk (l : Lore) (at_ : Nat) : Prop where
  lt : ∀ n ∈ l.needs, n < at_
  up : l.needs.Pairwise (· < ·)
  cap : 1 ≤ l.cap ∧ l.cap ≤ 3
  teach : 1 ≤ l.teach ∧ l.teach ≤ l.cap
  loss : 0 ≤ l.loss ∧ l.loss ≤ l.cap
structure HallOk (h : Hall) : Prop where
  folk : 2 ≤ h.folk ∧ h.folk ≤ 4
  many : 1 ≤ h.things.length ∧ h.things.length ≤ 3
  lore : ∀ (i : Nat) (l : Lore), h.things[i]? = some l → LoreOk l i
def RowOk (h : Hall) (r : List Int) : Prop := r.length = h.things.length ∧ ∀ (j : Nat) (x : Int) (l : Lore), r[j]? = some x → h.things[j]? = some l → 0 ≤ x ∧ x ≤ l.cap
structure StandOk (h : Hall) (s : Stand) : Prop where
  len : s.length = h.folk
  row : ∀ r ∈ s, RowOk h r
structure MeetOk (h : Hall) (m : Meet) : Prop where
  one : m.one < h.folk
  other : m.other < h.folk
  ne : m.one ≠ m.other
  thing : m.thing < h.things.length
structure BeatOk (h : Hall) (b : Beat) : Prop where
  len : b.length ≤ 4
  all : ∀ m ∈ b, MeetOk h m
def noLore : Lore := ⟨[], 1, 1, 0⟩
def Hall.lore (h : Hall) (t : Nat) : Lore := h.things.getD t noLore
def at2 (s : Stand) (i j : Nat) : Int := (s.getD i []).getD j 0
def lesson (h : Hall) (s : Stand) (m : Meet) : Bool := decide ((h.lore m.thing).teach ≤ at2 s m.one m.thing) && (h.lore m.thing).needs.all fun n => decide (0 < at2 s m.other n)
def taught (h : Hall) (s : Stand) (m : Meet) : Stand := s.set m.other ((s.getD m.other []).set m.thing (min (h.lore m.thing).cap (at2 s m.other m.thing + 1)))
abbrev Used := List (Nat × Nat)
def turn (h : Hall) (p : Stand × Used) (m : Meet) : Stand × Used := if lesson h p.1 m then (taught h p.1 m, p.2 ++ [(m.one, m.thing), (m.other, m.thing)]) else p
def run (h : Hall) (s : Stand) (b : Beat) : Stand × Used := b.foldl (turn h) (s, [])
def wane1 (h : Hall) (u : Used) (i j : Nat) (x : Int) : Int := if (i, j) ∈ u then x else max 0 (x - (h.lore j).loss)
def waneR (h : Hall) (u : Used) (i : Nat) (r : List Int) : List Int := r.zipIdx.map fun p => wane1 h u i p.2 p.1
def wane (h : Hall) (u : Used) (s : Stand) : Stand := s.zipIdx.map fun p => waneR h u p.2 p.1
def behind (h : Hall) (s : Stand) (b : Beat) : Stand := wane h (run h s b).2 (run h s b).1
end MA

/-! The checks of halls, stands, meetings; lessons. -/
namespace PL
open PySem PySem.Spec PyProof.Rows L2 RZ MA
local macro_rules | `(tactic| walk_at "pl1") => `(tactic| first | with_reducible refine ws_seq ?_ | with_reducible refine ws_ret ?_ | with_reducible refine ws_asg ?_ | with_reducible refine ws_dropC ?_ | ((with_reducible refine ws_app (a := ?a1) (xs := ?x1) ?h1 ?_); (case h1 => rfl)) | with_reducible refine ws_if ?_ | ((with_reducible refine we_d (x := ?x1) ?h1 ?_); (case h1 => rfl)) | ((with_reducible refine we_own (c := ?c1) (a := ?a1) ?h1 ?h2 ?_); (case h1 => rfl); (case h2 => rfl)) | ((fail_if_success (with_reducible refine we_all ?_ ?_)); with_reducible refine we_cb ?_) | with_reducible refine wa_cons ?_ | with_reducible refine wa_nil ?_ | with_reducible refine we_int ?_ | with_reducible refine we_bl ?_ | with_reducible refine we_non ?_ | with_reducible refine we_str ?_ | with_reducible refine we_cv ?_ | with_reducible refine we_op ?_ | with_reducible refine we_un ?_ | with_reducible refine we_andV ?_ | with_reducible refine we_orV ?_ | with_reducible refine we_notV ?_ | with_reducible refine we_chain ?_ | with_reducible refine we_tupU ?_ | with_reducible refine we_if ?_ | with_reducible refine wt_test ?_ | with_reducible refine wt_B ?_ | with_reducible refine wt_and ?_ | with_reducible refine wt_or ?_ | with_reducible refine wt_not ?_ | with_reducible refine we_sl ?_ | with_reducible refine wo_none ?_ | with_reducible refine wo_intC ?_ | ((with_reducible refine wo_var (i := ?i1) ?h1 ?_); (case h1 => rfl)) | ((with_reducible refine wo_suc (i := ?i1) ?h1 ?_); (case h1 => rfl)) | ((fail_if_success ((with_reducible refine we_callP (wa_cons (we_own (c := ?c1) (a := ?a1) ?h1 ?h2 ?_))); (case h1 => rfl); (case h2 => rfl))); with_reducible refine we_callP ?_) | with_reducible refine w2_bl ?_ | with_reducible refine w2_int ?_ | with_reducible refine wu_add ?_ | ((with_reducible refine wu_ixT (d := ?d1) ?h1 ?_); (case h1 => rfl)) | ((with_reducible refine wu_ixL (a := R.own ?a1) (xs := ?x1) (d := ?d1) ?h0 ?h1 ?_); (case h0 => (refine .inr (.inr ⟨_, 0, rfl, ?_⟩); rfl)); (case h1 => rfl)) | with_reducible refine wu_slT ?_ | with_reducible refine wk_lenT ?_ | with_reducible refine wk_min ?_ | with_reducible refine wk_max ?_ | with_reducible refine wg_name ?_ | with_reducible refine wgs_nil ?_ | with_reducible refine wgs_consD ?_ | with_reducible refine wgs_nilD ?_ | with_reducible refine wgs_cons ?_ | ((with_reducible refine wg_tup ?h1 ?_); (case h1 => rfl)))
local macro_rules | `(tactic| walk_at "pl") => `(tactic| repeat (walk_at "pl1"))
local macro_rules | `(tactic| walk_at "fin") => `(tactic| repeat' (first | exact trivial | refine And.intro ?_ ?_))
section
variable {K : PySem.W.Frag} {P : Program} {w : World}
def W_is_from : PW := fun cs Po => ∃ x lo hi : Int, cs = [.d (.int x), .d (.int lo), .d (.int hi)] ∧ ∀ e, Po (.c (.d (.bool (decide (lo ≤ x) && decide (x ≤ hi))))) e
/-- is_from -/
def rd_is_from (K : PySem.W.Frag) (P : Program) (w : World) : TS :=
    (tRet (tAndV (tCB (rIsi K) (tCons (tVar 0) (tCons (tC (.ty "int")) tNil))) (tAndV (tNotV (tCB (rIsi K) (tCons (tVar 0) (tCons (tC (.ty "bool")) tNil)))) (tChain (rI0 fun i j => .bl (decide (i ≤ j))) (rI0 fun i j => .bl (decide (i ≤ j))) (tVar 1) (tVar 0) (tVar 2)))))
theorem ws_is_from : WSok K P w (rd_is_from K P w) 3 W_is_from := by
  rintro cs Po ⟨x, lo, hi, rfl, p⟩
  unfold rd_is_from
  walk_at "pl"
  refine wl_isi (d := .int x) k_int_int ⟨true, rfl, fun _ => ?_, fun z => nomatch z⟩ .dat
  walk_at "pl"
  refine wl_isi (d := .int x) k_int_bool ⟨false, rfl, true, rfl, fun _ => ?_, fun z => nomatch z⟩ .dat
  walk_at "pl"
  refine ⟨_, rfl, fun h => ?_, fun h => ?_⟩
  · walk_at "pl"
    rw [h] at p
    exact ⟨⟨trivial, trivial, trivial, trivial⟩, p _⟩
  · rw [h] at p
    exact ⟨⟨trivial, trivial, trivial, trivial⟩, p _⟩
def W_is_tuple : PW := fun cs Po => ∃ (xs : List DD) (lo hi : Int), cs = [.d (.tuple xs), .d (.int lo), .d (.int hi)] ∧ ∀ e, Po (.c (.d (.bool (decide (lo ≤ (xs.length : Nat)) && decide (((xs.length : Nat) : Int) ≤ hi))))) e
/-- is_tuple -/
def rd_is_tuple (K : PySem.W.Frag) (P : Program) (w : World) : TS :=
    (tRet (tAndV (tCB (rIsi K) (tCons (tVar 0) (tCons (tC (.ty "tuple")) tNil))) (tChain (rI0 fun i j => .bl (decide (i ≤ j))) (rI0 fun i j => .bl (decide (i ≤ j))) (tVar 1) (tCB (rLen K) (tCons (tVar 0) tNil)) (tVar 2))))
theorem ws_is_tuple : WSok K P w (rd_is_tuple K P w) 3 W_is_tuple := by
  rintro cs Po ⟨xs, lo, hi, rfl, p⟩
  unfold rd_is_tuple
  walk_at "pl"
  refine wl_isi (d := .tuple xs) k_tup_tup ⟨true, rfl, fun _ => ?_, fun z => nomatch z⟩ .dat
  walk_at "pl"
  refine ⟨_, rfl, fun h => ?_, fun h => ?_⟩
  · walk_at "pl"
    rw [h] at p
    exact ⟨⟨trivial, trivial, trivial, trivial⟩, p _⟩
  · rw [h] at p
    exact ⟨⟨trivial, trivial, trivial, trivial⟩, p _⟩
/-- is_tuple, is_from: the answer is yes -/
theorem tup_yes {xs : List DD} {lo hi : Int} {Pc : R → List C → Prop} (h1 : lo ≤ (xs.length : Nat)) (h2 : ((xs.length : Nat) : Int) ≤ hi) (p : ∀ e, Pc (.c (.d (.bool true))) e) : W_is_tuple [.d (.tuple xs), .d (.int lo), .d (.int hi)] Pc :=
  ⟨xs, lo, hi, rfl, fun e => by rw [decide_eq_true h1, decide_eq_true h2]; exact p e⟩
theorem from_yes {x lo hi : Int} {Pc : R → List C → Prop} (h1 : lo ≤ x) (h2 : x ≤ hi) (p : ∀ e, Pc (.c (.d (.bool true))) e) : W_is_from [.d (.int x), .d (.int lo), .d (.int hi)] Pc :=
  ⟨x, lo, hi, rfl, fun e => by rw [decide_eq_true h1, decide_eq_true h2]; exact p e⟩
def W_is_lore : PW := fun cs Po => ∃ (l : Lore) (n : Nat), LoreOk l n ∧ n ≤ 3 ∧ cs = [.d (encLore l), .d (.int (n : Nat))] ∧ ∀ e, Po (.c (.d (.bool true))) e
/-- is_lore -/
def rd_is_lore (K : PySem.W.Frag) (P : Program) (w : World) : TS :=
    (tSeq (tIfS (tOr (tNot (tB (tCall (spW K P w W_is_tuple) [] E0 (tCons (tVar 0) (tCons (tC (.int 4)) (tCons (tC (.int 4)) tNil)))))) (tNot (tB (tCall (spW K P w W_is_tuple) [] E0 (tCons (tOp (rIxU K P w) (tVar 0) (tC (.int 0))) (tCons (tC (.int 0)) (tCons (tVar 1) tNil))))))) (tRet (tC (.bl false))) tNext)
    (tSeq (tAsg (tVar 0) (gTup K 4 (gCons (gName 2) (gCons (gName 3) (gCons (gName 4) (gCons (gName 5) gNil))))))
    (tSeq (tIfS (tNot (tB (tCB (rAll K) (tCons (tLc (iSeqU K (tVar 2)) (gName 6) tYes (tCall (spW K P w W_is_from) [] E0 (tCons (tVar 6) (tCons (tC (.int 0)) (tCons (tOp (rI0 fun i j => .int (i - j)) (tVar 1) (tC (.int 1))) tNil)))) [6]) tNil)))) (tRet (tC (.bl false))) tNext)
    (tSeq (tIfS (tNot (tB (tCB (rAll K) (tCons (tLc (RZ.iZipA K (tCons (tVar 2) (tCons (tSl (rSlU K) (tVar 2) (tPart (tC (.int 1))) tNoPart) tNil))) (gTup K 2 (gCons (gName 6) (gCons (gName 7) gNil))) tYes (tOp (rI0 fun i j => .bl (decide (i < j))) (tVar 6) (tVar 7)) [6, 7]) tNil)))) (tRet (tC (.bl false))) tNext)
    (tRet (tAndV (tCall (spW K P w W_is_from) [] E0 (tCons (tVar 4) (tCons (tC (.int 1)) (tCons (tC (.int 3)) tNil)))) (tAndV (tCall (spW K P w W_is_from) [] E0 (tCons (tVar 3) (tCons (tC (.int 1)) (tCons (tVar 4) tNil)))) (tCall (spW K P w W_is_from) [] E0 (tCons (tVar 5) (tCons (tC (.int 0)) (tCons (tVar 4) tNil)))))))))))
theorem ws_is_lore : WSok K P w (rd_is_lore K P w) 8 W_is_lore := by
  rintro cs Po ⟨l, n, hl, hn3, rfl, p⟩
  have hlen := up_len hl.up hl.lt
  have hc := hl.cap
  have ht := hl.teach
  have hs := hl.loss
  unfold rd_is_lore
  walk_at "pl"
  refine ⟨_, rfl, tup_yes (by simp) (by simp) fun _ => ⟨true, rfl, (fun z => nomatch z), fun _ => ?_⟩⟩
  walk_at "pl"
  refine ⟨_, rfl, tup_yes (by simp) (by simp; omega) fun _ => ⟨true, rfl, (fun z => nomatch z), fun _ => ?_⟩⟩
  walk_at "pl"
  refine ws_nx ?_
  walk_at "pl"
  -- all([is_from(one, 0, at - 1) for one in needs])
  refine we_all ?hg (wu_seqT ?_)
  case hg => exact gin_name (by decide)
  walk_at "pl"
  refine ⟨_, rfl, len_big (Nat.le_trans hlen hn3) (by decide), own1 rfl, fun _ => true, fun k x hx => ?_, ?_⟩
  · obtain ⟨a, ha, rfl⟩ := get_map hx
    have hlt := hl.lt a (List.mem_of_getElem? ha)
    walk_at "pl"
    exact ⟨_, rfl, from_yes (by omega) (by omega) fun _ => ⟨rfl, rfl⟩⟩
  rw [all_true]
  refine ⟨true, rfl, (fun z => nomatch z), fun _ => ?_⟩
  refine ws_nx ?_
  walk_at "pl"
  -- all([one < other for one, other in zip(needs, needs[1:])])
  refine we_all ?hg (wi_zipT ?_)
  case hg => exact gin_tup (gins_name (by decide) (gins_name (by decide) gins_nil))
  walk_at "pl"
  have ecut : cutA (l.needs.map fun (n : Nat) => PyData.int (n : Int)) (some 1) none = (l.needs.drop 1).map fun (n : Nat) => PyData.int (n : Int) := (cutA_from _ 1).trans List.map_drop.symm
  refine ⟨_, _, rfl, ?_, own2 rfl rfl, fun _ => true, fun k x hx => ?_, ?_⟩
  · rw [ecut, List.length_map, List.length_zip, List.length_map]
    omega
  · rw [ecut] at hx
    obtain ⟨⟨x1, x2⟩, hz, rfl⟩ := get_map hx
    obtain ⟨h1, h2⟩ := List.getElem?_zip_eq_some.mp hz
    obtain ⟨a, ha, rfl⟩ := get_map h1
    obtain ⟨b, hb, rfl⟩ := get_map h2
    rw [List.getElem?_drop] at hb
    have hlt : a < b := by
      obtain ⟨i1, e1⟩ := List.getElem?_eq_some_iff.mp ha
      obtain ⟨i2, e2⟩ := List.getElem?_eq_some_iff.mp hb
      have := List.pairwise_iff_getElem.mp hl.up k (1 + k) i1 i2 (by omega)
      rw [e1, e2] at this
      exact this
    walk_at "pl"
    exact ⟨by rw [decide_eq_true (show (a : Int) < (b : Int) by omega)], rfl⟩
  rw [all_true]
  refine ⟨true, rfl, (fun z => nomatch z), fun _ => ?_⟩
  refine ws_nx ?_
  walk_at "pl"
  refine ⟨_, rfl, from_yes (by omega) (by omega) fun _ => ⟨true, rfl, (fun _ => ?_), fun z => nomatch z⟩⟩
  walk_at "pl"
  refine ⟨_, rfl, from_yes (by omega) (by omega) fun _ => ⟨true, rfl, (fun _ => ?_), fun z => nomatch z⟩⟩
  walk_at "pl"
  exact ⟨_, rfl, from_yes (by omega) (by omega) fun _ => ⟨⟨trivial, trivial, trivial⟩, p _⟩⟩
end
end PL

/-! The checks of halls, stands, meetings. -/
namespace PL
open PySem PySem.Spec PyProof.Rows L2 RZ MA
local macro_rules | `(tactic| walk_at "pl1") => `(tactic| first | with_reducible refine ws_seq ?_ | with_reducible refine ws_ret ?_ | with_reducible refine ws_asg ?_ | with_reducible refine ws_dropC ?_ | ((with_reducible refine ws_app (a := ?a1) (xs := ?x1) ?h1 ?_); (case h1 => rfl)) | with_reducible refine ws_if ?_ | ((with_reducible refine we_d (x := ?x1) ?h1 ?_); (case h1 => rfl)) | ((with_reducible refine we_own (c := ?c1) (a := ?a1) ?h1 ?h2 ?_); (case h1 => rfl); (case h2 => rfl)) | ((fail_if_success (with_reducible refine we_all ?_ ?_)); with_reducible refine we_cb ?_) | with_reducible refine wa_cons ?_ | with_reducible refine wa_nil ?_ | with_reducible refine we_int ?_ | with_reducible refine we_bl ?_ | with_reducible refine we_non ?_ | with_reducible refine we_str ?_ | with_reducible refine we_cv ?_ | with_reducible refine we_op ?_ | with_reducible refine we_un ?_ | with_reducible refine we_andV ?_ | with_reducible refine we_orV ?_ | with_reducible refine we_notV ?_ | with_reducible refine we_chain ?_ | with_reducible refine we_tupU ?_ | with_reducible refine we_if ?_ | with_reducible refine wt_test ?_ | with_reducible refine wt_B ?_ | with_reducible refine wt_and ?_ | with_reducible refine wt_or ?_ | with_reducible refine wt_not ?_ | with_reducible refine we_sl ?_ | with_reducible refine wo_none ?_ | with_reducible refine wo_intC ?_ | ((with_reducible refine wo_var (i := ?i1) ?h1 ?_); (case h1 => rfl)) | ((with_reducible refine wo_suc (i := ?i1) ?h1 ?_); (case h1 => rfl)) | ((fail_if_success ((with_reducible refine we_callP (wa_cons (we_own (c := ?c1) (a := ?a1) ?h1 ?h2 ?_))); (case h1 => rfl); (case h2 => rfl))); with_reducible refine we_callP ?_) | with_reducible refine w2_bl ?_ | with_reducible refine w2_int ?_ | with_reducible refine wu_add ?_ | ((with_reducible refine wu_ixT (d := ?d1) ?h1 ?_); (case h1 => rfl)) | ((with_reducible refine wu_ixL (a := R.own ?a1) (xs := ?x1) (d := ?d1) ?h0 ?h1 ?_); (case h0 => (refine .inr (.inr ⟨_, 0, rfl, ?_⟩); rfl)); (case h1 => rfl)) | with_reducible refine wu_slT ?_ | with_reducible refine wk_lenT ?_ | with_reducible refine wk_min ?_ | with_reducible refine wk_max ?_ | with_reducible refine wg_name ?_ | with_reducible refine wgs_nil ?_ | with_reducible refine wgs_consD ?_ | with_reducible refine wgs_nilD ?_ | with_reducible refine wgs_cons ?_ | ((with_reducible refine wg_tup ?h1 ?_); (case h1 => rfl)))
local macro_rules | `(tactic| walk_at "pl") => `(tactic| repeat (walk_at "pl1"))
local macro_rules | `(tactic| walk_at "fin") => `(tactic| repeat' (first | exact trivial | refine And.intro ?_ ?_))
section
variable {K : PySem.W.Frag} {P : Program} {w : World}
def W_is_hall : PW := fun cs Po => ∃ h : Hall, HallOk h ∧ cs = [.d (encHall h)] ∧ ∀ e, Po (.c (.d (.bool true))) e
/-- is_hall -/
def rd_is_hall (K : PySem.W.Frag) (P : Program) (w : World) : TS :=
    (tSeq (tIfS (tOr (tNot (tB (tCall (spW K P w W_is_tuple) [] E0 (tCons (tVar 0) (tCons (tC (.int 2)) (tCons (tC (.int 2)) tNil)))))) (tOr (tNot (tB (tCall (spW K P w W_is_from) [] E0 (tCons (tOp (rIxU K P w) (tVar 0) (tC (.int 0))) (tCons (tC (.int 2)) (tCons (tC (.int 4)) tNil)))))) (tNot (tB (tCall (spW K P w W_is_tuple) [] E0 (tCons (tOp (rIxU K P w) (tVar 0) (tC (.int 1))) (tCons (tC (.int 1)) (tCons (tC (.int 3)) tNil)))))))) (tRet (tC (.bl false))) tNext)
    (tRet (tCB (rAll K) (tCons (tLc (iEnumA K (tCons (tOp (rIxU K P w) (tVar 0) (tC (.int 1))) tNil)) (gTup K 2 (gCons (gName 1) (gCons (gName 2) gNil))) tYes (tCall (spW K P w W_is_lore) [] E0 (tCons (tVar 2) (tCons (tVar 1) tNil))) [1, 2]) tNil))))
theorem ws_is_hall : WSok K P w (rd_is_hall K P w) 3 W_is_hall := by
  rintro cs Po ⟨h, hh, rfl, p⟩
  have hf := hh.folk
  have hm := hh.many
  unfold rd_is_hall
  walk_at "pl"
  refine ⟨_, rfl, tup_yes (by simp) (by simp) fun _ => ⟨true, rfl, (fun z => nomatch z), fun _ => ?_⟩⟩
  walk_at "pl"
  refine ⟨_, rfl, from_yes (by omega) (by omega) fun _ => ⟨true, rfl, (fun z => nomatch z), fun _ => ?_⟩⟩
  walk_at "pl"
  refine ⟨_, rfl, tup_yes (by simp; omega) (by simp; omega) fun _ => ⟨true, rfl, (fun z => nomatch z), fun _ => ?_⟩⟩
  refine ws_nx ?_
  walk_at "pl"
  refine we_all ?hg (wi_enumT ?_)
  case hg => exact gin_tup (gins_name (by decide) (gins_name (by decide) gins_nil))
  walk_at "pl"
  refine ⟨_, rfl, ?_, own2 rfl rfl, fun _ => true, fun k x hx => ?_, ?_⟩
  · rw [enumD_len, List.length_map]; omega
  · obtain ⟨d, hd, rfl⟩ := enumD_at hx
    obtain ⟨l, hl, rfl⟩ := get_map hd
    have hk := (List.getElem?_eq_some_iff.mp hl).1
    walk_at "pl"
    exact ⟨_, rfl, l, k, hh.lore k l hl, by omega, rfl, fun _ => ⟨rfl, rfl⟩⟩
  rw [all_true]
  exact ⟨⟨trivial, trivial⟩, p _⟩
def W_need_hall : PW := fun cs Po => ∃ h : Hall, HallOk h ∧ cs = [.d (encHall h)] ∧ ∀ e, Po (.c (.d .none)) e
/-- need_hall -/
def rd_need_hall (K : PySem.W.Frag) (P : Program) (w : World) : TS :=
    (tIfS (tNot (tB (tCall (spW K P w W_is_hall) [] E0 (tCons (tVar 0) tNil)))) tNever tNext)
theorem ws_need_hall : WSok K P w (rd_need_hall K P w) 1 W_need_hall := by
  rintro cs Po ⟨h, hh, rfl, p⟩
  unfold rd_need_hall
  walk_at "pl"
  refine ⟨_, rfl, h, hh, rfl, fun _ => ⟨true, rfl, (fun z => nomatch z), fun _ => ws_nx ?_⟩⟩
  exact ⟨⟨trivial, trivial⟩, p _⟩
def W_is_standing : PW := fun cs Po => ∃ (h : Hall) (s : Stand), HallOk h ∧ StandOk h s ∧ cs = [.d (encHall h), .d (encStand s)] ∧ ∀ e, Po (.c (.d (.bool true))) e
/-- is_standing -/
def rd_is_standing (K : PySem.W.Frag) (P : Program) (w : World) : TS :=
    (tSeq (tAsg (tVar 0) (gTup K 2 (gCons (gName 2) (gCons (gName 3) gNil))))
    (tSeq (tIfS (tNot (tB (tCall (spW K P w W_is_tuple) [] E0 (tCons (tVar 1) (tCons (tVar 2) (tCons (tVar 2) tNil)))))) (tRet (tC (.bl false))) tNext)
    (tSeq (tFor (iSeqU K (tVar 1)) (gName 4)
    (tSeq (tIfS (tNot (tB (tCall (spW K P w W_is_tuple) [] E0 (tCons (tVar 4) (tCons (tCB (rLen K) (tCons (tVar 3) tNil)) (tCons (tCB (rLen K) (tCons (tVar 3) tNil)) tNil)))))) (tRet (tC (.bl false))) tNext)
    (tIfS (tNot (tB (tCB (rAll K) (tCons (tLc (RZ.iZipA K (tCons (tVar 4) (tCons (tVar 3) tNil))) (gTup K 2 (gCons (gName 5) (gCons (gName 6) gNil))) tYes (tCall (spW K P w W_is_from) [] E0 (tCons (tVar 5) (tCons (tC (.int 0)) (tCons (tOp (rIxU K P w) (tVar 6) (tC (.int 2))) tNil)))) [5, 6]) tNil)))) (tRet (tC (.bl false))) tNext)))
    (tRet (tC (.bl true))))))
theorem ws_is_standing : WSok K P w (rd_is_standing K P w) 7 W_is_standing := by
  rintro cs Po ⟨h, s, hh, hs, rfl, p⟩
  have hlen := hs.len
  have hf := hh.folk
  have hm := hh.many
  unfold rd_is_standing
  walk_at "pl"
  refine ⟨_, rfl, tup_yes (by simp; omega) (by simp; omega) fun _ => ⟨true, rfl, (fun z => nomatch z), fun _ => ?_⟩⟩
  refine ws_nx ?_
  walk_at "pl"
  refine ws_for (wu_seqT ?_)
  walk_at "pl"
  refine ⟨_, rfl, fun k e => ∃ c, e = [.d (encHall h), .d (encStand s), .d (.int (h.folk : Nat)), .d (.tuple (h.things.map encLore)), c, .no, .no] ∧ c.own = none, ⟨.no, rfl, rfl⟩, fun k x e hx => ?_, fun e => ?_⟩
  · rintro ⟨c, rfl, hc⟩
    obtain ⟨r, hr, rfl⟩ := get_map hx
    have hrow := hs.row r (List.mem_of_getElem? hr)
    walk_at "pl"
    refine ⟨_, rfl, tup_yes (by simp; rw [hrow.1]; omega) (by simp; rw [hrow.1]; omega) fun _ => ⟨true, rfl, (fun z => nomatch z), fun _ => ?_⟩⟩
    refine ws_nx ?_
    walk_at "pl"
    refine we_all ?hg (wi_zipT ?_)
    case hg => exact gin_tup (gins_name (by decide) (gins_name (by decide) gins_nil))
    walk_at "pl"
    refine ⟨_, _, rfl, ?_, own2 rfl rfl, fun _ => true, fun k x hx => ?_, ?_⟩
    · rw [List.length_map, List.length_zip, List.length_map, List.length_map, hrow.1]; omega
    · obtain ⟨⟨x1, x2⟩, hz, rfl⟩ := get_map hx
      obtain ⟨h1, h2⟩ := List.getElem?_zip_eq_some.mp hz
      obtain ⟨a, ha, rfl⟩ := get_map h1
      obtain ⟨b, hb, rfl⟩ := get_map h2
      have hab := hrow.2 k a b ha hb
      walk_at "pl"
      exact ⟨_, rfl, from_yes (by omega) (by omega) fun _ => ⟨rfl, rfl⟩⟩
    rw [all_true]
    refine ⟨true, rfl, (fun z => nomatch z), fun _ => ws_nx ⟨_, rfl, rfl⟩⟩
  · rintro ⟨c, rfl, hc⟩
    walk_at "pl"
    exact ⟨⟨trivial, trivial, trivial⟩, p _⟩
def W_is_meeting : PW := fun cs Po => ∃ (h : Hall) (m : Meet), HallOk h ∧ MeetOk h m ∧ cs = [.d (encHall h), .d (encMeet m)] ∧ ∀ e, Po (.c (.d (.bool true))) e
/-- is_meeting -/
def rd_is_meeting (K : PySem.W.Frag) (P : Program) (w : World) : TS :=
    (tSeq (tIfS (tOr (tNot (tB (tCall (spW K P w W_is_tuple) [] E0 (tCons (tVar 1) (tCons (tC (.int 3)) (tCons (tC (.int 3)) tNil)))))) (tNot (tB (tCall (spW K P w W_is_from) [] E0 (tCons (tOp (rIxU K P w) (tVar 1) (tC (.int 2))) (tCons (tC (.int 0)) (tCons (tOp (rI0 fun i j => .int (i - j)) (tCB (rLen K) (tCons (tOp (rIxU K P w) (tVar 0) (tC (.int 1))) tNil)) (tC (.int 1))) tNil))))))) (tRet (tC (.bl false))) tNext)
    (tRet (tAndV (tCall (spW K P w W_is_from) [] E0 (tCons (tOp (rIxU K P w) (tVar 1) (tC (.int 0))) (tCons (tC (.int 0)) (tCons (tOp (rI0 fun i j => .int (i - j)) (tOp (rIxU K P w) (tVar 0) (tC (.int 0))) (tC (.int 1))) tNil)))) (tAndV (tCall (spW K P w W_is_from) [] E0 (tCons (tOp (rIxU K P w) (tVar 1) (tC (.int 1))) (tCons (tC (.int 0)) (tCons (tOp (rI0 fun i j => .int (i - j)) (tOp (rIxU K P w) (tVar 0) (tC (.int 0))) (tC (.int 1))) tNil)))) (tOp (rNeD K) (tOp (rIxU K P w) (tVar 1) (tC (.int 0))) (tOp (rIxU K P w) (tVar 1) (tC (.int 1))))))))
theorem ws_is_meeting : WSok K P w (rd_is_meeting K P w) 2 W_is_meeting := by
  rintro cs Po ⟨h, m, hh, hm, rfl, p⟩
  have h1 := hm.one
  have h2 := hm.other
  have h3 := hm.ne
  have h4 := hm.thing
  unfold rd_is_meeting
  walk_at "pl"
  refine ⟨_, rfl, tup_yes (by simp) (by simp) fun _ => ⟨true, rfl, (fun z => nomatch z), fun _ => ?_⟩⟩
  walk_at "pl"
  refine ⟨_, rfl, from_yes (by omega) (by rw [List.length_map]; omega) fun _ => ⟨true, rfl, (fun z => nomatch z), fun _ => ?_⟩⟩
  refine ws_nx ?_
  walk_at "pl"
  refine ⟨_, rfl, from_yes (by omega) (by omega) fun _ => ⟨true, rfl, (fun _ => ?_), fun z => nomatch z⟩⟩
  walk_at "pl"
  refine ⟨_, rfl, from_yes (by omega) (by omega) fun _ => ⟨true, rfl, (fun _ => ?_), fun z => nomatch z⟩⟩
  walk_at "pl"
  refine w2_neD .dat .dat rfl rfl ?_
  have e : PyData.eqv (.int (m.one : Nat)) (.int (m.other : Nat)) = false := by
    show decide _ = false
    exact decide_eq_false (by omega)
  rw [e]
  exact ⟨⟨trivial, trivial, trivial⟩, p _⟩
def W_is_beating : PW := fun cs Po => ∃ (h : Hall) (b : Beat), HallOk h ∧ BeatOk h b ∧ cs = [.d (encHall h), .d (encBeat b)] ∧ ∀ e, Po (.c (.d (.bool true))) e
/-- is_beating -/
def rd_is_beating (K : PySem.W.Frag) (P : Program) (w : World) : TS :=
    (tRet (tAndV (tCall (spW K P w W_is_tuple) [] E0 (tCons (tVar 1) (tCons (tC (.int 0)) (tCons (tC (.int 4)) tNil)))) (tCB (rAll K) (tCons (tLc (iSeqU K (tVar 1)) (gName 2) tYes (tCall (spW K P w W_is_meeting) [] E0 (tCons (tVar 0) (tCons (tVar 2) tNil))) [2]) tNil))))
theorem ws_is_beating : WSok K P w (rd_is_beating K P w) 3 W_is_beating := by
  rintro cs Po ⟨h, b, hh, hb, rfl, p⟩
  have hl := hb.len
  unfold rd_is_beating
  walk_at "pl"
  refine ⟨_, rfl, tup_yes (by omega) (by rw [List.length_map]; omega) fun _ => ⟨true, rfl, (fun _ => ?_), fun z => nomatch z⟩⟩
  refine we_all ?hg (wu_seqT ?_)
  case hg => exact gin_name (by decide)
  walk_at "pl"
  refine ⟨_, rfl, len_big hl (by decide), own1 rfl, fun _ => true, fun k x hx => ?_, ?_⟩
  · obtain ⟨m, hm, rfl⟩ := get_map hx
    walk_at "pl"
    exact ⟨_, rfl, h, m, hh, hb.all m (List.mem_of_getElem? hm), rfl, fun _ => ⟨rfl, rfl⟩⟩
  rw [all_true]
  exact ⟨⟨trivial, trivial, trivial⟩, p _⟩
def W_need_stand : PW := fun cs Po => ∃ (h : Hall) (s : Stand), HallOk h ∧ StandOk h s ∧ cs = [.d (encHall h), .d (encStand s)] ∧ ∀ e, Po (.c (.d .none)) e
/-- need_stand -/
def rd_need_stand (K : PySem.W.Frag) (P : Program) (w : World) : TS :=
    (tIfS (tNot (tB (tCall (spW K P w W_is_standing) [] E0 (tCons (tVar 0) (tCons (tVar 1) tNil))))) tNever tNext)
theorem ws_need_stand : WSok K P w (rd_need_stand K P w) 2 W_need_stand := by
  rintro cs Po ⟨h, s, hh, hs, rfl, p⟩
  unfold rd_need_stand
  walk_at "pl"
  refine ⟨_, rfl, h, s, hh, hs, rfl, fun _ => ⟨true, rfl, (fun z => nomatch z), fun _ => ws_nx ?_⟩⟩
  exact ⟨⟨trivial, trivial, trivial⟩, p _⟩
def W_need_beat : PW := fun cs Po => ∃ (h : Hall) (b : Beat), HallOk h ∧ BeatOk h b ∧ cs = [.d (encHall h), .d (encBeat b)] ∧ ∀ e, Po (.c (.d .none)) e
/-- need_beat -/
def rd_need_beat (K : PySem.W.Frag) (P : Program) (w : World) : TS :=
    (tIfS (tNot (tB (tCall (spW K P w W_is_beating) [] E0 (tCons (tVar 0) (tCons (tVar 1) tNil))))) tNever tNext)
theorem ws_need_beat : WSok K P w (rd_need_beat K P w) 2 W_need_beat := by
  rintro cs Po ⟨h, s, hh, hs, rfl, p⟩
  unfold rd_need_beat
  walk_at "pl"
  refine ⟨_, rfl, h, s, hh, hs, rfl, fun _ => ⟨true, rfl, (fun z => nomatch z), fun _ => ws_nx ?_⟩⟩
  exact ⟨⟨trivial, trivial, trivial⟩, p _⟩
def W_need_meeting : PW := fun cs Po => ∃ (h : Hall) (m : Meet), HallOk h ∧ MeetOk h m ∧ cs = [.d (encHall h), .d (encMeet m)] ∧ ∀ e, Po (.c (.d .none)) e
/-- need_meeting -/
def rd_need_meeting (K : PySem.W.Frag) (P : Program) (w : World) : TS :=
    (tIfS (tNot (tB (tCall (spW K P w W_is_meeting) [] E0 (tCons (tVar 0) (tCons (tVar 1) tNil))))) tNever tNext)
theorem ws_need_meeting : WSok K P w (rd_need_meeting K P w) 2 W_need_meeting := by
  rintro cs Po ⟨h, s, hh, hs, rfl, p⟩
  unfold rd_need_meeting
  walk_at "pl"
  refine ⟨_, rfl, h, s, hh, hs, rfl, fun _ => ⟨true, rfl, (fun z => nomatch z), fun _ => ws_nx ?_⟩⟩
  exact ⟨⟨trivial, trivial, trivial⟩, p _⟩
end
end PL

/-! Stands behind lessons: plain facts. -/
namespace PL
open PySem PySem.Spec PyProof.Rows L2 RZ MA
theorem atI_nat {α : Type} {xs : List α} {k : Nat} {y : α} (h : xs[k]? = some y) : atI xs (k : Int) = some y := by
  have hk := (List.getElem?_eq_some_iff.mp h).1
  unfold atI
  rw [show ixN xs.length (k : Int) = some k by unfold ixN; rw [if_pos (by omega), if_pos (by omega)]; rfl]
  exact h
theorem atI_map {α β : Type} {f : α → β} {xs : List α} {k : Nat} {y : α} (h : xs[k]? = some y) : atI (xs.map f) (k : Int) = some (f y) := atI_nat (by rw [List.getElem?_map, h]; rfl)
theorem getD_at {α : Type} {xs : List α} {k : Nat} {d : α} (h : k < xs.length) : xs[k]? = some (xs.getD k d) := by
  rw [List.getD_eq_getElem?_getD, List.getElem?_eq_getElem h]; rfl
theorem lore_at {h : Hall} {t : Nat} (ht : t < h.things.length) : h.things[t]? = some (h.lore t) := getD_at ht
theorem map_range_getD {α : Type} (xs : List α) (d : α) : (List.range xs.length).map (fun k => xs.getD k d) = xs := by
  apply List.ext_getElem?
  intro i
  rw [List.getElem?_map]
  by_cases h : i < xs.length
  · rw [List.getElem?_range h]; exact (getD_at h).symm
  · rw [List.getElem?_eq_none (by simpa using h), List.getElem?_eq_none (by simpa using h)]; rfl
theorem all_range {α : Type} {f : α → Bool} (xs : List α) (d : α) : ((List.range xs.length).all fun k => f (xs.getD k d)) = xs.all f := by
  conv => rhs; rw [← map_range_getD xs d]
  rw [List.all_map]; rfl
theorem cut_set {α : Type} {xs : List α} {i : Nat} (h : i < xs.length) (y : α) : (cutA xs none (some (i : Int)) ++ [y]) ++ cutA xs (some ((i : Int) + 1)) none = xs.set i y := by
  rw [cutA_to, show ((i : Int) + 1) = ((i + 1 : Nat) : Int) from rfl, cutA_from, List.set_eq_take_append_cons_drop, if_pos h, List.append_assoc]; rfl
theorem cut_del {α : Type} {xs : List α} {i : Nat} : cutA xs none (some (i : Int)) ++ cutA xs (some ((i : Int) + 1)) none = xs.take i ++ xs.drop (i + 1) := by
  rw [cutA_to, show ((i : Int) + 1) = ((i + 1 : Nat) : Int) from rfl, cutA_from]
theorem cut_len {α : Type} (xs : List α) (lo hi : Option Int) : (cutA xs lo hi).length ≤ xs.length := by
  unfold cutA; rw [List.length_take, List.length_drop]; omega
theorem _root_.MA.HallOk.le {h : Hall} (hh : HallOk h) {t : Nat} (ht : t < h.things.length) : LoreOk (h.lore t) t := hh.lore t _ (lore_at ht)
section
variable {h : Hall} {s : Stand} {m : Meet} {b : Beat}
theorem _root_.MA.StandOk.rowAt (hs : StandOk h s) {i : Nat} (hi : i < h.folk) : s[i]? = some (s.getD i []) ∧ RowOk h (s.getD i []) := by
  have e := getD_at (d := ([] : List Int)) (show i < s.length by rw [hs.len]; exact hi)
  exact ⟨e, hs.row _ (List.mem_of_getElem? e)⟩
theorem _root_.MA.StandOk.at (hs : StandOk h s) {i j : Nat} (hi : i < h.folk) (hj : j < h.things.length) : (s.getD i [])[j]? = some (at2 s i j) ∧ 0 ≤ at2 s i j ∧ at2 s i j ≤ (h.lore j).cap := by
  obtain ⟨_, r1, r2⟩ := hs.rowAt hi
  have e : (s.getD i [])[j]? = some (at2 s i j) := getD_at (by rw [r1]; exact hj)
  exact ⟨e, r2 j _ _ e (lore_at hj)⟩
theorem _root_.MA.RowOk.set (hh : HallOk h) {r : List Int} (hr : RowOk h r) {j : Nat} {x : Int} (hx : 0 ≤ x ∧ x ≤ (h.lore j).cap) : RowOk h (r.set j x) := by
  refine ⟨by rw [List.length_set]; exact hr.1, fun k y l hk hl => ?_⟩
  by_cases q : k = j
  · subst q
    by_cases hz : k < r.length
    · rw [List.getElem?_set_self hz] at hk
      cases hk
      rw [show l = h.lore k from ?_]
      · exact hx
      · have := lore_at (h := h) (List.getElem?_eq_some_iff.mp hl).1
        rw [hl] at this
        exact Option.some.inj this
    · rw [List.getElem?_eq_none (by simpa using hz)] at hk
      cases hk
  · rw [List.getElem?_set_ne (Ne.symm q)] at hk
    exact hr.2 k y l hk hl
theorem taught_ok (hh : HallOk h) (hs : StandOk h s) (hm : MeetOk h m) : StandOk h (taught h s m) := by
  refine ⟨by unfold taught; rw [List.length_set]; exact hs.len, fun r hr => ?_⟩
  unfold taught at hr
  rcases List.mem_or_eq_of_mem_set hr with z | z
  · exact hs.row r z
  · subst z
    refine RowOk.set hh (hs.rowAt hm.other).2 ?_
    have a := (hs.at hm.other hm.thing).2
    have c := (hh.le hm.thing).cap
    omega
theorem turn_ok (hh : HallOk h) {p : Stand × Used} (hs : StandOk h p.1) (hm : MeetOk h m) : StandOk h (turn h p m).1 := by
  unfold turn
  split
  · exact taught_ok hh hs hm
  · exact hs
theorem fold_ok (hh : HallOk h) : ∀ (b : Beat) (p : Stand × Used), StandOk h p.1 → (∀ m ∈ b, MeetOk h m) → StandOk h (b.foldl (turn h) p).1
  | [], _, hs, _ => hs
  | m :: b, p, hs, hb => fold_ok hh b (turn h p m) (turn_ok hh hs (hb m List.mem_cons_self)) fun m' hm => hb m' (List.mem_cons_of_mem _ hm)
theorem run_ok (hh : HallOk h) (hs : StandOk h s) (hb : ∀ m ∈ b, MeetOk h m) : StandOk h (run h s b).1 := fold_ok hh b (s, []) hs hb
theorem waneR_at {u : Used} {i : Nat} {r : List Int} {j : Nat} : (waneR h u i r)[j]? = r[j]?.map (wane1 h u i j) := by
  unfold waneR
  rw [List.getElem?_map, List.getElem?_zipIdx]
  cases r[j]? with
  | none => rfl
  | some x => simp
theorem wane_at {u : Used} {s : Stand} {i : Nat} : (wane h u s)[i]? = s[i]?.map (waneR h u i) := by
  unfold wane
  rw [List.getElem?_map, List.getElem?_zipIdx]
  cases s[i]? with
  | none => rfl
  | some x => simp
theorem waneR_len {u : Used} {i : Nat} {r : List Int} : (waneR h u i r).length = r.length := by unfold waneR; simp
theorem wane_len {u : Used} {s : Stand} : (wane h u s).length = s.length := by unfold wane; simp
theorem wane_ok (hh : HallOk h) {u : Used} {s : Stand} (hs : StandOk h s) : StandOk h (wane h u s) := by
  refine ⟨by rw [wane_len]; exact hs.len, fun r hr => ?_⟩
  obtain ⟨i, hi⟩ := List.getElem?_of_mem hr
  rw [wane_at] at hi
  obtain ⟨r0, h0, e⟩ := Option.map_eq_some_iff.mp hi
  subst e
  have hr0 := hs.row r0 (List.mem_of_getElem? h0)
  refine ⟨by rw [waneR_len]; exact hr0.1, fun j x l hx hl => ?_⟩
  rw [waneR_at] at hx
  obtain ⟨y, hy, e⟩ := Option.map_eq_some_iff.mp hx
  subst e
  have b := hr0.2 j y l hy hl
  have c : 0 ≤ (h.lore j).loss := by
    have := hh.le (List.getElem?_eq_some_iff.mp hl).1
    exact this.loss.1
  unfold wane1
  split
  · exact b
  · omega
theorem behind_ok (hh : HallOk h) (hs : StandOk h s) (hb : ∀ m ∈ b, MeetOk h m) : StandOk h (behind h s b) := wane_ok hh (run_ok hh hs hb)
end
/-! ### dicts by pairs of places -/
abbrev kk (i j : Nat) : NestedKey := .tup [.num (i : Int), .num (j : Int)]
theorem kk_inj {i j i' j' : Nat} (e : kk i j = kk i' j') : i = i' ∧ j = j' := by
  injection e with e
  injection e with e1 e2
  injection e1 with e1
  injection e2 with e2 _
  injection e2 with e2
  exact ⟨by omega, by omega⟩
theorem kk_depth (i j : Nat) : (kk i j).depth ≤ 8 := Nat.le_of_ble_eq_true rfl
theorem kk_kd (i j : Nat) : kd (kk i j) = .tuple [.int (i : Nat), .int (j : Nat)] := rfl
theorem hasD_put (kvs : List (NestedKey × DD)) (k k' : NestedKey) (d : DD) : hasD (putD kvs k d) k' = (hasD kvs k' || decide (k = k')) := by
  unfold putD hasD
  by_cases q : kvs.any (fun p => decide (p.1 = k))
  · rw [if_pos q, List.any_map]
    have e : ((fun (p : NestedKey × DD) => decide (p.1 = k')) ∘ fun (p : NestedKey × DD) => if p.1 = k then (p.1, d) else p) = fun p => decide (p.1 = k') := by
      funext p
      simp only [Function.comp]
      split <;> rfl
    rw [e]
    by_cases z : k = k'
    · subst z; rw [q]; rfl
    · rw [decide_eq_false z, Bool.or_false]
  · rw [if_neg q, List.any_append]
    simp
theorem getD_put (kvs : List (NestedKey × DD)) (k k' : NestedKey) (d : DD) : getD (putD kvs k d) k' = if k = k' then some d else getD kvs k' := by
  unfold putD getD
  by_cases q : kvs.any (fun p => decide (p.1 = k))
  · rw [if_pos q]
    have key : ∀ (l : List (NestedKey × DD)), (∃ p ∈ l, p.1 = k) ∨ k ≠ k' → (List.find? (fun p => decide (p.1 = k')) (l.map fun p => if p.1 = k then (p.1, d) else p)).map (·.2) = if k = k' then some d else (l.find? fun p => decide (p.1 = k')).map (·.2) := by
      intro l
      induction l with
      | nil =>
        rintro (⟨p, hp, _⟩ | z)
        · cases hp
        · rw [if_neg z]; rfl
      | cons p l ih =>
        intro hy
        rw [List.map_cons, List.find?_cons, List.find?_cons]
        by_cases h1 : p.1 = k
        · rw [if_pos h1]
          by_cases h2 : k = k'
          · rw [if_pos h2]
            simp [h1, h2]
          · have h3 : ¬ p.1 = k' := by rw [h1]; exact h2
            simp only [h3, decide_false]
            exact ih (.inr h2)
        · rw [if_neg h1]
          by_cases h3 : p.1 = k'
          · have h2 : ¬ k = k' := fun z => h1 (by rw [h3, z])
            simp [h3, h2]
          · simp only [h3, decide_false]
            refine ih ?_
            rcases hy with ⟨p', hp, e⟩ | z
            · rcases List.mem_cons.mp hp with y | y
              · exact absurd (y ▸ e) h1
              · exact .inl ⟨p', y, e⟩
            · exact .inr z
    refine key kvs (.inl ?_)
    obtain ⟨p, hp, e⟩ := List.any_eq_true.mp q
    exact ⟨p, hp, of_decide_eq_true e⟩
  · rw [if_neg q, List.find?_append]
    by_cases h2 : k = k'
    · subst h2
      have : kvs.find? (fun p => decide (p.1 = k)) = none := by
        rw [List.find?_eq_none]
        intro p hp hd
        exact q (List.any_eq_true.mpr ⟨p, hp, hd⟩)
      rw [this]
      simp
    · rw [if_neg h2]
      simp [h2]
end PL

/-! Lessons, and stands behind beats. -/
namespace PL
open PySem PySem.Spec PyProof.Rows L2 RZ MA
local macro_rules | `(tactic| walk_at "pl1") => `(tactic| first | with_reducible refine ws_seq ?_ | with_reducible refine ws_ret ?_ | with_reducible refine ws_asg ?_ | with_reducible refine ws_dropC ?_ | ((with_reducible refine ws_app (a := ?a1) (xs := ?x1) ?h1 ?_); (case h1 => rfl)) | with_reducible refine ws_if ?_ | ((with_reducible refine we_d (x := ?x1) ?h1 ?_); (case h1 => rfl)) | ((with_reducible refine we_own (c := ?c1) (a := ?a1) ?h1 ?h2 ?_); (case h1 => rfl); (case h2 => rfl)) | ((fail_if_success (with_reducible refine we_all ?_ ?_)); with_reducible refine we_cb ?_) | with_reducible refine wa_cons ?_ | with_reducible refine wa_nil ?_ | with_reducible refine we_int ?_ | with_reducible refine we_bl ?_ | with_reducible refine we_non ?_ | with_reducible refine we_str ?_ | with_reducible refine we_cv ?_ | with_reducible refine we_op ?_ | with_reducible refine we_un ?_ | with_reducible refine we_andV ?_ | with_reducible refine we_orV ?_ | with_reducible refine we_notV ?_ | with_reducible refine we_chain ?_ | with_reducible refine we_tupU ?_ | with_reducible refine we_if ?_ | with_reducible refine wt_test ?_ | with_reducible refine wt_B ?_ | with_reducible refine wt_and ?_ | with_reducible refine wt_or ?_ | with_reducible refine wt_not ?_ | with_reducible refine we_sl ?_ | with_reducible refine wo_none ?_ | with_reducible refine wo_intC ?_ | ((with_reducible refine wo_var (i := ?i1) ?h1 ?_); (case h1 => rfl)) | ((with_reducible refine wo_suc (i := ?i1) ?h1 ?_); (case h1 => rfl)) | ((fail_if_success ((with_reducible refine we_callP (wa_cons (we_own (c := ?c1) (a := ?a1) ?h1 ?h2 ?_))); (case h1 => rfl); (case h2 => rfl))); with_reducible refine we_callP ?_) | with_reducible refine w2_bl ?_ | with_reducible refine w2_int ?_ | with_reducible refine wu_add ?_ | ((with_reducible refine wu_ixT (d := ?d1) ?h1 ?_); (case h1 => rfl)) | ((with_reducible refine wu_ixL (a := R.own ?a1) (xs := ?x1) (d := ?d1) ?h0 ?h1 ?_); (case h0 => (refine .inr (.inr ⟨_, 0, rfl, ?_⟩); rfl)); (case h1 => rfl)) | with_reducible refine wu_slT ?_ | with_reducible refine wk_lenT ?_ | with_reducible refine wk_min ?_ | with_reducible refine wk_max ?_ | with_reducible refine wg_name ?_ | with_reducible refine wgs_nil ?_ | with_reducible refine wgs_consD ?_ | with_reducible refine wgs_nilD ?_ | with_reducible refine wgs_cons ?_ | ((with_reducible refine wg_tup ?h1 ?_); (case h1 => rfl)))
local macro_rules | `(tactic| walk_at "pl") => `(tactic| repeat (walk_at "pl1"))
local macro_rules | `(tactic| walk_at "fin") => `(tactic| repeat' (first | exact trivial | refine And.intro ?_ ?_))
section
variable {K : PySem.W.Frag} {P : Program} {w : World}
def W_is_lesson : PW := fun cs Po => ∃ (h : Hall) (s : Stand) (m : Meet), HallOk h ∧ StandOk h s ∧ MeetOk h m ∧ cs = [.d (encHall h), .d (encStand s), .d (encMeet m)] ∧ ∀ e, Po (.c (.d (.bool (lesson h s m)))) e
/-- is_lesson -/
def rd_is_lesson (K : PySem.W.Frag) (P : Program) (w : World) : TS :=
    (tSeq (tAsg (tVar 2) (gTup K 3 (gCons (gName 3) (gCons (gName 4) (gCons (gName 5) gNil)))))
    (tSeq (tAsg (tOp (rIxU K P w) (tOp (rIxU K P w) (tVar 0) (tC (.int 1))) (tVar 5)) (gTup K 4 (gCons (gName 6) (gCons (gName 7) (gCons (gName 8) (gCons (gName 9) gNil))))))
    (tRet (tAndV (tOp (rI0 fun i j => .bl (decide (j ≤ i))) (tOp (rIxU K P w) (tOp (rIxU K P w) (tVar 1) (tVar 3)) (tVar 5)) (tVar 7)) (tCB (rAll K) (tCons (tLc (iSeqU K (tVar 6)) (gName 10) tYes (tOp (rI0 fun i j => .bl (decide (j < i))) (tOp (rIxU K P w) (tOp (rIxU K P w) (tVar 1) (tVar 4)) (tVar 10)) (tC (.int 0))) [10]) tNil))))))
theorem ws_is_lesson : WSok K P w (rd_is_lesson K P w) 11 W_is_lesson := by
  rintro cs Po ⟨h, s, m, hh, hs, hm, rfl, p⟩
  have hl := hh.le hm.thing
  have hlen := up_len hl.up hl.lt
  have h4 := hm.thing
  have h3 := hh.many
  unfold rd_is_lesson
  walk_at "pl"
  refine wu_ixT (atI_map (lore_at hm.thing)) ?_
  walk_at "pl"
  refine wu_ixT (atI_map (hs.rowAt hm.one).1) ?_
  walk_at "pl"
  refine wu_ixT (atI_map (hs.at hm.one hm.thing).1) ?_
  walk_at "pl"
  refine ⟨_, rfl, fun hc => ?_, fun hc => ?_⟩
  · refine we_all ?hg (wu_seqT ?_)
    case hg => exact gin_name (by decide)
    walk_at "pl"
    refine ⟨_, rfl, len_big hlen (by omega), own1 rfl, fun k => decide (0 < at2 s m.other ((h.lore m.thing).needs.getD k 0)), fun k x hx => ?_, ?_⟩
    · obtain ⟨n, hn, rfl⟩ := get_map hx
      have hlt := hl.lt n (List.mem_of_getElem? hn)
      walk_at "pl"
      refine wu_ixT (atI_map (hs.rowAt hm.other).1) ?_
      walk_at "pl"
      refine wu_ixT (atI_map (hs.at hm.other (by omega)).1) ?_
      walk_at "pl"
      have en : (h.lore m.thing).needs.getD k 0 = n := by rw [List.getD_eq_getElem?_getD, hn]; rfl
      exact ⟨by show R.c (C.d (PyData.bool (decide (0 < at2 s m.other n)))) = R.c (C.d (.bool (decide (0 < at2 s m.other ((h.lore m.thing).needs.getD k 0))))); rw [en], rfl⟩
    rw [List.length_map, all_range (f := fun n => decide (0 < at2 s m.other n))]
    refine ⟨⟨trivial, trivial, trivial, trivial⟩, ?_⟩
    have := p
    unfold lesson at this
    rw [hc] at this
    exact this _
  · refine ⟨⟨trivial, trivial, trivial, trivial⟩, ?_⟩
    have := p
    unfold lesson at this
    rw [hc] at this
    exact this _
def W_taught : PW := fun cs Po => ∃ (h : Hall) (s : Stand) (m : Meet), HallOk h ∧ StandOk h s ∧ MeetOk h m ∧ cs = [.d (encHall h), .d (encStand s), .d (encMeet m)] ∧ ∀ e, Po (.c (.d (encStand (taught h s m)))) e
/-- taught -/
def rd_taught (K : PySem.W.Frag) (P : Program) (w : World) : TS :=
    (tSeq (tAsg (tSl (rSlU K) (tVar 2) (tPart (tC (.int 1))) tNoPart) (gTup K 2 (gCons (gName 3) (gCons (gName 4) gNil))))
    (tSeq (tAsg (tOp (rIxU K P w) (tVar 1) (tVar 3)) (gName 5))
    (tSeq (tAsg (tCB rMin (tCons (tOp (rIxU K P w) (tOp (rIxU K P w) (tOp (rIxU K P w) (tVar 0) (tC (.int 1))) (tVar 4)) (tC (.int 2))) (tCons (tOp (rAddU K) (tOp (rIxU K P w) (tVar 5) (tVar 4)) (tC (.int 1))) tNil))) (gName 6))
    (tSeq (tAsg (tOp (rAddU K) (tOp (rAddU K) (tSl (rSlU K) (tVar 5) tNoPart (tPart (tVar 4))) (tTup (tCons (tVar 6) tNil))) (tSl (rSlU K) (tVar 5) (tPart (tOp (rAddU K) (tVar 4) (tC (.int 1)))) tNoPart)) (gName 7))
    (tRet (tOp (rAddU K) (tOp (rAddU K) (tSl (rSlU K) (tVar 1) tNoPart (tPart (tVar 3))) (tTup (tCons (tVar 7) tNil))) (tSl (rSlU K) (tVar 1) (tPart (tOp (rAddU K) (tVar 3) (tC (.int 1)))) tNoPart)))))))
theorem ws_taught : WSok K P w (rd_taught K P w) 8 W_taught := by
  rintro cs Po ⟨h, s, m, hh, hs, hm, rfl, p⟩
  have h4 := hm.thing
  have h3 := hh.many
  have hf := hh.folk
  have hsl := hs.len
  obtain ⟨hr1, hr2⟩ := hs.rowAt hm.other
  have hrl := hr2.1
  have ho := hm.other
  unfold rd_taught
  walk_at "pl"
  rw [show cutA [PyData.int (m.one : Nat), .int (m.other : Nat), .int (m.thing : Nat)] (some 1) none = [.int (m.other : Nat), .int (m.thing : Nat)] from rfl]
  walk_at "pl"
  refine wu_ixT (atI_map hr1) ?_
  walk_at "pl"
  refine wu_ixT (atI_map (lore_at hm.thing)) ?_
  walk_at "pl"
  refine wu_ixT (atI_map (hs.at hm.other hm.thing).1) ?_
  walk_at "pl"
  refine ⟨_, rfl, by simp, ?_⟩
  have cl1 := cut_len ((s.getD m.other []).map PyData.int) none (some (m.thing : Int))
  have cl2 := cut_len ((s.getD m.other []).map PyData.int) (some ((m.thing : Int) + 1)) none
  rw [List.length_map] at cl1 cl2
  refine wu_catT (by simp only [List.length_append, List.length_cons, List.length_nil]; omega) ?_
  walk_at "pl"
  refine wu_catT (by simp only [List.length_append, List.length_cons, List.length_nil]; omega) ?_
  rw [cut_set (by rw [List.length_map]; omega)]
  walk_at "pl"
  refine ⟨_, rfl, by simp, ?_⟩
  have cl3 := cut_len (s.map encRow) none (some (m.other : Int))
  have cl4 := cut_len (s.map encRow) (some ((m.other : Int) + 1)) none
  rw [List.length_map] at cl3 cl4
  refine wu_catT (by simp only [List.length_append, List.length_cons, List.length_nil]; omega) ?_
  walk_at "pl"
  refine wu_catT (by simp only [List.length_append, List.length_cons, List.length_nil]; omega) ?_
  rw [cut_set (by rw [List.length_map]; omega)]
  refine ⟨⟨trivial, trivial, trivial, trivial⟩, ?_⟩
  have e : encStand (taught h s m) = .tuple ((s.map encRow).set m.other (.tuple (((s.getD m.other []).map PyData.int).set m.thing (.int (min (h.lore m.thing).cap (at2 s m.other m.thing + 1)))))) := by
    unfold taught
    show PyData.tuple _ = _
    rw [← List.map_set, List.map_set]
  rw [← e]
  exact p _
/-- the dict of what was used -/
def UsedOk (kvs : List (NestedKey × DD)) (u : Used) : Prop := ∀ i j : Nat, hasD kvs (kk i j) = decide ((i, j) ∈ u)
theorem UsedOk.put {kvs : List (NestedKey × DD)} {u : Used} (h : UsedOk kvs u) (i j : Nat) (d : DD) : UsedOk (putD kvs (kk i j) d) (u ++ [(i, j)]) := fun i' j' => by
  rw [hasD_put, h i' j']
  by_cases q : (i, j) = (i', j')
  · cases q
    simp
  · have : kk i j ≠ kk i' j' := fun z => q (by obtain ⟨a, b⟩ := kk_inj z; rw [a, b])
    rw [decide_eq_false this, Bool.or_false]
    simp only [List.mem_append, List.mem_singleton]
    have q2 : ¬ (i', j') = (i, j) := fun z => q z.symm
    simp [q2]
def W_behind : PW := fun cs Po => ∃ (h : Hall) (s : Stand) (b : Beat), HallOk h ∧ StandOk h s ∧ BeatOk h b ∧ cs = [.d (encHall h), .d (encStand s), .d (encBeat b)] ∧ ∀ e, Po (.c (.d (encStand (behind h s b)))) e
/-- behind -/
def rd_behind (K : PySem.W.Frag) (P : Program) (w : World) : TS :=
    (tSeq (tAsg (tDNewN P w) (gName 3))
    (tSeq (tFor (iSeqU K (tVar 2)) (gName 4)
    (tIfS (tB (tCall (spW K P w W_is_lesson) [] E0 (tCons (tVar 0) (tCons (tVar 1) (tCons (tVar 4) tNil))))) (tSeq (tAsg (tCall (spW K P w W_taught) [] E0 (tCons (tVar 0) (tCons (tVar 1) (tCons (tVar 4) tNil)))) (gName 1))
    (tSeq (tAsg (tC (.bl true)) (gSub (tVar 3) (tTup (tCons (tOp (rIxU K P w) (tVar 4) (tC (.int 0))) (tCons (tOp (rIxU K P w) (tVar 4) (tC (.int 2))) tNil))) (tSetU K P w)))
    (tAsg (tC (.bl true)) (gSub (tVar 3) (tTup (tCons (tOp (rIxU K P w) (tVar 4) (tC (.int 1))) (tCons (tOp (rIxU K P w) (tVar 4) (tC (.int 2))) tNil))) (tSetU K P w))))) tNext))
    (tSeq (tAsg (tLst tNil) (gName 5))
    (tSeq (tFor (iEnumA K (tCons (tVar 1) tNil)) (gTup K 2 (gCons (gName 6) (gCons (gName 7) gNil)))
    (tSeq (tAsg (tLst tNil) (gName 8))
    (tSeq (tFor (iEnumA K (tCons (tVar 7) tNil)) (gTup K 2 (gCons (gName 9) (gCons (gName 10) gNil)))
    (tDrop (tBM K "list" rAppend (tVar 8) (tCons (tIf (tTest (tOp (rInU K P w) (tTup (tCons (tVar 6) (tCons (tVar 9) tNil))) (tVar 3))) (tVar 10) (tCB rMax (tCons (tC (.int 0)) (tCons (tOp (rI0 fun i j => .int (i - j)) (tVar 10) (tOp (rIxU K P w) (tOp (rIxU K P w) (tOp (rIxU K P w) (tVar 0) (tC (.int 1))) (tVar 9)) (tC (.int 3)))) tNil)))) tNil))))
    (tDrop (tBM K "list" rAppend (tVar 5) (tCons (tCB (rTupleOf K) (tCons (tVar 8) tNil)) tNil))))))
    (tRet (tCB (rTupleOf K) (tCons (tVar 5) tNil)))))))
theorem ws_behind : WSok K P w (rd_behind K P w) 11 W_behind := by
  rintro cs Po ⟨h, s, b, hh, hs, hb, rfl, p⟩
  have hf := hh.folk
  have hm := hh.many
  have hbl := hb.len
  have tk : ∀ (k : Nat) (m : Meet), b[k]? = some m → run h s (b.take (k + 1)) = turn h (run h s (b.take k)) m := fun k m hk => by
    unfold MA.run
    rw [List.take_succ, List.foldl_append, hk]
    rfl
  have tok : ∀ k, StandOk h (run h s (b.take k)).1 := fun k => run_ok hh hs fun m hm => hb.all m (List.mem_of_mem_take hm)
  unfold rd_behind
  walk_at "pl"
  refine we_dnew fun a3 => ?_
  walk_at "pl"
  refine ws_for (wu_seqT ?_)
  walk_at "pl"
  refine ⟨_, rfl, fun k e => ∃ a3 kvs c, e = [.d (encHall h), .d (encStand (run h s (b.take k)).1), .d (encBeat b), .m a3 kvs, c, .no, .no, .no, .no, .no, .no] ∧ UsedOk kvs (run h s (b.take k)).2 ∧ kvs.length ≤ 2 * k ∧ c.own = none, ⟨a3, [], .no, rfl, (fun i j => rfl), Nat.le_refl _, rfl⟩, fun k x e hx => ?_, fun e => ?_⟩
  · rintro ⟨a3, kvs, c, rfl, hu, hz, hc⟩
    obtain ⟨m, hm', rfl⟩ := get_map hx
    have hmk := hb.all m (List.mem_of_getElem? hm')
    have hkl := (List.getElem?_eq_some_iff.mp hm').1
    dsimp only
    rw [tk k m hm']
    generalize hp : run h s (b.take k) = p0 at *
    have hs0 : StandOk h p0.1 := by have := tok k; rw [hp] at this; exact this
    walk_at "pl"
    refine ⟨_, rfl, h, p0.1, m, hh, hs0, hmk, rfl, fun _ => ⟨_, rfl, fun hl => ?_, fun hl => ?_⟩⟩
    · walk_at "pl"
      refine ⟨_, rfl, h, p0.1, m, hh, hs0, hmk, rfl, fun _ => ?_⟩
      walk_at "pl"
      refine wg_set ?_
      walk_at "pl"
      refine ⟨_, rfl, ?_⟩
      walk_at "pl"
      refine ⟨_, rfl, by simp, .inr ⟨kk m.one m.thing, _, 3, kvs, rfl, rfl, kk_depth _ _, rfl, by omega, ?_⟩⟩
      walk_at "pl"
      refine wg_set ?_
      walk_at "pl"
      refine ⟨_, rfl, ?_⟩
      walk_at "pl"
      have l1 := putD_len kvs (kk m.one m.thing) (.bool true)
      have l2 := putD_len (putD kvs (kk m.one m.thing) (.bool true)) (kk m.other m.thing) (.bool true)
      refine ⟨_, rfl, by simp, .inr ⟨kk m.other m.thing, _, 3, putD kvs (kk m.one m.thing) (.bool true), rfl, rfl, kk_depth _ _, rfl, by omega, ?_⟩⟩
      unfold turn
      rw [if_pos hl]
      refine ⟨a3, _, _, rfl, ?_, by omega, rfl⟩
      have := (hu.put m.one m.thing (.bool true)).put m.other m.thing (.bool true)
      rw [List.append_assoc] at this
      exact this
    · refine ws_nx ?_
      unfold turn
      rw [if_neg (by rw [hl]; decide)]
      exact ⟨a3, kvs, _, rfl, hu, by omega, rfl⟩
  · rintro ⟨a3, kvs, c, rfl, hu, hz, hc⟩
    rw [List.length_map, List.take_length] at *
    unfold behind at p
    have hs0 : StandOk h (run h s b).1 := run_ok hh hs hb.all
    generalize hp : run h s b = p0 at *
    have hsl := hs0.len
    have wl : (wane h p0.2 p0.1).length = h.folk := by rw [wane_len, hsl]
    walk_at "pl"
    refine we_lstU ?_
    walk_at "pl"
    refine ⟨_, rfl, by simp, fun a5 => ?_⟩
    walk_at "pl"
    refine ws_for (wi_enumT ?_)
    walk_at "pl"
    refine ⟨_, rfl, fun k e => ∃ a5 c6 c7 c8 c9 c10, e = [.d (encHall h), .d (encStand p0.1), .d (encBeat b), .m a3 kvs, c, .l a5 (((wane h p0.2 p0.1).take k).map encRow), c6, c7, c8, c9, c10] ∧ c6.own = none ∧ c7.own = none ∧ c9.own = none ∧ c10.own = none, ⟨a5, .no, .no, .no, .no, .no, rfl, rfl, rfl, rfl, rfl⟩, fun k x e hx => ?_, fun e => ?_⟩
    · rintro ⟨a5, c6, c7, c8, c9, c10, rfl, h6, h7, h9, h10⟩
      obtain ⟨d, hd, rfl⟩ := enumD_at hx
      obtain ⟨r, hr, rfl⟩ := get_map hd
      have hrow := hs0.row r (List.mem_of_getElem? hr)
      have hkl := (List.getElem?_eq_some_iff.mp hr).1
      have hwk : (wane h p0.2 p0.1)[k]? = some (waneR h p0.2 k r) := by rw [wane_at, hr]; rfl
      walk_at "pl"
      refine we_lstU ?_
      walk_at "pl"
      refine ⟨_, rfl, by simp, fun a8 => ?_⟩
      walk_at "pl"
      refine ws_for (wi_enumT ?_)
      walk_at "pl"
      refine ⟨_, rfl, fun j e => ∃ a8 c9 c10, e = [.d (encHall h), .d (encStand p0.1), .d (encBeat b), .m a3 kvs, c, .l a5 (((wane h p0.2 p0.1).take k).map encRow), .d (.int (k : Nat)), .d (encRow r), .l a8 (((waneR h p0.2 k r).take j).map .int), c9, c10] ∧ c9.own = none ∧ c10.own = none, ⟨a8, _, _, rfl, h9, h10⟩, fun j x e hx => ?_, fun e => ?_⟩
      · rintro ⟨a8, c9, c10, rfl, h9, h10⟩
        obtain ⟨d, hd, rfl⟩ := enumD_at hx
        obtain ⟨y, hy, rfl⟩ := get_map hd
        have hjl := (List.getElem?_eq_some_iff.mp hy).1
        have hj3 : j < h.things.length := by rw [← hrow.1]; exact hjl
        have hwj : (waneR h p0.2 k r)[j]? = some (wane1 h p0.2 k j y) := by rw [waneR_at, hy]; rfl
        walk_at "pl"
        refine ⟨_, rfl, by simp, ?_⟩
        walk_at "pl"
        refine wu_dIn (k := kk k j) 3 rfl rfl (kk_depth _ _) ⟨_, rfl, fun hq => ?_, fun hq => ?_⟩
        · rw [hu k j] at hq
          walk_at "pl"
          refine ⟨_, _, rfl, rfl, ?_, a8, .d (.int (j : Nat)), .d (.int y), ?_, rfl, rfl⟩
          · rw [List.length_map, List.length_take, waneR_len, hrow.1]; omega
          · rw [List.take_succ, hwj, List.map_append]
            unfold wane1
            rw [if_pos (of_decide_eq_true hq)]
            rfl
        · rw [hu k j] at hq
          walk_at "pl"
          refine wu_ixT (atI_map (lore_at hj3)) ?_
          walk_at "pl"
          refine ⟨_, _, rfl, rfl, ?_, a8, .d (.int (j : Nat)), .d (.int y), ?_, rfl, rfl⟩
          · rw [List.length_map, List.length_take, waneR_len, hrow.1]; omega
          · rw [List.take_succ, hwj, List.map_append]
            unfold wane1
            rw [if_neg (of_decide_eq_false hq)]
            rfl
      · rintro ⟨a8, c9, c10, rfl, h9, h10⟩
        dsimp only
        rw [enumD_len, List.length_map, List.take_of_length_le (l := waneR h p0.2 k r) (by rw [waneR_len]; exact Nat.le_refl _)]
        walk_at "pl"
        refine wk_tuple (.inr (.inr ⟨_, 8, rfl, rfl⟩)) ?_
        refine ⟨_, _, rfl, rfl, ?_, a5, .d (.int (k : Nat)), .d (encRow r), .l a8 ((waneR h p0.2 k r).map .int), c9, c10, ?_, rfl, rfl, h9, h10⟩
        · rw [List.length_map, List.length_take, wl]; omega
        · rw [List.take_succ, hwk, List.map_append]
          rfl
    · rintro ⟨a5, c6, c7, c8, c9, c10, rfl, h6, h7, h9, h10⟩
      dsimp only
      rw [enumD_len, List.length_map, List.take_of_length_le (by rw [wane_len]; exact Nat.le_refl _)]
      walk_at "pl"
      refine wk_tuple (.inr (.inr ⟨_, 5, rfl, rfl⟩)) ?_
      exact ⟨⟨trivial, trivial, trivial, trivial⟩, p _⟩
def W_by_beat : PW := fun cs Po => ∃ (h : Hall) (s : Stand) (b : Beat), HallOk h ∧ StandOk h s ∧ BeatOk h b ∧ cs = [.d (encHall h), .d (encStand s), .d (encBeat b)] ∧ ∀ e, Po (.c (.d (encStand (behind h s b)))) e
/-- by_beat -/
def rd_by_beat (K : PySem.W.Frag) (P : Program) (w : World) : TS :=
    (tSeq (tDrop (tCall (spW K P w W_need_hall) [] E0 (tCons (tVar 0) tNil)))
    (tSeq (tDrop (tCall (spW K P w W_need_stand) [] E0 (tCons (tVar 0) (tCons (tVar 1) tNil))))
    (tSeq (tDrop (tCall (spW K P w W_need_beat) [] E0 (tCons (tVar 0) (tCons (tVar 2) tNil))))
    (tRet (tCall (spW K P w W_behind) [] E0 (tCons (tVar 0) (tCons (tVar 1) (tCons (tVar 2) tNil))))))))
theorem ws_by_beat : WSok K P w (rd_by_beat K P w) 3 W_by_beat := by
  rintro cs Po ⟨h, s, b, hh, hs, hb, rfl, p⟩
  unfold rd_by_beat
  walk_at "pl"
  refine ⟨_, rfl, h, hh, rfl, fun _ => ?_⟩
  walk_at "pl"
  refine ⟨_, rfl, h, s, hh, hs, rfl, fun _ => ?_⟩
  walk_at "pl"
  refine ⟨_, rfl, h, b, hh, hb, rfl, fun _ => ?_⟩
  walk_at "pl"
  refine ⟨_, rfl, h, s, b, hh, hs, hb, rfl, fun _ => ?_⟩
  exact ⟨⟨trivial, trivial, trivial, trivial⟩, p _⟩
end
end PL

/-! Comprehensions with two fors; lists that grow by comprehensions; all stands, all orders. -/
namespace PL
open PySem PySem.Spec PyProof.Rows L2 RZ MA
section
variable {K : PySem.W.Frag} {P : Program} {w : World}
theorem flat_succ {α : Type} {F : Nat → List α} {k : Nat} : (List.range (k + 1)).flatMap F = (List.range k).flatMap F ++ F k := by
  rw [List.range_succ, List.flatMap_append]
  simp
theorem flat_len {α : Type} {F : Nat → List α} {N : Nat} : ∀ (k : Nat), (∀ i, i < k → (F i).length ≤ N) → ((List.range k).flatMap F).length ≤ k * N
  | 0, _ => by simp
  | k + 1, h => by
    rw [flat_succ, List.length_append, Nat.succ_mul]
    exact Nat.add_le_add (flat_len k fun i hi => h i (by omega)) (h k (by omega))
theorem flat_range {α β : Type} {F : α → List β} (xs : List α) (d : α) : ((List.range xs.length).flatMap fun k => F (xs.getD k d)) = xs.flatMap F := by
  conv => rhs; rw [← map_range_getD xs d]
  rw [List.flatMap_map]
theorem map_range {α β : Type} {f : α → β} (xs : List α) (d : α) : ((List.range xs.length).map fun k => f (xs.getD k d)) = xs.map f := by
  conv => rhs; rw [← map_range_getD xs d]
  rw [List.map_map]; rfl
theorem flat_map_map {α β γ : Type} (f : β → γ) (xs : List α) (F : α → List β) : (xs.flatMap F).map f = xs.flatMap fun x => (F x).map f := List.map_flatMap
theorem we_lc2F {wi wi1 : TI} {g g1 : TG} {te : TE} {vs vs1 : List Nat} {env : List C} {Po : R → List C → Prop} (hg : GIn vs g) (hg1 : GIn vs1 g1) (hs1 : ∀ i ∈ vs1, i ∈ vs)
    (h : WI K P w wi env fun items e1 => (∀ i ∈ vs, (e1.getD i .no).own = none) ∧ ∃ (N : Nat) (n : Nat → Nat) (f : Nat → Nat → DD), items.length * N ≤ 10000000 ∧
      (∀ k x, items[k]? = some x → n k ≤ N ∧ WG K P w g (.c (.d x)) (wipeE e1 vs) fun e2 => WI K P w wi1 e2 fun items1 e4 => items1.length = n k ∧ wipeE (wipeE e4 vs1) vs = wipeE e1 vs ∧
        ∀ j y, items1[j]? = some y → WG K P w g1 (.c (.d y)) (wipeE e4 vs1) fun e5 => WE K P w te e5 fun r e7 => r = .c (.d (f k j)) ∧ wipeE e7 vs1 = wipeE e4 vs1) ∧
      ∀ a, Po (.c (.l a ((List.range items.length).flatMap fun k => (List.range (n k)).map (f k)))) (restE e1 (wipeE e1 vs) vs)) : WE K P w (tLc2 wi g tYes wi1 g1 tYes te vs vs1) env Po :=
  we_lc2 hg hg1 hs1 fun σ G H rp Q o => h σ G H rp Q fun J items e1 G' H' ⟨hv, N, n, f, hN, h1, h2⟩ => o J items e1 G' H' ⟨hv, fun k acc e => acc = ((List.range k).flatMap fun k => (List.range (n k)).map (f k)) ∧ e = wipeE e1 vs, ⟨rfl, rfl⟩,
    fun k x acc e hx ⟨ea, ee⟩ => by
      subst ea ee
      intro σ G H v rp pd Q o
      obtain ⟨_, h1'⟩ := h1 k x hx
      have hk := (List.getElem?_eq_some_iff.mp hx).1
      refine h1' σ G H v rp pd Q fun e' σ' G' H' p st rp' => o e' σ' G' H' (wt_yes ⟨fun _ => ?_, fun z => nomatch z⟩) st rp'
      intro σ G H rp Q o
      refine p σ G H rp Q fun J items1 e4 G' H' ⟨hl, hw, h3⟩ => o J items1 e4 G' H' ⟨fun j acc' e' => acc' = ((List.range k).flatMap fun k => (List.range (n k)).map (f k)) ++ (List.range j).map (f k) ∧ e' = wipeE e4 vs1, ⟨by simp, rfl⟩, fun j y acc' e' hy ⟨ea, ee⟩ => ?_, fun acc' e' ⟨ea, ee⟩ => ?_⟩
      · subst ea ee
        have hj := (List.getElem?_eq_some_iff.mp hy).1
        intro σ G H v rp pd Q o
        refine h3 j y hy σ G H v rp pd Q fun e' σ' G' H' p st rp' => o e' σ' G' H' (wt_yes ⟨fun _ => ?_, fun z => nomatch z⟩) st rp'
        refine p.mono fun r e ⟨er, ew⟩ => ⟨f k j, er, ?_, ?_, ew⟩
        · have hb := flat_len (F := fun k => (List.range (n k)).map (f k)) (N := N) k fun i hi => by
            rw [List.length_map, List.length_range]
            exact (h1 i _ (List.getElem?_eq_getElem (by omega))).1
          have hb2 : n k ≤ N := (h1 k x hx).1
          rw [List.length_append, List.length_map, List.length_range]
          have : (k + 1) * N ≤ items.length * N := Nat.mul_le_mul_right _ hk
          rw [Nat.succ_mul] at this
          omega
        · rw [List.range_succ, List.map_append, ← List.append_assoc]; rfl
      · subst ea ee
        refine ⟨?_, hw⟩
        rw [hl, flat_succ],
    fun acc e a ⟨q1, q2⟩ => by subst q1 q2; exact h2 a⟩
end
/-! ### all stands -/
def rowStep (rows : List (List Int)) (c : Nat) : List (List Int) := rows.flatMap fun r => (List.range c).map fun (k : Nat) => r ++ [(k : Int)]
def capN (l : Lore) : Nat := (l.cap + 1).toNat
def rowsBy (ls : List Lore) : List (List Int) := ls.foldl (fun rows l => rowStep rows (capN l)) [[]]
def rowsOf (h : Hall) : List (List Int) := rowsBy h.things
def standStep (rows : List (List Int)) (found : List Stand) : List Stand := found.flatMap fun s => rows.map fun r => s ++ [r]
def standsBy (rows : List (List Int)) : Nat → List Stand
  | 0 => [[]]
  | n + 1 => standStep rows (standsBy rows n)
def standsOf (h : Hall) : List Stand := standsBy (rowsOf h) h.folk
theorem rowStep_len (rows : List (List Int)) (c : Nat) : (rowStep rows c).length = rows.length * c := by
  unfold rowStep
  induction rows with
  | nil => simp
  | cons r rs ih => rw [List.flatMap_cons, List.length_append, List.length_map, List.length_range, ih, List.length_cons, Nat.succ_mul]; omega
theorem standStep_len (rows : List (List Int)) (found : List Stand) : (standStep rows found).length = found.length * rows.length := by
  unfold standStep
  induction found with
  | nil => simp
  | cons r rs ih => rw [List.flatMap_cons, List.length_append, List.length_map, ih, List.length_cons, Nat.succ_mul]; omega
theorem standsBy_len (rows : List (List Int)) : ∀ n, (standsBy rows n).length = rows.length ^ n
  | 0 => rfl
  | n + 1 => by
    show (standStep rows (standsBy rows n)).length = _
    rw [standStep_len, standsBy_len rows n, Nat.pow_succ]
theorem rowsBy_succ (ls : List Lore) (l : Lore) : rowsBy (ls ++ [l]) = rowStep (rowsBy ls) (capN l) := by
  unfold rowsBy
  rw [List.foldl_append]; rfl
theorem take_succ_at {α : Type} {xs : List α} {k : Nat} {x : α} (h : xs[k]? = some x) : xs.take (k + 1) = xs.take k ++ [x] := by
  rw [List.take_succ, h]; rfl
/-- how many -/
def manyBy (n : Nat) (ls : List Lore) : Nat := (rowsBy ls).length ^ n
def manyOf (h : Hall) : Nat := manyBy h.folk h.things
theorem capN_le {l : Lore} {i : Nat} (hl : LoreOk l i) : 2 ≤ capN l ∧ capN l ≤ 4 ∧ ((capN l : Nat) : Int) = l.cap + 1 := by
  have := hl.cap
  unfold capN
  omega
theorem rowsBy_len {h : Hall} (hh : HallOk h) : ∀ k, 1 ≤ (rowsBy (h.things.take k)).length ∧ (rowsBy (h.things.take k)).length ≤ 4 ^ (min k h.things.length)
  | 0 => by simp [rowsBy]
  | k + 1 => by
    have ih := rowsBy_len hh k
    by_cases hk : k < h.things.length
    · have hx : h.things[k]? = some h.things[k] := List.getElem?_eq_getElem hk
      have hc := capN_le (hh.lore k _ hx)
      rw [take_succ_at hx, rowsBy_succ, rowStep_len]
      rw [Nat.min_eq_left (by omega), Nat.pow_succ]
      rw [Nat.min_eq_left (by omega)] at ih
      exact ⟨Nat.mul_pos ih.1 (by omega), Nat.mul_le_mul ih.2 hc.2.1⟩
    · rw [List.take_of_length_le (by omega)] at ih ⊢
      rw [Nat.min_eq_right (by omega)] at ih ⊢
      exact ih
/-! ### all orders -/
def perms {α : Type} : Nat → List α → List (List α)
  | _, [] => [[]]
  | 0, _ :: _ => []
  | n + 1, x :: b => (List.range (x :: b).length).flatMap fun i => (perms n ((x :: b).take i ++ (x :: b).drop (i + 1))).map fun r => (x :: b).getD i x :: r
def insAll {α : Type} (x : α) (o : List α) : List (List α) := (List.range (o.length + 1)).map fun i => o.take i ++ [x] ++ o.drop i
def orders {α : Type} (b : List α) : List (List α) := b.foldl (fun found x => found.flatMap (insAll x)) [[]]
end PL
namespace PL
open PySem PySem.Spec PyProof.Rows L2 RZ MA
theorem rowStep_enc (rows : List (List Int)) (c : Nat) : ((List.range (rows.map encRow).length).flatMap fun k => (List.range c).map fun (j : Nat) => encRow (rows.getD k [] ++ [(j : Int)])) = (rowStep rows c).map encRow := by
  rw [List.length_map, flat_range (F := fun r => (List.range c).map fun (j : Nat) => encRow (r ++ [(j : Int)])) rows []]
  unfold rowStep
  rw [List.map_flatMap]
  simp only [List.map_map]
  rfl
theorem standStep_enc (rows : List (List Int)) (found : List Stand) : ((List.range (found.map encStand).length).flatMap fun k => (List.range (rows.map encRow).length).map fun (j : Nat) => encStand (found.getD k [] ++ [rows.getD j []])) = (standStep rows found).map encStand := by
  rw [List.length_map, List.length_map, flat_range (F := fun s => (List.range rows.length).map fun (j : Nat) => encStand (s ++ [rows.getD j []])) found []]
  unfold standStep
  rw [List.map_flatMap]
  simp only [List.map_map]
  congr
  funext s
  exact map_range (f := fun r => encStand (s ++ [r])) rows []
theorem getD_of {α : Type} {xs : List α} {k : Nat} {x d : α} (h : xs[k]? = some x) : xs.getD k d = x := by rw [List.getD_eq_getElem?_getD, h]; rfl
theorem getD_get {α : Type} {xs : List α} {k : Nat} {x : α} (d : α) (h : xs[k]? = some x) : xs.getD k d = x := getD_of h
theorem manyBy_succ {h : Hall} (n : Nat) {k : Nat} {l : Lore} (hk : h.things[k]? = some l) : manyBy n (h.things.take (k + 1)) = manyBy n (h.things.take k) * capN l ^ n := by
  unfold manyBy
  rw [take_succ_at hk, rowsBy_succ, rowStep_len, Nat.mul_pow]
end PL
namespace PL
open PySem PySem.Spec PyProof.Rows L2 RZ MA
theorem rowsBy_mem {h : Hall} (hh : HallOk h) : ∀ k, k ≤ h.things.length → ∀ r ∈ rowsBy (h.things.take k), r.length = k ∧ ∀ (j : Nat) (x : Int) (l : Lore), r[j]? = some x → h.things[j]? = some l → 0 ≤ x ∧ x ≤ l.cap
  | 0, _, r, hr => by
    rw [List.take_zero] at hr
    have : r = [] := by simpa [rowsBy] using hr
    subst this
    exact ⟨rfl, fun j x l hx => by simp at hx⟩
  | k + 1, hk, r, hr => by
    have hl : h.things[k]? = some h.things[k] := List.getElem?_eq_getElem (by omega)
    have hcap := capN_le (hh.lore k _ hl)
    rw [take_succ_at hl, rowsBy_succ] at hr
    obtain ⟨r0, h0, h1⟩ := List.mem_flatMap.mp hr
    obtain ⟨v, hv, e⟩ := List.mem_map.mp h1
    subst e
    obtain ⟨l0, b0⟩ := rowsBy_mem hh k (by omega) r0 h0
    rw [List.mem_range] at hv
    refine ⟨by rw [List.length_append, l0]; rfl, fun j x l hx hl' => ?_⟩
    by_cases q : j < r0.length
    · rw [List.getElem?_append_left q] at hx
      exact b0 j x l hx hl'
    · rw [List.getElem?_append_right (by omega)] at hx
      have e0 : j - r0.length = 0 := by
        rcases Nat.eq_zero_or_pos (j - r0.length) with z | z
        · exact z
        · rw [List.getElem?_eq_none (by simp; omega)] at hx; cases hx
      rw [e0] at hx
      simp only [List.getElem?_cons_zero, Option.some.injEq] at hx
      have ej : j = k := by omega
      subst ej
      rw [hl] at hl'
      cases hl'
      omega
theorem rowsOf_ok {h : Hall} (hh : HallOk h) {r : List Int} (hr : r ∈ rowsOf h) : RowOk h r := by
  unfold rowsOf at hr
  rw [← List.take_length (l := h.things)] at hr
  exact rowsBy_mem hh _ (Nat.le_refl _) r hr
theorem standsBy_mem {rows : List (List Int)} : ∀ n, ∀ s ∈ standsBy rows n, s.length = n ∧ ∀ r ∈ s, r ∈ rows
  | 0, s, hs => by
    have : s = [] := by simpa [standsBy] using hs
    subst this
    exact ⟨rfl, fun r hr => by cases hr⟩
  | n + 1, s, hs => by
    obtain ⟨s0, h0, h1⟩ := List.mem_flatMap.mp hs
    obtain ⟨r, hr, e⟩ := List.mem_map.mp h1
    subst e
    obtain ⟨l0, b0⟩ := standsBy_mem n s0 h0
    refine ⟨by rw [List.length_append, l0]; rfl, fun r' hr' => ?_⟩
    rcases List.mem_append.mp hr' with z | z
    · exact b0 r' z
    · rw [List.mem_singleton.mp z]; exact hr
theorem standsOf_ok {h : Hall} (hh : HallOk h) {s : Stand} (hs : s ∈ standsOf h) : StandOk h s := by
  obtain ⟨a, b⟩ := standsBy_mem _ s hs
  exact ⟨a, fun r hr => rowsOf_ok hh (b r hr)⟩
end PL
namespace PL
theorem flat_congr {α : Type} {F G : Nat → List α} : ∀ (n : Nat), (∀ i, i < n → F i = G i) → (List.range n).flatMap F = (List.range n).flatMap G
  | 0, _ => rfl
  | n + 1, h => by rw [flat_succ, flat_succ, flat_congr n fun i hi => h i (by omega), h n (by omega)]
end PL

/-! All stands, all orders. -/
namespace PL
open PySem PySem.Spec PyProof.Rows L2 RZ MA
local macro_rules | `(tactic| walk_at "pl1") => `(tactic| first | with_reducible refine ws_seq ?_ | with_reducible refine ws_ret ?_ | with_reducible refine ws_asg ?_ | with_reducible refine ws_dropC ?_ | ((with_reducible refine ws_app (a := ?a1) (xs := ?x1) ?h1 ?_); (case h1 => rfl)) | with_reducible refine ws_if ?_ | ((with_reducible refine we_d (x := ?x1) ?h1 ?_); (case h1 => rfl)) | ((with_reducible refine we_own (c := ?c1) (a := ?a1) ?h1 ?h2 ?_); (case h1 => rfl); (case h2 => rfl)) | ((fail_if_success (with_reducible refine we_all ?_ ?_)); with_reducible refine we_cb ?_) | with_reducible refine wa_cons ?_ | with_reducible refine wa_nil ?_ | with_reducible refine we_int ?_ | with_reducible refine we_bl ?_ | with_reducible refine we_non ?_ | with_reducible refine we_str ?_ | with_reducible refine we_cv ?_ | with_reducible refine we_op ?_ | with_reducible refine we_un ?_ | with_reducible refine we_andV ?_ | with_reducible refine we_orV ?_ | with_reducible refine we_notV ?_ | with_reducible refine we_chain ?_ | with_reducible refine we_tupU ?_ | with_reducible refine we_if ?_ | with_reducible refine wt_test ?_ | with_reducible refine wt_B ?_ | with_reducible refine wt_and ?_ | with_reducible refine wt_or ?_ | with_reducible refine wt_not ?_ | with_reducible refine we_sl ?_ | with_reducible refine wo_none ?_ | with_reducible refine wo_intC ?_ | ((with_reducible refine wo_var (i := ?i1) ?h1 ?_); (case h1 => rfl)) | ((with_reducible refine wo_suc (i := ?i1) ?h1 ?_); (case h1 => rfl)) | ((fail_if_success ((with_reducible refine we_callP (wa_cons (we_own (c := ?c1) (a := ?a1) ?h1 ?h2 ?_))); (case h1 => rfl); (case h2 => rfl))); with_reducible refine we_callP ?_) | with_reducible refine w2_bl ?_ | with_reducible refine w2_int ?_ | with_reducible refine wu_add ?_ | ((with_reducible refine wu_ixT (d := ?d1) ?h1 ?_); (case h1 => rfl)) | ((with_reducible refine wu_ixL (a := R.own ?a1) (xs := ?x1) (d := ?d1) ?h0 ?h1 ?_); (case h0 => (refine .inr (.inr ⟨_, 0, rfl, ?_⟩); rfl)); (case h1 => rfl)) | with_reducible refine wu_slT ?_ | with_reducible refine wk_lenT ?_ | with_reducible refine wk_min ?_ | with_reducible refine wk_max ?_ | with_reducible refine wg_name ?_ | with_reducible refine wgs_nil ?_ | with_reducible refine wgs_consD ?_ | with_reducible refine wgs_nilD ?_ | with_reducible refine wgs_cons ?_ | ((with_reducible refine wg_tup ?h1 ?_); (case h1 => rfl)))
local macro_rules | `(tactic| walk_at "pl") => `(tactic| repeat (walk_at "pl1"))
local macro_rules | `(tactic| walk_at "fin") => `(tactic| repeat' (first | exact trivial | refine And.intro ?_ ?_))
section
variable {K : PySem.W.Frag} {P : Program} {w : World}
def W_all_stands : PW := fun cs Po => ∃ (h : Hall), HallOk h ∧ manyOf h ≤ 2000 ∧ cs = [.d (encHall h)] ∧ ∀ e, Po (.c (.d (.list ((standsOf h).map encStand)))) e
/-- all_stands -/
def rd_all_stands (K : PySem.W.Frag) (P : Program) (w : World) : TS :=
    (tSeq (tAsg (tC (.int 1)) (gName 1))
    (tSeq (tFor (iSeqU K (tOp (rIxU K P w) (tVar 0) (tC (.int 1)))) (gName 2)
    (tFor (iRng1 (tCons (tOp (rIxU K P w) (tVar 0) (tC (.int 0))) tNil)) (gName 3)
    (tAug 1 (tOp (rAddU K) (tOp (rIxU K P w) (tVar 2) (tC (.int 2))) (tC (.int 1))) (rI CMul fun i j => .int (i * j)))))
    (tSeq (tIfS (tTest (tOp (rI0 fun i j => .bl (decide (j < i))) (tVar 1) (tC (.int 2000)))) tNever tNext)
    (tSeq (tAsg (tLst (tCons (tTup tNil) tNil)) (gName 4))
    (tSeq (tFor (iSeqU K (tOp (rIxU K P w) (tVar 0) (tC (.int 1)))) (gName 2)
    (tAsg (tLc2 (iSeqU K (tVar 4)) (gName 5) tYes (iRng1 (tCons (tOp (rAddU K) (tOp (rIxU K P w) (tVar 2) (tC (.int 2))) (tC (.int 1))) tNil)) (gName 6) tYes (tOp (rAddU K) (tVar 5) (tTup (tCons (tVar 6) tNil))) [5, 6] [6]) (gName 4)))
    (tSeq (tAsg (tLst (tCons (tTup tNil) tNil)) (gName 7))
    (tSeq (tFor (iRng1 (tCons (tOp (rIxU K P w) (tVar 0) (tC (.int 0))) tNil)) (gName 3)
    (tAsg (tLc2 (iSeqU K (tVar 7)) (gName 8) tYes (iSeqU K (tVar 4)) (gName 5) tYes (tOp (rAddU K) (tVar 8) (tTup (tCons (tVar 5) tNil))) [8, 5] [5]) (gName 7)))
    (tRet (tVar 7)))))))))
theorem ws_all_stands : WSok K P w (rd_all_stands K P w) 9 W_all_stands := by
  rintro cs Po ⟨h, hh, hmany, rfl, p⟩
  have hf := hh.folk
  have hm := hh.many
  unfold rd_all_stands
  walk_at "pl"
  refine ws_for (wu_seqT ?_)
  walk_at "pl"
  refine ⟨_, rfl, fun k e => ∃ c2 c3, e = [.d (encHall h), .d (.int (manyBy h.folk (h.things.take k) : Nat)), c2, c3, .no, .no, .no, .no, .no] ∧ c2.own = none ∧ c3.own = none, ⟨.no, .no, by unfold manyBy rowsBy; rw [List.take_zero]; show _ = [C.d (encHall h), C.d (.int ((1 ^ h.folk : Nat) : Int)), _, _, _, _, _, _, _]; rw [Nat.one_pow]; rfl, rfl, rfl⟩, fun k x e hx => ?_, fun e => ?_⟩
  · rintro ⟨c2, c3, rfl, h2, h3⟩
    obtain ⟨l, hl, rfl⟩ := get_map hx
    have hcap := capN_le (hh.lore k l hl)
    dsimp only
    rw [manyBy_succ h.folk hl]
    walk_at "pl"
    refine ws_for (wi_range1 ?_)
    walk_at "pl"
    refine ⟨_, rfl, by omega, by omega, fun t e => ∃ c3, e = [.d (encHall h), .d (.int ((manyBy h.folk (h.things.take k) * capN l ^ t : Nat) : Int)), .d (encLore l), c3, .no, .no, .no, .no, .no] ∧ c3.own = none, ⟨c3, by rw [Nat.pow_zero, Nat.mul_one]; rfl, h3⟩, fun t x e hx => ?_, fun e => ?_⟩
    · rintro ⟨c3, rfl, h3⟩
      obtain ⟨t', ht, rfl⟩ := get_map hx
      walk_at "pl"
      refine ws_aug (x := .int ((manyBy h.folk (h.things.take k) * capN l ^ t : Nat) : Int)) rfl ?_
      walk_at "pl"
      refine w2_intC (.inr ⟨by omega, by omega⟩) ⟨_, rfl, .d (.int (t' : Nat)), ?_, rfl⟩
      rw [Nat.pow_succ, ← Nat.mul_assoc, ← hcap.2.2, Int.natCast_mul]
      rfl
    · rintro ⟨c3, rfl, h3⟩
      refine ⟨.d (encLore l), c3, ?_, rfl, h3⟩
      rw [List.length_map, List.length_range]
      rfl
  · rintro ⟨c2, c3, rfl, h2, h3⟩
    dsimp only
    rw [List.length_map, List.take_length]
    have hM : manyBy h.folk h.things = manyOf h := rfl
    rw [hM]
    walk_at "pl"
    refine ⟨_, rfl, (fun hq => ?_), fun _ => ws_nx ?_⟩
    · have := of_decide_eq_true hq
      omega
    walk_at "pl"
    refine we_frz (we_lstU ?_)
    walk_at "pl"
    refine ⟨_, rfl, by simp, ?_⟩
    walk_at "pl"
    refine ⟨_, rfl, by simp, fun a => ⟨a, _, rfl, ?_⟩⟩
    walk_at "pl"
    refine ws_for (wu_seqT ?_)
    walk_at "pl"
    refine ⟨_, rfl, fun k e => ∃ c2, e = [.d (encHall h), .d (.int (manyOf h : Nat)), c2, c3, .d (.list ((rowsBy (h.things.take k)).map encRow)), .no, .no, .no, .no] ∧ c2.own = none, ⟨c2, rfl, h2⟩, fun k x e hx => ?_, fun e => ?_⟩
    · rintro ⟨c2, rfl, h2⟩
      obtain ⟨l, hl, rfl⟩ := get_map hx
      have hcap := capN_le (hh.lore k l hl)
      have hk := (List.getElem?_eq_some_iff.mp hl).1
      have hR := (rowsBy_len hh k).2
      rw [Nat.min_eq_left (by omega)] at hR
      have hR2 : 4 ^ k ≤ 4 ^ 3 := Nat.pow_le_pow_right (by omega) (by omega)
      dsimp only
      rw [take_succ_at hl, rowsBy_succ]
      have ⟨k0, ek0⟩ : ∃ k0, k0 = k := ⟨k, rfl⟩
      have hrw0 : rowsBy (h.things.take k0) = rowsBy (h.things.take k) := by rw [ek0]
      generalize hrw1 : rowsBy (h.things.take k) = rows at *
      have hrw := hrw0
      walk_at "pl"
      refine we_frz (we_lc2F (gin_name (by decide)) (gin_name (by decide)) (by decide) (wu_seqL ?_))
      walk_at "pl"
      refine ⟨_, rfl, own2 rfl rfl, 4, fun _ => capN l, fun k j => encRow (rows.getD k [] ++ [(j : Int)]), by rw [List.length_map]; omega, fun k x hx => ⟨hcap.2.1, ?_⟩, fun a => ?_⟩
      · obtain ⟨r, hr, rfl⟩ := get_map hx
        walk_at "pl"
        refine wi_range1 ?_
        walk_at "pl"
        refine ⟨_, rfl, by omega, by omega, by rw [List.length_map, List.length_range]; rfl, rfl, fun j y hy => ?_⟩
        obtain ⟨j', hj, rfl⟩ := get_map hy
        obtain ⟨hj1, hj2⟩ := List.getElem?_eq_some_iff.mp hj
        rw [List.getElem_range] at hj2
        subst hj2
        have hrl : r.length ≤ 3 := by
          rw [(rowsBy_mem hh k0 (by omega) r (hrw ▸ List.mem_of_getElem? hr)).1]; omega
        walk_at "pl"
        refine ⟨_, rfl, by simp, ?_⟩
        refine wu_catT (by rw [List.length_map]; simp; omega) ⟨?_, rfl⟩
        show R.c (C.d (PyData.tuple _)) = R.c (C.d (encRow (rows.getD k [] ++ [(j : Int)])))
        rw [getD_of hr]
        show R.c (C.d (PyData.tuple _)) = R.c (C.d (PyData.tuple (List.map _ _)))
        rw [List.map_append]
        rfl
      · rw [rowStep_enc]
        refine ⟨a, _, rfl, ?_⟩
        walk_at "pl"
        exact ⟨_, rfl, rfl⟩
    · rintro ⟨c2, rfl, h2⟩
      dsimp only
      rw [List.length_map, List.take_length]
      have hR : rowsBy h.things = rowsOf h := rfl
      rw [hR]
      walk_at "pl"
      refine we_frz (we_lstU ?_)
      walk_at "pl"
      refine ⟨_, rfl, by simp, ?_⟩
      walk_at "pl"
      refine ⟨_, rfl, by simp, fun a => ⟨a, _, rfl, ?_⟩⟩
      walk_at "pl"
      refine ws_for (wi_range1 ?_)
      walk_at "pl"
      refine ⟨_, rfl, by omega, by omega, fun k e => ∃ c3, e = [.d (encHall h), .d (.int (manyOf h : Nat)), c2, c3, .d (.list ((rowsOf h).map encRow)), .no, .no, .d (.list ((standsBy (rowsOf h) k).map encStand)), .no] ∧ c3.own = none, ⟨c3, rfl, h3⟩, fun k x e hx => ?_, fun e => ?_⟩
      · rintro ⟨c3, rfl, h3⟩
        have hk := (List.getElem?_eq_some_iff.mp hx).1
        rw [List.length_map, List.length_range] at hk
        have hz : (standsBy (rowsOf h) k).length * (rowsOf h).length ≤ 2000 := by
          rw [standsBy_len, ← Nat.pow_succ]
          refine Nat.le_trans ?_ hmany
          refine Nat.pow_le_pow_right ?_ (by omega)
          have := (rowsBy_len hh h.things.length).1
          rw [List.take_length] at this
          exact this
        obtain ⟨k', hk', rfl⟩ := get_map hx
        have ⟨k0, ek0⟩ : ∃ k0, k0 = k := ⟨k, rfl⟩
        have hsw0 : standsBy (rowsOf h) k0 = standsBy (rowsOf h) k := by rw [ek0]
        generalize hsw1 : standsBy (rowsOf h) k = found at *
        have hsw := hsw0
        walk_at "pl"
        refine we_frz (we_lc2F (gin_name (by decide)) (gin_name (by decide)) (by decide) (wu_seqL ?_))
        walk_at "pl"
        refine ⟨_, rfl, own2 rfl rfl, (rowsOf h).length, fun _ => ((rowsOf h).map encRow).length, fun k j => encStand (found.getD k [] ++ [(rowsOf h).getD j []]), by rw [List.length_map]; omega, fun k x hx => ⟨by rw [List.length_map]; exact Nat.le_refl _, ?_⟩, fun a => ?_⟩
        · obtain ⟨s, hs, rfl⟩ := get_map hx
          walk_at "pl"
          refine wu_seqL ?_
          walk_at "pl"
          refine ⟨_, rfl, rfl, rfl, fun j y hy => ?_⟩
          obtain ⟨r, hr, rfl⟩ := get_map hy
          have hsl : s.length = k0 := (standsBy_mem k0 s (hsw ▸ List.mem_of_getElem? hs)).1
          walk_at "pl"
          refine ⟨_, rfl, by simp, ?_⟩
          refine wu_catT (by rw [List.length_map]; simp; omega) ⟨?_, rfl⟩
          show R.c (C.d (PyData.tuple _)) = R.c (C.d (encStand (found.getD k [] ++ [(rowsOf h).getD j []])))
          rw [getD_of hs, getD_of hr]
          show R.c (C.d (PyData.tuple _)) = R.c (C.d (PyData.tuple (List.map _ _)))
          rw [List.map_append]
          rfl
        · rw [standStep_enc]
          refine ⟨a, _, rfl, ?_⟩
          walk_at "pl"
          refine ⟨.d (.int (k' : Nat)), ?_, rfl⟩
          rw [← ek0]
          show _ = [_, _, _, _, _, _, _, C.d (.list ((standStep (rowsOf h) (standsBy (rowsOf h) k0)).map encStand)), _]
          rw [hsw]
          rfl
      · rintro ⟨c3, rfl, h3⟩
        dsimp only
        rw [List.length_map, List.length_range]
        walk_at "pl"
        exact ⟨⟨trivial, trivial⟩, p _⟩
end
end PL

/-! Plain data: ==, shapes. -/
namespace PL
open PySem PySem.Spec PyProof.Rows L2 RZ MA
structure Nice {α : Type} [DecidableEq α] (f : α → DD) (n : Nat) : Prop where
  eq : ∀ x y, PyData.eqv (f x) (f y) = decide (x = y)
  lay : ∀ x, (f x).canLay0 = true
  dep : ∀ x, (f x).depth ≤ n
section
variable {α : Type} [DecidableEq α] {f : α → DD} {n : Nat}
theorem Nice.all (h : Nice f n) : ∀ xs ys : List α, PyData.eqvAll (xs.map f) (ys.map f) = decide (xs = ys)
  | [], [] => by simp [PyData.eqvAll]
  | [], _ :: _ => by simp [PyData.eqvAll]
  | _ :: _, [] => by simp [PyData.eqvAll]
  | x :: xs, y :: ys => by
    rw [List.map_cons, List.map_cons, PyData.eqvAll, h.eq, Nice.all h xs ys]
    by_cases p : x = y <;> by_cases q : xs = ys <;> simp [p, q]
theorem Nice.lays (h : Nice f n) : ∀ xs : List α, PyData.canLayAll0 (xs.map f) = true
  | [] => by simp [PyData.canLayAll0]
  | x :: xs => by rw [List.map_cons, PyData.canLayAll0, h.lay, Nice.lays h xs]; rfl
theorem Nice.deps (h : Nice f n) : ∀ xs : List α, PyData.depthAll (xs.map f) ≤ n
  | [] => by simp [PyData.depthAll]
  | x :: xs => by
    rw [List.map_cons, PyData.depthAll]
    exact Nat.max_le.mpr ⟨h.dep x, Nice.deps h xs⟩
theorem Nice.tup (h : Nice f n) : Nice (fun xs : List α => PyData.tuple (xs.map f)) (n + 1) where
  eq x y := by rw [PyData.eqv]; exact h.all x y
  lay x := by rw [PyData.canLay0]; exact h.lays x
  dep x := by
    rw [PyData.depth]
    have := h.deps x
    omega
theorem Nice.lst (h : Nice f n) : Nice (fun xs : List α => PyData.list (xs.map f)) (n + 1) where
  eq x y := by rw [PyData.eqv]; exact h.all x y
  lay x := by rw [PyData.canLay0]; exact h.lays x
  dep x := by
    rw [PyData.depth]
    have := h.deps x
    omega
theorem Nice.shaped (h : Nice f n) (hn : n ≤ 64) (x : α) : SeqAt.shaped (f x) = true := by
  unfold SeqAt.shaped
  rw [h.lay x, decide_eq_true (Nat.le_trans (h.dep x) hn)]; rfl
theorem Nice.any (h : Nice f n) (xs : List α) (x : α) : ((xs.map f).any fun z => PyData.eqv z (f x)) = decide (x ∈ xs) := by
  rw [List.any_map]
  rw [Bool.eq_iff_iff, List.any_eq_true, decide_eq_true_iff]
  constructor
  · rintro ⟨y, hy, e⟩
    have : decide (y = x) = true := by rw [← h.eq]; exact e
    rw [← of_decide_eq_true this]; exact hy
  · intro hx
    exact ⟨x, hx, by show PyData.eqv (f x) (f x) = true; rw [h.eq]; exact decide_eq_true rfl⟩
theorem Nice.comp {β : Type} [DecidableEq β] (h : Nice f n) {g : β → α} (hg : ∀ x y, g x = g y → x = y) : Nice (fun x => f (g x)) n where
  eq x y := by
    rw [h.eq]
    by_cases q : x = y
    · rw [q, decide_eq_true rfl, decide_eq_true rfl]
    · rw [decide_eq_false q, decide_eq_false fun z => q (hg _ _ z)]
  lay x := h.lay _
  dep x := h.dep _
end
theorem nice_int : Nice PyData.int 0 where
  eq x y := by
    rw [PyData.eqv]
    by_cases q : x = y
    · subst q; simp
    · simp [q]
  lay x := by simp [PyData.canLay0]
  dep x := by simp [PyData.depth]
theorem nice_nat : Nice (fun n : Nat => PyData.int (n : Int)) 0 := nice_int.comp fun _ _ h => by omega
theorem nice_row : Nice encRow 1 := nice_int.tup
theorem nice_stand : Nice encStand 2 := nice_row.tup
theorem nice_meet : Nice encMeet 1 := (nice_nat.tup).comp (g := fun m : Meet => [m.one, m.other, m.thing]) fun x y h => by
  cases x; cases y
  simp only [List.cons.injEq, and_true] at h
  obtain ⟨rfl, rfl, rfl⟩ := h
  rfl
theorem nice_beat : Nice encBeat 2 := nice_meet.tup
abbrev encPair (p : Nat × Nat) : PyData := .tuple [.int (p.1 : Nat), .int (p.2 : Nat)]
theorem nice_pair : Nice encPair 1 := (nice_nat.tup).comp (g := fun m : Nat × Nat => [m.1, m.2]) fun x y h => by
  cases x; cases y
  simp only [List.cons.injEq, and_true] at h
  obtain ⟨rfl, rfl⟩ := h
  rfl
/-! ### orders -/
theorem perms_step {α : Type} {b : List α} {n : Nat} (d : α) (h : b.length = n + 1) : perms (n + 1) b = (List.range b.length).flatMap fun i => (perms n (b.take i ++ b.drop (i + 1))).map fun r => b.getD i d :: r := by
  cases b with
  | nil => cases h
  | cons x b =>
    have key : ∀ (ns : List Nat), (∀ i ∈ ns, i < (x :: b).length) → (ns.flatMap fun i => (perms n ((x :: b).take i ++ (x :: b).drop (i + 1))).map fun r => (x :: b).getD i x :: r) = ns.flatMap fun i => (perms n ((x :: b).take i ++ (x :: b).drop (i + 1))).map fun r => (x :: b).getD i d :: r := by
      intro ns hns
      induction ns with
      | nil => rfl
      | cons i ns ih =>
        rw [List.flatMap_cons, List.flatMap_cons, ih fun j hj => hns j (List.mem_cons_of_mem _ hj)]
        have : (x :: b).getD i x = (x :: b).getD i d := by
          have e := getD_at (d := x) (hns i List.mem_cons_self)
          exact (getD_of e).trans (getD_of (d := d) e).symm |>.trans (by rw [getD_of (d := d) e]) 
        rw [this]
    exact key _ fun i hi => List.mem_range.mp hi
end PL

/-! All orders; the law's lists of all stands and all orders. -/
namespace PL
open PySem PySem.Spec PyProof.Rows L2 RZ MA
local macro_rules | `(tactic| walk_at "pl1") => `(tactic| first | with_reducible refine ws_seq ?_ | with_reducible refine ws_ret ?_ | with_reducible refine ws_asg ?_ | with_reducible refine ws_dropC ?_ | ((with_reducible refine ws_app (a := ?a1) (xs := ?x1) ?h1 ?_); (case h1 => rfl)) | with_reducible refine ws_if ?_ | ((with_reducible refine we_d (x := ?x1) ?h1 ?_); (case h1 => rfl)) | ((with_reducible refine we_own (c := ?c1) (a := ?a1) ?h1 ?h2 ?_); (case h1 => rfl); (case h2 => rfl)) | ((fail_if_success (with_reducible refine we_all ?_ ?_)); with_reducible refine we_cb ?_) | with_reducible refine wa_cons ?_ | with_reducible refine wa_nil ?_ | with_reducible refine we_int ?_ | with_reducible refine we_bl ?_ | with_reducible refine we_non ?_ | with_reducible refine we_str ?_ | with_reducible refine we_cv ?_ | with_reducible refine we_op ?_ | with_reducible refine we_un ?_ | with_reducible refine we_andV ?_ | with_reducible refine we_orV ?_ | with_reducible refine we_notV ?_ | with_reducible refine we_chain ?_ | with_reducible refine we_tupU ?_ | with_reducible refine we_if ?_ | with_reducible refine wt_test ?_ | with_reducible refine wt_B ?_ | with_reducible refine wt_and ?_ | with_reducible refine wt_or ?_ | with_reducible refine wt_not ?_ | with_reducible refine we_sl ?_ | with_reducible refine wo_none ?_ | with_reducible refine wo_intC ?_ | ((with_reducible refine wo_var (i := ?i1) ?h1 ?_); (case h1 => rfl)) | ((with_reducible refine wo_suc (i := ?i1) ?h1 ?_); (case h1 => rfl)) | ((fail_if_success ((with_reducible refine we_callP (wa_cons (we_own (c := ?c1) (a := ?a1) ?h1 ?h2 ?_))); (case h1 => rfl); (case h2 => rfl))); with_reducible refine we_callP ?_) | with_reducible refine w2_bl ?_ | with_reducible refine w2_int ?_ | with_reducible refine wu_add ?_ | ((with_reducible refine wu_ixT (d := ?d1) ?h1 ?_); (case h1 => rfl)) | ((with_reducible refine wu_ixL (a := R.own ?a1) (xs := ?x1) (d := ?d1) ?h0 ?h1 ?_); (case h0 => (refine .inr (.inr ⟨_, 0, rfl, ?_⟩); rfl)); (case h1 => rfl)) | with_reducible refine wu_slT ?_ | with_reducible refine wk_lenT ?_ | with_reducible refine wk_min ?_ | with_reducible refine wk_max ?_ | with_reducible refine wg_name ?_ | with_reducible refine wgs_nil ?_ | with_reducible refine wgs_consD ?_ | with_reducible refine wgs_nilD ?_ | with_reducible refine wgs_cons ?_ | ((with_reducible refine wg_tup ?h1 ?_); (case h1 => rfl)))
local macro_rules | `(tactic| walk_at "pl") => `(tactic| repeat (walk_at "pl1"))
local macro_rules | `(tactic| walk_at "fin") => `(tactic| repeat' (first | exact trivial | refine And.intro ?_ ?_))
section
variable {K : PySem.W.Frag} {P : Program} {w : World}
def permsOf {α : Type} (b : List α) : List (List α) := perms b.length b
def recW (W : Nat → PW) : Nat → PW
  | 0 => fun _ _ => False
  | n + 1 => W n
def W_orders_of (n : Nat) : PW := fun cs Po => ∃ b : Beat, b.length ≤ n ∧ b.length ≤ 4 ∧ cs = [.d (encBeat b)] ∧ ∀ e, Po (.c (.d (.list ((permsOf b).map encBeat)))) e
theorem perms_len {α : Type} : ∀ (n : Nat) (b : List α), b.length = n → (perms n b).length ≤ n ^ n
  | 0, b, h => by
    have : b = [] := List.length_eq_zero_iff.mp h
    subst this
    simp [perms]
  | n + 1, b, h => by
    cases b with
    | nil => cases h
    | cons x b =>
      rw [perms_step x h]
      refine Nat.le_trans (flat_len (N := n ^ n) _ fun i hi => ?_) ?_
      · rw [List.length_map]
        exact perms_len n _ (by rw [List.length_append, List.length_take, List.length_drop]; omega)
      · rw [h, Nat.pow_succ, Nat.mul_comm]
        exact Nat.mul_le_mul_right _ (Nat.pow_le_pow_left (by omega) n)
theorem perms_mem_len {α : Type} : ∀ (n : Nat) (b r : List α), r ∈ perms n b → b.length = n → r.length = n
  | 0, b, r, hr, h => by
    have : b = [] := List.length_eq_zero_iff.mp h
    subst this
    simp [perms] at hr
    subst hr; rfl
  | n + 1, b, r, hr, h => by
    cases b with
    | nil => cases h
    | cons x b =>
      rw [perms_step x h] at hr
      obtain ⟨i, hi, h1⟩ := List.mem_flatMap.mp hr
      obtain ⟨r', hr', e⟩ := List.mem_map.mp h1
      subst e
      have hi' := List.mem_range.mp hi
      rw [List.length_cons, perms_mem_len n _ r' hr' (by rw [List.length_append, List.length_take, List.length_drop]; omega)]
/-- orders_of; Wr: what a call of itself keeps -/
def rd_orders_of (K : PySem.W.Frag) (P : Program) (w : World) (Wr : PW) : TS :=
    (tSeq (tIfS (tTest (tOp (rEqD K) (tVar 0) (tTup tNil))) (tRet (tLst (tCons (tTup tNil) tNil))) tNext)
    (tSeq (tAsg (tLst tNil) (gName 1))
    (tSeq (tFor (iEnumA K (tCons (tVar 0) tNil)) (gTup K 2 (gCons (gName 2) (gCons (gName 3) gNil)))
    (tAug 1 (tLc (iSeqU K (tCall (spW K P w Wr) [] E0 (tCons (tOp (rAddU K) (tSl (rSlU K) (tVar 0) tNoPart (tPart (tVar 2))) (tSl (rSlU K) (tVar 0) (tPart (tOp (rAddU K) (tVar 2) (tC (.int 1)))) tNoPart)) tNil))) (gName 4) tYes (tOp (rAddU K) (tTup (tCons (tVar 3) tNil)) (tVar 4)) [4]) rExt2))
    (tRet (tVar 1)))))
theorem ws_orders_of (n : Nat) : WSok K P w (rd_orders_of K P w (recW W_orders_of n)) 5 (W_orders_of n) := by
  rintro cs Po ⟨b, hn, h4, rfl, p⟩
  unfold rd_orders_of
  walk_at "pl"
  refine ⟨_, rfl, by simp, ?_⟩
  refine w2_eqD .dat .dat (nice_beat.shaped (by omega) b) rfl ⟨_, rfl, fun hq => ?_, fun hq => ?_⟩
  · have hb : b = [] := of_decide_eq_true ((nice_beat.eq b []).symm.trans hq)
    subst hb
    walk_at "pl"
    refine we_frz (we_lstU ?_)
    walk_at "pl"
    refine ⟨_, rfl, by simp, ?_⟩
    walk_at "pl"
    exact ⟨_, rfl, by simp, fun a => ⟨a, _, rfl, ⟨trivial, trivial⟩, p _⟩⟩
  have hb : b ≠ [] := of_decide_eq_false ((nice_beat.eq b []).symm.trans hq)
  obtain ⟨m, em⟩ : ∃ m, b.length = m + 1 := ⟨b.length - 1, by have := List.length_pos_iff.mpr hb; omega⟩
  have hps : permsOf b = (List.range b.length).flatMap fun i => (permsOf (b.take i ++ b.drop (i + 1))).map fun r => b.getD i ⟨0, 0, 0⟩ :: r := by
    unfold permsOf
    rw [em, perms_step ⟨0, 0, 0⟩ em, em]
    refine flat_congr _ fun i hi => ?_
    rw [show (b.take i ++ b.drop (i + 1)).length = m by rw [List.length_append, List.length_take, List.length_drop]; omega]
  refine ws_nx ?_
  walk_at "pl"
  refine we_lstU ?_
  walk_at "pl"
  refine ⟨_, rfl, by simp, fun a1 => ?_⟩
  walk_at "pl"
  refine ws_for (wi_enumT ?_)
  walk_at "pl"
  refine ⟨_, rfl, fun k e => ∃ a1 c2 c3, e = [.d (encBeat b), .l a1 (((List.range k).flatMap fun i => (permsOf (b.take i ++ b.drop (i + 1))).map fun r => b.getD i ⟨0, 0, 0⟩ :: r).map encBeat), c2, c3, .no] ∧ c2.own = none ∧ c3.own = none, ⟨a1, .no, .no, rfl, rfl, rfl⟩, fun k x e hx => ?_, fun e => ?_⟩
  · rintro ⟨a1, c2, c3, rfl, h2, h3⟩
    obtain ⟨d, hd, rfl⟩ := enumD_at hx
    obtain ⟨m', hm', rfl⟩ := get_map hd
    have hk := (List.getElem?_eq_some_iff.mp hm').1
    obtain ⟨n', rfl⟩ : ∃ n', n = n' + 1 := ⟨n - 1, by omega⟩
    have hlen' : (b.take k ++ b.drop (k + 1)).length = m := by rw [List.length_append, List.length_take, List.length_drop]; omega
    have hz : (permsOf (b.take k ++ b.drop (k + 1))).length ≤ 27 := by
      unfold permsOf
      rw [hlen']
      refine Nat.le_trans (perms_len m _ hlen') ?_
      have hm3 : m = 0 ∨ m = 1 ∨ m = 2 ∨ m = 3 := by omega
      rcases hm3 with z | z | z | z <;> subst z <;> decide
    walk_at "pl"
    refine ws_ext rfl ?_
    refine we_lcF (gin_name (by decide)) (wu_seqL ?_)
    walk_at "pl"
    have cl1 := cut_len (b.map encMeet) none (some (k : Int))
    have cl2 := cut_len (b.map encMeet) (some ((k : Int) + 1)) none
    rw [List.length_map] at cl1 cl2
    refine wu_catT (by omega) ?_
    rw [cut_del, ← List.map_take, ← List.map_drop, ← List.map_append]
    walk_at "pl"
    refine ⟨_, rfl, b.take k ++ b.drop (k + 1), by omega, by omega, rfl, fun _ => ⟨_, rfl, by rw [List.length_map]; omega, own1 rfl, fun i => encBeat (b.getD k ⟨0, 0, 0⟩ :: (permsOf (b.take k ++ b.drop (k + 1))).getD i []), fun i x hx => ?_, fun a => ?_⟩⟩
    · obtain ⟨r, hr, rfl⟩ := get_map hx
      have hrl : r.length = m := perms_mem_len m _ r (by have := List.mem_of_getElem? hr; unfold permsOf at this; rw [hlen'] at this; exact this) hlen'
      walk_at "pl"
      refine ⟨_, rfl, by simp, ?_⟩
      walk_at "pl"
      refine wu_catT (by simp only [List.length_cons, List.length_nil, List.length_map]; omega) ?_
      refine ⟨?_, rfl⟩
      show R.c (C.d (PyData.tuple _)) = R.c (C.d (encBeat (b.getD k ⟨0, 0, 0⟩ :: (permsOf (b.take k ++ b.drop (k + 1))).getD i [])))
      rw [getD_of hr, getD_of hm']
      rfl
    · refine ⟨a, _, _, rfl, rfl, ?_, a1, .d (.int (k : Nat)), .d (encMeet m'), ?_, rfl, rfl⟩
      · rw [List.length_map, List.length_map, List.length_map, List.length_range]
        have hb1 := flat_len (F := fun i => (permsOf (b.take i ++ b.drop (i + 1))).map fun r => b.getD i ⟨0, 0, 0⟩ :: r) (N := 27) k fun i hi => by
          rw [List.length_map]
          have hl2 : (b.take i ++ b.drop (i + 1)).length = m := by rw [List.length_append, List.length_take, List.length_drop]; omega
          unfold permsOf
          rw [hl2]
          refine Nat.le_trans (perms_len m _ hl2) ?_
          have hm3 : m = 0 ∨ m = 1 ∨ m = 2 ∨ m = 3 := by omega
          rcases hm3 with z | z | z | z <;> subst z <;> decide
        omega
      · rw [flat_succ, List.map_append]
        have e : (List.range ((permsOf (b.take k ++ b.drop (k + 1))).map encBeat).length).map (fun i => encBeat (b.getD k ⟨0, 0, 0⟩ :: (permsOf (b.take k ++ b.drop (k + 1))).getD i [])) = ((permsOf (b.take k ++ b.drop (k + 1))).map fun r => b.getD k ⟨0, 0, 0⟩ :: r).map encBeat := by
          rw [List.length_map, map_range (f := fun r => encBeat (b.getD k ⟨0, 0, 0⟩ :: r)) _ [], List.map_map]
          rfl
        rw [e]
        rfl
  · rintro ⟨a1, c2, c3, rfl, h2, h3⟩
    dsimp only
    rw [enumD_len, List.length_map, ← hps]
    refine ws_ret (we_frz (we_move rfl rfl ?_))
    exact ⟨a1, _, rfl, ⟨trivial, trivial⟩, p _⟩
end
end PL

namespace PL
open PySem PySem.Spec PyProof.Rows L2 RZ MA
theorem rowStep_one (rows : List (List Int)) (r : List Int) (c : Nat) : rowStep (rows ++ [r]) c = rowStep rows c ++ (List.range c).map fun (k : Nat) => r ++ [(k : Int)] := by
  unfold rowStep
  rw [List.flatMap_append]
  simp
theorem standStep_one (rows : List (List Int)) (found : List Stand) (s : Stand) : standStep rows (found ++ [s]) = standStep rows found ++ rows.map fun r => s ++ [r] := by
  unfold standStep
  rw [List.flatMap_append]
  simp
theorem orders_one {α : Type} (b : List α) (x : α) : orders (b ++ [x]) = (orders b).flatMap (insAll x) := by
  unfold orders
  rw [List.foldl_append]; rfl
theorem ins_one {α : Type} (x : α) (os : List (List α)) (o : List α) : (os ++ [o]).flatMap (insAll x) = os.flatMap (insAll x) ++ insAll x o := by
  rw [List.flatMap_append]
  simp
theorem orders_mem {α : Type} (b : List α) : ∀ k, k ≤ b.length → ∀ o ∈ orders (b.take k), o.length = k
  | 0, _, o, ho => by
    rw [List.take_zero] at ho
    have : o = [] := by simpa [orders] using ho
    subst this; rfl
  | k + 1, hk, o, ho => by
    have hx : b[k]? = some b[k] := List.getElem?_eq_getElem (by omega)
    rw [take_succ_at hx, orders_one] at ho
    obtain ⟨o', h1, h2⟩ := List.mem_flatMap.mp ho
    obtain ⟨i, hi, e⟩ := List.mem_map.mp h2
    subst e
    have := orders_mem b k (by omega) o' h1
    have hi' := List.mem_range.mp hi
    simp only [List.length_append, List.length_take, List.length_drop, List.length_cons, List.length_nil]
    omega
theorem flatMap_len {α β : Type} {F : α → List β} {N : Nat} : ∀ (xs : List α), (∀ x ∈ xs, (F x).length ≤ N) → (xs.flatMap F).length ≤ xs.length * N
  | [], _ => by simp
  | x :: xs, h => by
    rw [List.flatMap_cons, List.length_append, List.length_cons, Nat.succ_mul]
    have := flatMap_len xs fun y hy => h y (List.mem_cons_of_mem _ hy)
    have := h x List.mem_cons_self
    omega
theorem orders_len {α : Type} (b : List α) (h4 : b.length ≤ 4) : ∀ k, k ≤ b.length → (orders (b.take k)).length ≤ 5 ^ k
  | 0, _ => by simp [orders]
  | k + 1, hk => by
    have hx : b[k]? = some b[k] := List.getElem?_eq_getElem (by omega)
    rw [take_succ_at hx, orders_one]
    refine Nat.le_trans (flatMap_len (N := 5) _ fun o ho => ?_) ?_
    · unfold insAll
      rw [List.length_map, List.length_range, orders_mem b k (by omega) o ho]
      omega
    · rw [Nat.pow_succ]
      exact Nat.mul_le_mul_right _ (orders_len b h4 k (by omega))
end PL

/-! The law's lists of all stands and all orders. -/
namespace PL
open PySem PySem.Spec PyProof.Rows L2 RZ MA
local macro_rules | `(tactic| walk_at "pl1") => `(tactic| first | with_reducible refine ws_seq ?_ | with_reducible refine ws_ret ?_ | with_reducible refine ws_asg ?_ | with_reducible refine ws_dropC ?_ | ((with_reducible refine ws_app (a := ?a1) (xs := ?x1) ?h1 ?_); (case h1 => rfl)) | with_reducible refine ws_if ?_ | ((with_reducible refine we_d (x := ?x1) ?h1 ?_); (case h1 => rfl)) | ((with_reducible refine we_own (c := ?c1) (a := ?a1) ?h1 ?h2 ?_); (case h1 => rfl); (case h2 => rfl)) | ((fail_if_success (with_reducible refine we_all ?_ ?_)); with_reducible refine we_cb ?_) | with_reducible refine wa_cons ?_ | with_reducible refine wa_nil ?_ | with_reducible refine we_int ?_ | with_reducible refine we_bl ?_ | with_reducible refine we_non ?_ | with_reducible refine we_str ?_ | with_reducible refine we_cv ?_ | with_reducible refine we_op ?_ | with_reducible refine we_un ?_ | with_reducible refine we_andV ?_ | with_reducible refine we_orV ?_ | with_reducible refine we_notV ?_ | with_reducible refine we_chain ?_ | with_reducible refine we_tupU ?_ | with_reducible refine we_if ?_ | with_reducible refine wt_test ?_ | with_reducible refine wt_B ?_ | with_reducible refine wt_and ?_ | with_reducible refine wt_or ?_ | with_reducible refine wt_not ?_ | with_reducible refine we_sl ?_ | with_reducible refine wo_none ?_ | with_reducible refine wo_intC ?_ | ((with_reducible refine wo_var (i := ?i1) ?h1 ?_); (case h1 => rfl)) | ((with_reducible refine wo_suc (i := ?i1) ?h1 ?_); (case h1 => rfl)) | ((fail_if_success ((with_reducible refine we_callP (wa_cons (we_own (c := ?c1) (a := ?a1) ?h1 ?h2 ?_))); (case h1 => rfl); (case h2 => rfl))); with_reducible refine we_callP ?_) | with_reducible refine w2_bl ?_ | with_reducible refine w2_int ?_ | with_reducible refine wu_add ?_ | ((with_reducible refine wu_ixT (d := ?d1) ?h1 ?_); (case h1 => rfl)) | ((with_reducible refine wu_ixL (a := R.own ?a1) (xs := ?x1) (d := ?d1) ?h0 ?h1 ?_); (case h0 => (refine .inr (.inr ⟨_, 0, rfl, ?_⟩); rfl)); (case h1 => rfl)) | with_reducible refine wu_slT ?_ | with_reducible refine wk_lenT ?_ | with_reducible refine wk_min ?_ | with_reducible refine wk_max ?_ | with_reducible refine wg_name ?_ | with_reducible refine wgs_nil ?_ | with_reducible refine wgs_consD ?_ | with_reducible refine wgs_nilD ?_ | with_reducible refine wgs_cons ?_ | ((with_reducible refine wg_tup ?h1 ?_); (case h1 => rfl)))
local macro_rules | `(tactic| walk_at "pl") => `(tactic| repeat (walk_at "pl1"))
local macro_rules | `(tactic| walk_at "fin") => `(tactic| repeat' (first | exact trivial | refine And.intro ?_ ?_))
section
variable {K : PySem.W.Frag} {P : Program} {w : World}
def W__law_all : PW := fun cs Po => ∃ (h : Hall), HallOk h ∧ manyOf h ≤ 2000 ∧ cs = [.d (encHall h)] ∧ ∀ e, Po (.c (.d (.list ((standsOf h).map encStand)))) e
/-- _law_all -/
def rd__law_all (K : PySem.W.Frag) (P : Program) (w : World) : TS :=
    (tSeq (tAsg (tLst (tCons (tTup tNil) tNil)) (gName 1))
    (tSeq (tFor (iSeqU K (tOp (rIxU K P w) (tVar 0) (tC (.int 1)))) (gName 2)
    (tSeq (tAsg (tLst tNil) (gName 3))
    (tSeq (tFor (iSeqU K (tVar 1)) (gName 4)
    (tAsg (tOp (rAddU K) (tVar 3) (tLc (iRng1 (tCons (tOp (rAddU K) (tOp (rIxU K P w) (tVar 2) (tC (.int 2))) (tC (.int 1))) tNil)) (gName 5) tYes (tOp (rAddU K) (tVar 4) (tTup (tCons (tVar 5) tNil))) [5])) (gName 3)))
    (tAsg (tVar 3) (gName 1)))))
    (tSeq (tAsg (tLst (tCons (tTup tNil) tNil)) (gName 6))
    (tSeq (tFor (iRng1 (tCons (tOp (rIxU K P w) (tVar 0) (tC (.int 0))) tNil)) (gName 7)
    (tSeq (tAsg (tLst tNil) (gName 3))
    (tSeq (tFor (iSeqU K (tVar 6)) (gName 8)
    (tAsg (tOp (rAddU K) (tVar 3) (tLc (iSeqU K (tVar 1)) (gName 4) tYes (tOp (rAddU K) (tVar 8) (tTup (tCons (tVar 4) tNil))) [4])) (gName 3)))
    (tAsg (tVar 3) (gName 6)))))
    (tRet (tVar 6))))))
theorem ws__law_all : WSok K P w (rd__law_all K P w) 9 W__law_all := by
  rintro cs Po ⟨h, hh, hmany, rfl, p⟩
  have hf := hh.folk
  have hm := hh.many
  unfold rd__law_all
  walk_at "pl"
  refine we_frz (we_lstU ?_)
  walk_at "pl"
  refine ⟨_, rfl, by simp, ?_⟩
  walk_at "pl"
  refine ⟨_, rfl, by simp, fun a => ⟨a, _, rfl, ?_⟩⟩
  walk_at "pl"
  refine ws_for (wu_seqT ?_)
  walk_at "pl"
  refine ⟨_, rfl, fun k e => ∃ c2 c4, e = [.d (encHall h), .d (.list ((rowsBy (h.things.take k)).map encRow)), c2, .no, c4, .no, .no, .no, .no] ∧ c2.own = none ∧ c4.own = none, ⟨.no, .no, rfl, rfl, rfl⟩, fun k x e hx => ?_, fun e => ?_⟩
  · rintro ⟨c2, c4, rfl, h2, h4⟩
    obtain ⟨l, hl, rfl⟩ := get_map hx
    have hcap := capN_le (hh.lore k l hl)
    have hk := (List.getElem?_eq_some_iff.mp hl).1
    have hR := (rowsBy_len hh k).2
    rw [Nat.min_eq_left (by omega)] at hR
    have hR2 : 4 ^ k ≤ 4 ^ 3 := Nat.pow_le_pow_right (by omega) (by omega)
    have hmem := rowsBy_mem hh k (by omega)
    dsimp only
    rw [take_succ_at hl, rowsBy_succ]
    generalize hrw : rowsBy (h.things.take k) = rows at *
    walk_at "pl"
    refine we_lstU ?_
    walk_at "pl"
    refine ⟨_, rfl, by simp, fun a3 => ?_⟩
    walk_at "pl"
    refine ws_for (wu_seqL ?_)
    walk_at "pl"
    refine ⟨_, rfl, fun j e => ∃ a3 c4, e = [.d (encHall h), .d (.list (rows.map encRow)), .d (encLore l), .l a3 ((rowStep (rows.take j) (capN l)).map encRow), c4, .no, .no, .no, .no] ∧ c4.own = none, ⟨a3, c4, rfl, h4⟩, fun j x e hx => ?_, fun e => ?_⟩
    · rintro ⟨a3, c4, rfl, h4⟩
      obtain ⟨r, hr, rfl⟩ := get_map hx
      have hrl := (hmem r (List.mem_of_getElem? hr)).1
      have hz : (rowStep (rows.take j) (capN l)).length ≤ 256 := by
        rw [rowStep_len, List.length_take]
        exact Nat.le_trans (Nat.mul_le_mul (show min j rows.length ≤ 64 by omega) hcap.2.1) (by decide)
      dsimp only
      rw [take_succ_at hr, rowStep_one]
      walk_at "pl"
      refine we_lcF (gin_name (by decide)) (wi_range1 ?_)
      walk_at "pl"
      refine ⟨_, rfl, by omega, by omega, by rw [List.length_map, List.length_range]; omega, own1 rfl, fun i => encRow (r ++ [(i : Int)]), fun i x hx => ?_, fun b => ?_⟩
      · obtain ⟨i', hi, rfl⟩ := get_map hx
        obtain ⟨hi1, hi2⟩ := List.getElem?_eq_some_iff.mp hi
        rw [List.getElem_range] at hi2
        subst hi2
        walk_at "pl"
        refine ⟨_, rfl, by simp, ?_⟩
        refine wu_catT (by simp only [List.length_cons, List.length_nil, List.length_map]; omega) ?_
        refine ⟨?_, rfl⟩
        show R.c (C.d (PyData.tuple _)) = R.c (C.d (PyData.tuple (List.map _ _)))
        rw [List.map_append]
        rfl
      · refine wu_catL (.inr (.inr ⟨a3, 3, rfl, rfl⟩)) (.inr (.inl ⟨b, rfl⟩)) ?_ fun a3 => ?_
        · rw [List.length_map, List.length_map, List.length_map, List.length_range, List.length_range]; omega
        · walk_at "pl"
          refine ⟨a3, .d (encRow r), ?_, rfl⟩
          rw [List.length_map, List.length_range, List.map_append, List.map_map]
          rfl
    · rintro ⟨a3, c4, rfl, h4⟩
      rw [List.length_map, List.take_length]
      refine ws_asg (we_frz (we_move rfl rfl ⟨a3, _, rfl, ?_⟩))
      walk_at "pl"
      exact ⟨_, _, rfl, rfl, h4⟩
  · rintro ⟨c2, c4, rfl, h2, h4⟩
    dsimp only
    rw [List.length_map, List.take_length]
    have hR : rowsBy h.things = rowsOf h := rfl
    rw [hR]
    walk_at "pl"
    refine we_frz (we_lstU ?_)
    walk_at "pl"
    refine ⟨_, rfl, by simp, ?_⟩
    walk_at "pl"
    refine ⟨_, rfl, by simp, fun a => ⟨a, _, rfl, ?_⟩⟩
    walk_at "pl"
    refine ws_for (wi_range1 ?_)
    walk_at "pl"
    refine ⟨_, rfl, by omega, by omega, fun k e => ∃ c4 c7 c8, e = [.d (encHall h), .d (.list ((rowsOf h).map encRow)), c2, .no, c4, .no, .d (.list ((standsBy (rowsOf h) k).map encStand)), c7, c8] ∧ c4.own = none ∧ c7.own = none ∧ c8.own = none, ⟨c4, .no, .no, rfl, h4, rfl, rfl⟩, fun k x e hx => ?_, fun e => ?_⟩
    · rintro ⟨c4, c7, c8, rfl, h4, h7, h8⟩
      have hk := (List.getElem?_eq_some_iff.mp hx).1
      rw [List.length_map, List.length_range] at hk
      have hz : (standsBy (rowsOf h) k).length * (rowsOf h).length ≤ 2000 := by
        rw [standsBy_len, ← Nat.pow_succ]
        refine Nat.le_trans ?_ hmany
        refine Nat.pow_le_pow_right ?_ (by omega)
        have := (rowsBy_len hh h.things.length).1
        rw [List.take_length] at this
        exact this
      have hR1 : (rowsOf h).length ≤ 2000 := by
        refine Nat.le_trans ?_ hmany
        show (rowsOf h).length ≤ (rowsOf h).length ^ h.folk
        exact Nat.le_self_pow (by omega) _
      obtain ⟨k', hk', rfl⟩ := get_map hx
      have hmem := standsBy_mem (rows := rowsOf h) k
      show WG K P w (gName 7) _ _ fun e2 => WS K P w _ e2 { nx := fun e => ∃ c4 c7 c8, e = [.d (encHall h), .d (.list ((rowsOf h).map encRow)), c2, .no, c4, .no, .d (.list ((standStep (rowsOf h) (standsBy (rowsOf h) k)).map encStand)), c7, c8] ∧ c4.own = none ∧ c7.own = none ∧ c8.own = none, rt := _, bk := _, ct := _ }
      generalize hsw1 : standsBy (rowsOf h) k = found at *
      walk_at "pl"
      refine we_lstU ?_
      walk_at "pl"
      refine ⟨_, rfl, by simp, fun a3 => ?_⟩
      walk_at "pl"
      refine ws_for (wu_seqL ?_)
      walk_at "pl"
      refine ⟨_, rfl, fun j e => ∃ a3 c4 c8, e = [.d (encHall h), .d (.list ((rowsOf h).map encRow)), c2, .l a3 ((standStep (rowsOf h) (found.take j)).map encStand), c4, .no, .d (.list (found.map encStand)), .d (.int (k' : Nat)), c8] ∧ c4.own = none ∧ c8.own = none, ⟨a3, c4, c8, rfl, h4, h8⟩, fun j x e hx => ?_, fun e => ?_⟩
      · rintro ⟨a3, c4, c8, rfl, h4, h8⟩
        obtain ⟨s, hs, rfl⟩ := get_map hx
        have hsl := (hmem s (List.mem_of_getElem? hs)).1
        have hz2 : (standStep (rowsOf h) (found.take j)).length ≤ 2000 := by
          rw [standStep_len, List.length_take]
          exact Nat.le_trans (Nat.mul_le_mul_right _ (show min j found.length ≤ found.length by omega)) hz
        dsimp only
        rw [take_succ_at hs, standStep_one]
        walk_at "pl"
        refine we_lcF (gin_name (by decide)) (wu_seqL ?_)
        walk_at "pl"
        refine ⟨_, rfl, by rw [List.length_map]; omega, own1 h4, fun i => encStand (s ++ [(rowsOf h).getD i []]), fun i x hx => ?_, fun b => ?_⟩
        · obtain ⟨r, hr, rfl⟩ := get_map hx
          walk_at "pl"
          refine ⟨_, rfl, by simp, ?_⟩
          refine wu_catT (by simp only [List.length_cons, List.length_nil, List.length_map]; omega) ?_
          refine ⟨?_, rfl⟩
          show R.c (C.d (PyData.tuple _)) = R.c (C.d (encStand (s ++ [(rowsOf h).getD i []])))
          rw [getD_of hr]
          show R.c (C.d (PyData.tuple _)) = R.c (C.d (PyData.tuple (List.map _ _)))
          rw [List.map_append]
          rfl
        · refine wu_catL (.inr (.inr ⟨a3, 3, rfl, rfl⟩)) (.inr (.inl ⟨b, rfl⟩)) ?_ fun a3 => ?_
          · rw [List.length_map, List.length_map, List.length_map, List.length_range]; omega
          · walk_at "pl"
            refine ⟨a3, c4, .d (encStand s), ?_, h4, rfl⟩
            rw [List.length_map, map_range (f := fun r => encStand (s ++ [r])) _ [], List.map_append, List.map_map]
            rfl
      · rintro ⟨a3, c4, c8, rfl, h4, h8⟩
        rw [List.length_map, List.take_length]
        refine ws_asg (we_frz (we_move rfl rfl ⟨a3, _, rfl, ?_⟩))
        walk_at "pl"
        exact ⟨c4, _, c8, rfl, h4, rfl, h8⟩
    · rintro ⟨c4, c7, c8, rfl, h4, h7, h8⟩
      dsimp only
      rw [List.length_map, List.length_range]
      walk_at "pl"
      exact ⟨⟨trivial, trivial⟩, p _⟩
def W__law_orders : PW := fun cs Po => ∃ b : Beat, b.length ≤ 4 ∧ cs = [.d (encBeat b)] ∧ ∀ e, Po (.c (.d (.list ((orders b).map encBeat)))) e
/-- _law_orders -/
def rd__law_orders (K : PySem.W.Frag) (P : Program) (w : World) : TS :=
    (tSeq (tAsg (tLst (tCons (tTup tNil) tNil)) (gName 1))
    (tSeq (tFor (iSeqU K (tVar 0)) (gName 2)
    (tSeq (tAsg (tLst tNil) (gName 3))
    (tSeq (tFor (iSeqU K (tVar 1)) (gName 4)
    (tAsg (tOp (rAddU K) (tVar 3) (tLc (iRng1 (tCons (tOp (rAddU K) (tCB (rLen K) (tCons (tVar 4) tNil)) (tC (.int 1))) tNil)) (gName 5) tYes (tOp (rAddU K) (tOp (rAddU K) (tSl (rSlU K) (tVar 4) tNoPart (tPart (tVar 5))) (tTup (tCons (tVar 2) tNil))) (tSl (rSlU K) (tVar 4) (tPart (tVar 5)) tNoPart)) [5])) (gName 3)))
    (tAsg (tVar 3) (gName 1)))))
    (tRet (tVar 1))))
theorem ws__law_orders : WSok K P w (rd__law_orders K P w) 6 W__law_orders := by
  rintro cs Po ⟨b, h4, rfl, p⟩
  unfold rd__law_orders
  walk_at "pl"
  refine we_frz (we_lstU ?_)
  walk_at "pl"
  refine ⟨_, rfl, by simp, ?_⟩
  walk_at "pl"
  refine ⟨_, rfl, by simp, fun a => ⟨a, _, rfl, ?_⟩⟩
  walk_at "pl"
  refine ws_for (wu_seqT ?_)
  walk_at "pl"
  refine ⟨_, rfl, fun k e => ∃ c2 c4, e = [.d (encBeat b), .d (.list ((orders (b.take k)).map encBeat)), c2, .no, c4, .no] ∧ c2.own = none ∧ c4.own = none, ⟨.no, .no, rfl, rfl, rfl⟩, fun k x e hx => ?_, fun e => ?_⟩
  · rintro ⟨c2, c4, rfl, h2, hc4⟩
    obtain ⟨m, hm, rfl⟩ := get_map hx
    have hk := (List.getElem?_eq_some_iff.mp hm).1
    have hmem := orders_mem b k (by omega)
    have hz : (orders (b.take k)).length ≤ 625 := Nat.le_trans (orders_len b h4 k (by omega)) (Nat.pow_le_pow_right (n := 5) (by omega) (show k ≤ 4 by omega))
    dsimp only
    rw [take_succ_at hm, orders_one]
    generalize hrw : orders (b.take k) = found at *
    walk_at "pl"
    refine we_lstU ?_
    walk_at "pl"
    refine ⟨_, rfl, by simp, fun a3 => ?_⟩
    walk_at "pl"
    refine ws_for (wu_seqL ?_)
    walk_at "pl"
    refine ⟨_, rfl, fun j e => ∃ a3 c4, e = [.d (encBeat b), .d (.list (found.map encBeat)), .d (encMeet m), .l a3 (((found.take j).flatMap (insAll m)).map encBeat), c4, .no] ∧ c4.own = none, ⟨a3, c4, rfl, hc4⟩, fun j x e hx => ?_, fun e => ?_⟩
    · rintro ⟨a3, c4, rfl, hc4⟩
      obtain ⟨o, ho, rfl⟩ := get_map hx
      have hol := hmem o (List.mem_of_getElem? ho)
      have hz2 : ((found.take j).flatMap (insAll m)).length ≤ 3125 := by
        refine Nat.le_trans (flatMap_len (N := 5) _ fun o' ho' => ?_) ?_
        · unfold insAll
          rw [List.length_map, List.length_range, hmem o' (List.mem_of_mem_take ho')]
          omega
        · rw [List.length_take]; omega
      dsimp only
      rw [take_succ_at ho, ins_one]
      walk_at "pl"
      refine we_lcF (gin_name (by decide)) (wi_range1 ?_)
      walk_at "pl"
      refine ⟨_, rfl, by rw [List.length_map]; omega, by rw [List.length_map]; omega, by rw [List.length_map, List.length_range, List.length_map]; omega, own1 rfl, fun i => encBeat (o.take i ++ [m] ++ o.drop i), fun i x hx => ?_, fun bb => ?_⟩
      · obtain ⟨i', hi, rfl⟩ := get_map hx
        obtain ⟨hi1, hi2⟩ := List.getElem?_eq_some_iff.mp hi
        rw [List.getElem_range] at hi2
        subst hi2
        have cl1 := cut_len (o.map encMeet) none (some (i : Int))
        have cl2 := cut_len (o.map encMeet) (some (i : Int)) none
        rw [List.length_map] at cl1 cl2
        walk_at "pl"
        refine ⟨_, rfl, by simp, ?_⟩
        refine wu_catT (by simp only [List.length_cons, List.length_nil]; omega) ?_
        walk_at "pl"
        refine wu_catT (by simp only [List.length_append, List.length_cons, List.length_nil]; omega) ?_
        refine ⟨?_, rfl⟩
        rw [cutA_to, cutA_from]
        show R.c (C.d (PyData.tuple _)) = R.c (C.d (PyData.tuple (List.map _ _)))
        rw [List.map_append, List.map_append, List.map_take, List.map_drop]
        rfl
      · refine wu_catL (.inr (.inr ⟨a3, 3, rfl, rfl⟩)) (.inr (.inl ⟨bb, rfl⟩)) ?_ fun a3 => ?_
        · rw [List.length_map, List.length_map, List.length_map, List.length_range, List.length_range, List.length_map]; omega
        · walk_at "pl"
          refine ⟨a3, .d (encBeat o), ?_, rfl⟩
          rw [List.length_map, List.length_range, List.length_map, List.map_append]
          unfold insAll
          rw [List.map_map]
          rfl
    · rintro ⟨a3, c4, rfl, hc4⟩
      rw [List.length_map, List.take_length]
      refine ws_asg (we_frz (we_move rfl rfl ⟨a3, _, rfl, ?_⟩))
      walk_at "pl"
      exact ⟨_, _, rfl, rfl, hc4⟩
  · rintro ⟨c2, c4, rfl, h2, hc4⟩
    dsimp only
    rw [List.length_map, List.take_length]
    walk_at "pl"
    exact ⟨⟨trivial, trivial⟩, p _⟩
end
end PL

/-! list(d) for an own dict. -/
namespace PL
open PySem PySem.Spec PyProof.Rows L2 RZ
section
variable {X : Cx}
def rListD (P : Program) (w : World) : List V → Hp → VK → Prop := fun us H Q => ∃ (a : Addr) (es : List Ent), us = [.ref a] ∧ H a = some (DictO P w a es) ∧ es.length ≤ sizeLine ∧ ∀ l, H l = none → Q (.ref l) (upd H l (.lst (es.map fun p => .ref p.2.1)))
def rListL (K : PySem.W.Frag) : List V → Hp → VK → Prop := fun us H Q => ∃ p ys, us = [.ref p] ∧ (SqL K H p ys ∨ SqT K H p ys) ∧ ∀ l, H l = none → Q (.ref l) (upd H l (.lst ys))
def rListU (K : PySem.W.Frag) (P : Program) (w : World) : List V → Hp → VK → Prop := fun us H Q => rListL K us H Q ∨ rListD P w us H Q
theorem vals_keys : ∀ {es : List Ent} {xs : List (NestedKey × Addr × Value)} {us : List Value}, ERel es xs → us.length = xs.length → (∀ (j : Nat) (v : Value), us[j]? = some v → ∃ x, xs[j]? = some x ∧ v = .ref x.2.1) → Vals (es.map fun p => V.ref p.2.1) us
  | _, _, [], .nil, _, _ => .nil
  | _, _, u :: us, .nil, hl, _ => by cases hl
  | _, _, [], .cons _ _, hl, _ => by cases hl
  | e :: es, x :: xs, u :: us, .cons h t, hl, g => by
    obtain ⟨y, e1, e2⟩ := g 0 u rfl
    have e1' : x = y := Option.some.inj e1
    subst e1'
    rw [e2, ← h.2.1]
    exact .cons rfl (vals_keys t (Nat.succ.inj hl) fun j v hj => g (j + 1) v hj)
theorem cr_listD (hc : X.calm = true) : CallR X (.type "list") (rListD X.prog X.w) := by
  intro pins s σ H xs us Q I r q
  obtain ⟨a, es, ex, ho, hz, q⟩ := q
  subst ex
  obtain ⟨u, eu, rx⟩ := vals1 r
  subst eu
  cases rx
  have ⟨⟨h1, ys, rel, o, es', ep, e1, e2, e3, e4, e5⟩, _, _⟩ := I.hok a _ ho
  have hlen : es.length = ys.length := Paired.length rel
  have hsz : es'.size = ys.length := by
    have := congrArg List.length e4
    rw [Array.length_toList, List.length_map] at this
    exact this
  refine PySem.W.kdl_call (PySem.KdlSrc.rawDict (prog := X.prog) (w := X.w) (d := a) (es := es') (ep := ep) h1) (I.ok.hd hc) ⟨o, e1, e2, e3⟩ (by omega) fun h' tk acc c' hk hD hacc => ?_
  have hv : Vals (es.map fun p => V.ref p.2.1) acc.toList := by
    refine vals_keys rel (by rw [Array.length_toList]; exact hacc.1.trans hsz) fun j v e => ?_
    obtain ⟨hi, ev⟩ := hacc.2 j v (by rw [← Array.getElem?_toList]; exact e)
    have e6 := congrArg (fun l => l[j]?) e4
    simp only [Array.getElem?_toList, List.getElem?_map] at e6
    rw [Array.getElem?_eq_getElem hi] at e6
    obtain ⟨y, hy, hy2⟩ := Option.map_eq_some_iff.mp e6.symm
    exact ⟨y, hy, by rw [ev, ← hy2]; rfl⟩
  refine ⟨.ref s.heap.objs.size, upd H s.heap.objs.size (.lst (es.map fun p => V.ref p.2.1)), I.laid (t' := tk) hk (Nat.le_refl _)
    (show ObjOk X.prog X.w _ _ _ (.lst (es.map fun p => V.ref p.2.1)) from ⟨by rw [List.length_map]; exact hz, acc.toList, c', hv, by rw [Array.toArray_toList]; exact hD⟩), rfl, q _ (I.hok.fresh (Nat.le_refl _))⟩
theorem cr_or {f : Value} {r r' : List V → Hp → VK → Prop} (h : CallR X f r) (h' : CallR X f r') : CallR X f fun us H Q => r us H Q ∨ r' us H Q := fun pins s σ H xs us Q I rv q => by
  rcases q with q | q
  · exact h pins s σ H xs us Q I rv q
  · exact h' pins s σ H xs us Q I rv q
theorem cr_listU {k : Nat} {A : Around} (hr : Room k A) (hc : X.calm = true) : CallR X (.type "list") (rListU X.K X.prog X.w) := cr_or call_list_of (cr_listD hc)
end
section
variable {K : PySem.W.Frag} {P : Program} {w : World}
variable {env : List C} {Po : R → List C → Prop}
theorem kds_pairs {es : List Ent} {kvs : List (NestedKey × DD)} {G : Hp} (e : Ents K G es kvs) : DpAll K G (es.map fun p => V.ref p.2.1) (kvs.map fun p => kd p.1) := by
  induction e with
  | nil => exact .nil
  | @cons p q ps qs h _ ih => exact .cons (show Dp K G _ (kd q.1) from h.1 ▸ h.2.2.1) ih
theorem wk_listD {a : Addr} {kvs : List (NestedKey × DD)} (i : Nat) (hi : env[i]? = some (.m a kvs)) (p : ∀ q, Po (.c (.l q (kvs.map fun p => kd p.1))) env) : WL K P w (rListU K P w) [.own a] env Po := fun σ G H vs rp ps Q o => by
  obtain ⟨v, e1, e2⟩ := ps.one
  subst e1
  obtain ⟨hg, hz, es, ho, he⟩ := rp.dict hi
  have le : es.length = kvs.length := Paired.length he
  exact .inr ⟨a, es, by rw [e2.1], ho, by omega, fun q hq => o.lst rp (kds_pairs he) (p q) hq⟩
theorem wk_listL {a : R} {xs : List DD} (ha : LL env a xs) (p : ∀ q, Po (.c (.l q xs)) env) : WL K P w (rListU K P w) [a] env Po := fun σ G H vs rp ps Q o => .inl (wl_list ha p σ G H vs rp ps Q o)
end
end PL

namespace PL
open PySem PySem.Spec PyProof.Rows L2 RZ MA
section
variable {K : PySem.W.Frag} {P : Program} {w : World}
/-- a comprehension with a test -/
theorem we_lcC {wi : TI} {g : TG} {tt : TT} {te : TE} {env : List C} {vs : List Nat} {Po : R → List C → Prop} (hg : GIn vs g) (h : WI K P w wi env fun items e1 => items.length ≤ 10000000 ∧ (∀ i ∈ vs, (e1.getD i .no).own = none) ∧ ∃ (c : Nat → Bool) (f : Nat → DD),
      (∀ k x, items[k]? = some x → WG K P w g (.c (.d x)) (wipeE e1 vs) fun e2 => WT K P w tt e2 fun b e3 => b = c k ∧ (b = true → WE K P w te e3 fun r e4 => r = .c (.d (f k)) ∧ wipeE e4 vs = wipeE e1 vs) ∧ (b = false → wipeE e3 vs = wipeE e1 vs)) ∧
      ∀ a, Po (.c (.l a (((List.range items.length).filter c).map f))) (restE e1 (wipeE e1 vs) vs)) : WE K P w (tLc wi g tt te vs) env Po :=
  we_lc hg fun σ G H rp Q o => h σ G H rp Q fun J items e1 G' H' ⟨hz, hv, c, f, h1, h2⟩ => o J items e1 G' H' ⟨hz, hv, fun k acc e => acc = ((List.range k).filter c).map f ∧ e = wipeE e1 vs, ⟨rfl, rfl⟩,
    fun k x acc e hx ⟨e1', e2'⟩ => by
      subst e1' e2'
      intro σ G H v rp pd Q o
      refine h1 k x hx σ G H v rp pd Q fun e' σ' G' H' p st rp' => o e' σ' G' H' ?_ st rp'
      intro σ G H rp Q o
      refine p σ G H rp Q fun b e' G' H' ⟨eb, pt, pf⟩ st rp' => o b e' G' H' ⟨fun hb => ?_, fun hb => ⟨?_, pf hb⟩⟩ st rp'
      · refine (pt hb).mono fun r e ⟨er, ee⟩ => ⟨f k, er, ?_, ee⟩
        rw [List.range_succ, List.filter_append, List.filter_cons, ← eb, hb, List.map_append]
        rfl
      · rw [List.range_succ, List.filter_append, List.filter_cons, ← eb, hb, List.map_append]
        simp,
    fun acc e a ⟨q1, q2⟩ => by subst q1 q2; exact h2 a⟩
theorem filter_range {α : Type} (xs : List α) (d : α) (c : α → Bool) : ((List.range xs.length).filter fun k => c (xs.getD k d)).map (fun k => xs.getD k d) = xs.filter c := by
  conv => rhs; rw [← map_range_getD xs d]
  rw [List.filter_map]
  rfl
end
/-! ### tables by pairs -/
def pairs (n m : Nat) : List (Nat × Nat) := (List.range n).flatMap fun i => (List.range m).map fun j => (i, j)
theorem mem_pairs {n m : Nat} {p : Nat × Nat} : p ∈ pairs n m ↔ p.1 < n ∧ p.2 < m := by
  unfold pairs
  rw [List.mem_flatMap]
  constructor
  · rintro ⟨i, hi, hp⟩
    obtain ⟨j, hj, e⟩ := List.mem_map.mp hp
    subst e
    exact ⟨List.mem_range.mp hi, List.mem_range.mp hj⟩
  · rintro ⟨h1, h2⟩
    exact ⟨p.1, List.mem_range.mpr h1, List.mem_map.mpr ⟨p.2, List.mem_range.mpr h2, rfl⟩⟩
theorem pairs_len (n m : Nat) : (pairs n m).length = n * m := by
  unfold pairs
  induction n with
  | zero => simp
  | succ n ih => rw [flat_succ, List.length_append, ih, List.length_map, List.length_range, Nat.succ_mul]
theorem pairs_nodup (n m : Nat) : (pairs n m).Nodup := by
  unfold pairs
  induction n with
  | zero => exact List.nodup_nil
  | succ n ih =>
    rw [flat_succ]
    refine List.nodup_append.mpr ⟨ih, ?_, ?_⟩
    · refine List.Pairwise.map _ (fun a b hab => ?_) List.nodup_range
      intro e
      exact hab (Prod.mk.inj e).2
    · intro a ha b hb e
      subst e
      have h1 := mem_pairs (n := n) (m := m) (p := a)
      unfold pairs at h1
      have := (h1.mp ha).1
      obtain ⟨j, _, e⟩ := List.mem_map.mp hb
      subst e
      exact Nat.lt_irrefl _ this
def entOf (f : Nat → Nat → Int) (p : Nat × Nat) : NestedKey × DD := (kk p.1 p.2, .int (f p.1 p.2))
def tabL (L : List (Nat × Nat)) (f : Nat → Nat → Int) : List (NestedKey × DD) := L.map (entOf f)
theorem tab_has (L : List (Nat × Nat)) (f : Nat → Nat → Int) (i j : Nat) : hasD (tabL L f) (kk i j) = decide ((i, j) ∈ L) := by
  unfold hasD tabL
  rw [List.any_map, Bool.eq_iff_iff, List.any_eq_true, decide_eq_true_iff]
  constructor
  · rintro ⟨p, hp, e⟩
    obtain ⟨e1, e2⟩ := kk_inj (of_decide_eq_true e)
    rw [← e1, ← e2]; exact hp
  · intro h
    exact ⟨(i, j), h, decide_eq_true rfl⟩
theorem tab_get {L : List (Nat × Nat)} {f : Nat → Nat → Int} {i j : Nat} (h : (i, j) ∈ L) : getD (tabL L f) (kk i j) = some (.int (f i j)) := by
  unfold getD tabL
  induction L with
  | nil => cases h
  | cons p L ih =>
    rw [List.map_cons, List.find?_cons]
    by_cases q : p = (i, j)
    · subst q
      have : decide ((entOf f (i, j)).1 = kk i j) = true := decide_eq_true rfl
      rw [this]; rfl
    · have : decide ((entOf f p).1 = kk i j) = false := decide_eq_false fun z => q (by obtain ⟨a, b⟩ := kk_inj z; exact Prod.ext a b)
      rw [this]
      rcases List.mem_cons.mp h with z | z
      · exact absurd z.symm q
      · exact ih z
def updF (f : Nat → Nat → Int) (i j : Nat) (y : Int) : Nat → Nat → Int := fun i' j' => if i' = i ∧ j' = j then y else f i' j'
theorem tab_put {L : List (Nat × Nat)} {f : Nat → Nat → Int} {i j : Nat} (h : (i, j) ∈ L) (y : Int) : putD (tabL L f) (kk i j) (.int y) = tabL L (updF f i j y) := by
  have hh := tab_has L f i j
  rw [decide_eq_true h] at hh
  unfold hasD at hh
  unfold putD
  rw [if_pos hh]
  unfold tabL
  rw [List.map_map]
  apply List.map_congr_left
  intro p _
  show (if (entOf f p).1 = kk i j then ((entOf f p).1, PyData.int y) else entOf f p) = entOf (updF f i j y) p
  by_cases q : p.1 = i ∧ p.2 = j
  · have e : (entOf f p).1 = kk i j := by rw [← q.1, ← q.2]; rfl
    rw [if_pos e, e]
    unfold entOf updF
    rw [if_pos q, q.1, q.2]
  · rw [if_neg fun z : (entOf f p).1 = kk i j => q (kk_inj z)]
    unfold entOf updF
    rw [if_neg q]
theorem tab_new {L : List (Nat × Nat)} {f : Nat → Nat → Int} {i j : Nat} (h : (i, j) ∉ L) : putD (tabL L f) (kk i j) (.int (f i j)) = tabL (L ++ [(i, j)]) f := by
  have hh := tab_has L f i j
  rw [decide_eq_false h] at hh
  unfold hasD at hh
  unfold putD
  rw [if_neg (by rw [hh]; decide)]
  unfold tabL
  rw [List.map_append]
  rfl
theorem tab_congr {L : List (Nat × Nat)} {f g : Nat → Nat → Int} (h : ∀ p ∈ L, f p.1 p.2 = g p.1 p.2) : tabL L f = tabL L g := by
  unfold tabL
  apply List.map_congr_left
  intro p hp
  unfold entOf
  rw [h p hp]
def tabS (h : Hall) (s : Stand) : List (NestedKey × DD) := tabL (pairs h.folk h.things.length) (at2 s)
section
variable {h : Hall} {s : Stand} {m : Meet} {b : Beat}
theorem at2_set {i j : Nat} {y : Int} (hi : i < s.length) (hj : j < (s.getD i []).length) (i' j' : Nat) : at2 (s.set i ((s.getD i []).set j y)) i' j' = updF (at2 s) i j y i' j' := by
  unfold updF at2
  by_cases q : i' = i
  · subst q
    rw [getD_of (List.getElem?_set_self hi)]
    by_cases z : j' = j
    · subst z
      rw [getD_of (List.getElem?_set_self hj), if_pos ⟨rfl, rfl⟩]
    · rw [if_neg fun y => z y.2, List.getD_eq_getElem?_getD, List.getElem?_set_ne (Ne.symm z), List.getD_eq_getElem?_getD (l := s.getD i' [])]
  · rw [if_neg fun y => q y.1, List.getD_eq_getElem?_getD (l := s.set _ _), List.getElem?_set_ne (Ne.symm q), ← List.getD_eq_getElem?_getD]
theorem tabS_put (hs : StandOk h s) {i j : Nat} (hi : i < h.folk) (hj : j < h.things.length) (y : Int) : putD (tabS h s) (kk i j) (.int y) = tabS h (s.set i ((s.getD i []).set j y)) := by
  unfold tabS
  rw [tab_put (mem_pairs.mpr ⟨hi, hj⟩)]
  refine tab_congr fun p hp => ?_
  exact (at2_set (by rw [hs.len]; exact hi) (by rw [(hs.rowAt hi).2.1]; exact hj) p.1 p.2).symm
theorem tabS_get {i j : Nat} (hi : i < h.folk) (hj : j < h.things.length) : getD (tabS h s) (kk i j) = some (.int (at2 s i j)) := tab_get (mem_pairs.mpr ⟨hi, hj⟩)
theorem tabS_len : (tabS h s).length = h.folk * h.things.length := by unfold tabS tabL; rw [List.length_map, pairs_len]
theorem rows_of (hs : StandOk h s) : (List.range h.folk).map (fun i => (List.range h.things.length).map (at2 s i)) = s := by
  apply List.ext_getElem?
  intro i
  rw [List.getElem?_map]
  by_cases hi : i < h.folk
  · obtain ⟨h1, h2⟩ := hs.rowAt hi
    rw [List.getElem?_range hi, h1]
    show some _ = some _
    congr 1
    have := map_range_getD (s.getD i []) 0
    rw [h2.1] at this
    exact this
  · rw [List.getElem?_eq_none (by simpa using hi), List.getElem?_eq_none (by rw [hs.len]; omega)]; rfl
theorem wane_at2 (hs : StandOk h s) {u : Used} {i j : Nat} (hi : i < h.folk) (hj : j < h.things.length) : at2 (wane h u s) i j = wane1 h u i j (at2 s i j) := by
  obtain ⟨h1, h2⟩ := hs.rowAt hi
  have e1 : (wane h u s)[i]? = some (waneR h u i (s.getD i [])) := by rw [wane_at, h1]; rfl
  have e2 : (waneR h u i (s.getD i []))[j]? = some (wane1 h u i j (at2 s i j)) := by rw [waneR_at, (hs.at hi hj).1]; rfl
  unfold at2 at e2 ⊢
  rw [getD_of e1, getD_of e2]
end
end PL

/-! The law's stand behind a beat. -/
namespace PL
open PySem PySem.Spec PyProof.Rows L2 RZ MA
local macro_rules | `(tactic| walk_at "pl1") => `(tactic| first | with_reducible refine ws_seq ?_ | with_reducible refine ws_ret ?_ | with_reducible refine ws_asg ?_ | with_reducible refine ws_dropC ?_ | ((with_reducible refine ws_app (a := ?a1) (xs := ?x1) ?h1 ?_); (case h1 => rfl)) | with_reducible refine ws_if ?_ | ((with_reducible refine we_d (x := ?x1) ?h1 ?_); (case h1 => rfl)) | ((with_reducible refine we_own (c := ?c1) (a := ?a1) ?h1 ?h2 ?_); (case h1 => rfl); (case h2 => rfl)) | ((fail_if_success (with_reducible refine we_all ?_ ?_)); with_reducible refine we_cb ?_) | with_reducible refine wa_cons ?_ | with_reducible refine wa_nil ?_ | with_reducible refine we_int ?_ | with_reducible refine we_bl ?_ | with_reducible refine we_non ?_ | with_reducible refine we_str ?_ | with_reducible refine we_cv ?_ | with_reducible refine we_op ?_ | with_reducible refine we_un ?_ | with_reducible refine we_andV ?_ | with_reducible refine we_orV ?_ | with_reducible refine we_notV ?_ | with_reducible refine we_chain ?_ | with_reducible refine we_tupU ?_ | with_reducible refine we_if ?_ | with_reducible refine wt_test ?_ | with_reducible refine wt_B ?_ | with_reducible refine wt_and ?_ | with_reducible refine wt_or ?_ | with_reducible refine wt_not ?_ | with_reducible refine we_sl ?_ | with_reducible refine wo_none ?_ | with_reducible refine wo_intC ?_ | ((with_reducible refine wo_var (i := ?i1) ?h1 ?_); (case h1 => rfl)) | ((with_reducible refine wo_suc (i := ?i1) ?h1 ?_); (case h1 => rfl)) | ((fail_if_success ((with_reducible refine we_callP (wa_cons (we_own (c := ?c1) (a := ?a1) ?h1 ?h2 ?_))); (case h1 => rfl); (case h2 => rfl))); with_reducible refine we_callP ?_) | with_reducible refine w2_bl ?_ | with_reducible refine w2_int ?_ | with_reducible refine wu_add ?_ | ((with_reducible refine wu_ixT (d := ?d1) ?h1 ?_); (case h1 => rfl)) | ((with_reducible refine wu_ixL (a := R.own ?a1) (xs := ?x1) (d := ?d1) ?h0 ?h1 ?_); (case h0 => (refine .inr (.inr ⟨_, 0, rfl, ?_⟩); rfl)); (case h1 => rfl)) | with_reducible refine wu_slT ?_ | with_reducible refine wk_lenT ?_ | with_reducible refine wk_min ?_ | with_reducible refine wk_max ?_ | with_reducible refine wg_name ?_ | with_reducible refine wgs_nil ?_ | with_reducible refine wgs_consD ?_ | with_reducible refine wgs_nilD ?_ | with_reducible refine wgs_cons ?_ | ((with_reducible refine wg_tup ?h1 ?_); (case h1 => rfl)))
local macro_rules | `(tactic| walk_at "pl") => `(tactic| repeat (walk_at "pl1"))
local macro_rules | `(tactic| walk_at "fin") => `(tactic| repeat' (first | exact trivial | refine And.intro ?_ ?_))
section
variable {K : PySem.W.Frag} {P : Program} {w : World}
def W__law_table : PW := fun cs Po => ∃ (h : Hall) (s : Stand), HallOk h ∧ StandOk h s ∧ cs = [.d (encStand s)] ∧ ∀ a e, Po (.c (.m a (tabS h s))) e
/-- _law_table -/
def rd__law_table (K : PySem.W.Frag) (P : Program) (w : World) : TS :=
    (tSeq (tAsg (tDNewN P w) (gName 1))
    (tSeq (tFor (iEnumA K (tCons (tVar 0) tNil)) (gTup K 2 (gCons (gName 2) (gCons (gName 3) gNil)))
    (tFor (iEnumA K (tCons (tVar 3) tNil)) (gTup K 2 (gCons (gName 4) (gCons (gName 5) gNil)))
    (tAsg (tVar 5) (gSub (tVar 1) (tTup (tCons (tVar 2) (tCons (tVar 4) tNil))) (tSetU K P w)))))
    (tRet (tVar 1))))
theorem ws__law_table : WSok K P w (rd__law_table K P w) 6 W__law_table := by
  rintro cs Po ⟨h, s, hh, hs, rfl, p⟩
  have hf := hh.folk
  have hm := hh.many
  have hsl := hs.len
  unfold rd__law_table
  walk_at "pl"
  refine we_dnew fun a1 => ?_
  walk_at "pl"
  refine ws_for (wi_enumT ?_)
  walk_at "pl"
  refine ⟨_, rfl, fun k e => ∃ a1 c2 c3 c4 c5, e = [.d (encStand s), .m a1 (tabL (pairs k h.things.length) (at2 s)), c2, c3, c4, c5] ∧ c2.own = none ∧ c3.own = none ∧ c4.own = none ∧ c5.own = none, ⟨a1, .no, .no, .no, .no, rfl, rfl, rfl, rfl, rfl⟩, fun k x e hx => ?_, fun e => ?_⟩
  · rintro ⟨a1, c2, c3, c4, c5, rfl, h2, h3, h4, h5⟩
    obtain ⟨d, hd, rfl⟩ := enumD_at hx
    obtain ⟨r, hr, rfl⟩ := get_map hd
    have hk := (List.getElem?_eq_some_iff.mp hr).1
    obtain ⟨g1, g2⟩ := hs.rowAt (show k < h.folk by omega)
    have er : s.getD k [] = r := getD_of hr
    walk_at "pl"
    refine ws_for (wi_enumT ?_)
    walk_at "pl"
    refine ⟨_, rfl, fun j e => ∃ a1 c4 c5, e = [.d (encStand s), .m a1 (tabL (pairs k h.things.length ++ (List.range j).map fun j => (k, j)) (at2 s)), .d (.int (k : Nat)), .d (encRow r), c4, c5] ∧ c4.own = none ∧ c5.own = none, ⟨a1, c4, c5, by rw [List.range_zero, List.map_nil, List.append_nil]; rfl, h4, h5⟩, fun j x e hx => ?_, fun e => ?_⟩
    · rintro ⟨a1, c4, c5, rfl, h4, h5⟩
      obtain ⟨d, hd, rfl⟩ := enumD_at hx
      obtain ⟨y, hy, rfl⟩ := get_map hd
      have hj := (List.getElem?_eq_some_iff.mp hy).1
      have hjt : j < h.things.length := by rw [← g2.1, er]; exact hj
      have ey : at2 s k j = y := by unfold at2; rw [er]; exact getD_of hy
      walk_at "pl"
      refine wg_set ?_
      walk_at "pl"
      refine ⟨_, rfl, ?_⟩
      walk_at "pl"
      have hzz : (tabL (pairs k h.things.length ++ (List.range j).map fun j => (k, j)) (at2 s)).length < 16000000 := by
        unfold tabL
        rw [List.length_map, List.length_append, pairs_len, List.length_map, List.length_range]
        have : k * h.things.length ≤ 4 * 3 := Nat.mul_le_mul (by omega) (by omega)
        omega
      refine ⟨_, rfl, by simp, .inr ⟨kk k j, _, 1, _, rfl, rfl, kk_depth _ _, rfl, hzz, ?_⟩⟩
      refine ⟨a1, .d (.int (j : Nat)), .d (.int y), ?_, rfl, rfl⟩
      have en : putD (tabL (pairs k h.things.length ++ (List.range j).map fun j => (k, j)) (at2 s)) (kk k j) (.int y) = tabL (pairs k h.things.length ++ (List.range (j + 1)).map fun j => (k, j)) (at2 s) := by
        rw [← ey, tab_new, List.range_succ, List.map_append, List.append_assoc]
        · rfl
        · intro z
          rcases List.mem_append.mp z with z | z
          · exact Nat.lt_irrefl _ (mem_pairs.mp z).1
          · obtain ⟨j', hj', e⟩ := List.mem_map.mp z
            have := List.mem_range.mp hj'
            have := (Prod.mk.inj e).2
            omega
      rw [en]
      rfl
    · rintro ⟨a1, c4, c5, rfl, h4, h5⟩
      have e1 : (enumD (r.map PyData.int)).length = h.things.length := by rw [enumD_len, List.length_map, ← g2.1, er]
      refine ⟨a1, .d (.int (k : Nat)), .d (encRow r), c4, c5, ?_, rfl, rfl, h4, h5⟩
      rw [e1]
      unfold pairs
      rw [flat_succ]
  · rintro ⟨a1, c2, c3, c4, c5, rfl, h2, h3, h4, h5⟩
    dsimp only
    rw [enumD_len, List.length_map, hsl]
    refine ws_ret (we_move rfl rfl ?_)
    exact ⟨⟨trivial, trivial⟩, p _ _⟩
def W__law_met : PW := fun cs Po => ∃ (h : Hall) (s : Stand) (m : Meet) (a : Addr), HallOk h ∧ StandOk h s ∧ MeetOk h m ∧ cs = [.d (encHall h), .m a (tabS h s), .d (encMeet m)] ∧ ∀ e, e[1]? = some (.m a (tabS h (if lesson h s m then taught h s m else s))) → Po (.c (.d (.bool (lesson h s m)))) e
/-- _law_met -/
def rd__law_met (K : PySem.W.Frag) (P : Program) (w : World) : TS :=
    (tSeq (tAsg (tVar 2) (gTup K 3 (gCons (gName 3) (gCons (gName 4) (gCons (gName 5) gNil)))))
    (tSeq (tAsg (tOp (rIxU K P w) (tOp (rIxU K P w) (tVar 0) (tC (.int 1))) (tVar 5)) (gTup K 4 (gCons (gName 6) (gCons (gName 7) (gCons (gName 8) (gCons (gName 9) gNil))))))
    (tSeq (tIfS (tOr (tTest (tOp (rI0 fun i j => .bl (decide (i < j))) (tOp (rIxU K P w) (tVar 1) (tTup (tCons (tVar 3) (tCons (tVar 5) tNil)))) (tVar 7))) (tTest (tOp (rNeD K) (tLc (iSeqU K (tVar 6)) (gName 10) (tTest (tOp (rEqD K) (tOp (rIxU K P w) (tVar 1) (tTup (tCons (tVar 4) (tCons (tVar 10) tNil)))) (tC (.int 0)))) (tVar 10) [10]) (tLst tNil)))) (tRet (tC (.bl false))) tNext)
    (tSeq (tAsg (tCB rMin (tCons (tVar 8) (tCons (tOp (rAddU K) (tOp (rIxU K P w) (tVar 1) (tTup (tCons (tVar 4) (tCons (tVar 5) tNil)))) (tC (.int 1))) tNil))) (gSub (tVar 1) (tTup (tCons (tVar 4) (tCons (tVar 5) tNil))) (tSetU K P w)))
    (tRet (tC (.bl true)))))))
theorem ws__law_met : WSok K P w (rd__law_met K P w) 11 W__law_met := by
  rintro cs Po ⟨h, s, m, a, hh, hs, hm, rfl, p⟩
  have hl := hh.le hm.thing
  have hlen := up_len hl.up hl.lt
  have h4 := hm.thing
  have h3 := hh.many
  have hf := hh.folk
  have hz : (tabS h s).length < 16000000 := by
    rw [tabS_len]
    have : h.folk * h.things.length ≤ 4 * 3 := Nat.mul_le_mul (by omega) (by omega)
    omega
  unfold rd__law_met
  walk_at "pl"
  refine wu_ixT (atI_map (lore_at hm.thing)) ?_
  walk_at "pl"
  refine ⟨_, rfl, by simp, ?_⟩
  refine wu_dGet (k := kk m.one m.thing) 1 rfl rfl (kk_depth _ _) (tabS_get hm.one hm.thing) ?_
  walk_at "pl"
  refine ⟨_, rfl, fun hc => ?_, fun hc => ?_⟩
  · refine ⟨fun _ => ?_, fun z => nomatch z⟩
    have e : lesson h s m = false := by
      unfold lesson
      have := of_decide_eq_true hc
      rw [decide_eq_false (by omega)]; rfl
    rw [e] at p
    walk_at "pl"
    exact ⟨⟨trivial, ⟨_, rfl, rfl⟩, trivial, trivial⟩, p _ rfl⟩
  have hc1 : decide ((h.lore m.thing).teach ≤ at2 s m.one m.thing) = true := decide_eq_true (by have := of_decide_eq_false hc; omega)
  walk_at "pl"
  refine we_lcC (gin_name (by decide)) (wu_seqT ?_)
  walk_at "pl"
  refine ⟨_, rfl, len_big hlen (by omega), own1 rfl, fun k => decide (at2 s m.other ((h.lore m.thing).needs.getD k 0) = 0), fun k => .int (((h.lore m.thing).needs.getD k 0 : Nat) : Int), fun k x hx => ?_, fun a2 => ?_⟩
  · obtain ⟨n, hn, rfl⟩ := get_map hx
    have hlt := hl.lt n (List.mem_of_getElem? hn)
    have en : (h.lore m.thing).needs.getD k 0 = n := getD_of hn
    walk_at "pl"
    refine ⟨_, rfl, by simp, ?_⟩
    refine wu_dGet (k := kk m.other n) 1 rfl rfl (kk_depth _ _) (tabS_get hm.other (by omega)) ?_
    walk_at "pl"
    refine w2_eqD .dat .dat rfl rfl ⟨_, rfl, ?_, fun hb => ?_, fun hb => rfl⟩
    · rw [nice_int.eq]
      simp only [en]
    · walk_at "pl"
      exact ⟨by simp only [en], rfl⟩
  rw [List.length_map]
  have efl : ((List.range (h.lore m.thing).needs.length).filter fun k => decide (at2 s m.other ((h.lore m.thing).needs.getD k 0) = 0)).map (fun k => PyData.int (((h.lore m.thing).needs.getD k 0 : Nat) : Int)) = ((h.lore m.thing).needs.filter fun n => decide (at2 s m.other n = 0)).map fun (n : Nat) => PyData.int (n : Int) := by
    rw [← filter_range (h.lore m.thing).needs 0 fun n => decide (at2 s m.other n = 0), List.map_map]
    rfl
  rw [efl]
  generalize hxs : (h.lore m.thing).needs.filter (fun n => decide (at2 s m.other n = 0)) = xs
  refine we_lstU ?_
  walk_at "pl"
  refine ⟨_, rfl, by simp, fun a3 => ?_⟩
  refine w2_neD (.inr ⟨_, rfl, .inr (.inl ⟨a2, rfl⟩)⟩) (.inr ⟨_, rfl, .inr (.inl ⟨a3, rfl⟩)⟩) (nice_nat.lst.shaped (by omega) xs) rfl ⟨_, rfl, ?_⟩
  have ee : PyData.eqv (.list (xs.map fun (n : Nat) => PyData.int (n : Int))) (.list []) = decide (xs = []) := nice_nat.lst.eq xs []
  rw [ee]
  have hall : (xs = []) ↔ ((h.lore m.thing).needs.all fun n => decide (0 < at2 s m.other n)) = true := by
    rw [← hxs, List.filter_eq_nil_iff, List.all_eq_true]
    constructor
    · intro g n hn
      have b := (hs.at hm.other (show n < h.things.length by have := hl.lt n hn; omega)).2
      have := g n hn
      rw [decide_eq_true_iff] at this ⊢
      omega
    · intro g n hn
      have := g n hn
      rw [decide_eq_true_iff] at this ⊢
      omega
  refine ⟨fun hb => ?_, fun hb => ws_nx ?_⟩
  · have e : lesson h s m = false := by
      unfold lesson
      rw [hc1, Bool.true_and]
      rw [Bool.not_eq_true', decide_eq_false_iff_not] at hb
      rw [hall] at hb
      exact Bool.eq_false_iff.mpr hb
    rw [e] at p
    walk_at "pl"
    exact ⟨⟨trivial, ⟨_, rfl, rfl⟩, trivial, trivial⟩, p _ rfl⟩
  · have e : lesson h s m = true := by
      unfold lesson
      rw [hc1, Bool.true_and]
      rw [Bool.not_eq_false', decide_eq_true_iff] at hb
      exact hall.mp hb
    rw [e] at p
    walk_at "pl"
    refine ⟨_, rfl, by simp, ?_⟩
    refine wu_dGet (k := kk m.other m.thing) 1 rfl rfl (kk_depth _ _) (tabS_get hm.other hm.thing) ?_
    walk_at "pl"
    refine wg_set ?_
    walk_at "pl"
    refine ⟨_, rfl, ?_⟩
    walk_at "pl"
    refine ⟨_, rfl, by simp, .inr ⟨kk m.other m.thing, _, 1, _, rfl, rfl, kk_depth _ _, rfl, hz, ?_⟩⟩
    rw [tabS_put hs hm.other hm.thing]
    walk_at "pl"
    exact ⟨⟨trivial, ⟨_, rfl, rfl⟩, trivial, trivial⟩, p _ rfl⟩
end
end PL

/-! The law's stand behind a beat. -/
namespace PL
open PySem PySem.Spec PyProof.Rows L2 RZ MA
local macro_rules | `(tactic| walk_at "pl1") => `(tactic| first | with_reducible refine ws_seq ?_ | with_reducible refine ws_ret ?_ | with_reducible refine ws_asg ?_ | with_reducible refine ws_dropC ?_ | ((with_reducible refine ws_app (a := ?a1) (xs := ?x1) ?h1 ?_); (case h1 => rfl)) | with_reducible refine ws_if ?_ | ((with_reducible refine we_d (x := ?x1) ?h1 ?_); (case h1 => rfl)) | ((with_reducible refine we_own (c := ?c1) (a := ?a1) ?h1 ?h2 ?_); (case h1 => rfl); (case h2 => rfl)) | ((fail_if_success (with_reducible refine we_all ?_ ?_)); with_reducible refine we_cb ?_) | with_reducible refine wa_cons ?_ | with_reducible refine wa_nil ?_ | with_reducible refine we_int ?_ | with_reducible refine we_bl ?_ | with_reducible refine we_non ?_ | with_reducible refine we_str ?_ | with_reducible refine we_cv ?_ | with_reducible refine we_op ?_ | with_reducible refine we_un ?_ | with_reducible refine we_andV ?_ | with_reducible refine we_orV ?_ | with_reducible refine we_notV ?_ | with_reducible refine we_chain ?_ | with_reducible refine we_tupU ?_ | with_reducible refine we_if ?_ | with_reducible refine wt_test ?_ | with_reducible refine wt_B ?_ | with_reducible refine wt_and ?_ | with_reducible refine wt_or ?_ | with_reducible refine wt_not ?_ | with_reducible refine we_sl ?_ | with_reducible refine wo_none ?_ | with_reducible refine wo_intC ?_ | ((with_reducible refine wo_var (i := ?i1) ?h1 ?_); (case h1 => rfl)) | ((with_reducible refine wo_suc (i := ?i1) ?h1 ?_); (case h1 => rfl)) | ((fail_if_success ((with_reducible refine we_callP (wa_cons (we_own (c := ?c1) (a := ?a1) ?h1 ?h2 ?_))); (case h1 => rfl); (case h2 => rfl))); with_reducible refine we_callP ?_) | with_reducible refine w2_bl ?_ | with_reducible refine w2_int ?_ | with_reducible refine wu_add ?_ | ((with_reducible refine wu_ixT (d := ?d1) ?h1 ?_); (case h1 => rfl)) | ((with_reducible refine wu_ixL (a := R.own ?a1) (xs := ?x1) (d := ?d1) ?h0 ?h1 ?_); (case h0 => (refine .inr (.inr ⟨_, 0, rfl, ?_⟩); rfl)); (case h1 => rfl)) | with_reducible refine wu_slT ?_ | with_reducible refine wk_lenT ?_ | with_reducible refine wk_min ?_ | with_reducible refine wk_max ?_ | with_reducible refine wg_name ?_ | with_reducible refine wgs_nil ?_ | with_reducible refine wgs_consD ?_ | with_reducible refine wgs_nilD ?_ | with_reducible refine wgs_cons ?_ | ((with_reducible refine wg_tup ?h1 ?_); (case h1 => rfl)))
local macro_rules | `(tactic| walk_at "pl") => `(tactic| repeat (walk_at "pl1"))
local macro_rules | `(tactic| walk_at "fin") => `(tactic| repeat' (first | exact trivial | refine And.intro ?_ ?_))
section
variable {K : PySem.W.Frag} {P : Program} {w : World}
def W__law_stand_of : PW := fun cs Po => ∃ (h : Hall) (s : Stand) (a : Addr), HallOk h ∧ StandOk h s ∧ cs = [.d (encHall h), .m a (tabS h s)] ∧ ∀ e, Po (.c (.d (encStand s))) e
/-- _law_stand_of -/
def rd__law_stand_of (K : PySem.W.Frag) (P : Program) (w : World) : TS :=
    (tSeq (tAsg (tLst tNil) (gName 2))
    (tSeq (tFor (iRng1 (tCons (tOp (rIxU K P w) (tVar 0) (tC (.int 0))) tNil)) (gName 3)
    (tDrop (tBM K "list" rAppend (tVar 2) (tCons (tCB (rTupleOf K) (tCons (tLc (iRng1 (tCons (tCB (rLen K) (tCons (tOp (rIxU K P w) (tVar 0) (tC (.int 1))) tNil)) tNil)) (gName 4) tYes (tOp (rIxU K P w) (tVar 1) (tTup (tCons (tVar 3) (tCons (tVar 4) tNil)))) [4]) tNil)) tNil))))
    (tRet (tCB (rTupleOf K) (tCons (tVar 2) tNil)))))
theorem ws__law_stand_of : WSok K P w (rd__law_stand_of K P w) 5 W__law_stand_of := by
  rintro cs Po ⟨h, s, a, hh, hs, rfl, p⟩
  have hf := hh.folk
  have hm := hh.many
  have hrows := rows_of hs
  unfold rd__law_stand_of
  walk_at "pl"
  refine we_lstU ?_
  walk_at "pl"
  refine ⟨_, rfl, by simp, fun a2 => ?_⟩
  walk_at "pl"
  refine ws_for (wi_range1 ?_)
  walk_at "pl"
  refine ⟨_, rfl, by omega, by omega, fun k e => ∃ a2 c3, e = [.d (encHall h), .m a (tabS h s), .l a2 (((List.range k).map fun i => (List.range h.things.length).map (at2 s i)).map encRow), c3, .no] ∧ c3.own = none, ⟨a2, .no, rfl, rfl⟩, fun k x e hx => ?_, fun e => ?_⟩
  · rintro ⟨a2, c3, rfl, h3⟩
    obtain ⟨i', hi, rfl⟩ := get_map hx
    obtain ⟨hi1, hi2⟩ := List.getElem?_eq_some_iff.mp hi
    rw [List.getElem_range] at hi2
    subst hi2
    rw [List.length_range] at hi1
    walk_at "pl"
    refine we_lcF (gin_name (by decide)) (wi_range1 ?_)
    walk_at "pl"
    refine ⟨_, rfl, by rw [List.length_map]; omega, by rw [List.length_map]; omega, by rw [List.length_map, List.length_range, List.length_map]; omega, own1 rfl, fun j => .int (at2 s k j), fun j x hx => ?_, fun b => ?_⟩
    · obtain ⟨j', hj, rfl⟩ := get_map hx
      obtain ⟨hj1, hj2⟩ := List.getElem?_eq_some_iff.mp hj
      rw [List.getElem_range] at hj2
      subst hj2
      rw [List.length_range, List.length_map] at hj1
      walk_at "pl"
      refine ⟨_, rfl, by simp, ?_⟩
      refine wu_dGet (k := kk k j) 1 rfl rfl (kk_depth _ _) (tabS_get (by omega) (by omega)) ?_
      exact ⟨rfl, rfl⟩
    · walk_at "pl"
      refine wk_tuple (.inr (.inl ⟨b, rfl⟩)) ?_
      refine ⟨_, _, rfl, rfl, ?_, a2, .d (.int (k : Nat)), ?_, rfl⟩
      · rw [List.length_map, List.length_map, List.length_range]; omega
      · rw [List.range_succ, List.map_append, List.map_append, List.length_map, List.length_range, List.length_map]
        have e : encRow ((List.range h.things.length).map (at2 s k)) = .tuple ((List.range h.things.length).map fun j => .int (at2 s k j)) := congrArg PyData.tuple List.map_map
        show _ = [_, _, C.l a2 (_ ++ [encRow ((List.range h.things.length).map (at2 s k))]), _, _]
        rw [e]
        rfl
  · rintro ⟨a2, c3, rfl, h3⟩
    dsimp only
    rw [List.length_map, List.length_range]
    have e : (Int.toNat (h.folk : Int)) = h.folk := rfl
    rw [e, hrows]
    walk_at "pl"
    refine wk_tuple (.inr (.inr ⟨_, 2, rfl, rfl⟩)) ?_
    exact ⟨⟨trivial, ⟨_, rfl, rfl⟩, trivial⟩, p _⟩
def W__law_behind : PW := fun cs Po => ∃ (h : Hall) (s : Stand) (b : Beat), HallOk h ∧ StandOk h s ∧ BeatOk h b ∧ cs = [.d (encHall h), .d (encStand s), .d (encBeat b)] ∧ ∀ e, Po (.c (.d (encStand (behind h s b)))) e
/-- _law_behind -/
def rd__law_behind (K : PySem.W.Frag) (P : Program) (w : World) : TS :=
    (tSeq (tPar 3 4 (tCons (tCall (spW K P w W__law_table) [] E0 (tCons (tVar 1) tNil)) (tCons (tLst tNil) tNil)))
    (tSeq (tFor (iSeqU K (tVar 2)) (gName 5)
    (tIfS (tB (tCall (spW K P w W__law_met) [] E0 (tCons (tVar 0) (tCons (tVar 3) (tCons (tVar 5) tNil))))) (tAsg (tOp (rAddU K) (tVar 4) (tLst (tCons (tTup (tCons (tOp (rIxU K P w) (tVar 5) (tC (.int 0))) (tCons (tOp (rIxU K P w) (tVar 5) (tC (.int 2))) tNil))) (tCons (tTup (tCons (tOp (rIxU K P w) (tVar 5) (tC (.int 1))) (tCons (tOp (rIxU K P w) (tVar 5) (tC (.int 2))) tNil))) tNil)))) (gName 4)) tNext))
    (tSeq (tFor (iSeqU K (tCB (rListU K P w) (tCons (tVar 3) tNil))) (gName 6)
    (tIfS (tTest (tOp (rNotInU K P w) (tVar 6) (tVar 4))) (tAsg (tCB rMax (tCons (tC (.int 0)) (tCons (tOp (rI0 fun i j => .int (i - j)) (tOp (rIxU K P w) (tVar 3) (tVar 6)) (tOp (rIxU K P w) (tOp (rIxU K P w) (tOp (rIxU K P w) (tVar 0) (tC (.int 1))) (tOp (rIxU K P w) (tVar 6) (tC (.int 1)))) (tC (.int 3)))) tNil))) (gSub (tVar 3) (tVar 6) (tSetU K P w))) tNext))
    (tRet (tCall (spW K P w W__law_stand_of) [] E0 (tCons (tVar 0) (tCons (tVar 3) tNil)))))))
theorem ws__law_behind : WSok K P w (rd__law_behind K P w) 7 W__law_behind := by
  rintro cs Po ⟨h, s, b, hh, hs, hb, rfl, p⟩
  have hf := hh.folk
  have hm := hh.many
  have hbl := hb.len
  have tk : ∀ (k : Nat) (m : Meet), b[k]? = some m → run h s (b.take (k + 1)) = turn h (run h s (b.take k)) m := fun k m hk => by
    unfold MA.run
    rw [List.take_succ, List.foldl_append, hk]
    rfl
  have tok : ∀ k, StandOk h (run h s (b.take k)).1 := fun k => run_ok hh hs fun m hm => hb.all m (List.mem_of_mem_take hm)
  unfold rd__law_behind
  refine ws_seq (ws_par (wa_cons ?_))
  walk_at "pl"
  refine ⟨_, rfl, h, s, hh, hs, rfl, fun a3 _ => ?_⟩
  walk_at "pl"
  refine we_lstU ?_
  walk_at "pl"
  refine ⟨_, rfl, by simp, fun a4 => ?_⟩
  walk_at "pl"
  refine ⟨rfl, ?_⟩
  walk_at "pl"
  refine ws_for (wu_seqT ?_)
  walk_at "pl"
  refine ⟨_, rfl, fun k e => ∃ a3 a4 c5, e = [.d (encHall h), .d (encStand s), .d (encBeat b), .m a3 (tabS h (run h s (b.take k)).1), .l a4 ((run h s (b.take k)).2.map encPair), c5, .no] ∧ (run h s (b.take k)).2.length ≤ 2 * k ∧ c5.own = none, ⟨a3, a4, .no, rfl, Nat.le_refl _, rfl⟩, fun k x e hx => ?_, fun e => ?_⟩
  · rintro ⟨a3, a4, c5, rfl, hz, h5⟩
    obtain ⟨m, hm', rfl⟩ := get_map hx
    have hmk := hb.all m (List.mem_of_getElem? hm')
    have hkl := (List.getElem?_eq_some_iff.mp hm').1
    dsimp only
    rw [tk k m hm']
    generalize hp : run h s (b.take k) = p0 at *
    have hs0 : StandOk h p0.1 := by have := tok k; rw [hp] at this; exact this
    refine wg_name (ws_if (wt_B (we_callO1 3 (wa_cons ?_))))
    walk_at "pl"
    refine ⟨_, _, _, _, _, rfl, rfl, rfl, rfl, h, p0.1, m, a3, hh, hs0, hmk, rfl, fun e1 he1 c' hc1 ho1 => ?_⟩
    have hc2 : e1[1]? = some c' := hc1
    rw [he1] at hc2
    have ec := Option.some.inj hc2
    subst ec
    refine ⟨_, rfl, fun hl => ?_, fun hl => ?_⟩
    · rw [if_pos hl]
      unfold turn
      rw [if_pos hl]
      walk_at "pl"
      refine we_lstU ?_
      walk_at "pl"
      refine ⟨_, rfl, by simp, ?_⟩
      walk_at "pl"
      refine ⟨_, rfl, by simp, ?_⟩
      walk_at "pl"
      refine ⟨_, rfl, by simp, fun a6 => ?_⟩
      refine wu_catL (.inr (.inr ⟨a4, 4, rfl, rfl⟩)) (.inr (.inl ⟨a6, rfl⟩)) ?_ fun a4 => ?_
      · rw [List.length_map]; simp; omega
      · walk_at "pl"
        refine ⟨a3, a4, .d (encMeet m), ?_, ?_, rfl⟩
        · rw [List.map_append]
          rfl
        · rw [List.length_append]; simp; omega
    · have hl' : ¬ lesson h p0.1 m = true := by rw [hl]; decide
      rw [if_neg hl']
      unfold turn
      rw [if_neg hl']
      exact ws_nx ⟨a3, a4, .d (encMeet m), rfl, by omega, rfl⟩
  · rintro ⟨a3, a4, c5, rfl, hz, h5⟩
    dsimp only
    rw [List.length_map, List.take_length] at *
    unfold behind at p
    have hs0 : StandOk h (run h s b).1 := run_ok hh hs hb.all
    generalize hp : run h s b = p0 at *
    have hT : tabS h p0.1 = tabL (pairs h.folk h.things.length) (at2 p0.1) := rfl
    have hpl : (pairs h.folk h.things.length).length ≤ 12 := by
      rw [pairs_len]
      have := Nat.mul_le_mul (show h.folk ≤ 4 by omega) (show h.things.length ≤ 3 by omega)
      omega
    have hnd := pairs_nodup h.folk h.things.length
    have hmp := fun p => mem_pairs (n := h.folk) (m := h.things.length) (p := p)
    rw [hT]
    walk_at "pl"
    refine ws_for (wu_seqL (we_frz (we_cb (wa_cons ?_))))
    walk_at "pl"
    refine wk_listD 3 rfl fun q => ⟨q, _, rfl, _, rfl, ?_⟩
    have hkeys : (tabL (pairs h.folk h.things.length) (at2 p0.1)).map (fun p => kd p.1) = (pairs h.folk h.things.length).map encPair := by
      unfold tabL
      rw [List.map_map]
      rfl
    rw [hkeys]
    generalize hL : pairs h.folk h.things.length = L at *
    let fk : Nat → Nat → Nat → Int := fun k i j => if (i, j) ∈ L.take k then wane1 h p0.2 i j (at2 p0.1 i j) else at2 p0.1 i j
    have hfk0 : tabL L (fk 0) = tabL L (at2 p0.1) := tab_congr fun p _ => if_neg (by simp)
    refine ⟨fun k e => ∃ a3 c6, e = [.d (encHall h), .d (encStand s), .d (encBeat b), .m a3 (tabL L (fk k)), .l a4 (p0.2.map encPair), c5, c6] ∧ c6.own = none, ⟨a3, .no, by rw [hfk0], rfl⟩, fun k x e hx => ?_, fun e => ?_⟩
    · rintro ⟨a3, c6, rfl, h6⟩
      obtain ⟨⟨i, j⟩, hij, rfl⟩ := get_map hx
      have hmem : (i, j) ∈ L := List.mem_of_getElem? hij
      obtain ⟨hi, hj⟩ := (hmp (i, j)).mp hmem
      have hnk : (i, j) ∉ L.take k := fun z => by
        obtain ⟨k', hk', e⟩ := List.mem_iff_getElem.mp z
        rw [List.length_take] at hk'
        rw [List.getElem_take] at e
        obtain ⟨hk1, hk2⟩ := List.getElem?_eq_some_iff.mp hij
        have := (List.getElem?_inj (i := k') (j := k) (show k' < L.length by omega) hnd).mp (by rw [hij, List.getElem?_eq_getElem (show k' < L.length by omega), e])
        omega
      have ef : fk k i j = at2 p0.1 i j := if_neg hnk
      have efs : ∀ p ∈ L, p ≠ (i, j) → fk (k + 1) p.1 p.2 = fk k p.1 p.2 := fun p hp hne => by
        show (if (p.1, p.2) ∈ L.take (k + 1) then _ else _) = if (p.1, p.2) ∈ L.take k then _ else _
        have : ((p.1, p.2) ∈ L.take (k + 1)) ↔ ((p.1, p.2) ∈ L.take k) := by
          rw [take_succ_at hij, List.mem_append, List.mem_singleton]
          exact ⟨fun z => z.elim id fun z => absurd z hne, .inl⟩
        by_cases q : (p.1, p.2) ∈ L.take k
        · rw [if_pos q, if_pos (this.mpr q)]
        · rw [if_neg q, if_neg fun z => q (this.mp z)]
      have efn : fk (k + 1) i j = wane1 h p0.2 i j (at2 p0.1 i j) := if_pos (by rw [take_succ_at hij]; exact List.mem_append_right _ List.mem_cons_self)
      walk_at "pl"
      refine wu_notInL (d := encPair (i, j)) .dat (.inr (.inr ⟨a4, 4, rfl, rfl⟩)) (nice_pair.shaped (by omega) (i, j)) (nice_pair.lst.shaped (by omega) p0.2) ⟨_, rfl, ?_⟩
      rw [nice_pair.any]
      refine ⟨fun hq => ?_, fun hq => ws_nx ?_⟩
      · have hni : (i, j) ∉ p0.2 := by
          rw [Bool.not_eq_true', decide_eq_false_iff_not] at hq
          exact hq
        walk_at "pl"
        refine wu_dGet (k := kk i j) 3 rfl rfl (kk_depth _ _) (tab_get hmem) ?_
        walk_at "pl"
        refine wu_ixT (atI_map (lore_at hj)) ?_
        walk_at "pl"
        refine wg_set ?_
        walk_at "pl"
        refine ⟨_, rfl, ?_⟩
        walk_at "pl"
        refine .inr ⟨kk i j, _, 3, _, rfl, rfl, kk_depth _ _, rfl, by unfold tabL; rw [List.length_map]; omega, ?_⟩
        rw [tab_put hmem]
        refine ⟨a3, .d (encPair (i, j)), ?_, rfl⟩
        have e : tabL L (updF (fk k) i j (max 0 (fk k i j - (h.lore j).loss))) = tabL L (fk (k + 1)) := tab_congr fun p hp => by
          unfold updF
          by_cases q : p.1 = i ∧ p.2 = j
          · rw [if_pos q, q.1, q.2, efn, ef]
            unfold wane1
            rw [if_neg hni]
          · rw [if_neg q]
            exact (efs p hp fun z => q (by rw [z]; exact ⟨rfl, rfl⟩)).symm
        rw [e]
        rfl
      · have hin : (i, j) ∈ p0.2 := by
          by_cases z : (i, j) ∈ p0.2
          · exact z
          · exact absurd hq (by simp [z])
        refine ⟨a3, .d (encPair (i, j)), ?_, rfl⟩
        have e : tabL L (fk k) = tabL L (fk (k + 1)) := tab_congr fun p hp => by
          by_cases q : p = (i, j)
          · subst q
            rw [efn, ef]
            unfold wane1
            rw [if_pos hin]
          · exact (efs p hp q).symm
        rw [e]
        rfl
    · rintro ⟨a3, c6, rfl, h6⟩
      dsimp only
      rw [List.length_map]
      have hend : tabL L (fk L.length) = tabS h (wane h p0.2 p0.1) := by
        unfold tabS
        rw [hL]
        refine tab_congr fun p hp => ?_
        show (if (p.1, p.2) ∈ L.take L.length then _ else _) = _
        rw [List.take_length, if_pos hp]
        obtain ⟨hi, hj⟩ := (hmp p).mp hp
        exact (wane_at2 hs0 hi hj).symm
      rw [hend]
      refine ws_ret (we_callO1 3 (wa_cons ?_))
      walk_at "pl"
      refine ⟨_, _, _, _, _, rfl, rfl, rfl, rfl, h, wane h p0.2 p0.1, a3, hh, wane_ok hh hs0, rfl, fun e1 c' hc1 ho1 => ?_⟩
      exact ⟨⟨trivial, trivial, trivial, trivial⟩, p _⟩
end
end PL

/-! A list of one's own, lent as data to a def that answers yes or no; the deck. -/
namespace PL
open PySem PySem.Spec PyProof.Rows L2 RZ MA
section
variable {K : PySem.W.Frag} {P : Program} {w : World}
variable {env : List C} {Po : R → List C → Prop} {t : TA}
theorem we_callB {W : PW} {E : XK} (h : WA K P w t env fun rs e => ∃ (a : Addr) (j : Nat) (xs : List DD) (rest : List R) (cs : List C), rs = .own a :: rest ∧ e[j]? = some (C.l a xs) ∧ argsD rest = some cs ∧ W (.d (.list xs) :: cs) fun r _ => ∃ b, r = .c (.d (.bool b)) ∧ Po r e) :
    WE K P w (tCall (spW K P w W) [] E t) env Po := fun σ G H rp Q o =>
  h σ G H rp _ fun rs vs e1 G1 H1 ⟨a, j, xs, rest, cs, er, hj, hr, hW⟩ s1 r1 ps fs => by
    subst er
    obtain ⟨u, _, okc⟩ := r1.at hj (by simp)
    obtain ⟨_, hg, us, ho, hd⟩ : CellOk K P w G1 H1 u (.l a xs) := okc
    have g2 : Same G1 (upd G1 a (.lst us)) := same_new hg
    have sub2 : Same (upd G1 a (.lst us)) H1 := fun b x e => by
      by_cases q : b = a
      · rw [q, upd_same] at e; rw [q, ho]; exact e
      · rw [upd_ne q] at e; exact r1.sub b x e
    obtain ⟨ha1, hn⟩ := argsD_ok (env := e1) hr
    have ps1 := ps.all
    cases ps1 with
    | @cons v0 _ vs0 _ p0 pt =>
      obtain ⟨l, q1, q2⟩ := ha1.cells r1 pt
      have no : ∀ b, ¬ Owns (C.d (.list xs) :: cs) b := fun b ⟨i, c, hi, hc⟩ => by
        cases i with
        | zero => simp at hi; subst hi; cases hc
        | succ i => rw [hn c (List.mem_of_getElem? (by simpa using hi))] at hc; cases hc
      refine ⟨C.d (.list xs) :: cs, upd G1 a (.lst us), _, hW, by rw [List.append_nil]; exact congrArg (· + 1) l, ⟨by rw [List.append_nil, List.length_map]; exact congrArg (· + 1) l, sub2, fun i c hi => .inr ?_, fun i j ci cj a hi hj h1 h2 => absurd ⟨i, ci, hi, h1⟩ (no a)⟩, fun r v cs' G' H' p st kp ok sub res fr => ?_⟩
      · rw [List.append_nil]
        cases i with
        | zero =>
          simp at hi; subst hi
          refine ⟨v0, rfl, ?_⟩
          rw [show v0 = .ref a from p0.1]
          exact Dp.lst (.inl (.inl upd_same)) (L2.DpAll.pmono g2 hd)
        | succ i =>
          obtain ⟨v, h1, h2⟩ := q1 i c (by simpa using hi)
          have hcn := hn c (List.mem_of_getElem? (by simpa using hi))
          exact ⟨v, by simpa using h1, cell_mono h2 g2 (fun b hb => by rw [hcn] at hb; cases hb) fun b hb => rfl⟩
      obtain ⟨b, er, pb⟩ := p
      subst er
      have kp1 : ∀ c o, H1 c = some o → H' c = some o := fun c o e => st.keep c o e (no c) fun z => z
      have s2 : Stp e1 G1 H1 e1 G1 H' := ⟨fun _ _ h => h, fun _ _ h _ _ => h, fun c x e _ _ => kp1 c x e, st.dom, fun _ h => .inl h⟩
      refine o _ v e1 G1 H' pb (s1.trans s2) ⟨r1.len, fun c x e => kp1 c x (r1.sub c x e), fun i c hi => ?_, r1.inj⟩ ?_ Fr.dat
      · rcases r1.ok i c hi with z | ⟨u', hu', ok'⟩
        · exact .inl z
        · refine .inr ⟨u', hu', cell_mono ok' (fun _ _ h => h) (fun b hb => (cell_there ok' hb).2.1) fun b hb => ?_⟩
          obtain ⟨_, _, x, hx⟩ := cell_there ok' hb
          rw [hx]
          exact kp1 b x hx
      · have rv : Dp K G' v (.bool b) := res
        cases rv
        exact Dp.bl b
end
/-! ### the deck -/
abbrev deckC (a : Addr) (x y z : Int) : C := .l a [.int x, .int y, .int z]
structure DeckOk (n : Nat) (y z : Int) : Prop where
  y0 : 0 ≤ y
  y1 : y < 2147483647
  z0 : 0 ≤ z
  z1 : z ≤ n
theorem DeckOk.mono {n m : Nat} {y z : Int} (h : DeckOk n y z) (hm : n ≤ m) : DeckOk m y z := ⟨h.y0, h.y1, h.z0, by have := h.z1; omega⟩
def DK (n : Nat) (a : Addr) (e : List C) : Prop := ∃ x y z, e[0]? = some (deckC a x y z) ∧ DeckOk n y z
theorem head_eq {e : List C} {c c' : C} (h : e[0]? = some c) (h' : e.head? = some c') : c' = c := by
  rw [List.head?_eq_getElem?, h] at h'
  exact (Option.some.inj h').symm
end PL

/-! The law's deck. -/
namespace PL
open PySem PySem.Spec PyProof.Rows L2 RZ MA
local macro_rules | `(tactic| walk_at "pl1") => `(tactic| first | with_reducible refine ws_seq ?_ | with_reducible refine ws_ret ?_ | with_reducible refine ws_asg ?_ | with_reducible refine ws_dropC ?_ | ((with_reducible refine ws_app (a := ?a1) (xs := ?x1) ?h1 ?_); (case h1 => rfl)) | with_reducible refine ws_if ?_ | ((with_reducible refine we_d (x := ?x1) ?h1 ?_); (case h1 => rfl)) | ((with_reducible refine we_own (c := ?c1) (a := ?a1) ?h1 ?h2 ?_); (case h1 => rfl); (case h2 => rfl)) | ((fail_if_success (with_reducible refine we_all ?_ ?_)); with_reducible refine we_cb ?_) | with_reducible refine wa_cons ?_ | with_reducible refine wa_nil ?_ | with_reducible refine we_int ?_ | with_reducible refine we_bl ?_ | with_reducible refine we_non ?_ | with_reducible refine we_str ?_ | with_reducible refine we_cv ?_ | with_reducible refine we_op ?_ | with_reducible refine we_un ?_ | with_reducible refine we_andV ?_ | with_reducible refine we_orV ?_ | with_reducible refine we_notV ?_ | with_reducible refine we_chain ?_ | with_reducible refine we_tupU ?_ | with_reducible refine we_if ?_ | with_reducible refine wt_test ?_ | with_reducible refine wt_B ?_ | with_reducible refine wt_and ?_ | with_reducible refine wt_or ?_ | with_reducible refine wt_not ?_ | with_reducible refine we_sl ?_ | with_reducible refine wo_none ?_ | with_reducible refine wo_intC ?_ | ((with_reducible refine wo_var (i := ?i1) ?h1 ?_); (case h1 => rfl)) | ((with_reducible refine wo_suc (i := ?i1) ?h1 ?_); (case h1 => rfl)) | ((fail_if_success ((with_reducible refine we_callP (wa_cons (we_own (c := ?c1) (a := ?a1) ?h1 ?h2 ?_))); (case h1 => rfl); (case h2 => rfl))); with_reducible refine we_callP ?_) | with_reducible refine w2_bl ?_ | with_reducible refine w2_int ?_ | with_reducible refine wu_add ?_ | ((with_reducible refine wu_ixT (d := ?d1) ?h1 ?_); (case h1 => rfl)) | ((with_reducible refine wu_ixL (a := R.own ?a1) (xs := ?x1) (d := ?d1) ?h0 ?h1 ?_); (case h0 => (refine .inr (.inr ⟨_, 0, rfl, ?_⟩); rfl)); (case h1 => rfl)) | with_reducible refine wu_slT ?_ | with_reducible refine wk_lenT ?_ | with_reducible refine wk_min ?_ | with_reducible refine wk_max ?_ | with_reducible refine wg_name ?_ | with_reducible refine wgs_nil ?_ | with_reducible refine wgs_consD ?_ | with_reducible refine wgs_nilD ?_ | with_reducible refine wgs_cons ?_ | ((with_reducible refine wg_tup ?h1 ?_); (case h1 => rfl)))
local macro_rules | `(tactic| walk_at "pl") => `(tactic| repeat (walk_at "pl1"))
local macro_rules | `(tactic| walk_at "fin") => `(tactic| repeat' (first | exact trivial | refine And.intro ?_ ?_))
section
variable {K : PySem.W.Frag} {P : Program} {w : World}
def W__law_deck : PW := fun cs Po => ∃ x t : Int, 0 ≤ t ∧ t ≤ 1000 ∧ cs = [.d (.int x), .d (.int t)] ∧ ∀ a u v z e, DeckOk 1000 v z → Po (.c (deckC a u v z)) e
/-- _law_deck -/
def rd__law_deck (K : PySem.W.Frag) (P : Program) (w : World) : TS :=
    (tSeq (tIfS (tTest (tOp (rI0 fun i j => .bl (decide (j ≤ i))) (tVar 0) (tOp (rI CPow fun i j => .int (i ^ j.toNat)) (tC (.int 10)) (tC (.int 18))))) (tRet (tLst (tCons (tOp (rI0 fun i j => .int (i - j)) (tVar 0) (tOp (rI CPow fun i j => .int (i ^ j.toNat)) (tC (.int 10)) (tC (.int 18)))) (tCons (tOp (rI (fun _ j => 0 < j) fun i j => .int (i % j)) (tVar 0) (tC (.int 2147483579))) (tCons (tVar 1) tNil))))) tNext)
    (tRet (tLst (tCons (tC (.int 0)) (tCons (tOp (rI (fun _ j => 0 < j) fun i j => .int (i % j)) (tVar 0) (tC (.int 2147483579))) (tCons (tVar 1) tNil))))))
theorem ws__law_deck : WSok K P w (rd__law_deck K P w) 2 W__law_deck := by
  rintro cs Po ⟨x, t, h0, h1, rfl, p⟩
  have hy0 : 0 ≤ x % 2147483579 := Int.emod_nonneg _ (by decide)
  have hy1 : x % 2147483579 < 2147483647 := by have := Int.emod_lt_of_pos x (show (0 : Int) < 2147483579 by decide); omega
  unfold rd__law_deck
  walk_at "pl"
  refine w2_intC ⟨by decide, by decide, by decide⟩ ?_
  walk_at "pl"
  refine ⟨_, rfl, fun _ => ?_, fun _ => ws_nx ?_⟩
  · walk_at "pl"
    refine we_lstU ?_
    walk_at "pl"
    refine w2_intC ⟨by decide, by decide, by decide⟩ ?_
    walk_at "pl"
    refine w2_intC (by decide) ?_
    walk_at "pl"
    exact ⟨_, rfl, by simp, fun a => ⟨⟨trivial, trivial, trivial⟩, p _ _ _ _ _ ⟨hy0, hy1, h0, by omega⟩⟩⟩
  · walk_at "pl"
    refine we_lstU ?_
    walk_at "pl"
    refine w2_intC (by decide) ?_
    walk_at "pl"
    exact ⟨_, rfl, by simp, fun a => ⟨⟨trivial, trivial, trivial⟩, p _ _ _ _ _ ⟨hy0, hy1, h0, by omega⟩⟩⟩
def W__law_pick : PW := fun cs Po => ∃ (a : Addr) (x y z : Int) (n : Nat) (size : Int), DeckOk n y z ∧ n ≤ 100000 ∧ 0 < size ∧ size ≤ 1000000 ∧ cs = [deckC a x y z, .d (.int size)] ∧ ∀ r e, 0 ≤ r → r < size → DK (n + 1) a e → Po (.c (.d (.int r))) e
/-- _law_pick -/
def rd__law_pick (K : PySem.W.Frag) (P : Program) (w : World) : TS :=
    (tSeq (tIfS (tTest (tOp (rI0 fun i j => .bl (decide (j < i))) (tOp (rIxU K P w) (tVar 0) (tC (.int 0))) (tC (.int 1)))) (tSeq (tAsg (tOp (rI (fun _ j => 0 < j) fun i j => .int (i % j)) (tOp (rIxU K P w) (tVar 0) (tC (.int 0))) (tVar 1)) (gName 2))
    (tSeq (tAsg (tOp (rI CDiv fun i j => .int (i / j)) (tOp (rIxU K P w) (tVar 0) (tC (.int 0))) (tVar 1)) (gSub (tVar 0) (tC (.int 0)) (tSetU K P w)))
    (tRet (tVar 2)))) tNext)
    (tSeq (tAsg (tOp (rAddU K) (tOp (rIxU K P w) (tVar 0) (tC (.int 2))) (tC (.int 1))) (gSub (tVar 0) (tC (.int 2)) (tSetU K P w)))
    (tSeq (tAsg (tOp (rI (fun _ j => 0 < j) fun i j => .int (i % j)) (tOp (rI CPow fun i j => .int (i ^ j.toNat)) (tOp (rAddU K) (tOp (rIxU K P w) (tVar 0) (tC (.int 1))) (tOp (rI CMul fun i j => .int (i * j)) (tC (.int 15485867)) (tOp (rIxU K P w) (tVar 0) (tC (.int 2))))) (tC (.int 5))) (tC (.int 2147483647))) (gName 3))
    (tSeq (tAsg (tOp (rI CDiv fun i j => .int (i / j)) (tOp (rI (fun _ j => 0 < j) fun i j => .int (i % j)) (tOp (rI CPow fun i j => .int (i ^ j.toNat)) (tOp (rAddU K) (tVar 3) (tOp (rI CMul fun i j => .int (i * j)) (tC (.int 7919)) (tOp (rIxU K P w) (tVar 0) (tC (.int 2))))) (tC (.int 3))) (tC (.int 2147483629))) (tC (.int 32))) (gName 2))
    (tRet (tOp (rI (fun _ j => 0 < j) fun i j => .int (i % j)) (tVar 2) (tVar 1)))))))
theorem ws__law_pick : WSok K P w (rd__law_pick K P w) 4 W__law_pick := by
  rintro cs Po ⟨a, x, y, z, n, size, hd, hn, h0, h1, rfl, p⟩
  have d1 := hd.y0
  have d2 := hd.y1
  have d3 := hd.z0
  have d4 := hd.z1
  unfold rd__law_pick
  walk_at "pl"
  refine ⟨_, rfl, fun _ => ?_, fun _ => ws_nx ?_⟩
  · walk_at "pl"
    refine w2_intC h0 ?_
    walk_at "pl"
    refine w2_intC ⟨h0, by omega⟩ ?_
    refine wg_set ?_
    walk_at "pl"
    refine ⟨_, rfl, ?_⟩
    walk_at "pl"
    refine .inl ⟨0, 0, 0, _, rfl, rfl, rfl, ?_⟩
    walk_at "pl"
    exact ⟨⟨⟨_, rfl, rfl⟩, trivial, trivial⟩, p _ _ (Int.emod_nonneg _ (by omega)) (Int.emod_lt_of_pos _ h0) ⟨x / size, y, z, rfl, d1, d2, d3, by omega⟩⟩
  · walk_at "pl"
    refine wg_set ?_
    walk_at "pl"
    refine ⟨_, rfl, ?_⟩
    walk_at "pl"
    refine .inl ⟨2, 2, 0, _, rfl, rfl, rfl, ?_⟩
    walk_at "pl"
    refine w2_intC (.inl ⟨by decide, by decide⟩) ?_
    walk_at "pl"
    have hb1 : 15485867 * (z + 1) ≤ 15485867 * 100001 := Int.mul_le_mul_of_nonneg_left (by omega) (by decide)
    have hb0 : 0 ≤ 15485867 * (z + 1) := Int.mul_nonneg (by decide) (by omega)
    refine w2_intC ⟨by decide, by decide, by omega⟩ ?_
    walk_at "pl"
    refine w2_intC (by decide) ?_
    walk_at "pl"
    refine w2_intC (.inl ⟨by decide, by decide⟩) ?_
    walk_at "pl"
    generalize hnum : ((y + 15485867 * (z + 1)) ^ Int.toNat 5) % 2147483647 = num
    have hm0 : 0 ≤ num := by rw [← hnum]; exact Int.emod_nonneg _ (by decide)
    have hm1 : num < 2147483647 := by rw [← hnum]; exact Int.emod_lt_of_pos _ (by decide)
    have hc1 : 7919 * (z + 1) ≤ 7919 * 100001 := Int.mul_le_mul_of_nonneg_left (by omega) (by decide)
    have hc0 : 0 ≤ 7919 * (z + 1) := Int.mul_nonneg (by decide) (by omega)
    refine w2_intC ⟨by decide, by decide, by omega⟩ ?_
    walk_at "pl"
    refine w2_intC (by decide) ?_
    walk_at "pl"
    refine w2_intC ⟨by decide, by decide⟩ ?_
    walk_at "pl"
    refine w2_intC h0 ?_
    exact ⟨⟨⟨_, rfl, rfl⟩, trivial, trivial⟩, p _ _ (Int.emod_nonneg _ (by omega)) (Int.emod_lt_of_pos _ h0) ⟨x, y, z + 1, rfl, d1, d2, by omega, by omega⟩⟩
def W__law_one : PW := fun cs Po => ∃ (a : Addr) (x y z : Int) (n : Nat) (xs : List DD), DeckOk n y z ∧ n ≤ 100000 ∧ xs ≠ [] ∧ xs.length ≤ 1000 ∧ cs = [deckC a x y z, .d (.list xs)] ∧ ∀ d e, d ∈ xs → DK (n + 1) a e → Po (.c (.d d)) e
/-- _law_one -/
def rd__law_one (K : PySem.W.Frag) (P : Program) (w : World) : TS :=
    (tRet (tOp (rIxU K P w) (tVar 1) (tCall (spW K P w W__law_pick) [] E0 (tCons (tVar 0) (tCons (tCB (rLen K) (tCons (tVar 1) tNil)) tNil)))))
theorem ws__law_one : WSok K P w (rd__law_one K P w) 2 W__law_one := by
  rintro cs Po ⟨a, x, y, z, n, xs, hd, hn, h0, h1, rfl, p⟩
  have hl := List.length_pos_iff.mpr h0
  unfold rd__law_one
  refine ws_ret (we_op (we_d rfl (we_callO 0 (wa_cons ?_))))
  walk_at "pl"
  refine wk_lenL (.inl rfl) ?_
  walk_at "pl"
  refine ⟨_, _, _, _, rfl, rfl, rfl, rfl, a, x, y, z, n, _, hd, hn, by omega, by omega, rfl, fun r e r0 r1 hk c' hc ho => ?_⟩
  obtain ⟨x', y', z', e0, hd'⟩ := hk
  have ec := head_eq e0 hc
  subst ec
  obtain ⟨k, rfl⟩ : ∃ k : Nat, r = (k : Int) := ⟨r.toNat, by omega⟩
  have hk : xs[k]? = some xs[k] := List.getElem?_eq_getElem (by omega)
  refine wu_ixL (.inl rfl) (atI_nat hk) ?_
  exact ⟨⟨⟨_, rfl, rfl⟩, trivial, trivial⟩, p _ _ (List.getElem_mem _) ⟨x', y', z', rfl, hd'⟩⟩
def W__law_meeting : PW := fun cs Po => ∃ (a : Addr) (x y z : Int) (n : Nat) (h : Hall), DeckOk n y z ∧ n ≤ 90000 ∧ HallOk h ∧ cs = [deckC a x y z, .d (encHall h)] ∧ ∀ m e, MeetOk h m → DK (n + 3) a e → Po (.c (.d (encMeet m))) e
/-- _law_meeting -/
def rd__law_meeting (K : PySem.W.Frag) (P : Program) (w : World) : TS :=
    (tSeq (tAsg (tCall (spW K P w W__law_pick) [] E0 (tCons (tVar 0) (tCons (tOp (rIxU K P w) (tVar 1) (tC (.int 0))) tNil))) (gName 2))
    (tSeq (tAsg (tOp (rI (fun _ j => 0 < j) fun i j => .int (i % j)) (tOp (rAddU K) (tOp (rAddU K) (tVar 2) (tC (.int 1))) (tCall (spW K P w W__law_pick) [] E0 (tCons (tVar 0) (tCons (tOp (rI0 fun i j => .int (i - j)) (tOp (rIxU K P w) (tVar 1) (tC (.int 0))) (tC (.int 1))) tNil)))) (tOp (rIxU K P w) (tVar 1) (tC (.int 0)))) (gName 3))
    (tRet (tTup (tCons (tVar 2) (tCons (tVar 3) (tCons (tCall (spW K P w W__law_pick) [] E0 (tCons (tVar 0) (tCons (tCB (rLen K) (tCons (tOp (rIxU K P w) (tVar 1) (tC (.int 1))) tNil)) tNil))) tNil)))))))
theorem ws__law_meeting : WSok K P w (rd__law_meeting K P w) 4 W__law_meeting := by
  rintro cs Po ⟨a, x, y, z, n, h, hd, hn, hh, rfl, p⟩
  have hf := hh.folk
  have hm := hh.many
  unfold rd__law_meeting
  refine ws_seq (ws_asg (we_callO 0 (wa_cons ?_)))
  walk_at "pl"
  refine ⟨_, _, _, _, rfl, rfl, rfl, rfl, a, x, y, z, n, _, hd, by omega, by omega, by omega, rfl, fun r e r0 r1 ⟨x1, y1, z1, e1, hd1⟩ c' hc ho => ?_⟩
  have ec := head_eq e1 hc
  subst ec
  refine wg_name (ws_seq (ws_asg (we_op (we_op ?_))))
  walk_at "pl"
  refine we_callO 0 (wa_cons ?_)
  walk_at "pl"
  refine ⟨_, _, _, _, rfl, rfl, rfl, rfl, a, x1, y1, z1, n + 1, _, hd1, by omega, by omega, by omega, rfl, fun r2 e r20 r21 ⟨x2, y2, z2, e2, hd2⟩ c' hc ho => ?_⟩
  have ec := head_eq e2 hc
  subst ec
  walk_at "pl"
  refine w2_intC (show (0 : Int) < (h.folk : Nat) by omega) ?_
  walk_at "pl"
  refine we_callO 0 (wa_cons ?_)
  walk_at "pl"
  refine ⟨_, _, _, _, rfl, rfl, rfl, rfl, a, x2, y2, z2, n + 2, _, hd2, by omega, by rw [List.length_map]; omega, by rw [List.length_map]; omega, rfl, fun r3 e r30 r31 ⟨x3, y3, z3, e3, hd3⟩ c' hc ho => ?_⟩
  have ec := head_eq e3 hc
  subst ec
  rw [List.length_map] at r31
  walk_at "pl"
  have ho0 : 0 ≤ (r + 1 + r2) % (h.folk : Nat) := Int.emod_nonneg _ (by omega)
  have ho1 : (r + 1 + r2) % (h.folk : Nat) < (h.folk : Nat) := Int.emod_lt_of_pos _ (by omega)
  have hne : (r + 1 + r2) % (h.folk : Nat) ≠ r := by
    intro q
    rcases Int.lt_or_le (r + 1 + r2) (h.folk : Nat) with z | z
    · rw [Int.emod_eq_of_lt (by omega) z] at q
      omega
    · have e9 : (r + 1 + r2) % (h.folk : Nat) = r + 1 + r2 - (h.folk : Nat) := by
        rw [← Int.emod_eq_of_lt (a := r + 1 + r2 - (h.folk : Nat)) (b := (h.folk : Nat)) (by omega) (by omega), Int.sub_emod_right]
      omega
  refine ⟨_, rfl, by simp, ⟨⟨_, rfl, rfl⟩, trivial, trivial⟩, ?_⟩
  have pp := p ⟨r.toNat, ((r + 1 + r2) % (h.folk : Nat)).toNat, r3.toNat⟩
  have en : encMeet ⟨r.toNat, ((r + 1 + r2) % (h.folk : Nat)).toNat, r3.toNat⟩ = .tuple [.int r, .int ((r + 1 + r2) % (h.folk : Nat)), .int r3] := by
    show PyData.tuple [.int (r.toNat : Nat), .int (((r + 1 + r2) % (h.folk : Nat)).toNat : Nat), .int (r3.toNat : Nat)] = _
    rw [Int.toNat_of_nonneg r0, Int.toNat_of_nonneg ho0, Int.toNat_of_nonneg r30]
  rw [en] at pp
  refine pp _ ⟨show r.toNat < h.folk by omega, show ((r + 1 + r2) % (h.folk : Nat)).toNat < h.folk by omega, show r.toNat ≠ ((r + 1 + r2) % (h.folk : Nat)).toNat by omega, show r3.toNat < h.things.length by omega⟩ ⟨x3, y3, z3, rfl, hd3⟩
end
end PL

/-! Drawn beats, stands, halls. -/
namespace PL
open PySem PySem.Spec PyProof.Rows L2 RZ MA
local macro_rules | `(tactic| walk_at "pl1") => `(tactic| first | with_reducible refine ws_seq ?_ | with_reducible refine ws_ret ?_ | with_reducible refine ws_asg ?_ | with_reducible refine ws_dropC ?_ | ((with_reducible refine ws_app (a := ?a1) (xs := ?x1) ?h1 ?_); (case h1 => rfl)) | with_reducible refine ws_if ?_ | ((with_reducible refine we_d (x := ?x1) ?h1 ?_); (case h1 => rfl)) | ((with_reducible refine we_own (c := ?c1) (a := ?a1) ?h1 ?h2 ?_); (case h1 => rfl); (case h2 => rfl)) | ((fail_if_success (with_reducible refine we_all ?_ ?_)); with_reducible refine we_cb ?_) | with_reducible refine wa_cons ?_ | with_reducible refine wa_nil ?_ | with_reducible refine we_int ?_ | with_reducible refine we_bl ?_ | with_reducible refine we_non ?_ | with_reducible refine we_str ?_ | with_reducible refine we_cv ?_ | with_reducible refine we_op ?_ | with_reducible refine we_un ?_ | with_reducible refine we_andV ?_ | with_reducible refine we_orV ?_ | with_reducible refine we_notV ?_ | with_reducible refine we_chain ?_ | with_reducible refine we_tupU ?_ | with_reducible refine we_if ?_ | with_reducible refine wt_test ?_ | with_reducible refine wt_B ?_ | with_reducible refine wt_and ?_ | with_reducible refine wt_or ?_ | with_reducible refine wt_not ?_ | with_reducible refine we_sl ?_ | with_reducible refine wo_none ?_ | with_reducible refine wo_intC ?_ | ((with_reducible refine wo_var (i := ?i1) ?h1 ?_); (case h1 => rfl)) | ((with_reducible refine wo_suc (i := ?i1) ?h1 ?_); (case h1 => rfl)) | ((fail_if_success ((with_reducible refine we_callP (wa_cons (we_own (c := ?c1) (a := ?a1) ?h1 ?h2 ?_))); (case h1 => rfl); (case h2 => rfl))); with_reducible refine we_callP ?_) | with_reducible refine w2_bl ?_ | with_reducible refine w2_int ?_ | with_reducible refine wu_add ?_ | ((with_reducible refine wu_ixT (d := ?d1) ?h1 ?_); (case h1 => rfl)) | ((with_reducible refine wu_ixL (a := R.own ?a1) (xs := ?x1) (d := ?d1) ?h0 ?h1 ?_); (case h0 => (refine .inr (.inr ⟨_, 0, rfl, ?_⟩); rfl)); (case h1 => rfl)) | with_reducible refine wu_slT ?_ | with_reducible refine wk_lenT ?_ | with_reducible refine wk_min ?_ | with_reducible refine wk_max ?_ | with_reducible refine wg_name ?_ | with_reducible refine wgs_nil ?_ | with_reducible refine wgs_consD ?_ | with_reducible refine wgs_nilD ?_ | with_reducible refine wgs_cons ?_ | ((with_reducible refine wg_tup ?h1 ?_); (case h1 => rfl)))
local macro_rules | `(tactic| walk_at "pl") => `(tactic| repeat (walk_at "pl1"))
local macro_rules | `(tactic| walk_at "fin") => `(tactic| repeat' (first | exact trivial | refine And.intro ?_ ?_))
section
variable {K : PySem.W.Frag} {P : Program} {w : World}
def W__law_beat : PW := fun cs Po => ∃ (a : Addr) (x y z : Int) (n : Nat) (h : Hall), DeckOk n y z ∧ n ≤ 10000 ∧ HallOk h ∧ cs = [deckC a x y z, .d (encHall h)] ∧ ∀ b e, BeatOk h b → DK (n + 13) a e → Po (.c (.d (encBeat b))) e
/-- _law_beat -/
def rd__law_beat (K : PySem.W.Frag) (P : Program) (w : World) : TS :=
    (tRet (tCB (rTupleOf K) (tCons (tLc (iRng1 (tCons (tCall (spW K P w W__law_pick) [] E0 (tCons (tVar 0) (tCons (tC (.int 5)) tNil))) tNil)) (gName 2) tYes (tCall (spW K P w W__law_meeting) [] E0 (tCons (tVar 0) (tCons (tVar 1) tNil))) [2]) tNil)))
theorem ws__law_beat : WSok K P w (rd__law_beat K P w) 3 W__law_beat := by
  rintro cs Po ⟨a, x, y, z, n, h, hd, hn, hh, rfl, p⟩
  unfold rd__law_beat
  walk_at "pl"
  refine we_lc (gin_name (by decide)) (wi_range1 ?_)
  walk_at "pl"
  refine we_callO 0 (wa_cons ?_)
  walk_at "pl"
  refine ⟨_, _, _, _, rfl, rfl, rfl, rfl, a, x, y, z, n, _, hd, by omega, by omega, by omega, rfl, fun r e r0 r1 ⟨x1, y1, z1, e1, hd1⟩ c' hc ho => ?_⟩
  have ec := head_eq e1 hc
  subst ec
  walk_at "pl"
  refine ⟨_, rfl, by omega, by omega, by rw [List.length_map, List.length_range]; omega, own1 rfl, fun k acc e => ∃ b : Beat, acc = b.map encMeet ∧ b.length = k ∧ (∀ m ∈ b, MeetOk h m) ∧ ∃ x y z, e = [deckC a x y z, .d (encHall h), .no] ∧ DeckOk (n + 1 + 3 * k) y z,
    ⟨[], rfl, rfl, (fun m hm => by cases hm), x1, y1, z1, rfl, hd1⟩, fun k x acc e hx => ?_, fun acc e aa => ?_⟩
  · rintro ⟨b, rfl, hb, hm, x2, y2, z2, rfl, hd2⟩
    have hk := (List.getElem?_eq_some_iff.mp hx).1
    rw [List.length_map, List.length_range] at hk
    walk_at "pl"
    refine wt_yes ⟨fun _ => ?_, fun z => nomatch z⟩
    refine we_callO 0 (wa_cons ?_)
    walk_at "pl"
    refine ⟨_, _, _, _, rfl, rfl, rfl, rfl, a, x2, y2, z2, _, h, hd2, by omega, hh, rfl, fun m e hmk ⟨x3, y3, z3, e3, hd3⟩ c' hc ho => ?_⟩
    have ec := head_eq e3 hc
    subst ec
    refine ⟨_, rfl, b ++ [m], by rw [List.map_append]; rfl, by rw [List.length_append, hb]; rfl, fun m' hm' => ?_, x3, y3, z3, rfl, hd3⟩
    rcases List.mem_append.mp hm' with q | q
    · exact hm m' q
    · rw [List.mem_singleton.mp q]; exact hmk
  · rintro ⟨b, rfl, hb, hm, x2, y2, z2, rfl, hd2⟩
    rw [List.length_map, List.length_range] at *
    walk_at "pl"
    refine wk_tuple (.inr (.inl ⟨aa, rfl⟩)) ?_
    exact ⟨⟨⟨_, rfl, rfl⟩, trivial, trivial⟩, p b _ ⟨by omega, hm⟩ ⟨x2, y2, z2, rfl, hd2.mono (by omega)⟩⟩
def W__law_stand : PW := fun cs Po => ∃ (a : Addr) (x y z : Int) (n : Nat) (h : Hall), DeckOk n y z ∧ n ≤ 10000 ∧ HallOk h ∧ cs = [deckC a x y z, .d (encHall h)] ∧ ∀ s e, StandOk h s → DK (n + 24) a e → Po (.c (.d (encStand s))) e
/-- _law_stand -/
def rd__law_stand (K : PySem.W.Frag) (P : Program) (w : World) : TS :=
    (tSeq (tAsg (tLst tNil) (gName 2))
    (tSeq (tFor (iRng1 (tCons (tOp (rIxU K P w) (tVar 1) (tC (.int 0))) tNil)) (gName 3)
    (tDrop (tBM K "list" rAppend (tVar 2) (tCons (tCB (rTupleOf K) (tCons (tLc (iSeqU K (tOp (rIxU K P w) (tVar 1) (tC (.int 1)))) (gName 4) tYes (tCall (spW K P w W__law_one) [] E0 (tCons (tVar 0) (tCons (tLst (tCons (tC (.int 0)) (tCons (tOp (rIxU K P w) (tVar 4) (tC (.int 2))) (tCons (tCall (spW K P w W__law_pick) [] E0 (tCons (tVar 0) (tCons (tOp (rAddU K) (tOp (rIxU K P w) (tVar 4) (tC (.int 2))) (tC (.int 1))) tNil))) tNil)))) tNil))) [4]) tNil)) tNil))))
    (tRet (tCB (rTupleOf K) (tCons (tVar 2) tNil)))))
theorem ws__law_stand : WSok K P w (rd__law_stand K P w) 5 W__law_stand := by
  rintro cs Po ⟨a, x, y, z, n, h, hd, hn, hh, rfl, p⟩
  have hf := hh.folk
  have hm := hh.many
  unfold rd__law_stand
  walk_at "pl"
  refine we_lstU ?_
  walk_at "pl"
  refine ⟨_, rfl, by simp, fun a2 => ?_⟩
  walk_at "pl"
  refine ws_for (wi_range1 ?_)
  walk_at "pl"
  refine ⟨_, rfl, by omega, by omega, fun k e => ∃ a2 c3 x y z, ∃ s : Stand, e = [deckC a x y z, .d (encHall h), .l a2 (s.map encRow), c3, .no] ∧ s.length = k ∧ (∀ r ∈ s, RowOk h r) ∧ c3.own = none ∧ DeckOk (n + 6 * k) y z,
    ⟨a2, .no, x, y, z, [], rfl, rfl, (fun r hr => by cases hr), rfl, hd⟩, fun k xx e hx => ?_, fun e => ?_⟩
  · rintro ⟨a2, c3, x, y, z, s, rfl, hs, hr, h3, hd⟩
    obtain ⟨i', hi, rfl⟩ := get_map hx
    have hk := (List.getElem?_eq_some_iff.mp hi).1
    rw [List.length_range] at hk
    walk_at "pl"
    refine we_lc (gin_name (by decide)) (wu_seqT ?_)
    walk_at "pl"
    refine ⟨_, rfl, by rw [List.length_map]; omega, own1 rfl, fun j acc e => ∃ r : List Int, acc = r.map .int ∧ r.length = j ∧ (∀ (i : Nat) (v : Int) (l : Lore), r[i]? = some v → h.things[i]? = some l → 0 ≤ v ∧ v ≤ l.cap) ∧ ∃ x y z, e = [deckC a x y z, .d (encHall h), .l a2 (s.map encRow), .d (.int (i' : Nat)), .no] ∧ DeckOk (n + 6 * k + 2 * j) y z,
      ⟨[], rfl, rfl, (fun i v l hv => by simp at hv), x, y, z, rfl, hd⟩, fun j xx acc e hx => ?_, fun acc e aa => ?_⟩
    · rintro ⟨r, rfl, hrl, hrv, x1, y1, z1, rfl, hd1⟩
      obtain ⟨l, hl, rfl⟩ := get_map hx
      have hj := (List.getElem?_eq_some_iff.mp hl).1
      have hcap := (hh.lore j l hl).cap
      walk_at "pl"
      refine wt_yes ⟨fun _ => ?_, fun z => nomatch z⟩
      refine we_callO 0 (wa_cons ?_)
      walk_at "pl"
      refine we_frz (we_lstU ?_)
      walk_at "pl"
      refine we_callO 0 (wa_cons ?_)
      walk_at "pl"
      refine ⟨_, _, _, _, rfl, rfl, rfl, rfl, a, x1, y1, z1, _, _, hd1, by omega, by omega, by omega, rfl, fun v e v0 v1 ⟨x2, y2, z2, e2, hd2⟩ c' hc ho => ?_⟩
      have ec := head_eq e2 hc
      subst ec
      walk_at "pl"
      refine ⟨_, rfl, by simp, fun a9 => ⟨a9, _, rfl, ?_⟩⟩
      walk_at "pl"
      refine ⟨_, _, _, _, rfl, rfl, rfl, rfl, a, x2, y2, z2, _, _, hd2, by omega, by simp, by simp, rfl, fun d e hdm ⟨x3, y3, z3, e3, hd3⟩ c' hc ho => ?_⟩
      have ec := head_eq e3 hc
      subst ec
      obtain ⟨u, rfl, hu0, hu1⟩ : ∃ u : Int, d = .int u ∧ 0 ≤ u ∧ u ≤ l.cap := by
        simp only [List.mem_cons, List.not_mem_nil, or_false] at hdm
        rcases hdm with q | q | q
        · exact ⟨0, q, by omega, by omega⟩
        · exact ⟨l.cap, q, by omega, by omega⟩
        · exact ⟨v, q, by omega, by omega⟩
      refine ⟨_, rfl, r ++ [u], by rw [List.map_append]; rfl, by rw [List.length_append, hrl]; rfl, fun i v l' hv hl' => ?_, x3, y3, z3, rfl, hd3⟩
      by_cases q : i < r.length
      · rw [List.getElem?_append_left q] at hv
        exact hrv i v l' hv hl'
      · rw [List.getElem?_append_right (by omega)] at hv
        have e0 : i - r.length = 0 := by
          rcases Nat.eq_zero_or_pos (i - r.length) with z | z
          · exact z
          · rw [List.getElem?_eq_none (by simp; omega)] at hv; cases hv
        rw [e0] at hv
        simp only [List.getElem?_cons_zero, Option.some.injEq] at hv
        have ei : i = j := by omega
        subst ei
        rw [hl] at hl'
        cases hl'
        omega
    · rintro ⟨r, rfl, hrl, hrv, x1, y1, z1, rfl, hd1⟩
      rw [List.length_map] at *
      walk_at "pl"
      refine wk_tuple (.inr (.inl ⟨aa, rfl⟩)) ?_
      refine ⟨_, _, rfl, rfl, by rw [List.length_map]; omega, a2, .d (.int (i' : Nat)), x1, y1, z1, s ++ [r], ?_, by rw [List.length_append, hs]; rfl, fun r' hr' => ?_, rfl, hd1.mono (by omega)⟩
      · rw [List.map_append]; rfl
      · rcases List.mem_append.mp hr' with q | q
        · exact hr r' q
        · rw [List.mem_singleton.mp q]; exact ⟨hrl, hrv⟩
  · rintro ⟨a2, c3, x, y, z, s, rfl, hs, hr, h3, hd⟩
    rw [List.length_map, List.length_range] at *
    have hs' : s.length = h.folk := hs
    walk_at "pl"
    refine wk_tuple (.inr (.inr ⟨_, 2, rfl, rfl⟩)) ?_
    exact ⟨⟨⟨_, rfl, rfl⟩, trivial, trivial⟩, p s _ ⟨hs', hr⟩ ⟨x, y, z, rfl, hd.mono (by omega)⟩⟩
end
end PL

/-! Drawn halls; the law's sameness. -/
namespace PL
open PySem PySem.Spec PyProof.Rows L2 RZ MA
local macro_rules | `(tactic| walk_at "pl1") => `(tactic| first | with_reducible refine ws_seq ?_ | with_reducible refine ws_ret ?_ | with_reducible refine ws_asg ?_ | with_reducible refine ws_dropC ?_ | ((with_reducible refine ws_app (a := ?a1) (xs := ?x1) ?h1 ?_); (case h1 => rfl)) | with_reducible refine ws_if ?_ | ((with_reducible refine we_d (x := ?x1) ?h1 ?_); (case h1 => rfl)) | ((with_reducible refine we_own (c := ?c1) (a := ?a1) ?h1 ?h2 ?_); (case h1 => rfl); (case h2 => rfl)) | ((fail_if_success (with_reducible refine we_all ?_ ?_)); with_reducible refine we_cb ?_) | with_reducible refine wa_cons ?_ | with_reducible refine wa_nil ?_ | with_reducible refine we_int ?_ | with_reducible refine we_bl ?_ | with_reducible refine we_non ?_ | with_reducible refine we_str ?_ | with_reducible refine we_cv ?_ | with_reducible refine we_op ?_ | with_reducible refine we_un ?_ | with_reducible refine we_andV ?_ | with_reducible refine we_orV ?_ | with_reducible refine we_notV ?_ | with_reducible refine we_chain ?_ | with_reducible refine we_tupU ?_ | with_reducible refine we_if ?_ | with_reducible refine wt_test ?_ | with_reducible refine wt_B ?_ | with_reducible refine wt_and ?_ | with_reducible refine wt_or ?_ | with_reducible refine wt_not ?_ | with_reducible refine we_sl ?_ | with_reducible refine wo_none ?_ | with_reducible refine wo_intC ?_ | ((with_reducible refine wo_var (i := ?i1) ?h1 ?_); (case h1 => rfl)) | ((with_reducible refine wo_suc (i := ?i1) ?h1 ?_); (case h1 => rfl)) | ((fail_if_success ((with_reducible refine we_callP (wa_cons (we_own (c := ?c1) (a := ?a1) ?h1 ?h2 ?_))); (case h1 => rfl); (case h2 => rfl))); with_reducible refine we_callP ?_) | with_reducible refine w2_bl ?_ | with_reducible refine w2_int ?_ | with_reducible refine wu_add ?_ | ((with_reducible refine wu_ixT (d := ?d1) ?h1 ?_); (case h1 => rfl)) | ((with_reducible refine wu_ixL (a := R.own ?a1) (xs := ?x1) (d := ?d1) ?h0 ?h1 ?_); (case h0 => (refine .inr (.inr ⟨_, 0, rfl, ?_⟩); rfl)); (case h1 => rfl)) | with_reducible refine wu_slT ?_ | with_reducible refine wk_lenT ?_ | with_reducible refine wk_min ?_ | with_reducible refine wk_max ?_ | with_reducible refine wg_name ?_ | with_reducible refine wgs_nil ?_ | with_reducible refine wgs_consD ?_ | with_reducible refine wgs_nilD ?_ | with_reducible refine wgs_cons ?_ | ((with_reducible refine wg_tup ?h1 ?_); (case h1 => rfl)))
local macro_rules | `(tactic| walk_at "pl") => `(tactic| repeat (walk_at "pl1"))
local macro_rules | `(tactic| walk_at "fin") => `(tactic| repeat' (first | exact trivial | refine And.intro ?_ ?_))
section
variable {K : PySem.W.Frag} {P : Program} {w : World}
abbrev Shape := Nat × List Nat
abbrev encShape (p : Shape) : DD := .tuple [.int (p.1 : Nat), .list (p.2.map fun (c : Nat) => PyData.int (c : Int))]
structure ShapeOk (p : Shape) : Prop where
  folk : 2 ≤ p.1 ∧ p.1 ≤ 4
  many : 1 ≤ p.2.length ∧ p.2.length ≤ 3
  cap : ∀ c ∈ p.2, 1 ≤ c ∧ c ≤ 3
def Fits (h : Hall) (p : Shape) : Prop := h.folk = p.1 ∧ h.things.map (fun l => l.cap) = p.2.map fun (c : Nat) => (c : Int)
def W__law_hall : PW := fun cs Po => ∃ (a : Addr) (x y z : Int) (n : Nat) (shapes : List Shape), DeckOk n y z ∧ n ≤ 10000 ∧ shapes ≠ [] ∧ shapes.length ≤ 100 ∧ (∀ p ∈ shapes, ShapeOk p) ∧ cs = [deckC a x y z, .d (.list (shapes.map encShape))] ∧
  ∀ h p e, HallOk h → p ∈ shapes → Fits h p → DK (n + 20) a e → Po (.c (.d (encHall h))) e
/-- _law_hall -/
def rd__law_hall (K : PySem.W.Frag) (P : Program) (w : World) : TS :=
    (tSeq (tAsg (tCall (spW K P w W__law_one) [] E0 (tCons (tVar 0) (tCons (tVar 1) tNil))) (gTup K 2 (gCons (gName 2) (gCons (gName 3) gNil))))
    (tSeq (tAsg (tLst tNil) (gName 4))
    (tSeq (tFor (iEnumA K (tCons (tVar 3) tNil)) (gTup K 2 (gCons (gName 5) (gCons (gName 6) gNil)))
    (tSeq (tAsg (tCB (rTupleOf K) (tCons (tLc (iRng1 (tCons (tVar 5) tNil)) (gName 8) (tTest (tOp (rEqD K) (tCall (spW K P w W__law_pick) [] E0 (tCons (tVar 0) (tCons (tC (.int 2)) tNil))) (tC (.int 0)))) (tVar 8) [8]) tNil)) (gName 7))
    (tSeq (tAsg (tCall (spW K P w W__law_one) [] E0 (tCons (tVar 0) (tCons (tLst (tCons (tC (.int 0)) (tCons (tC (.int 1)) (tCons (tC (.int 1)) (tCons (tVar 6) tNil))))) tNil))) (gName 9))
    (tDrop (tBM K "list" rAppend (tVar 4) (tCons (tTup (tCons (tVar 7) (tCons (tOp (rAddU K) (tC (.int 1)) (tCall (spW K P w W__law_pick) [] E0 (tCons (tVar 0) (tCons (tVar 6) tNil)))) (tCons (tVar 6) (tCons (tVar 9) tNil))))) tNil))))))
    (tRet (tTup (tCons (tVar 2) (tCons (tCB (rTupleOf K) (tCons (tVar 4) tNil)) tNil)))))))
theorem ws__law_hall : WSok K P w (rd__law_hall K P w) 10 W__law_hall := by
  rintro cs Po ⟨a, x, y, z, n, shapes, hd, hn, hsh, hshl, hso, rfl, p⟩
  unfold rd__law_hall
  refine ws_seq (ws_asg (we_callO 0 (wa_cons ?_)))
  walk_at "pl"
  refine ⟨_, _, _, _, rfl, rfl, rfl, rfl, a, x, y, z, n, _, hd, by omega, by simpa using hsh, by rw [List.length_map]; omega, rfl, fun d e hdm ⟨x1, y1, z1, e1, hd1⟩ c' hc ho => ?_⟩
  have ec := head_eq e1 hc
  subst ec
  obtain ⟨sh, hshm, rfl⟩ := List.mem_map.mp hdm
  have ok := hso sh hshm
  obtain ⟨folk, caps⟩ := sh
  have hf := ok.folk
  have hm : 1 ≤ caps.length ∧ caps.length ≤ 3 := ok.many
  have hcp : ∀ c ∈ caps, 1 ≤ c ∧ c ≤ 3 := ok.cap
  dsimp only at hf
  walk_at "pl"
  refine we_lstU ?_
  walk_at "pl"
  refine ⟨_, rfl, by simp, fun a4 => ?_⟩
  walk_at "pl"
  refine ws_for (wi_enumL ?_)
  walk_at "pl"
  refine ⟨_, rfl, fun k e => ∃ a4 c5 c6 c7 c9 x y z, ∃ ls : List Lore, e = [deckC a x y z, .d (.list (shapes.map encShape)), .d (.int (folk : Nat)), .d (.list (caps.map fun (c : Nat) => PyData.int (c : Int))), .l a4 (ls.map encLore), c5, c6, c7, .no, c9] ∧ ls.length = k ∧ (∀ (i : Nat) (l : Lore), ls[i]? = some l → LoreOk l i) ∧ (ls.map (fun l => l.cap) = (caps.take k).map fun (c : Nat) => (c : Int)) ∧ c5.own = none ∧ c6.own = none ∧ c7.own = none ∧ c9.own = none ∧ DeckOk (n + 1 + 5 * k) y z,
    ⟨a4, .no, .no, .no, .no, x1, y1, z1, [], rfl, rfl, (fun i l h => by simp at h), rfl, rfl, rfl, rfl, rfl, hd1⟩, fun k xx e hx => ?_, fun e => ?_⟩
  · rintro ⟨a4, c5, c6, c7, c9, x, y, z, ls, rfl, hls, hlo, hcaps, h5, h6, h7, h9, hd⟩
    obtain ⟨d, hd', rfl⟩ := enumD_at hx
    obtain ⟨cap, hcap, rfl⟩ := get_map hd'
    have hk : k < caps.length := (List.getElem?_eq_some_iff.mp hcap).1
    have hc3 := hcp cap (List.mem_of_getElem? hcap)
    walk_at "pl"
    refine we_lc (gin_name (by decide)) (wi_range1 ?_)
    walk_at "pl"
    refine ⟨_, rfl, by omega, by omega, by rw [List.length_map, List.length_range]; omega, own1 rfl, fun j acc e => ∃ ns : List Nat, acc = ns.map (fun (n : Nat) => PyData.int (n : Int)) ∧ ns.Pairwise (· < ·) ∧ (∀ v ∈ ns, v < j) ∧ ∃ x y z, e = [deckC a x y z, .d (.list (shapes.map encShape)), .d (.int (folk : Nat)), .d (.list (caps.map fun (c : Nat) => PyData.int (c : Int))), .l a4 (ls.map encLore), .d (.int (k : Nat)), .d (.int (cap : Nat)), c7, .no, c9] ∧ DeckOk (n + 1 + 5 * k + j) y z,
      ⟨[], rfl, .nil, (fun v hv => by cases hv), x, y, z, rfl, hd⟩, fun j xx acc e hx => ?_, fun acc e aa => ?_⟩
    · rintro ⟨ns, rfl, hpw, hlt, x1, y1, z1, rfl, hd1⟩
      have hj := (List.getElem?_eq_some_iff.mp hx).1
      rw [List.length_map, List.length_range] at hj
      obtain ⟨j', hj', rfl⟩ := get_map hx
      obtain ⟨hj1, hj2⟩ := List.getElem?_eq_some_iff.mp hj'
      rw [List.getElem_range] at hj2
      subst hj2
      walk_at "pl"
      refine we_callO 0 (wa_cons ?_)
      walk_at "pl"
      refine ⟨_, _, _, _, rfl, rfl, rfl, rfl, a, x1, y1, z1, _, _, hd1, by omega, by decide, by decide, rfl, fun v e v0 v1 ⟨x2, y2, z2, e2, hd2⟩ c' hc ho => ?_⟩
      have ec := head_eq e2 hc
      subst ec
      walk_at "pl"
      refine w2_eqD .dat .dat rfl rfl ⟨_, rfl, fun _ => ?_, fun _ => ?_⟩
      · walk_at "pl"
        refine ⟨_, rfl, ns ++ [j], by rw [List.map_append]; rfl, ?_, fun v hv => ?_, x2, y2, z2, rfl, hd2⟩
        · refine List.pairwise_append.mpr ⟨hpw, List.pairwise_singleton _ _, fun u hu v hv => ?_⟩
          rw [List.mem_singleton.mp hv]
          exact hlt u hu
        · rcases List.mem_append.mp hv with q | q
          · exact Nat.lt_succ_of_lt (hlt v q)
          · rw [List.mem_singleton.mp q]; exact Nat.lt_succ_self _
      · exact ⟨ns, rfl, hpw, fun v hv => Nat.lt_succ_of_lt (hlt v hv), x2, y2, z2, rfl, hd2⟩
    · rintro ⟨ns, rfl, hpw, hlt, x1, y1, z1, rfl, hd1⟩
      rw [List.length_map, List.length_range] at *
      have ek : Int.toNat (k : Int) = k := rfl
      rw [ek] at hlt hd1
      walk_at "pl"
      refine wk_tuple (.inr (.inl ⟨aa, rfl⟩)) ?_
      walk_at "pl"
      refine we_callO 0 (wa_cons ?_)
      walk_at "pl"
      refine we_frz (we_lstU ?_)
      walk_at "pl"
      refine ⟨_, rfl, by simp, fun a9 => ⟨a9, _, rfl, ?_⟩⟩
      walk_at "pl"
      refine ⟨_, _, _, _, rfl, rfl, rfl, rfl, a, x1, y1, z1, _, _, hd1, by omega, by simp, by simp, rfl, fun d e hdm ⟨x3, y3, z3, e3, hd3⟩ c' hc ho => ?_⟩
      have ec := head_eq e3 hc
      subst ec
      obtain ⟨loss, rfl, hl0, hl1⟩ : ∃ u : Int, d = .int u ∧ 0 ≤ u ∧ u ≤ (cap : Nat) := by
        simp only [List.mem_cons, List.not_mem_nil, or_false] at hdm
        rcases hdm with q | q | q | q
        · exact ⟨0, q, by omega, by omega⟩
        · exact ⟨1, q, by omega, by omega⟩
        · exact ⟨1, q, by omega, by omega⟩
        · exact ⟨_, q, by omega, by omega⟩
      walk_at "pl"
      refine we_callO 0 (wa_cons ?_)
      walk_at "pl"
      refine ⟨_, _, _, _, rfl, rfl, rfl, rfl, a, x3, y3, z3, _, _, hd3, by omega, by omega, by omega, rfl, fun v e v0 v1 ⟨x4, y4, z4, e4, hd4⟩ c' hc ho => ?_⟩
      have ec := head_eq e4 hc
      subst ec
      walk_at "pl"
      refine ⟨_, rfl, by simp, ?_⟩
      refine ⟨_, _, rfl, rfl, by rw [List.length_map]; omega, a4, .d (.int (k : Nat)), .d (.int (cap : Nat)), .d (encNs ns), .d (.int loss), x4, y4, z4, ls ++ [⟨ns, 1 + v, (cap : Nat), loss⟩], ?_, by rw [List.length_append, hls]; rfl, fun i l hl => ?_, ?_, rfl, rfl, rfl, rfl, hd4.mono (by omega)⟩
      · rw [List.map_append]; rfl
      · by_cases q : i < ls.length
        · rw [List.getElem?_append_left q] at hl
          exact hlo i l hl
        · rw [List.getElem?_append_right (by omega)] at hl
          have e0 : i - ls.length = 0 := by
            rcases Nat.eq_zero_or_pos (i - ls.length) with z | z
            · exact z
            · rw [List.getElem?_eq_none (by simp; omega)] at hl; cases hl
          rw [e0] at hl
          simp only [List.getElem?_cons_zero, Option.some.injEq] at hl
          subst hl
          have ei : i = k := by omega
          subst ei
          exact ⟨hlt, hpw, ⟨show (1 : Int) ≤ (cap : Nat) by omega, show ((cap : Nat) : Int) ≤ 3 by omega⟩, ⟨show (1 : Int) ≤ 1 + v by omega, show 1 + v ≤ ((cap : Nat) : Int) by omega⟩, hl0, hl1⟩
      · rw [List.map_append, hcaps, take_succ_at hcap, List.map_append]
        rfl
  · rintro ⟨a4, c5, c6, c7, c9, x, y, z, ls, rfl, hls, hlo, hcaps, h5, h6, h7, h9, hd⟩
    rw [enumD_len, List.length_map] at *
    have hls' : ls.length = caps.length := hls
    have hcaps : ls.map (fun l => l.cap) = (caps.take caps.length).map fun (c : Nat) => (c : Int) := hcaps
    rw [List.take_length] at hcaps
    have hd : DeckOk (n + 1 + 5 * caps.length) y z := hd
    walk_at "pl"
    refine wk_tuple (.inr (.inr ⟨_, 4, rfl, rfl⟩)) ?_
    walk_at "pl"
    refine ⟨_, rfl, by simp, ⟨⟨_, rfl, rfl⟩, trivial, trivial⟩, ?_⟩
    exact p ⟨folk, ls⟩ (folk, caps) _ ⟨hf, by rw [show (Hall.mk folk ls).things.length = caps.length from hls]; exact hm, hlo⟩ hshm ⟨rfl, hcaps⟩ ⟨x, y, z, rfl, hd.mono (by omega)⟩
def smalls : List Shape := [(2, [3, 1]), (2, [1, 1, 1]), (3, [2]), (3, [1, 1]), (2, [2, 2]), (4, [1]), (3, [3]), (4, [2])]
def greats : List Shape := [(4, [3, 3, 3]), (3, [2, 3, 1]), (4, [1, 2]), (2, [3, 3, 3]), (3, [3, 2])]
def W__law_small : PW := fun cs Po => cs = [] ∧ ∀ e, Po (.c (.d (.list (smalls.map encShape)))) e
/-- _law_small -/
def rd__law_small (K : PySem.W.Frag) (P : Program) (w : World) : TS :=
    (tRet (tLst (tCons (tTup (tCons (tC (.int 2)) (tCons (tLst (tCons (tC (.int 3)) (tCons (tC (.int 1)) tNil))) tNil))) (tCons (tTup (tCons (tC (.int 2)) (tCons (tLst (tCons (tC (.int 1)) (tCons (tC (.int 1)) (tCons (tC (.int 1)) tNil)))) tNil))) (tCons (tTup (tCons (tC (.int 3)) (tCons (tLst (tCons (tC (.int 2)) tNil)) tNil))) (tCons (tTup (tCons (tC (.int 3)) (tCons (tLst (tCons (tC (.int 1)) (tCons (tC (.int 1)) tNil))) tNil))) (tCons (tTup (tCons (tC (.int 2)) (tCons (tLst (tCons (tC (.int 2)) (tCons (tC (.int 2)) tNil))) tNil))) (tCons (tTup (tCons (tC (.int 4)) (tCons (tLst (tCons (tC (.int 1)) tNil)) tNil))) (tCons (tTup (tCons (tC (.int 3)) (tCons (tLst (tCons (tC (.int 3)) tNil)) tNil))) (tCons (tTup (tCons (tC (.int 4)) (tCons (tLst (tCons (tC (.int 2)) tNil)) tNil))) tNil))))))))))
theorem ws__law_small : WSok K P w (rd__law_small K P w) 0 W__law_small := by
  rintro cs Po ⟨rfl, p⟩
  unfold rd__law_small
  refine ws_ret (we_frz (we_lstU ?_))
  walk_at "pl"
  iterate 8 (refine we_frz (we_lstU ?_); walk_at "pl"; refine ⟨_, rfl, by simp, fun a => ⟨a, _, rfl, ?_⟩⟩; walk_at "pl"; refine ⟨_, rfl, by simp, ?_⟩; walk_at "pl")
  exact ⟨_, rfl, by simp, fun a => ⟨a, _, rfl, trivial, p _⟩⟩
def W__law_great : PW := fun cs Po => cs = [] ∧ ∀ e, Po (.c (.d (.list (greats.map encShape)))) e
/-- _law_great -/
def rd__law_great (K : PySem.W.Frag) (P : Program) (w : World) : TS :=
    (tRet (tLst (tCons (tTup (tCons (tC (.int 4)) (tCons (tLst (tCons (tC (.int 3)) (tCons (tC (.int 3)) (tCons (tC (.int 3)) tNil)))) tNil))) (tCons (tTup (tCons (tC (.int 3)) (tCons (tLst (tCons (tC (.int 2)) (tCons (tC (.int 3)) (tCons (tC (.int 1)) tNil)))) tNil))) (tCons (tTup (tCons (tC (.int 4)) (tCons (tLst (tCons (tC (.int 1)) (tCons (tC (.int 2)) tNil))) tNil))) (tCons (tTup (tCons (tC (.int 2)) (tCons (tLst (tCons (tC (.int 3)) (tCons (tC (.int 3)) (tCons (tC (.int 3)) tNil)))) tNil))) (tCons (tTup (tCons (tC (.int 3)) (tCons (tLst (tCons (tC (.int 3)) (tCons (tC (.int 2)) tNil))) tNil))) tNil)))))))
theorem ws__law_great : WSok K P w (rd__law_great K P w) 0 W__law_great := by
  rintro cs Po ⟨rfl, p⟩
  unfold rd__law_great
  refine ws_ret (we_frz (we_lstU ?_))
  walk_at "pl"
  iterate 5 (refine we_frz (we_lstU ?_); walk_at "pl"; refine ⟨_, rfl, by simp, fun a => ⟨a, _, rfl, ?_⟩⟩; walk_at "pl"; refine ⟨_, rfl, by simp, ?_⟩; walk_at "pl")
  exact ⟨_, rfl, by simp, fun a => ⟨a, _, rfl, trivial, p _⟩⟩
def sortD : DD → Option Int
  | .bool _ => some 1
  | .int _ => some 2
  | .list _ => some 4
  | .tuple _ => some 5
  | _ => none
def W__law_sort : PW := fun cs Po => ∃ d k, sortD d = some k ∧ cs = [.d d] ∧ ∀ e, Po (.c (.d (.int k))) e
/-- _law_sort -/
def rd__law_sort (K : PySem.W.Frag) (P : Program) (w : World) : TS :=
    (tSeq (tIfS (tB (tCB (rIsi K) (tCons (tVar 0) (tCons (tC (.ty "bool")) tNil)))) (tRet (tC (.int 1))) tNext)
    (tSeq (tIfS (tB (tCB (rIsi K) (tCons (tVar 0) (tCons (tC (.ty "int")) tNil)))) (tRet (tC (.int 2))) tNext)
    (tSeq (tIfS (tB (tCB (rIsi K) (tCons (tVar 0) (tCons (tC (.ty "str")) tNil)))) (tRet (tC (.int 3))) tNext)
    (tSeq (tIfS (tB (tCB (rIsi K) (tCons (tVar 0) (tCons (tC (.ty "list")) tNil)))) (tRet (tC (.int 4))) tNext)
    (tRet (tIf (tB (tCB (rIsi K) (tCons (tVar 0) (tCons (tC (.ty "tuple")) tNil)))) (tC (.int 5)) (tC (.int 6))))))))
theorem ws__law_sort : WSok K P w (rd__law_sort K P w) 1 W__law_sort := by
  rintro cs Po ⟨d, k, hd, rfl, p⟩
  unfold rd__law_sort
  walk_at "pl"
  cases d with
  | bool b =>
    cases hd
    refine wl_isi (d := .bool b) k_bool_bool ⟨true, rfl, fun _ => ?_, fun z => nomatch z⟩ .dat
    walk_at "pl"
    exact ⟨⟨trivial, trivial⟩, p _⟩
  | int i =>
    cases hd
    refine wl_isi (d := .int i) k_int_bool ⟨false, rfl, (fun z => nomatch z), fun _ => ws_nx ?_⟩ .dat
    walk_at "pl"
    refine wl_isi (d := .int i) k_int_int ⟨true, rfl, fun _ => ?_, fun z => nomatch z⟩ .dat
    walk_at "pl"
    exact ⟨⟨trivial, trivial⟩, p _⟩
  | list xs =>
    cases hd
    refine wl_isi (d := .list xs) k_list_bool ⟨false, rfl, (fun z => nomatch z), fun _ => ws_nx ?_⟩ .dat
    walk_at "pl"
    refine wl_isi (d := .list xs) k_list_int ⟨false, rfl, (fun z => nomatch z), fun _ => ws_nx ?_⟩ .dat
    walk_at "pl"
    refine wl_isi (d := .list xs) k_list_str ⟨false, rfl, (fun z => nomatch z), fun _ => ws_nx ?_⟩ .dat
    walk_at "pl"
    refine wl_isi (d := .list xs) k_list_list ⟨true, rfl, fun _ => ?_, fun z => nomatch z⟩ .dat
    walk_at "pl"
    exact ⟨⟨trivial, trivial⟩, p _⟩
  | tuple xs =>
    cases hd
    refine wl_isi (d := .tuple xs) k_tup_bool ⟨false, rfl, (fun z => nomatch z), fun _ => ws_nx ?_⟩ .dat
    walk_at "pl"
    refine wl_isi (d := .tuple xs) k_tup_int ⟨false, rfl, (fun z => nomatch z), fun _ => ws_nx ?_⟩ .dat
    walk_at "pl"
    refine wl_isi (d := .tuple xs) k_tup_str ⟨false, rfl, (fun z => nomatch z), fun _ => ws_nx ?_⟩ .dat
    walk_at "pl"
    refine wl_isi (d := .tuple xs) k_tup_list ⟨false, rfl, (fun z => nomatch z), fun _ => ws_nx ?_⟩ .dat
    walk_at "pl"
    refine wl_isi (d := .tuple xs) k_tup_tup ⟨true, rfl, fun _ => ?_, fun z => nomatch z⟩ .dat
    walk_at "pl"
    exact ⟨⟨trivial, trivial⟩, p _⟩
  | none => cases hd
  | str x => cases hd
  | dict x => cases hd
/-- plain data, nested so deep at most -/
def PlainD : Nat → DD → Prop
  | 0, d => (∃ b, d = .bool b) ∨ ∃ i, d = .int i
  | n + 1, d => ((∃ b, d = .bool b) ∨ ∃ i, d = .int i) ∨ ∃ xs, (d = .tuple xs ∨ d = .list xs) ∧ xs.length ≤ 1000 ∧ ∀ y ∈ xs, PlainD n y
def W__law_same (n : Nat) : PW := fun cs Po => ∃ d, PlainD n d ∧ cs = [.d d, .d d] ∧ ∀ e, Po (.c (.d (.bool true))) e
/-- _law_same; Wr: what a call of itself keeps -/
def rd__law_same (K : PySem.W.Frag) (P : Program) (w : World) (Wr : PW) : TS :=
    (tSeq (tIfS (tTest (tOp (rNeD K) (tCall (spW K P w W__law_sort) [] E0 (tCons (tVar 0) tNil)) (tCall (spW K P w W__law_sort) [] E0 (tCons (tVar 1) tNil)))) (tRet (tC (.bl false))) tNext)
    (tSeq (tIfS (tAnd (tTest (tOp (rI0 fun i j => .bl (decide (j < i))) (tCall (spW K P w W__law_sort) [] E0 (tCons (tVar 0) tNil)) (tC (.int 3)))) (tTest (tOp (rI0 fun i j => .bl (decide (i < j))) (tCall (spW K P w W__law_sort) [] E0 (tCons (tVar 0) tNil)) (tC (.int 6))))) (tSeq (tIfS (tTest (tOp (rNeD K) (tCB (rLen K) (tCons (tVar 0) tNil)) (tCB (rLen K) (tCons (tVar 1) tNil)))) (tRet (tC (.bl false))) tNext)
    (tRet (tOp (rEqD K) (tLc (iEnumA K (tCons (tVar 0) tNil)) (gTup K 2 (gCons (gName 2) (gCons (gName 3) gNil))) (tNot (tB (tCall (spW K P w Wr) [] E0 (tCons (tVar 3) (tCons (tOp (rIxU K P w) (tVar 1) (tVar 2)) tNil))))) (tVar 2) [2, 3]) (tLst tNil)))) tNext)
    (tRet (tOp (rEqD K) (tVar 0) (tVar 1)))))
theorem ws__law_same (n : Nat) : WSok K P w (rd__law_same K P w (recW W__law_same n)) 4 (W__law_same n) := by
  rintro cs Po ⟨d, hd, rfl, p⟩
  have hk : (∃ b, d = .bool b) ∨ (∃ i, d = .int i) ∨ ∃ m xs, n = m + 1 ∧ (d = .tuple xs ∨ d = .list xs) ∧ xs.length ≤ 1000 ∧ ∀ y ∈ xs, PlainD m y := by
    cases n with
    | zero => exact hd.elim .inl fun z => .inr (.inl z)
    | succ m => exact hd.elim (fun z => z.elim .inl fun z => .inr (.inl z)) fun ⟨xs, h⟩ => .inr (.inr ⟨m, xs, rfl, h⟩)
  have hnil : PyData.eqv (.list []) (.list []) = true := nice_int.lst.eq [] []
  unfold rd__law_same
  walk_at "pl"
  rcases hk with ⟨b, rfl⟩ | ⟨i, rfl⟩ | ⟨m, xs, rfl, hx, hl, hy⟩
  · refine ⟨_, rfl, .bool b, 1, rfl, rfl, fun _ => ?_⟩
    walk_at "pl"
    refine ⟨_, rfl, .bool b, 1, rfl, rfl, fun _ => ?_⟩
    refine w2_neD .dat .dat rfl rfl ⟨_, rfl, (fun z => nomatch z), fun _ => ws_nx ?_⟩
    walk_at "pl"
    refine ⟨_, rfl, .bool b, 1, rfl, rfl, fun _ => ?_⟩
    walk_at "pl"
    refine ⟨_, rfl, (fun z => nomatch z), fun _ => ⟨(fun z => nomatch z), fun _ => ws_nx ?_⟩⟩
    walk_at "pl"
    refine w2_eqD .dat .dat rfl rfl ?_
    have e : PyData.eqv (.bool b) (.bool b) = true := by cases b <;> rfl
    rw [e]
    exact ⟨⟨trivial, trivial, trivial⟩, p _⟩
  · refine ⟨_, rfl, .int i, 2, rfl, rfl, fun _ => ?_⟩
    walk_at "pl"
    refine ⟨_, rfl, .int i, 2, rfl, rfl, fun _ => ?_⟩
    refine w2_neD .dat .dat rfl rfl ⟨_, rfl, (fun z => nomatch z), fun _ => ws_nx ?_⟩
    walk_at "pl"
    refine ⟨_, rfl, .int i, 2, rfl, rfl, fun _ => ?_⟩
    walk_at "pl"
    refine ⟨_, rfl, (fun z => nomatch z), fun _ => ⟨(fun z => nomatch z), fun _ => ws_nx ?_⟩⟩
    walk_at "pl"
    refine w2_eqD .dat .dat rfl rfl ?_
    rw [nice_int.eq, decide_eq_true rfl]
    exact ⟨⟨trivial, trivial, trivial⟩, p _⟩
  have hwalk : ∀ (k : Nat) (x : DD) (e1 : List C), (enumD xs)[k]? = some x → e1 = [.d d, .d d, .no, .no] → WG K P w (gTup K 2 (gCons (gName 2) (gCons (gName 3) gNil))) (.c (.d x)) (wipeE e1 [2, 3]) fun e2 => WT K P w (tNot (tB (tCall (spW K P w (W__law_same m)) [] E0 (tCons (tVar 3) (tCons (tOp (rIxU K P w) (tVar 1) (tVar 2)) tNil))))) e2 fun b e3 => b = false ∧ (b = true → WE K P w (tVar 2) e3 fun r e4 => r = .c (.d .none) ∧ wipeE e4 [2, 3] = wipeE e1 [2, 3]) ∧ (b = false → wipeE e3 [2, 3] = wipeE e1 [2, 3]) := by
    rintro k x e1 hx' rfl
    obtain ⟨y, hy', rfl⟩ := enumD_at hx'
    have hym := hy y (List.mem_of_getElem? hy')
    rcases hx with rfl | rfl
    · walk_at "pl"
      refine wu_ixT (atI_nat hy') ?_
      walk_at "pl"
      exact ⟨_, rfl, y, hym, rfl, fun _ => ⟨true, rfl, rfl, (fun z => nomatch z), fun _ => rfl⟩⟩
    · walk_at "pl"
      refine wu_ixL (.inl rfl) (atI_nat hy') ?_
      walk_at "pl"
      exact ⟨_, rfl, y, hym, rfl, fun _ => ⟨true, rfl, rfl, (fun z => nomatch z), fun _ => rfl⟩⟩
  have hfil : ∀ (n : Nat) (f : Nat → DD), ((List.range n).filter fun _ => false).map f = [] := fun n f => by
    rw [List.filter_eq_nil_iff.mpr (fun a _ => by simp)]; rfl
  have hne : PyData.eqv (.int (xs.length : Nat)) (.int (xs.length : Nat)) = true := by rw [nice_int.eq, decide_eq_true rfl]
  rcases hx with rfl | rfl
  · refine ⟨_, rfl, .tuple xs, 5, rfl, rfl, fun _ => ?_⟩
    walk_at "pl"
    refine ⟨_, rfl, .tuple xs, 5, rfl, rfl, fun _ => ?_⟩
    refine w2_neD .dat .dat rfl rfl ⟨_, rfl, (fun z => nomatch z), fun _ => ws_nx ?_⟩
    walk_at "pl"
    refine ⟨_, rfl, .tuple xs, 5, rfl, rfl, fun _ => ?_⟩
    walk_at "pl"
    refine ⟨_, rfl, (fun _ => ?_), fun z => nomatch z⟩
    walk_at "pl"
    refine ⟨_, rfl, .tuple xs, 5, rfl, rfl, fun _ => ?_⟩
    walk_at "pl"
    refine ⟨_, rfl, (fun _ => ?_), fun z => nomatch z⟩
    walk_at "pl"
    refine w2_neD .dat .dat rfl rfl ⟨_, rfl, ?_⟩
    rw [hne]
    refine ⟨(fun z => nomatch z), fun _ => ws_nx ?_⟩
    walk_at "pl"
    refine we_lcC (gin_tup (gins_name (by decide) (gins_name (by decide) gins_nil))) (wi_enumT ?_)
    walk_at "pl"
    refine ⟨_, rfl, by rw [enumD_len]; omega, own2 rfl rfl, fun _ => false, fun _ => .none, fun k x hx => hwalk k x _ hx rfl, fun a => ?_⟩
    rw [hfil]
    refine we_lstU ?_
    walk_at "pl"
    refine ⟨_, rfl, by simp, fun a3 => ?_⟩
    refine w2_eqD (.inr ⟨_, rfl, .inr (.inl ⟨a, rfl⟩)⟩) (.inr ⟨_, rfl, .inr (.inl ⟨a3, rfl⟩)⟩) rfl rfl ?_
    rw [hnil]
    exact ⟨⟨trivial, trivial, trivial⟩, p _⟩
  · refine ⟨_, rfl, .list xs, 4, rfl, rfl, fun _ => ?_⟩
    walk_at "pl"
    refine ⟨_, rfl, .list xs, 4, rfl, rfl, fun _ => ?_⟩
    refine w2_neD .dat .dat rfl rfl ⟨_, rfl, (fun z => nomatch z), fun _ => ws_nx ?_⟩
    walk_at "pl"
    refine ⟨_, rfl, .list xs, 4, rfl, rfl, fun _ => ?_⟩
    walk_at "pl"
    refine ⟨_, rfl, (fun _ => ?_), fun z => nomatch z⟩
    walk_at "pl"
    refine ⟨_, rfl, .list xs, 4, rfl, rfl, fun _ => ?_⟩
    walk_at "pl"
    refine ⟨_, rfl, (fun _ => ?_), fun z => nomatch z⟩
    walk_at "pl"
    refine wk_lenL (.inl rfl) ?_
    walk_at "pl"
    refine wk_lenL (.inl rfl) ?_
    refine w2_neD .dat .dat rfl rfl ⟨_, rfl, ?_⟩
    rw [hne]
    refine ⟨(fun z => nomatch z), fun _ => ws_nx ?_⟩
    walk_at "pl"
    refine we_lcC (gin_tup (gins_name (by decide) (gins_name (by decide) gins_nil))) (wi_enumL ?_)
    walk_at "pl"
    refine ⟨_, rfl, by rw [enumD_len]; omega, own2 rfl rfl, fun _ => false, fun _ => .none, fun k x hx => hwalk k x _ hx rfl, fun a => ?_⟩
    rw [hfil]
    refine we_lstU ?_
    walk_at "pl"
    refine ⟨_, rfl, by simp, fun a3 => ?_⟩
    refine w2_eqD (.inr ⟨_, rfl, .inr (.inl ⟨a, rfl⟩)⟩) (.inr ⟨_, rfl, .inr (.inl ⟨a3, rfl⟩)⟩) rfl rfl ?_
    rw [hnil]
    exact ⟨⟨trivial, trivial, trivial⟩, p _⟩
end
end PL

/-! Sets whose elements are objects of a kind that has a hash: what a search finds, what adding leaves. -/
namespace PL
open PySem PySem.Spec PyProof.Rows L2
/-- a kind whose objects may be elements of sets -/
structure SKind (P : Program) (w : World) (κ : Type) [DecidableEq κ] extends HeapKind P w κ where
  cls : ∀ {A : Around} {E : Value → Shared → Prop} {s : Shared} {k : κ} {a : Addr} {Q : Bool → Shared → Prop}, is s.heap k a → Q false s → wpAny (model P w) A (ofAClassStatement 8 (.ref a)) Q E s
  byv : ∀ {A : Around} {E : Value → Shared → Prop} {s : Shared} {k : κ} {a : Addr} {Q : Bool → Shared → Prop}, is s.heap k a → Q true s → wpAny (model P w) A (hashByValue 8 (.ref a)) Q E s
  kept : ∀ {h h' : Heap} {k : κ} {b : Addr}, is h k b → (∀ c u, h.get? c = some u → (∀ es ep t, u.data ≠ .set es ep t) → h'.get? c = some u) → is h' k b
abbrev pth (t : SetTable) (h : Int) (c : Nat) : SetTable.Probe := nth t.mask (runAt t.mask (SetTable.bits h % (t.mask + 1)) (SetTable.bits h)) c
theorem pth_clean (t : SetTable) (h : Int) : ∀ c, (pth t h c).dummy = none
  | 0 => rfl
  | c + 1 => by
    show (nth t.mask _ (c + 1)).dummy = none
    rw [nth_succ]
    have ih := pth_clean t h c
    unfold adv
    split <;> exact ih
theorem pth_on (t : SetTable) (h : Int) (c q : Nat) : nth t.mask (pth t h c) q = pth t h (c + q) := (nth_add t.mask c _ q).symm
/-- what a look from the c-th place of the way on finds: an entry of the same hash, or the first free place -/
theorem probe_cases {t : SetTable} {hs : List Int} (T : TabOk t hs) {hashAt : Nat → Int} (hA : ∀ i v, hs[i]? = some v → hashAt i = v) (hn : hs.length = t.place.toList.length) (h : Int) {K c : Nat} (hc : c ≤ K) (hf : K < 10 * SetTable.turns t.mask)
    (hK : way t.mask h K ∉ t.place.toList) (hb : ∀ q, q < K → way t.mask h q ∈ t.place.toList) :
    (∃ q i, c ≤ q ∧ q < K ∧ t.place.toList[i]? = some (way t.mask h q) ∧ (∀ (q' i' : Nat), c ≤ q' → q' < q → t.place.toList[i']? = some (way t.mask h q') → hs[i']? ≠ some h) ∧ t.probe hashAt h (pth t h c) = some (.candidate (way t.mask h q) i (pth t h (q + 1)))) ∨
    (∀ (q' i' : Nat), c ≤ q' → q' < K → t.place.toList[i']? = some (way t.mask h q') → hs[i']? ≠ some h) ∧ t.probe hashAt h (pth t h c) = some (.empty (way t.mask h K) none) := by
  have at_ : ∀ q, (nth t.mask (pth t h c) q).j = way t.mask h (c + q) := fun q => congrArg SetTable.Probe.j (pth_on t h c q)
  have g := go_spec t T.ris T.dm hashAt h (10 * SetTable.turns t.mask) (K - c) (pth t h c) (pth_clean t h c) (by omega) (fun q hq => by rw [at_]; exact hb _ (by omega)) (by rw [at_, Nat.add_sub_cancel' hc]; exact hK)
  have miss : ∀ (q' i' : Nat), (∀ q i, q < q' + 1 → t.place.toList[i]? = some (nth t.mask (pth t h c) q).j → hashAt i ≠ h) → t.place.toList[i']? = some (way t.mask h (c + q')) → hs[i']? ≠ some h := fun q' i' no hi e =>
    no q' i' (Nat.lt_succ_self _) (by rw [at_]; exact hi) (hA i' h e)
  rcases g with ⟨q, i, hq, hi, _, no, e⟩ | ⟨no, e⟩
  · rw [at_] at hi
    refine .inl ⟨c + q, i, Nat.le_add_right _ _, by omega, hi, fun q' i' h1 h2 h3 => ?_, ?_⟩
    · obtain ⟨d, rfl⟩ : ∃ d, q' = c + d := ⟨q' - c, by omega⟩
      exact miss d i' (fun q1 i1 l => no q1 i1 (by omega)) h3
    · rw [at_, pth_on] at e
      exact e
  · rw [at_, Nat.add_sub_cancel' hc] at e
    refine .inr ⟨fun q' i' h1 h2 h3 => ?_, e⟩
    obtain ⟨d, rfl⟩ : ∃ d, q' = c + d := ⟨q' - c, by omega⟩
    exact miss d i' (fun q1 i1 l => no q1 i1 (by omega)) h3
section
variable {P : Program} {w : World} {κ : Type} [DecidableEq κ] {N : SKind P w κ} {A : Around} {E : Value → Shared → Prop} {s : Shared}
theorem SKind.same {h h' : Heap} {k : κ} {a b : Addr} {o : Obj} {es : Array (Int × Value)} {ep : Nat} {t : SetTable} (x : N.is h k b) (ho : h.get? a = some o) (hd : o.data = .set es ep t) (sb : Heap.SameBut a h h') : N.is h' k b :=
  N.kept x fun c u hu hn => (sb.2 c fun e => by
    subst e
    rw [ho] at hu
    cases hu
    exact hn es ep t hd).trans hu
theorem SKind.grow {h h' : Heap} {k : κ} {b : Addr} (x : N.is h k b) (hk : ∀ c u, h.get? c = some u → h'.get? c = some u) : N.is h' k b := N.kept x fun c u hu _ => hk c u hu
/-- looking among objects of the kind tells nothing of the table -/
theorem unseen {k : κ} {x : Addr} {Q : Bool → Shared → Prop} (hx : N.is s.heap k x) : ∀ {ys : List Value}, (∀ y ∈ ys, ∃ k' c, y = Value.ref c ∧ N.is s.heap k' c) → Q false s → wpAny (model P w) A (searchCouldBeSeen (.ref x) ys) Q E s := by
  intro ys hy h
  unfold searchCouldBeSeen
  refine wpAny_bind (wpAny_forIn_list _ (fun rest r z => z = s ∧ r.1 = none ∧ ∀ y ∈ rest, ∃ k' c, y = Value.ref c ∧ N.is s.heap k' c) _ ?_ ?_ _ _ ⟨rfl, rfl, hy⟩)
  · rintro _ rest r _ ⟨rfl, hr, all⟩
    obtain ⟨k', c, rfl, hc⟩ := all _ List.mem_cons_self
    have tl := fun y hy => all y (List.mem_cons_of_mem _ hy)
    dsimp only
    by_cases q : (x == c || (carriedByValue (.ref x) && carriedByValue (.ref c))) = true
    · exact wp_if_pos q (wpAny_pure ⟨rfl, rfl, tl⟩)
    · refine wp_if_neg q (wpAny_bind (N.quiet hx ?_))
      simp only [Bool.not_true, Bool.false_eq_true, if_false]
      refine wpAny_bind (N.quiet hc ?_)
      simp only [Bool.not_true, Bool.false_eq_true, if_false]
      refine wpAny_bind (N.cls hx ?_)
      simp only [Bool.false_eq_true, if_false]
      refine wpAny_bind (N.cls hc ?_)
      simp only [Bool.false_eq_true, if_false]
      exact wpAny_pure ⟨rfl, rfl, tl⟩
  · rintro ⟨r1, r2⟩ _ ⟨rfl, hr, _⟩
    cases (show r1 = none from hr)
    exact wpAny_pure h
/-- the set at a has the elements L, in the table's order -/
structure SetR (N : SKind P w κ) (h : Heap) (a : Addr) (L : List (Addr × κ)) (es : Array (Int × Value)) (ep : Nat) (t : SetTable) : Prop where
  obj : ∃ o, h.get? a = some o ∧ o.ExactSet ∧ o.data = .set es ep t
  ents : es.toList = L.map fun p => (N.hash p.2, Value.ref p.1)
  tab : TabOk t (L.map fun p => N.hash p.2)
  nodup : (L.map (·.2)).Nodup
  elts : ∀ p ∈ L, N.is h p.2 p.1
  plain : t.plain = true
  led : w.params.followText "set-order" = true ∨ t.led = true
  free : L.length * 5 < t.mask * 3
  few : L.length < 64
variable {a x : Addr} {k : κ} {L : List (Addr × κ)} {es : Array (Int × Value)} {ep : Nat} {t : SetTable}
theorem ents_size {es : Array (Int × Value)} {L : List (Addr × κ)} (h : es.toList = L.map fun p => (N.hash p.2, Value.ref p.1)) : es.size = L.length := by
  rw [← Array.length_toList, h, List.length_map]
theorem ents_at {es : Array (Int × Value)} {L : List (Addr × κ)} (h : es.toList = L.map fun p => (N.hash p.2, Value.ref p.1)) (i : Nat) : es[i]? = L[i]?.map fun p => (N.hash p.2, Value.ref p.1) := by
  rw [← Array.getElem?_toList, h, List.getElem?_map]
theorem SetR.places (R : SetR N s.heap a L es ep t) : t.place.size = L.length := R.tab.sz.trans (List.length_map ..)
theorem fits_of {n : Nat} (h1 : t.place.size = n) (h2 : t.dummies = #[]) (h3 : n ≤ t.mask) : t.fits n = true := by
  unfold SetTable.fits SetTable.fill
  rw [h2, h1, beq_self_eq_true, Bool.true_and, decide_eq_true_eq]
  exact h3
theorem SetR.fits (R : SetR N s.heap a L es ep t) : t.fits es.size = true := fits_of (R.places.trans (ents_size R.ents).symm) R.tab.dm (by have := R.free; rw [ents_size R.ents]; omega)
theorem search_n (R : SetR N s.heap a L es ep t) (hx : N.is s.heap k x) (hu : N.room A) {K : Nat} (hf : K < 10 * SetTable.turns t.mask) (hK : way t.mask (N.hash k) K ∉ t.place.toList) (hb : ∀ q, q < K → way t.mask (N.hash k) q ∈ t.place.toList)
    {Q : SetFound → Shared → Prop} (yes : k ∈ L.map (·.2) → Q (.there none) s) (no : k ∉ L.map (·.2) → Q (.free (way t.mask (N.hash k) K) false) s) :
    ∀ (f c : Nat) (stand : Option SetTable.Probe), stand.getD (t.probeStart (N.hash k)) = pth t (N.hash k) c → c ≤ K → K < c + f →
      (∀ (i : Nat) (p : Addr × κ), L[i]? = some p → p.2 = k → ∃ q, c ≤ q ∧ q < K ∧ t.place.toList[i]? = some (way t.mask (N.hash k) q)) → wpAny (model P w) A (setSearchFrom a (.ref x) (N.hash k) true f stand) Q E s
  | 0, c, _, _, h1, h2, _ => absurd h2 (Nat.not_lt.mpr h1)
  | f + 1, c, stand, hst, hc, hlt, ahead => by
    obtain ⟨o, ho, _, hd⟩ := R.obj
    have hashAt : ∀ (i : Nat) (v : Int), (L.map fun p => N.hash p.2)[i]? = some v → (fun (i : Nat) => (es[i]?.map (·.1)).getD 0) i = v := fun i v e => by
      rw [List.getElem?_map] at e
      show (es[i]?.map (·.1)).getD 0 = v
      rw [ents_at R.ents i]
      cases q : L[i]? with
      | none => rw [q] at e; cases e
      | some p => rw [q] at e; exact Option.some.inj e
    have odd : ¬ t.gaveWay = true := by
      unfold SetTable.gaveWay
      rw [mask_odd R.tab.mok]
      decide
    rw [setSearchFrom_succ]
    refine wpAny_bind (wpAny_setState_of ho hd R.fits ?_)
    dsimp only
    refine wp_if_neg odd ?_
    try refine wpAny_bind (wpAny_pure ?_)
    rw [hst]
    rcases probe_cases R.tab hashAt ((List.length_map ..).trans (R.places.symm.trans (Array.length_toList ..).symm)) (N.hash k) hc hf hK hb with ⟨q, i, h1, h2, hi, past, e⟩ | ⟨past, e⟩ <;> rw [e] <;> dsimp only
    · have hil : i < L.length := by
        have := (List.getElem?_eq_some_iff.mp hi).1
        rw [Array.length_toList, R.places] at this
        exact this
      obtain ⟨p, hp⟩ : ∃ p, L[i]? = some p := ⟨_, List.getElem?_eq_getElem hil⟩
      have hmem := List.mem_of_getElem? hp
      have hent : es[i]? = some (N.hash p.2, Value.ref p.1) := by rw [ents_at R.ents i, hp]; rfl
      have hlive := slot_live R.tab.ris hi
      have tail : wpAny (model P w) A (searchRest a (.ref x) (N.hash k) true f es t (way t.mask (N.hash k) q) i (pth t (N.hash k) (q + 1))) Q E s := by
        unfold searchRest
        rw [hent]
        dsimp only
        refine wpAny_bind (wpAny_holding (N.eqBool hu (R.elts p hmem) hx (wpAny_bind (wpAny_setState_of ho hd R.fits ?_))))
        dsimp only
        by_cases ek : p.2 = k
        · exact wp_if_pos (by simp [ek]) (wpAny_pure (yes (List.mem_map.mpr ⟨p, hmem, ek⟩)))
        · refine wp_if_neg (by simp [ek]) ?_
          try refine wpAny_bind (wpAny_pure ?_)
          rw [sameMem]
          dsimp only
          simp only [if_true, hlive, hent]
          refine wpAny_bind (wpAny_isSame_ref_self (wpAny_bind (wpAny_pure ?_)))
          simp only [if_true]
          refine wp_if_neg (by simp [ek]) (search_n R hx hu hf hK hb yes no f (q + 1) _ rfl h2 (by omega) fun j r hr ekr => ?_)
          obtain ⟨q', a1, a2, a3⟩ := ahead j r hr ekr
          refine ⟨q', Nat.lt_of_le_of_ne (Nat.le_of_not_lt fun z => ?_) fun z => ?_, a2, a3⟩
          · exact past q' j a1 z a3 (by rw [List.getElem?_map, hr, ← ekr]; rfl)
          · rw [← z] at a3
            have two := slot_live R.tab.ris a3
            rw [hlive] at two
            injection two with two
            rw [← two, hp] at hr
            exact ek ((congrArg Prod.snd (Option.some.inj hr)).trans ekr)
      by_cases hl : t.led = true
      · refine wp_if_neg (by simp [hl]) ?_
        try refine wpAny_bind (wpAny_pure ?_)
        exact tail
      · refine wp_if_pos (by simp [hl]) (wpAny_bind (unseen hx (fun y hy => ?_) ?_))
        · obtain ⟨v, hv, rfl⟩ := List.mem_map.mp hy
          have hv2 : v ∈ es.toList := by
            have : v ∈ es ∧ v.1 = N.hash k := by simpa using hv
            simpa using this.1
          rw [R.ents] at hv2
          obtain ⟨r, hr, rfl⟩ := List.mem_map.mp hv2
          exact ⟨r.2, r.1, rfl, R.elts r hr⟩
        · refine wp_if_neg (by decide) ?_
          try refine wpAny_bind (wpAny_pure ?_)
          exact tail
    · refine wpAny_pure (no fun hm => ?_)
      obtain ⟨r, hr, ekr⟩ := List.mem_map.mp hm
      obtain ⟨j, hj⟩ := List.getElem?_of_mem hr
      obtain ⟨q', a1, a2, a3⟩ := ahead j r hj ekr
      exact past q' j a1 a2 a3 (by rw [List.getElem?_map, hj, ← ekr]; rfl)
end
end PL

/-! Adding to a set. -/
namespace PL
open PySem PySem.Spec PyProof.Rows L2
theorem fm_congr {α β : Type} {f g : α → Option β} : ∀ {l : List α}, (∀ i ∈ l, f i = g i) → l.filterMap f = l.filterMap g
  | [], _ => rfl
  | i :: l, h => by
    have ih := fm_congr (l := l) fun j hj => h j (List.mem_cons_of_mem _ hj)
    rw [List.filterMap_cons, List.filterMap_cons, h i List.mem_cons_self, ih]
theorem picks_all {α : Type} (L : List α) : (List.range L.length).filterMap (fun i => L[i]?) = L := by
  have e : (List.range L.length).map (fun i => L[i]?) = L.map some := by
    apply List.ext_getElem?
    intro j
    rw [List.getElem?_map, List.getElem?_map]
    by_cases h : j < L.length
    · rw [List.getElem?_range h, List.getElem?_eq_getElem h]; simp [h]
    · rw [List.getElem?_eq_none (by simpa using h), List.getElem?_eq_none (by simpa using h)]; rfl
  have e2 : (List.range L.length).filterMap (fun i => L[i]?) = ((List.range L.length).map fun i => L[i]?).filterMap id := by rw [List.filterMap_map]; rfl
  rw [e2, e, List.filterMap_map]
  exact List.filterMap_some
section
variable {P : Program} {w : World} {κ : Type} [DecidableEq κ] {N : SKind P w κ} {A : Around} {E : Value → Shared → Prop} {s : Shared}
variable {a x : Addr} {k : κ} {L : List (Addr × κ)} {es : Array (Int × Value)} {ep : Nat} {t : SetTable}
/-- the entries in another order -/
theorem order_ents (h : es.toList = L.map fun p => (N.hash p.2, Value.ref p.1)) {order : Array Nat} (hp : order.toList.Perm (List.range L.length)) :
    ∃ L2 : List (Addr × κ), (order.filterMap (es[·]?)).toList = L2.map (fun p => (N.hash p.2, Value.ref p.1)) ∧ L2.Perm L ∧ (order.toList.map fun i => (es.map (·.1)).getD i 0) = L2.map fun p => N.hash p.2 := by
  refine ⟨order.toList.filterMap fun i => L[i]?, ?_, ?_, ?_⟩
  · rw [Array.toList_filterMap, List.map_filterMap]
    refine fm_congr fun i _ => ?_
    exact ents_at h i
  · have q := hp.filterMap fun i => L[i]?
    rw [picks_all] at q
    exact q
  · rw [List.map_filterMap, ← List.filterMap_eq_map]
    refine fm_congr fun i hi => ?_
    have hil : i < L.length := List.mem_range.mp (hp.mem_iff.mp hi)
    have e1 := ents_at h i
    rw [List.getElem?_eq_getElem hil] at e1 ⊢
    show some ((es.map (·.1)).getD i 0) = some (N.hash L[i].2)
    rw [Array.getD_eq_getD_getElem?, Array.getElem?_map, e1]
    rfl
/-- the table laid anew -/
theorem relay_n {o : Obj} (ho : s.heap.get? a = some o) (hx : o.ExactSet) (hd : o.data = .set es ep t) (he : es.toList = L.map fun p => (N.hash p.2, Value.ref p.1)) (hs : t.place.size = L.length) (hm : t.dummies = #[]) (hl : L.length ≤ t.mask)
    (hn : (L.map (·.2)).Nodup) (hk : ∀ p ∈ L, N.is s.heap p.2 p.1) (hp : t.plain = true) (hg : w.params.followText "set-order" = true ∨ t.led = true) (hf : L.length < 64) {want M : Nat} (hw : SetTable.sizeAbove want = M + 1) (hM : MaskOk M)
    (hfree : L.length * 5 < M * 3) {Q : Unit → Shared → Prop} (q : ∀ h' L' es' ep' t', Heap.SameBut a s.heap h' → SetR N h' a L' es' ep' t' → L'.Perm L → Q () { s with heap := h' }) : wpAny (model P w) A (setRelay a want) Q E s := by
  have hz := ents_size he
  have hM2 : M ≤ 127 := by rcases hM with e | e | e <;> omega
  obtain ⟨t', order, e, pm, T, e1, e2, e3, _⟩ := relaid_ok t (hs := es.map (·.1)) (wanted := want) (M := M) (by omega) hM (by rw [Array.size_map, hz]; omega)
  rw [Array.size_map, hz] at pm
  obtain ⟨L2, g1, g2, g3⟩ := order_ents he pm
  rw [g3] at T
  have hz2 : (order.filterMap (es[·]?)).size = es.size := (ents_size g1).trans (g2.length_eq.trans hz.symm)
  have big := sizeLine_eq
  rw [setRelay_eq]
  refine wpAny_bind (wpAny_setState_of ho hd (fits_of (hs.trans hz.symm) hm (by omega)) ?_)
  dsimp only
  refine wp_if_neg (by omega) ?_
  try refine wpAny_bind (wpAny_pure ?_)
  rw [e]
  dsimp only
  refine wpAny_bind (wp_if_neg (by rw [hz2]; simp) ?_)
  try refine wpAny_bind (wpAny_pure ?_)
  refine wpAny_pure ?_
  dsimp only
  have sb : Heap.SameBut a s.heap (s.heap.update a (Obj.putSet (order.filterMap (es[·]?)) t')) := Heap.SameBut.update ..
  refine wpAny_storeSet_of ho hd (q _ L2 _ (ep + 1) t' sb ⟨⟨_, store_at ho hd, ⟨hx.1, hx.2.1, hx.2.2⟩, rfl⟩, g1, T, (g2.map (·.2)).nodup_iff.mpr hn, fun p hp => SKind.same (hk p (g2.mem_iff.mp hp)) ho hd sb, by rw [e3]; exact hp, by rw [e2]; exact hg, by rw [g2.length_eq, e1]; exact hfree, by rw [g2.length_eq]; exact hf⟩ g2) (by rw [hz2]; omega)
/-- ADDING -/
theorem add_n (R : SetR N s.heap a L es ep t) (hx : N.is s.heap k x) (hu : N.room A) (hfew : L.length + 1 < 64) {Q : Bool → Shared → Prop}
    (q : ∀ b h' L' es' ep' t', Heap.SameBut a s.heap h' → SetR N h' a L' es' ep' t' → (k ∈ L.map (·.2) → L' = L) → (k ∉ L.map (·.2) → L'.Perm ((x, k) :: L)) → Q b { s with heap := h' }) : wpAny (model P w) A (setAddHashed a (.ref x) (N.hash k)) Q E s := by
  obtain ⟨o, ho, hex, hd⟩ := R.obj
  have hz := ents_size R.ents
  have hfree := R.free
  have big := sizeLine_eq
  obtain ⟨K, hf, hK, hb⟩ := R.tab.first (by rw [List.length_map]; omega) (N.hash k)
  have small : K < 100000 := by
    have : 10 * SetTable.turns t.mask ≤ 1420 := by
      unfold SetTable.turns
      rcases R.tab.mok with e | e | e <;> omega
    omega
  unfold setAddHashed
  refine wpAny_holding ?_
  rw [show (100000 : Nat) = 99999 + 1 from rfl, setAddHashedIn_succ]
  refine wpAny_bind (wpAny_setState_of ho hd R.fits ?_)
  dsimp only
  refine wp_if_neg (by simp [byScan, Value.scannable]) ?_
  try refine wpAny_bind (wpAny_pure ?_)
  unfold setSearch
  refine wpAny_bind (search_n R hx hu hf hK hb (fun hm => ?_) (fun hm => ?_) 100000 0 none rfl (Nat.zero_le _) (by omega) fun i p hp ek => ?_)
  · exact wpAny_pure (q false s.heap L es ep t (Heap.SameBut.refl a s.heap) R (fun _ => rfl) fun z => absurd hm z)
  · dsimp only
    refine wpAny_bind (wpAny_setState_of ho hd R.fits ?_)
    dsimp only
    obtain ⟨p1, _, p3, p4, p5, p6, _, _, p9⟩ := R.tab.put hK hb
    have pl : (t.put (way t.mask (N.hash k) K)).1.plain = true := by rw [p6]; exact R.plain
    generalize hcut : SetTable.below t.place (way t.mask (N.hash k) K) = c at p1 p3
    generalize hput : t.put (way t.mask (N.hash k) K) = put at p1 p3 p4 p5 p6 p9 pl ⊢
    obtain ⟨t1, c1⟩ := put
    dsimp only at p1 p3 p4 p5 p6 p9 pl ⊢
    subst p1
    first
      | (refine wpAny_bind (wp_if_pos pl (N.byv hx ?_)))
      | refine wp_if_pos pl (wpAny_bind (N.byv hx ?_))
    simp only [if_true]
    have pm := put_perm L c1 (x, k)
    have he1 : (SetTable.insertAt es c1 (N.hash k, Value.ref x)).toList = (L.take c1 ++ (x, k) :: L.drop c1).map fun p => (N.hash p.2, Value.ref p.1) := by
      rw [SetTable.toList_insertAt, R.ents, List.map_append, List.map_cons, List.map_take, List.map_drop]
    have ht1 : TabOk t1 ((L.take c1 ++ (x, k) :: L.drop c1).map fun p => N.hash p.2) := by
      rw [List.map_append, List.map_cons, List.map_take, List.map_drop]
      exact p3
    generalize SetTable.insertAt es c1 (N.hash k, Value.ref x) = es1 at he1 ⊢
    generalize L.take c1 ++ (x, k) :: L.drop c1 = L1 at he1 ht1 pm
    have hl1 : L1.length = L.length + 1 := pm.length_eq
    have hz1 := ents_size he1
    have nd1 : (L1.map (·.2)).Nodup := (pm.map (·.2)).nodup_iff.mpr (List.nodup_cons.mpr ⟨hm, R.nodup⟩)
    have sb : Heap.SameBut a s.heap (s.heap.update a (Obj.putSet es1 t1)) := Heap.SameBut.update ..
    have ho1 := store_at (es' := es1) (t' := t1) ho hd
    refine wpAny_bind (wpAny_storeSet_of ho hd ?_ (by omega))
    generalize s.heap.update a (Obj.putSet es1 t1) = h1 at sb ho1 ⊢
    have el1 : ∀ p ∈ L1, N.is h1 p.2 p.1 := fun p hp => by
      rcases List.mem_cons.mp (pm.mem_iff.mp hp) with e | hp
      · subst e; exact SKind.same hx ho hd sb
      · exact SKind.same (R.elts p hp) ho hd sb
    have ld1 : w.params.followText "set-order" = true ∨ t1.led = true := by rw [p5]; exact R.led
    have fill1 : t1.fill = L.length + 1 := by rw [p9, List.length_map]
    have hpl1 : t1.place.size = L1.length := ht1.sz.trans (List.length_map ..)
    by_cases full : t1.tooFull = true
    · have hfull : (L.length + 1) * 5 ≥ t.mask * 3 := by
        unfold SetTable.tooFull at full
        rw [decide_eq_true_eq, fill1, p4] at full
        exact full
      have anew : ∀ M, SetTable.sizeAbove (SetTable.grown (L.length + 1)) = M + 1 → MaskOk M → (L.length + 1) * 5 < M * 3 → wpAny (model P w) A (setRelay a (SetTable.grown (es.size + 1))) (fun _ z => wpAny (model P w) A (pure true) Q E z) E { s with heap := h1 } := fun M m1 m2 m3 => by
        rw [hz]
        refine relay_n (N := N) (s := { s with heap := h1 }) ho1 ⟨hex.1, hex.2.1, hex.2.2⟩ rfl he1 hpl1 ht1.dm (by rw [hl1, p4]; omega) nd1 el1 pl ld1 (by rw [hl1]; exact hfew) m1 m2 (by rw [hl1]; exact m3) fun h2 L2 es2 ep2 t2 sb2 R2 pm2 => ?_
        exact wpAny_pure (q true h2 L2 es2 ep2 t2 (sb.trans sb2) R2 (fun z => absurd z hm) fun _ => pm2.trans pm)
      have go : wpAny (model P w) A (setRelay a (SetTable.grown (es.size + 1))) (fun _ z => wpAny (model P w) A (pure true) Q E z) E { s with heap := h1 } := by
        rcases R.tab.mok with e | e | e
        · have hL : L.length = 4 := by omega
          exact anew 31 (by rw [hL, size_20]) (.inr (.inl rfl)) (by omega)
        · have hL : L.length = 18 := by omega
          exact anew 127 (by rw [hL, size_76]) (.inr (.inr rfl)) (by omega)
        · exfalso; omega
      first
        | (refine wpAny_bind (wp_if_pos (by simp [full]) ?_); exact go)
        | (refine wp_if_pos (by simp [full]) (wpAny_bind ?_); exact go)
    · have room1 : L1.length * 5 < t1.mask * 3 := by
        unfold SetTable.tooFull at full
        rw [decide_eq_true_eq, fill1] at full
        rw [hl1]
        omega
      first
        | refine wp_if_neg (by simp [full]) ?_
        | (refine wpAny_bind (wp_if_neg (by simp [full]) ?_); refine wpAny_pure ?_)
      exact wpAny_pure (q true h1 L1 es1 (ep + 1) t1 sb ⟨⟨_, ho1, ⟨hex.1, hex.2.1, hex.2.2⟩, rfl⟩, he1, ht1, nd1, el1, pl, ld1, room1, by rw [hl1]; exact hfew⟩ (fun z => absurd z hm) fun _ => pm)
  · have hi : (L.map fun p => N.hash p.2)[i]? = some (N.hash k) := by rw [List.getElem?_map, hp, ← ek]; rfl
    have hil : i < t.place.toList.length := by
      rw [Array.length_toList, R.places]
      exact (List.getElem?_eq_some_iff.mp hp).1
    obtain ⟨c, hc, e⟩ := R.tab.before hK hi (List.getElem?_eq_getElem hil)
    exact ⟨c, Nat.zero_le _, hc, by rw [List.getElem?_eq_getElem hil, e]⟩
end
end PL

/-! set(list). -/
namespace PL
open PySem PySem.Spec PyProof.Rows L2
/-- what the set has got from the first i items -/
structure Met {κ : Type} (ks : List (Addr × κ)) (i : Nat) (L : List (Addr × κ)) : Prop where
  from_ : ∀ p ∈ L, p ∈ ks.take i
  keys : ∀ p ∈ ks.take i, p.2 ∈ L.map (·.2)
  size : L.length ≤ i
theorem Met.on {κ : Type} {ks L L' : List (Addr × κ)} {i : Nat} {x : Addr × κ} (g : Met ks i L) (h : ks[i]? = some x) (c : (x.2 ∈ L.map (·.2) ∧ L' = L) ∨ L'.Perm (x :: L)) : Met ks (i + 1) L' := by
  have e : ks.take (i + 1) = ks.take i ++ [x] := by rw [List.take_succ, h]; rfl
  rcases c with ⟨hm, rfl⟩ | pm
  · refine ⟨fun p hp => by rw [e]; exact List.mem_append_left _ (g.from_ p hp), fun p hp => ?_, Nat.le_succ_of_le g.size⟩
    rw [e] at hp
    rcases List.mem_append.mp hp with z | z
    · exact g.keys p z
    · rw [List.mem_singleton.mp z]; exact hm
  · refine ⟨fun p hp => ?_, fun p hp => ?_, by rw [pm.length_eq]; exact Nat.succ_le_succ g.size⟩
    · rw [e]
      rcases List.mem_cons.mp (pm.mem_iff.mp hp) with z | z
      · rw [z]; exact List.mem_append_right _ List.mem_cons_self
      · exact List.mem_append_left _ (g.from_ p z)
    · rw [e] at hp
      rw [(pm.map (·.2)).mem_iff, List.map_cons]
      rcases List.mem_append.mp hp with z | z
      · exact List.mem_cons_of_mem _ (g.keys p z)
      · rw [List.mem_singleton.mp z]; exact List.mem_cons_self
section
variable {P : Program} {w : World} {κ : Type} [DecidableEq κ] {N : SKind P w κ} {A : Around} {E : Value → Shared → Prop} {s : Shared}
theorem SetR.grow {h h' : Heap} {a : Addr} {L : List (Addr × κ)} {es : Array (Int × Value)} {ep : Nat} {t : SetTable} (R : SetR N h a L es ep t) (ha : ∀ o, h.get? a = some o → h'.get? a = some o) (hk : ∀ p ∈ L, N.is h' p.2 p.1) : SetR N h' a L es ep t :=
  let ⟨o, ho, r⟩ := R.obj
  ⟨⟨o, ha o ho, r⟩, R.ents, R.tab, R.nodup, hk, R.plain, R.led, R.free, R.few⟩
abbrev newSet (w : World) : Obj := { cls := .type "set", dict := none, data := .set #[] 0 (.fresh 0 0 (!w.params.followText "set-order")) }
theorem setR_none {h : Heap} {a : Addr} (ho : h.get? a = some (newSet w)) : SetR N h a [] #[] 0 (.fresh 0 0 (!w.params.followText "set-order")) := by
  refine ⟨⟨_, ho, ⟨rfl, rfl, rfl⟩, rfl⟩, rfl, ⟨List.Pairwise.nil, rfl, rfl, .inl rfl, (fun x hx => by cases hx), fun i h j hi => by simp at hi⟩, List.nodup_nil, (fun p hp => by cases hp), rfl, ?_, (by decide : 0 * 5 < 7 * 3), (by decide : 0 < 64)⟩
  cases q : w.params.followText "set-order"
  · exact .inr rfl
  · exact .inl rfl
/-- the loop of set.update -/
theorem update_n {I : Addr} {fp wr : List Addr} {G : Array GenState → Array GenState → Prop} {n : Nat} {Pv : Nat → Value → Prop} {St : Nat → Shared → Prop} {R : Result → Shared → Prop} (W : WalksS P w A.in1 I fp wr G n Pv St) (S : Addr) (hS : S ∉ fp) (ks : List (Addr × κ))
    (hn : n = ks.length) (hf : ks.length < 64) (hv : ∀ i v, Pv i v → ∃ p, ks[i]? = some p ∧ v = .ref p.1) (h0 : Heap) (hk : ∀ p ∈ ks, N.is h0 p.2 p.1) (hS0 : h0.get? S = none) (hw : ∀ b ∈ wr, h0.get? b = none) (hu : N.room A.in1) :
    ∀ (m i : Nat) (s : Shared), n - i = m → i ≤ n → St i s → (∀ b o, h0.get? b = some o → s.heap.get? b = some o) → (∃ L es ep t, SetR N s.heap S L es ep t ∧ Met ks i L) →
      (∀ s' L es ep t, Moved (S :: wr) G s s' → SetR N s'.heap S L es ep t → Met ks n L → (∀ b o, h0.get? b = some o → s'.heap.get? b = some o) → R (.ok (.ret .none)) s') → codeAny (model P w) A (.builtin "set.update.loop" ⟨[.ref S, .ref I], []⟩) R s := by
  have up : ∀ b ∈ wr, b ∈ S :: wr := fun b hb => List.mem_cons_of_mem _ hb
  have hSw : S ∉ wr := fun z => hS (W.sub _ z)
  have stay : ∀ {s s' : Shared}, Moved wr G s s' → (∀ b o, h0.get? b = some o → s.heap.get? b = some o) → ∀ b o, h0.get? b = some o → s'.heap.get? b = some o := fun hm g b o e => hm.heap b o (fun z => by rw [hw b z] at e; cases e) (g b o e)
  have mine : ∀ {L : List (Addr × κ)} {i : Nat}, Met ks i L → ∀ p ∈ L, p ∈ ks := fun g p hp => List.mem_of_mem_take (g.from_ p hp)
  intro m
  induction m with
  | zero =>
    rintro i s hm hi st old ⟨L, es, ep, t, T, g⟩ fin
    obtain rfl : i = n := by omega
    refine codeAny_builtin F.entry_set_update_loop ?_
    rw [Around.under_plainId F.plain_set_update_loop _]
    show wpAny _ A.in1 (pyNext (.ref I) >>= _) _ _ s
    refine wpAny_bind (W.done s _ _ st fun s' mv => ?_)
    show wpAny _ A.in1 (ret Value.none) _ _ s'
    have old' := stay mv old
    exact wpAny_pure (fin s' L es ep t (mv.mono up) (T.grow (fun o e => mv.heap S o hSw e) fun p hp => SKind.grow (hk p (mine g p hp)) old') g old')
  | succ m ih =>
    rintro i s hm hi st old ⟨L, es, ep, t, T, g⟩ fin
    refine codeAny_builtin F.entry_set_update_loop ?_
    rw [Around.under_plainId F.plain_set_update_loop _]
    show wpAny _ A.in1 (pyNext (.ref I) >>= _) _ _ s
    refine wpAny_bind (W.item i s _ _ (by omega) st fun v s' pv st' mv => ?_)
    obtain ⟨p, hp, rfl⟩ := hv i v pv
    have old' := stay mv old
    have T' := T.grow (fun o e => mv.heap S o hSw e) fun q hq => SKind.grow (hk q (mine g q hq)) old'
    have hx := SKind.grow (hk p (List.mem_of_getElem? hp)) old'
    show wpAny _ A.in1 (holding [Value.ref p.1] (setAdd S (.ref p.1)) >>= _) _ _ s'
    refine wpAny_bind (wpAny_holding ?_)
    unfold setAdd
    refine wpAny_holding (wpAny_bind (N.pyHash hu hx ?_))
    refine add_n (s := { s' with toks := s'.toks + N.draws p.2 }) T' hx hu (by have := g.size; omega) fun b h' L' es' ep' t' sb T2 c1 c2 => ?_
    have g' : Met ks (i + 1) L' := g.on hp (by
      rcases Classical.em (p.2 ∈ L.map (·.2)) with c | c
      · exact .inl ⟨c, c1 c⟩
      · exact .inr (c2 c))
    have old2 : ∀ b o, h0.get? b = some o → h'.get? b = some o := fun b o e => (sb.2 b fun z => by rw [z, hS0] at e; cases e).trans (old' b o e)
    refine wpAny_pure ⟨plainId_quiet F.plain_set_update_loop _, ih (i + 1) _ (by omega) (by omega) (W.frame _ s' _ _ st' (Nat.le_add_right _ _) fun b hb o e => ?_) old2 ⟨L', es', ep', t', T2, g'⟩ fun s2 L2 es2 ep2 t2 mv2 T3 g3 old3 => ?_⟩
    · rw [sb.2 b fun z => hS (by rw [← z]; exact hb)]
      exact e
    · refine fin s2 L2 es2 ep2 t2 (Moved.trans W.gtrans ((mv.mono up).then_heap (Nat.le_add_right _ _) fun b o hb e => ?_) mv2) T3 g3 old3
      rw [sb.2 b fun z => hb (by rw [z]; exact List.mem_cons_self)]
      exact e
end
end PL

/-! set(list): the call. -/
namespace PL
open PySem PySem.Spec PyProof.Rows L2
section
variable {P : Program} {w : World} {κ : Type} [DecidableEq κ] {N : SKind P w κ} {A : Around} {E : Value → Shared → Prop} {s : Shared}
def Made (N : SKind P w κ) (s : Shared) (ks : List (Addr × κ)) (z : Shared) : Prop :=
  ∃ h' tk L es ep t, z = { s with heap := h', toks := tk } ∧ SetR N h' s.heap.objs.size L es ep t ∧ Met ks ks.length L ∧ ∀ b o, s.heap.get? b = some o → h'.get? b = some o
set_option maxRecDepth 100000 in
theorem set_init {l : Addr} {items : Array Value} {ks : List (Addr × κ)} (hh : A.handled = none) (hl : s.heap.IsList l items) (hit : items.toList = ks.map fun p => Value.ref p.1) (hk : ∀ p ∈ ks, N.is s.heap p.2 p.1) (hf : ks.length < 64) {Q : PySem.Fin → Shared → Prop} (hu : N.room A.in1.in1) (fin : ∀ z, Made N s ks z → Q (.done (.ret .none)) z) :
    wpAny (model P w) A.in1 (Builtin.«set.__init__» ⟨[.ref s.heap.objs.size, .ref l], []⟩) Q E { s with heap := s.heap.push (newSet w) } := by
  have hz : items.size = ks.length := by rw [← Array.length_toList, hit, List.length_map]
  have hS : (s.heap.push (newSet w)).get? s.heap.objs.size = some (newSet w) := Heap.get?_push_size _ rfl
  have hT : Shared.TypeIs { s with heap := s.heap.push (newSet w) } (.ref s.heap.objs.size) "set" := ⟨_, hS, rfl⟩
  have a1 := F.sub_list_set
  have a2 := F.sub_list_frozenset
  have a3 : (Value.type "list" == Value.type "dict") = false := by decide
  have hl0 := hl
  obtain ⟨⟨ocls, odict, odata, oslots⟩, ho, hc, nl, hd⟩ := hl
  simp only at hc hd
  subst hc hd
  have ho' : (s.heap.push (newSet w)).get? l = some { cls := .type "list", dict := odict, data := .seq items nl, slots := oslots } := Heap.get?_push_of_some _ ho
  have hl1 : (s.heap.push (newSet w)).IsList l items := ⟨_, ho', rfl, nl, rfl⟩
  have llt : l < s.heap.objs.size := Heap.lt_size ho
  have nsz : (s.heap.push (newSet w)).objs.size = s.heap.objs.size + 1 := Heap.size_push ..
  unfold Builtin.«set.__init__» noKeywords Builtin.Frozenset.updateFrom
  generalize hPI : pyIter = PI
  wp_walk
  subst hPI
  refine wpAny_pyIter_list hl1 (wpAny_bind (wpAny_runValue ?_))
  have nothing : ∀ b, s.heap.objs.size ≤ b → s.heap.get? b = none := fun b hb => by
    cases q : s.heap.get? b with
    | none => rfl
    | some o => exact absurd (Heap.lt_size q) (Nat.not_lt.mpr hb)
  have val : ∀ (i : Nat) (v : Value), items[i]? = some v → ∃ p, ks[i]? = some p ∧ v = .ref p.1 := fun i v hv => by
    rw [← Array.getElem?_toList, hit, List.getElem?_map] at hv
    obtain ⟨p, h1, h2⟩ := Option.map_eq_some_iff.mp hv
    exact ⟨p, h1, h2.symm⟩
  refine update_n (N := N) ((Walks.list (by simp [hh]) _ l (by rw [nsz]; exact Nat.ne_of_lt (Nat.lt_succ_of_lt llt)) items).toS) s.heap.objs.size (by rw [nsz]; simp only [List.mem_cons, List.not_mem_nil, or_false, not_or]; exact ⟨Nat.ne_of_lt (Nat.lt_succ_self _), Nat.ne_of_gt llt⟩) ks hz hf val s.heap hk (nothing _ (Nat.le_refl _)) (fun b hb => nothing b (by
    rw [List.mem_singleton.mp hb, nsz]
    exact Nat.le_succ _)) hu (items.size - 0) 0 _ rfl (Nat.zero_le _) ⟨⟨_, Heap.get?_push_size _ rfl, rfl, rfl⟩, hl1.push _⟩ (fun b o e => Heap.get?_push_of_some _ (Heap.get?_push_of_some _ e)) ⟨[], #[], 0, _, setR_none (Heap.get?_push_of_some _ hS), ⟨(fun p h => by cases h), (fun p h => by simp at h), Nat.le_refl _⟩⟩ ?_
  rintro ⟨h', g2, d', tk', os'⟩ L es ep t mv T g old
  cases (show g2 = s.gens from mv.gens)
  cases (show d' = s.drawn from mv.drawn)
  cases (show os' = s.os from mv.os)
  show wpAny _ _ _ _ _ _
  refine wpAny_pure ?_
  show wpAny _ _ (ret Value.none) _ _ _
  rw [hz] at g
  exact wpAny_pure (fin _ ⟨h', tk', L, es, ep, t, rfl, T, g, old⟩)
set_option maxRecDepth 100000 in
theorem call_set_n {l : Addr} {items : Array Value} {ks : List (Addr × κ)} {Q : Value → Shared → Prop} (hh : A.handled = none) (hl : s.heap.IsList l items) (hit : items.toList = ks.map fun p => Value.ref p.1) (hk : ∀ p ∈ ks, N.is s.heap p.2 p.1) (hf : ks.length < 64)
    (hu : ∀ B : Around, B.units ≤ A.units + 5 → N.room B) (fin : ∀ z, Made N s ks z → Q (.ref s.heap.objs.size) z) : wpAny (model P w) A (call (.type "set") [.ref l]) Q E s := by
  obtain ⟨c, tl, hmro⟩ := F.called_set.mro
  have c1 := F.called_set.made
  have c2 := F.called_set.sub
  refine wpAny_call (codeAny_of_tree ?_)
  show wpAny _ _ (callAny (.type "set") _) _ _ _
  refine wpAny_pure ⟨Code.quiet_builtin _ (by decide +kernel), codeAny_builtin F.entry_type_call ?_⟩
  rw [Around.under_plain (weight_type_call_type "set" [.ref l] []) rfl]
  have c3 := F.called_set.notType
  have c4 := F.called_set.canCreate
  have c5 := F.typeCall_set_1 (.ref l)
  repeat (any_goals (first | assumption | wp_step))
  refine codeAny_mono (code_set_led1 (.ref l) (E := E) (Q₁ := fun r z => r = .ref s.heap.objs.size ∧ z = { s with heap := s.heap.push (newSet w) }) ⟨rfl, rfl⟩) fun r z hr => ?_
  cases r with
  | error e => exact hr
  | ok fl =>
    cases fl with
    | ret o =>
      obtain ⟨e1, e2⟩ := hr
      subst e1 e2
      have hS : (s.heap.push (newSet w)).get? s.heap.objs.size = some (newSet w) := Heap.get?_push_size _ rfl
      have hT : Shared.TypeIs { s with heap := s.heap.push (newSet w) } (.ref s.heap.objs.size) "set" := ⟨_, hS, rfl⟩
      have c6 := F.called_set.init.lookup
      have c7 := F.called_set.init.bind (.ref s.heap.objs.size)
      repeat (any_goals (first | assumption | wp_step))
      refine codeAny_mono (codeAny_call_builtin (R := wants (fun r z => r = .none ∧ Made N s ks z) E) F.called_set.init.plain F.entry_set_init (check_set_init_1 hT ?_)) fun r2 z2 hr2 => ?_
      · exact set_init (A := A.in1) (by simp [hh]) hl hit hk hf (hu _ (by simp only [Around.in1_units]; omega)) fun z hz => ⟨rfl, hz⟩
      · cases r2 with
        | error e => exact hr2
        | ok fl2 =>
          cases fl2 with
          | ret o2 =>
            obtain ⟨e1, h', tk, L, es, ep, t, rfl, T⟩ := hr2
            subst e1
            repeat (any_goals (first | assumption | wp_step))
            exact fin _ ⟨h', tk, L, es, ep, t, rfl, T⟩
          | _ => exact hr2.elim
    | _ => exact hr.elim
end
end PL

/-! Nested tuples of whole numbers as elements of sets. -/
namespace PL
open PySem PySem.Spec PyProof.Rows L2
mutual
def intsK : NestedKey → Bool
  | .num _ => true
  | .tup ks => intsKs ks
  | _ => false
def intsKs : List NestedKey → Bool
  | [] => true
  | k :: ks => intsK k && intsKs ks
end
section
variable {P : Program} {w : World}
mutual
theorem cls_key : ∀ (k : NestedKey) (v : Value) (n : Nat) (s : Shared), NestedIs s.heap k v → k.depth ≤ n → ∀ (A : Around) (E : Value → Shared → Prop) (Q : Bool → Shared → Prop), Q false s → wpAny (model P w) A (ofAClassStatement n v) Q E s
  | .none, v, n, s, x, _, A, E, Q, q => by
    cases x
    cases n <;> exact wpAny_pure q
  | .num i, v, n, s, x, _, A, E, Q, q => by
    cases x <;> cases n <;> exact wpAny_pure q
  | .text y, v, n, s, x, _, A, E, Q, q => by
    cases x
    cases n <;> exact wpAny_pure q
  | .tup ks, v, n, s, x, hn, A, E, Q, q => by
    cases x with
    | @tup a o vs m _ hg hc hd hk =>
      have hT : s.TypeIs (.ref a) "tuple" := ⟨o, hg, hc⟩
      simp only [NestedKey.depth] at hn
      obtain ⟨n, rfl⟩ : ∃ n', n = n' + 1 := ⟨n - 1, by omega⟩
      have each := cls_keys ks vs.toList n s hk (by omega)
      unfold ofAClassStatement
      refine wpAny_bind (wpAny_typeOf hT ?_)
      dsimp only
      have e : (("tuple" : String) == "tuple") = true := by decide
      simp only [e, if_true, Bool.not_true, Bool.false_eq_true, if_false]
      try refine wpAny_bind (wpAny_pure ?_)
      try simp only [Bool.not_true, Bool.false_eq_true, if_false]
      show wpAny _ _ (seqItems? (.ref a) >>= _) _ _ s
      refine wpAny_bind (wpAny_seqItems hg hd ?_)
      dsimp only
      refine wpAny_bind ?_
      show wpAny _ _ (forIn vs _ _) _ _ s
      rw [← Array.forIn_toList]
      refine wpAny_forIn_list _ (fun rest r z => z = s ∧ r.1 = none ∧ ∀ u ∈ rest, u ∈ vs.toList) _ ?_ ?_ _ _ ⟨rfl, rfl, fun u hu => hu⟩
      · rintro u rest r _ ⟨rfl, hr, all⟩
        refine wpAny_bind (each u (all u List.mem_cons_self) _ _ _ ?_)
        simp only [Bool.false_eq_true, if_false]
        exact wpAny_pure ⟨rfl, rfl, fun y hy => all y (List.mem_cons_of_mem _ hy)⟩
      · rintro ⟨r1, r2⟩ _ ⟨rfl, hr, _⟩
        cases (show r1 = none from hr)
        exact wpAny_pure q
theorem cls_keys : ∀ (ks : List NestedKey) (vs : List Value) (n : Nat) (s : Shared), NestedAll s.heap ks vs → NestedKey.depthAll ks ≤ n → ∀ u ∈ vs, ∀ (A : Around) (E : Value → Shared → Prop) (Q : Bool → Shared → Prop), Q false s → wpAny (model P w) A (ofAClassStatement n u) Q E s
  | [], vs, n, s, x, _, u, hu => by
    cases x
    cases hu
  | k :: ks, vs, n, s, x, hn, u, hu => by
    cases x with
    | cons x1 x2 =>
      simp only [NestedKey.depthAll] at hn
      rcases List.mem_cons.mp hu with e | hu
      · rw [e]; exact cls_key k _ n s x1 (by omega)
      · exact cls_keys ks _ n s x2 (by omega) u hu
end
mutual
theorem byv_key : ∀ (k : NestedKey) (v : Value) (n : Nat) (s : Shared), NestedIs s.heap k v → k.depth ≤ n → intsK k = true → ∀ (A : Around) (E : Value → Shared → Prop) (Q : Bool → Shared → Prop), Q true s → wpAny (model P w) A (hashByValue n v) Q E s
  | .none, v, n, s, x, _, hi, A, E, Q, q => by simp [intsK] at hi
  | .num i, v, n, s, x, _, _, A, E, Q, q => by
    cases x <;> cases n <;> exact wpAny_pure q
  | .text y, v, n, s, x, _, hi, A, E, Q, q => by simp [intsK] at hi
  | .tup ks, v, n, s, x, hn, hi, A, E, Q, q => by
    cases x with
    | @tup a o vs m _ hg hc hd hk =>
      have hT : s.TypeIs (.ref a) "tuple" := ⟨o, hg, hc⟩
      simp only [NestedKey.depth] at hn
      simp only [intsK] at hi
      obtain ⟨n, rfl⟩ : ∃ n', n = n' + 1 := ⟨n - 1, by omega⟩
      have each := byv_keys ks vs.toList n s hk (by omega) hi
      unfold hashByValue
      refine wpAny_bind (wpAny_specialOf hT F.slot_tuple_hash.lookup ?_)
      show wpAny _ _ (seqItems? (.ref a) >>= _) _ _ s
      refine wpAny_bind (wpAny_seqItems hg hd (wpAny_bind ?_))
      show wpAny _ _ (forIn vs _ _) _ _ s
      rw [← Array.forIn_toList]
      refine wpAny_forIn_list _ (fun rest r z => z = s ∧ r.1 = none ∧ ∀ u ∈ rest, u ∈ vs.toList) _ ?_ ?_ _ _ ⟨rfl, rfl, fun u hu => hu⟩
      · rintro u rest r _ ⟨rfl, hr, all⟩
        refine wpAny_bind (each u (all u List.mem_cons_self) _ _ _ ?_)
        simp only [Bool.not_true, Bool.false_eq_true, if_false]
        exact wpAny_pure ⟨rfl, rfl, fun y hy => all y (List.mem_cons_of_mem _ hy)⟩
      · rintro ⟨r1, r2⟩ _ ⟨rfl, hr, _⟩
        cases (show r1 = none from hr)
        exact wpAny_pure q
theorem byv_keys : ∀ (ks : List NestedKey) (vs : List Value) (n : Nat) (s : Shared), NestedAll s.heap ks vs → NestedKey.depthAll ks ≤ n → intsKs ks = true → ∀ u ∈ vs, ∀ (A : Around) (E : Value → Shared → Prop) (Q : Bool → Shared → Prop), Q true s → wpAny (model P w) A (hashByValue n u) Q E s
  | [], vs, n, s, x, _, _, u, hu => by
    cases x
    cases hu
  | k :: ks, vs, n, s, x, hn, hi, u, hu => by
    cases x with
    | cons x1 x2 =>
      simp only [NestedKey.depthAll] at hn
      simp only [intsKs, Bool.and_eq_true] at hi
      rcases List.mem_cons.mp hu with e | hu
      · rw [e]; exact byv_key k _ n s x1 (by omega) hi.1
      · exact byv_keys ks _ n s x2 (by omega) hi.2 u hu
end
/-- nested tuples of whole numbers -/
def tupKind (P : Program) (w : World) : SKind P w NestedKey where
  is := fun h k a => (nestedKind P w).is h k a ∧ intsK k = true
  hash := (nestedKind P w).hash
  draws := (nestedKind P w).draws
  room := (nestedKind P w).room
  inj := fun x y => (nestedKind P w).inj x.1 y.1
  keeps := fun x ho hd hs => ⟨(nestedKind P w).keeps x.1 ho hd hs, x.2⟩
  pyHash := fun hu x h => (nestedKind P w).pyHash hu x.1 h
  eqBool := fun hu x y h => (nestedKind P w).eqBool hu x.1 y.1 h
  quiet := fun x h => (nestedKind P w).quiet x.1 h
  cls := fun {A E s k a Q} x h => cls_key k _ 8 s x.1.1 x.1.2 A E Q h
  byv := fun {A E s k a Q} x h => byv_key k _ 8 s x.1.1 x.1.2 x.2 A E Q h
  kept := fun {h h' k b} x g => ⟨⟨NestedIs.at (fun a o vs n e ed => g a o e fun es ep t z => by rw [ed] at z; cases z) k _ x.1.1, x.1.2⟩, x.2⟩
end
end PL

/-! sorted(set), sorted(dict): keys that are nested tuples of whole numbers. -/
namespace PL
open PySem PySem.Spec PyProof.Rows L2 PySem.W
/-- the order of sorted -/
def leK : NestedKey → NestedKey → Bool := dataLe false kd
abbrev NK := Addr × NestedKey
theorem each_refs {R : Value → NK → Prop} : ∀ (bs : List NK), (∀ p ∈ bs, R (.ref p.1) p) → EachIs R (bs.map fun p => Value.ref p.1) bs
  | [], _ => .nil
  | p :: bs, h => .cons (h p List.mem_cons_self) (each_refs bs fun q hq => h q (List.mem_cons_of_mem _ hq))
theorem refs_each : ∀ {vs : List Value} {bs : List NK}, EachIs (fun v p => v = Value.ref p.1) vs bs → vs = bs.map fun p => Value.ref p.1
  | _, _, .nil => rfl
  | _, _, .cons h t => by rw [h, refs_each t]; rfl
theorem perm_map_inv {α β : Type} {f : α → β} {vs : List β} {L : List α} (h : vs.Perm (L.map f)) : ∃ bs : List α, bs.Perm L ∧ vs = bs.map f := by
  generalize hm : L.map f = ws at h
  induction h generalizing L with
  | nil =>
    cases L with
    | nil => exact ⟨[], .nil, rfl⟩
    | cons x L => cases hm
  | @cons x l1 l2 _ ih =>
    cases L with
    | nil => cases hm
    | cons y L =>
      rw [List.map_cons] at hm
      obtain ⟨e1, e2⟩ := List.cons.inj hm
      obtain ⟨bs, p, e⟩ := ih e2
      exact ⟨y :: bs, p.cons y, by rw [e, ← e1]; rfl⟩
  | swap x y l =>
    cases L with
    | nil => cases hm
    | cons a L =>
      cases L with
      | nil => simp at hm
      | cons b L =>
        rw [List.map_cons, List.map_cons] at hm
        obtain ⟨e1, e2⟩ := List.cons.inj hm
        obtain ⟨e2, e3⟩ := List.cons.inj e2
        exact ⟨b :: a :: L, .swap a b L, by rw [← e1, ← e2, ← e3]; rfl⟩
  | trans _ _ ih1 ih2 =>
    obtain ⟨b2, p2, e2⟩ := ih2 hm
    obtain ⟨b1, p1, e1⟩ := ih1 e2.symm
    exact ⟨b1, p1.trans p2, e1⟩
mutual
theorem no_lists {h : Heap} : ∀ (k : NestedKey) (v : Value) (as : List Addr), intsK k = true → Reads h v (kd k) as → as = []
  | .none, v, as, hi, r => by simp [intsK] at hi
  | .num i, v, as, hi, r => by
    simp only [kd] at r
    cases r
    rfl
  | .text x, v, as, hi, r => by simp [intsK] at hi
  | .tup ks, v, as, hi, r => by
    simp only [kd] at r
    simp only [intsK] at hi
    cases r with
    | tuple h1 h2 h3 h4 => exact no_listss ks _ as hi h4
theorem no_listss {h : Heap} : ∀ (ks : List NestedKey) (vs : List Value) (as : List Addr), intsKs ks = true → ReadsAll h vs (kds ks) as → as = []
  | [], vs, as, hi, r => by
    simp only [kds] at r
    cases r
    rfl
  | k :: ks, vs, as, hi, r => by
    simp only [kds] at r
    simp only [intsKs, Bool.and_eq_true] at hi
    cases r with
    | cons h1 h2 => rw [no_lists k _ _ hi.1 h1, no_listss ks _ _ hi.2 h2]; rfl
end
theorem kd_depth : ∀ k : NestedKey, (kd k).depth = k.depth := by
  have key : ∀ n, (∀ k : NestedKey, sizeOf k < n → (kd k).depth = k.depth) ∧ ∀ ks : List NestedKey, sizeOf ks < n → PyData.depthAll (kds ks) = NestedKey.depthAll ks := by
    intro n
    induction n with
    | zero => exact ⟨fun k h => absurd h (Nat.not_lt_zero _), fun ks h => absurd h (Nat.not_lt_zero _)⟩
    | succ n ih =>
      refine ⟨fun k h => ?_, fun ks h => ?_⟩
      · cases k with
        | none => rfl
        | num i => rfl
        | text x => rfl
        | tup ks =>
          simp only [kd, PyData.depth, NestedKey.depth]
          rw [ih.2 ks (by simp only [NestedKey.tup.sizeOf_spec] at h; omega)]
      · cases ks with
        | nil => rfl
        | cons k ks =>
          simp only [kds, PyData.depthAll, NestedKey.depthAll]
          rw [ih.1 k (by simp only [List.cons.sizeOf_spec] at h; omega), ih.2 ks (by simp only [List.cons.sizeOf_spec] at h; omega)]
  exact fun k => (key (sizeOf k + 1)).1 k (Nat.lt_succ_self _)
/-- what may be sorted: int tuples that can be compared, none of them empty -/
structure Sorts (L : List NK) : Prop where
  whole : ∀ p ∈ L, intsK p.2 = true ∧ p.2.depth ≤ 8
  like : ∀ p ∈ L, ∀ q ∈ L, alike (kd p.2) (kd q.2) = true
  some_ : ∀ p ∈ L, ∃ x r, kd p.2 = .tuple (x :: r)
section
variable {P : Program} {w : World} {A : Around} {E : Value → Shared → Prop} {s : Shared}
theorem sorted_n {L : List NK} {r : Addr} {Q : Value → Shared → Prop} (hcol : ∀ Q' : List Value → Shared → Prop, (∀ z vs, (∀ b o, s.heap.get? b = some o → z.heap.get? b = some o) → s.heap.objs.size ≤ z.heap.objs.size → z.gens = s.gens → z.os = s.os → vs.Perm (L.map fun p => Value.ref p.1) → Q' vs z) → wpAny (model P w) A.in1 (collect (.ref r)) Q' E s)
    (S : Sorts L) (hr : ∀ p ∈ L, ∃ as, Reads s.heap (.ref p.1) (kd p.2) as) (hz : L.length ≤ sizeLine) (hu : A.units + 30 < cLine)
    (hQ : ∀ z p (out : Array Value) (c : Nat) (bs : List NK), (∀ b o, s.heap.get? b = some o → z.heap.get? b = some o) → z.gens = s.gens → z.os = s.os → s.heap.objs.size ≤ p → z.heap.get? p = some (seqObj "list" out c) → out.toList = bs.map (fun p => Value.ref p.1) →
      bs.Perm L → (bs.map (·.2)).Pairwise (fun a b => leK a b = true) → Q (.ref p) z) : wpAny (model P w) A (call (.builtin "sorted") [.ref r]) Q E s := by
  refine Calls.call_function_entry kind_sorted plain_sorted entry_sorted (args_sorted1 _) ?_
  unfold Builtin.«sorted»
  refine wpAny_bind (m := checkCount "sorted" 1 1 _) (wpAny_pure ?_)
  refine wpAny_bind (hcol _ fun z vs keep hsz hg ho pm => ?_)
  obtain ⟨bs, pb, eb⟩ := perm_map_inv pm
  have hlen : vs.length = L.length := by rw [eb, List.length_map, pb.length_eq]
  refine wpAny_bind (wpAny_newList ?_ (by omega))
  have hoL : (z.heap.push (seqObj "list" vs.toArray 0)).get? z.heap.objs.size = some (seqObj "list" vs.toArray 0) := Heap.get?_push_size _ rfl
  have none0 : ∀ b o, s.heap.get? b = some o → b ≠ z.heap.objs.size := fun b o e => Nat.ne_of_lt (Nat.lt_of_lt_of_le (Heap.lt_size e) hsz)
  have rd : ∀ p ∈ bs, ∃ as, Reads (z.heap.push (seqObj "list" vs.toArray 0)) (.ref p.1) (kd p.2) as ∧ z.heap.objs.size ∉ as := fun p hp => by
    have hp' := pb.mem_iff.mp hp
    obtain ⟨as, ra⟩ := hr p hp'
    have e := no_lists p.2 _ as (S.whole p hp').1 ra
    subst e
    exact ⟨[], PyProof.Rows.Reads.keeps (fun b o e => Heap.get?_push_of_some _ (keep b o e)) ra, by simp⟩
  have hal : AllAlike (bs.map fun p => kd p.2) := fun d hd d' hd' => by
    obtain ⟨p, hp, rfl⟩ := List.mem_map.mp hd
    obtain ⟨q, hq, rfl⟩ := List.mem_map.mp hd'
    exact S.like p (pb.mem_iff.mp hp) q (pb.mem_iff.mp hq)
  have hso : Sortable (bs.map fun p => kd p.2) := .inl fun d hd => by
    obtain ⟨p, hp, rfl⟩ := List.mem_map.mp hd
    exact S.some_ p (pb.mem_iff.mp hp)
  have tot := PySem.W.sortLe_total (listOrd itemOrd) false (fun p : NK => keyToks (kd p.2))
  refine wpAny_bind (wpAny_holding (list_sort_data (s := { z with heap := z.heap.push (seqObj "list" vs.toArray 0) }) (a := z.heap.objs.size) (vs := vs) (n := 0) (bs := bs) (enc := fun p : NK => kd p.2) (R := fun v p => v = Value.ref p.1) hoL
    (by rw [eb]; exact each_refs bs fun p _ => rfl) (by rw [eb]; rw [← eb]; rw [show vs = bs.map (fun p => Value.ref p.1) from eb] at rd ⊢; exact each_refs bs rd) hal hso (by rw [pb.length_eq]; exact hz) (fun p hp => ?_) fun out hol eo => ?_))
  · have := (S.whole p (pb.mem_iff.mp hp)).2
    rw [kd_depth]
    show A.in1.units + 1 + _ < cLine
    simp only [Around.in1_units]
    omega
  obtain ⟨c, hc⟩ := sortedHeap_at (vs := vs) (out := out.toArray) hoL
  refine wpAny_pure ⟨_, rfl, hQ _ z.heap.objs.size out.toArray c (bs.mergeSort (dataLe false fun p : NK => kd p.2)) (fun b o e => ?_) hg ho hsz hc (by rw [List.toList_toArray]; exact refs_each eo) ((List.mergeSort_perm _ _).trans pb) ?_⟩
  · show (sortedHeap (z.heap.push (seqObj "list" vs.toArray 0)) z.heap.objs.size vs out.toArray).get? b = some o
    have q := keep b o e
    rw [sortedHeap_old (none0 b o e) (by rw [size_push']; exact Nat.lt_succ_of_lt (Heap.lt_size q))]
    exact Heap.get?_push_of_some _ q
  · rw [List.pairwise_map]
    exact List.pairwise_mergeSort (le := dataLe false fun p : NK => kd p.2) (fun a b c h1 h2 => tot.trans a b c h1 h2) (fun a b => by
      rcases tot.total a b with h | h
      · rw [show (dataLe false (fun p : NK => kd p.2) a b) = true from h]; rfl
      · rw [show (dataLe false (fun p : NK => kd p.2) b a) = true from h]; simp) bs
end
end PL

/-! The rules for set(list), sorted(set), sorted(dict). -/
namespace PL
open PySem PySem.Spec PyProof.Rows L2 RZ
/-- the set at a, without its elements' objects -/
def SetIn (P : Program) (w : World) (a : Addr) (L : List NK) (h : Heap) : Prop :=
  ∃ (es : Array (Int × Value)) (ep : Nat) (t : SetTable), (∃ o, h.get? a = some o ∧ o.ExactSet ∧ o.data = .set es ep t) ∧ es.toList = L.map (fun p => ((tupKind P w).hash p.2, Value.ref p.1)) ∧ TabOk t (L.map fun p => (tupKind P w).hash p.2) ∧ (L.map (·.2)).Nodup ∧ t.plain = true ∧
    (w.params.followText "set-order" = true ∨ t.led = true) ∧ L.length * 5 < t.mask * 3 ∧ L.length < 64
def SetO (P : Program) (w : World) (a : Addr) (L : List NK) : HO := .ext (SetIn P w a L)
theorem set_obj {P : Program} {w : World} {H : Hp} {h : Heap} {a : Addr} {L : List NK} {es : Array (Int × Value)} {ep : Nat} {t : SetTable} (R : SetR (tupKind P w) h a L es ep t) : ObjOk P w H h a (SetO P w a L) := by
  obtain ⟨o, ho, r⟩ := R.obj
  refine ⟨⟨es, ep, t, ⟨o, ho, r⟩, R.ents, R.tab, R.nodup, R.plain, R.led, R.free, R.few⟩, ⟨o, ho⟩, fun h1 h2 p k => ?_⟩
  have ⟨es', ep', t', ⟨o', ho', r'⟩, q'⟩ := p
  exact ⟨es', ep', t', ⟨o', k o' ho', r'⟩, q'⟩
/-- addresses of keys -/
def NKeys (K : PySem.W.Frag) (H : Hp) (L : List NK) : Prop := ∀ p ∈ L, Dp K H (.ref p.1) (kd p.2) ∧ p.2.depth ≤ 8 ∧ intsK p.2 = true
def rSetN (K : PySem.W.Frag) (P : Program) (w : World) : List V → Hp → VK → Prop := fun xs H Q => ∃ (l : Addr) (ks : List NK), xs = [V.ref l] ∧ SqL K H l (ks.map fun p => V.ref p.1) ∧ NKeys K H ks ∧ ks.length < 64 ∧
  ∀ a L, H a = none → (∀ p ∈ L, p ∈ ks) → (∀ p ∈ ks, p.2 ∈ L.map (·.2)) → (L.map (·.2)).Nodup → L.length < 64 → Q (.ref a) (upd H a (SetO P w a L))
theorem vals_refs {ks : List NK} : ∀ {us : List Value}, Vals (ks.map fun p => V.ref p.1) us → us = ks.map fun p => Value.ref p.1 := by
  induction ks with
  | nil => intro us h; cases h; rfl
  | cons p ks ih =>
    intro us h
    cases h with
    | cons h1 h2 =>
      cases h1
      rw [ih h2]; rfl
theorem refs_vals : ∀ (ks : List NK), Vals (ks.map fun p => V.ref p.1) (ks.map fun p => Value.ref p.1)
  | [] => .nil
  | p :: ks => .cons rfl (refs_vals ks)
section
variable {X : Cx} {k : Nat}
theorem room_at {A : Around} (hr : Room k A) : ∀ B : Around, B.units ≤ A.units + 5 → (tupKind X.prog X.w).room B := fun B hB => by
  have := hr.un
  show B.units + 8 < cLine
  omega
theorem cr_setN (hr : Room k X.A) (hc : X.calm = true) : CallR X (.type "set") (rSetN X.K X.prog X.w) := by
  intro pins s σ H xs us Q I r h
  obtain ⟨l, ks, rfl, hl, hk, hf, q⟩ := h
  rw [Vals.ref1 r]
  obtain ⟨its, rv, pl, hz⟩ := I.list hl
  have hn : H s.heap.objs.size = none := I.hok.fresh (Nat.le_refl _)
  refine call_set_n (N := tupKind X.prog X.w) (ks := ks) (I.ok.hd hc) pl.isList (by simpa using vals_refs rv) (fun p hp => ⟨key_at I (hk p hp).1 (hk p hp).2.1, (hk p hp).2.2⟩) hf (room_at hr) fun z hm => ?_
  obtain ⟨h', tk, L, es, ep, t, rfl, R, g, old⟩ := hm
  exact ⟨.ref s.heap.objs.size, upd H s.heap.objs.size (SetO X.prog X.w s.heap.objs.size L), I.laid (t' := tk) old (Nat.le_refl _) (set_obj R), rfl, q _ L hn (fun p hp => List.mem_of_mem_take (g.from_ p hp)) (fun p hp => g.keys p (by rw [List.take_length]; exact hp)) R.nodup R.few⟩
def SortQ (K : PySem.W.Frag) (H : Hp) (L : List NK) (Q : VK) : Prop := ∀ (bs : List NK) (p : Addr), bs.Perm L → (bs.map (·.2)).Pairwise (fun a b => leK a b = true) → H p = none → Q (.ref p) (upd H p (.lst (bs.map fun q => V.ref q.1)))
def rSortedS (K : PySem.W.Frag) (P : Program) (w : World) : List V → Hp → VK → Prop := fun vs H Q => ∃ (a : Addr) (L : List NK), vs = [V.ref a] ∧ H a = some (SetO P w a L) ∧ NKeys K H L ∧ Sorts L ∧ SortQ K H L Q
def rSortedD (K : PySem.W.Frag) (P : Program) (w : World) : List V → Hp → VK → Prop := fun vs H Q => ∃ (a : Addr) (es : List Ent), vs = [V.ref a] ∧ H a = some (DictO P w a es) ∧ es.length ≤ sizeLine ∧ NKeys K H (es.map fun p => (p.2.1, p.1)) ∧ Sorts (es.map fun p => (p.2.1, p.1)) ∧ SortQ K H (es.map fun p => (p.2.1, p.1)) Q
def rSortedU (K : PySem.W.Frag) (P : Program) (w : World) : List V → Hp → VK → Prop := fun us H Q => rSortedS K P w us H Q ∨ rSortedD K P w us H Q
theorem sorted_end {pins : List (Addr × Obj)} {s : Shared} {σ : PL.St} {H : Hp} {Q : VK} {L : List NK} (I : Inv X pins σ H s) (hL : L.length ≤ sizeLine) (q : SortQ X.K H L Q) {z : Shared} {p : Addr} {out : Array Value} {c : Nat} {bs : List NK}
    (k1 : ∀ b o, s.heap.get? b = some o → z.heap.get? b = some o) (hg : z.gens = s.gens) (ho : z.os = s.os) (hp : s.heap.objs.size ≤ p) (hat : z.heap.get? p = some (seqObj "list" out c)) (he : out.toList = bs.map fun p => Value.ref p.1) (pm : bs.Perm L)
    (pw : (bs.map (·.2)).Pairwise fun a b => leK a b = true) : EP X pins σ Q (.ref p) z := by
  have hn : H p = none := I.hok.fresh hp
  have hlen : (bs.map fun q => V.ref q.1).length ≤ sizeLine := by rw [List.length_map, pm.length_eq]; exact hL
  have hv : Vals (bs.map fun q => V.ref q.1) out.toList := by rw [he]; exact refs_vals bs
  have J : Inv X pins σ (upd H p (.lst (bs.map fun q => V.ref q.1))) { s with heap := z.heap, gens := z.gens, drawn := z.drawn, toks := z.toks } :=
    I.call (ch := []) (Un.laid k1 hp hn) (I.hok.laid k1 hp ⟨hlen, out.toList, c, hv, hat⟩) (by rw [hg]; exact I.bare) (fun _ y => nomatch y)
  have e : z = { s with heap := z.heap, gens := z.gens, drawn := z.drawn, toks := z.toks } := by
    cases z
    cases s
    cases ho
    rfl
  rw [e]
  exact ⟨.ref p, _, J, rfl, q bs p pm pw hn⟩
theorem cr_sortedS (hr : Room k X.A) (hc : X.calm = true) : CallR X (.builtin "sorted") (rSortedS X.K X.prog X.w) := by
  intro pins s σ H vs us Q I r h
  obtain ⟨a, L, rfl, ha, hk, hS, q⟩ := h
  have ⟨⟨es, ep, t, ⟨o, ho, hex, hd⟩, he, T, nd, pl, ld, fr, few⟩, _⟩ := I.hok a _ ha
  rw [Vals.ref1 r]
  have hes := ents_size (N := tupKind X.prog X.w) he
  have hu := hr.un
  have line := sizeLine_eq
  refine sorted_n (P := X.prog) (w := X.w) (L := L) (fun Q' g => ?_) hS (fun p hp => Dp.reads I _ _ _ (hk p hp).1 rfl) (by omega) (by omega) fun z p out c bs k1 hg ho' hp hat heo pm pw => sorted_end I (by omega) q k1 hg ho' hp hat heo pm pw
  refine collect_set (A := X.A.in1) (by rw [show X.A.in1.handled = X.A.handled from rfl]; exact I.ok.hd hc) ⟨o, ho, hex.1, hd⟩ (fits_of (T.sz.trans ((List.length_map ..).trans hes.symm)) T.dm (by omega)) (by unfold scanBound; omega) T.ris ld fun z vs k1 hz hg ho' pm => g z vs k1 hz hg ho' ?_
  refine pm.trans ?_
  rw [he, List.map_map]
  exact .refl _
/-- collect(d): the keys; the heap has grown -/
theorem collect_keys {A : Around} {E : Value → Shared → Prop} {s : Shared} {d : Addr} {es : Array DictEntry} {ep : Nat} {R : List Value → Shared → Prop} (hh : A.handled = none) (h1 : (d == sysModules) = false) (hd : s.heap.DictRaw d es ep) (hn : es.size ≤ sizeLine)
    (h : ∀ (h' : Heap) (tk : Nat) (acc : Array Value), (∀ b o, s.heap.get? b = some o → h'.get? b = some o) → s.heap.objs.size ≤ h'.objs.size → ItemsOf (fun i v => ∃ hi : i < es.size, v = es[i].key) acc es.size → R acc.toList { s with heap := h', toks := tk }) :
    wpAny (model X.prog X.w) A (collect (.ref d)) R E s := by
  have src := PySem.KdlSrc.rawDict (prog := X.prog) (w := X.w) (d := d) (es := es) (ep := ep) h1
  have lt := src.there _ hd
  unfold collect
  refine wpAny_bind (wpAny_runValue (codeAny_builtin entry_proto_collect' ?_))
  rw [Around.under_plainId PySem.F.plain_proto_collect _]
  show wpAny _ A.in1 (newList [] >>= fun l => again (.builtin "list.__iadd__" ⟨[l, .ref d], []⟩)) _ _ s
  refine wpAny_bind (wpAny_newObj_type (wpAny_pure ⟨plainId_quiet PySem.F.plain_list_iadd _, codeAny_builtin entry_list_iadd' ?_⟩))
  rw [Around.under_plainId PySem.F.plain_list_iadd _]
  have hS : (s.heap.push { cls := .type "list", data := .seq ([] : List Value).toArray }).get? s.heap.objs.size = some { cls := .type "list", data := .seq #[] } := Heap.get?_push_size _ rfl
  show wpAny _ A.in1 (Builtin.List.listExtendWith (.ref s.heap.objs.size) (.ref d) (.ref s.heap.objs.size)) _ _ _
  let G : Result → Shared → Prop := fun q z => q = .ok (.ret (.ref s.heap.objs.size)) ∧ ∃ (h' : Heap) (tk : Nat) (acc : Array Value) (c : Nat), z = { s with heap := h', toks := tk } ∧ (∀ b o, s.heap.get? b = some o → h'.get? b = some o) ∧
    h'.get? s.heap.objs.size = some { cls := .type "list", dict := none, data := .seq acc c, slots := #[] } ∧ ItemsOf (fun i v => ∃ hi : i < es.size, v = es[i].key) acc es.size
  refine wpAny_mono (PySem.W.kdl_extend (A := A) (s := { s with heap := s.heap.push { cls := .type "list", data := .seq ([] : List Value).toArray } }) (R := G) src hh (src.keep _ _ hd fun b _ o e => Heap.get?_push_of_some _ e) s.heap.objs.size (Nat.ne_of_gt lt.1) (Nat.ne_of_gt lt.2) (.ref s.heap.objs.size) 0 hS
    (fun h' tk acc c k e it => ⟨rfl, h', tk, acc, c, rfl, fun b o q => k b o (Nat.ne_of_lt (Heap.lt_size q)) (Heap.get?_push_of_some _ q), e, it⟩) hn) (fun fin z g => ?_) fun e z g => absurd g.1 (by simp)
  have fin2 : ∀ q z, G q z → ∃ h' tk acc c, q = .ok (.ret (.ref s.heap.objs.size)) ∧ z = { s with heap := h', toks := tk } ∧ h'.get? s.heap.objs.size = some { cls := .type "list", dict := none, data := .seq acc c, slots := #[] } ∧ R acc.toList { s with heap := h', toks := tk } := fun q z ⟨e, h', tk, acc, c, ez, k, at_, it⟩ =>
    ⟨h', tk, acc, c, e, ez, at_, h h' tk acc k (Nat.le_of_lt (Heap.lt_size at_)) it⟩
  cases fin with
  | done f =>
    obtain ⟨h', tk, acc, c, e, rfl, at_, r⟩ := fin2 _ _ g
    cases e
    show wpAny _ A (load s.heap.objs.size >>= _) _ _ _
    exact wpAny_bind (wpAny_load at_ (wpAny_pure r))
  | again c1 =>
    refine ⟨g.1, codeAny_mono g.2 fun q z y => ?_⟩
    obtain ⟨h', tk, acc, c, rfl, rfl, at_, r⟩ := fin2 _ _ y
    show wpAny _ A (load s.heap.objs.size >>= _) _ _ _
    exact wpAny_bind (wpAny_load at_ (wpAny_pure r))
theorem cr_sortedD (hr : Room k X.A) (hc : X.calm = true) : CallR X (.builtin "sorted") (rSortedD X.K X.prog X.w) := by
  intro pins s σ H vs us Q I r h
  obtain ⟨a, es, rfl, ha, hz, hk, hS, q⟩ := h
  have ⟨⟨h1, ys, rel, o, es', ep, e1, e2, e3, e4, e5⟩, _, _⟩ := I.hok a _ ha
  rw [Vals.ref1 r]
  have hu := hr.un
  have hlen : es.length = ys.length := Paired.length rel
  have hsz : es'.size = ys.length := by
    have := congrArg List.length e4
    rw [Array.length_toList, List.length_map] at this
    exact this
  refine sorted_n (P := X.prog) (w := X.w) (L := es.map fun p => (p.2.1, p.1)) (fun Q' g => ?_) hS (fun p hp => Dp.reads I _ _ _ (hk p hp).1 rfl) (by rw [List.length_map]; exact hz) (by omega) fun z p out c bs k1 hg ho' hp hat heo pm pw => sorted_end I (by rw [List.length_map]; exact hz) q k1 hg ho' hp hat heo pm pw
  refine collect_keys (A := X.A.in1) (by rw [show X.A.in1.handled = X.A.handled from rfl]; exact I.ok.hd hc) h1 ⟨o, e1, e2, e3⟩ (by omega) fun h' tk acc hk' hsz' hacc => g _ _ hk' hsz' rfl rfl ?_
  · have hv : Vals (es.map fun p => V.ref p.2.1) acc.toList := by
      refine vals_keys rel (by rw [Array.length_toList]; exact hacc.1.trans hsz) fun j v e => ?_
      obtain ⟨hi, ev⟩ := hacc.2 j v (by rw [← Array.getElem?_toList]; exact e)
      have e6 := congrArg (fun l => l[j]?) e4
      simp only [Array.getElem?_toList, List.getElem?_map] at e6
      rw [Array.getElem?_eq_getElem hi] at e6
      obtain ⟨y, hy, hy2⟩ := Option.map_eq_some_iff.mp e6.symm
      exact ⟨y, hy, by rw [ev, ← hy2]; rfl⟩
    have := vals_refs (ks := es.map fun p => (p.2.1, p.1)) (us := acc.toList) (by rw [List.map_map]; exact hv)
    rw [this]
theorem cr_sortedU (hr : Room k X.A) (hc : X.calm = true) : CallR X (.builtin "sorted") (rSortedU X.K X.prog X.w) := cr_or (cr_sortedS hr hc) (cr_sortedD hr hc)
end
end PL

/-! {key: value for target in iter}, the keys nested tuples of whole numbers. -/
namespace PL
open PySem PySem.Spec PyProof.Rows L2 RZ
/-- a key is put into the new dict -/
def DPut (K : PySem.W.Frag) (P : Program) (w : World) (D : Addr) (y z : V) (H : Hp) (Nx : Hp → Prop) : Prop :=
  ∃ (t : Addr) (es : List Ent) (k : NestedKey), y = .ref t ∧ H D = some (DictO P w D es) ∧ EKeys K H es ∧ Dp K H (.ref t) (kd k) ∧ k.depth ≤ 8 ∧ es.length ≤ sizeLine ∧ Nx (upd H D (DictO P w D (putE es k t z)))
def tDcN (K : PySem.W.Frag) (P : Program) (w : World) (wi : TI) (g : TG) (tk tv : TE) (vs : List Nat) : TE := fun σ H Q => wi σ H fun J H1 => ∀ D, H1 D = none → ∃ W : Nat → Nat → Hp → Prop, (∃ m, W 0 m (upd H1 D (DictO P w D []))) ∧ ∀ i m H, W i m H →
  (J.stop i H ∧ Q (.ref D) H) ∨ (J.go i H ∧ ∃ Nx : Hp → Prop, (∀ H', Nx H' → ∃ m', m' < m ∧ W (i + 1) m' H') ∧ ∀ x H', J.yld i H x H' → g x (wipe σ vs) H' fun σ2 H2 => wipe σ2 vs = wipe σ vs ∧ tk σ2 H2 fun y H4 => tv σ2 H4 fun z H5 => DPut K P w D y z H5 Nx)
section
variable {X : Cx}
theorem dput_run {pins : List (Addr × Obj)} {σ : PL.St} {H : Hp} {s : Shared} {E : Value → Shared → Prop} {D : Addr} {y z : V} {u r : Value} {Nx : Hp → Prop} {Q : Unit → Shared → Prop} (hu : X.A.units + 64 < cLine) (I : Inv X pins σ H s) (ry : RelV y u) (rz : RelV z r) (h : DPut X.K X.prog X.w D y z H Nx)
    (q : ∀ s' H', Inv X pins σ H' s' → Nx H' → Q () s') : wpAny (model X.prog X.w) X.A (dictSet D u r) Q E s := by
  obtain ⟨t, es, k, rfl, ho, hk, hd, hl, hz, nx⟩ := h
  cases ry
  obtain ⟨ha, xs, rel, dd⟩ := dict_at I ho hk
  have hlen : es.length = xs.length := Paired.length rel
  refine wpAny_dictSet_heap (hsz := by omega) (by show X.A.units + 8 < cLine; omega) (key_at I hd hl) dd fun h' dd' hs => ?_
  obtain ⟨ob, eb, ep, e1, _⟩ := id dd'
  exact q _ _ (I.write (x := D) (e := D) (t' := s.toks + (nestedKind X.prog X.w).draws k) (by rw [ho]; exact trivial) (.inl rfl) (fun b x hb hx => (hs.2 b hb).trans hx) ⟨ob, e1⟩ (dict_ok ha (rel.put rz) dd')) nx
/-- names that the block leaves alone -/
def Blk5 (X : Cx) (scope : Scope) (p : Cx → Prop) : Prop := ∀ (s : Shared) (H : Hp) (C : Addr) (cl : List (Str × Addr)) (fp : List Addr), p (X.blk s H scope (compEnvC scope cl C X.env) fp)
theorem pe_dcN {kx vx tg iter : Expr} {scope : Scope} {own : List (Str × Nat)} {pos : Pos} {wi : TI} {g : TG} {tk tv : TE} (hc : X.calm = true) (hu : X.A.units + 64 < cLine) (hN : X.N.Nodup) (hi : PI X tg iter wi) (ok : BlkOk X.N X.env.scope scope own)
    (hg : ∀ (s : Shared) (H : Hp) (C : Addr) (cl : List (Str × Addr)) (fp : List Addr), PG (X.blk s H scope (compEnvC scope cl C X.env) fp) tg g)
    (hk : ∀ (s : Shared) (H : Hp) (C : Addr) (cl : List (Str × Addr)) (fp : List Addr), PE (X.blk s H scope (compEnvC scope cl C X.env) fp) kx tk)
    (he : ∀ (s : Shared) (H : Hp) (C : Addr) (cl : List (Str × Addr)) (fp : List Addr), PE (X.blk s H scope (compEnvC scope cl C X.env) fp) vx tv) (hs : ∀ x, foldedSetIterable iter X.env x = pure x := by intro _; rfl) :
    PE X (.DictComp kx vx [⟨tg, iter, [], 0⟩] scope pos) (tDcN X.K X.prog X.w wi g tk tv (own.map (·.2))) := by
  refine ⟨fun pins s σ H Q I h => ?_⟩
  rw [arm_eval_DictComp]
  have free : ∀ y ∈ scope.names, y.2 = .free → ∃ c, X.env.cells.lookup y.1 = some c := fun y hy e => (ok.free y hy e).elim (fun z => I.ok.has _ (.inl z)) fun z => I.ok.has _ (.inr z)
  refine wpAny_comprehension_free (use := _) rfl hs (closure_ok free) ok.kind (fun y hy e => by rw [ok.uniq y hy, e])
    (thn (hi.run pins s σ H _ I h) fun xv s1 hx => thn hx fun itv s2 ⟨it, fp, tn, J, H2, e, I2, T, st2, f2, q⟩ => ?_)
  subst e
  refine wpAny_newObj_type (newEnv_comp ?_)
  have hDn : H2 s2.heap.objs.size = none := I2.hok.fresh (Nat.le_refl _)
  obtain ⟨W, ⟨m0, w0⟩, turn⟩ := q s2.heap.objs.size hDn
  have notSys : (s2.heap.objs.size == sysModules) = false := beq_eq_false_iff_ne.mpr (Nat.ne_of_gt I2.big)
  -- the new dict
  have I3 : Inv X pins σ (upd H2 s2.heap.objs.size (DictO X.prog X.w s2.heap.objs.size [])) { s2 with heap := s2.heap.push { cls := .type "dict", data := .dict #[] } } :=
    I2.laid (t' := s2.toks) (fun b o e => Heap.get?_push_of_some _ e) (Nat.le_refl _) (dict_ok notSys .nil (Heap.DictOfH.new s2.heap))
  have old : ∀ b ∈ fp, b < s2.heap.objs.size := fun b hb => by
    obtain ⟨o, e, _⟩ := T.obj _ _ st2 b hb
    exact Heap.lt_size e
  have st3 : tn 0 (s2.heap.push { cls := .type "dict", data := .dict #[] }) := T.keep _ _ _ st2 fun b _ o e => Heap.get?_push_of_some _ e
  generalize hD : s2.heap.objs.size = D at *
  generalize hH3 : upd H2 D (DictO X.prog X.w D []) = H3 at *
  generalize hs3 : ({ s2 with heap := s2.heap.push { cls := .type "dict", data := .dict #[] } } : Shared) = s3 at *
  have h3 : s2.heap.push { cls := .type "dict", data := .dict #[] } = s3.heap := by rw [← hs3]
  rw [h3] at st3
  have f3 : ∀ b ∈ fp, FpOk X pins H3 b ∧ b < s3.heap.objs.size := fun b hb => by
    have lt := old b hb
    refine ⟨⟨?_, (f2 b hb).2⟩, by rw [← h3, Heap.size_push, hD]; exact Nat.lt_succ_of_lt lt⟩
    rw [← hH3, upd_ne (Nat.ne_of_lt lt)]
    exact (f2 b hb).1
  have I4 := block_start I3 ok hN f3
  have pg := hg s3 H3 s3.heap.objs.size (cellsFrom (s3.heap.objs.size + 1) scope.names (cloFrom X.env.cells scope.names [])) fp
  have pk := hk s3 H3 s3.heap.objs.size (cellsFrom (s3.heap.objs.size + 1) scope.names (cloFrom X.env.cells scope.names [])) fp
  have pv := he s3 H3 s3.heap.objs.size (cellsFrom (s3.heap.objs.size + 1) scope.names (cloFrom X.env.cells scope.names [])) fp
  have goal : ∀ ce, codeAny (model X.prog X.w) X.A (.compStart (.DictComp kx vx [⟨tg, iter, [], 0⟩] scope pos) 0 (.ref it) (.ref D) ce) (compPost (model X.prog X.w) X.A X.xe none (EP X pins σ Q) (.ref D) s3.heap.objs.size) { s3 with heap := pushCells (s3.heap.push { cls := .type "dict", data := .dict #[] }) scope.names } → ce = compEnvC scope (cellsFrom (s3.heap.objs.size + 1) scope.names (cloFrom X.env.cells scope.names [])) s3.heap.objs.size X.env →
      codeAny (model X.prog X.w) X.A (.compStart (.DictComp kx vx [⟨tg, iter, [], 0⟩] scope pos) 0 (.ref it) (.ref D) (compEnvC scope (cellsFrom (s3.heap.objs.size + 1) scope.names (cloFrom X.env.cells scope.names [])) s3.heap.objs.size X.env)) (compPost (model X.prog X.w) X.A X.xe none (EP X pins σ Q) (.ref D) s3.heap.objs.size) { s3 with heap := pushCells (s3.heap.push { cls := .type "dict", data := .dict #[] }) scope.names } := fun ce h e => e ▸ h
  refine goal _ ?_ rfl
  clear goal
  generalize hce : compEnvC scope (cellsFrom (s3.heap.objs.size + 1) scope.names (cloFrom X.env.cells scope.names [])) s3.heap.objs.size X.env = ce at I4 pg pk pv ⊢
  have cL : ce.locals = s3.heap.objs.size := by subst hce; rfl
  generalize hs4 : ({ s3 with heap := pushCells (s3.heap.push { cls := .type "dict", data := .dict #[] }) scope.names } : Shared) = s4 at I4 ⊢
  have st4 : tn 0 s4.heap := T.keep _ _ _ st3 fun b _ o e => by rw [← hs4]; exact pushCells_keeps _ _ _ _ (Heap.get?_push_of_some _ e)
  have calm' : ∀ {σ' : PL.St} {H' : Hp} {s' : Shared}, Inv (X.blk s3 H3 scope ce fp) [] σ' H' s' → (∀ b ∈ fp, H' b = none) → ∀ b ∈ fp, FpOk (X.blk s3 H3 scope ce fp) [] H' b := fun I' n b hb =>
    ⟨n b hb, (I'.ok.exf b hb).1, I'.ok.exfs b hb, .inl hb, fun x c e => (I'.ok.exf b hb).2 x c e, fun p hp => by simp at hp⟩
  have loop : codeAny (model X.prog X.w) X.A (.compLoop (.DictComp kx vx [⟨tg, iter, [], 0⟩] scope pos) 0 (.ref it) (.ref D) ce) (compPost (model X.prog X.w) X.A X.xe none (EP X pins σ Q) (.ref D) s3.heap.objs.size) s4 := by
    refine compLoop_anyD (fun n s' => ∃ i H', Inv (X.blk s3 H3 scope ce fp) [] (wipe σ (own.map (·.2))) H' s' ∧ tn i s'.heap ∧ (∀ b ∈ fp, H' b = none) ∧ W i n H') ?_ m0 ⟨0, H3, I4, st4, fun b hb => (f3 b hb).1.1, w0⟩
    rintro n s5 ⟨i, H5, I5, st5, n5, w5⟩
    rcases turn i n H5 w5 with ⟨stop, qq⟩ | ⟨go, Nx, hNx, step⟩
    · refine thnF (T.done (X.blk s3 H3 scope ce fp) rfl rfl rfl hc i [] s5 _ H5 (fun _ _ => False) I5 (calm' I5 n5) st5 stop) fun r s6 ⟨hr, I6⟩ => ?_
      subst hr
      have I7 : Inv X pins σ H5 s6 := I3.call' (ch := fp) I6.os I6.base I6.hok I6.bare fun b hb => ⟨(f3 b hb).1.2.2.2.1, (f3 b hb).1.2.1, (f3 b hb).1.2.2.2.2.1, (f3 b hb).1.2.2.2.2.2⟩
      have nC : H5 s3.heap.objs.size = none := by rw [← cL]; exact I6.free
      obtain ⟨m, hn, _⟩ := I6.loc
      have hn : s6.heap.Ns s3.heap.objs.size m := by rw [← cL]; exact hn
      obtain ⟨g0, g1, g2, g3, g4, g5⟩ := I3.fpOk (Nat.le_refl _) nC
      exact ⟨m, hn, fun h' sb => ⟨.ref D, H5, I7.turned (t' := s6.toks) (fun b o hb e => (sb.2 b hb).trans e) g0 g1 g3 g4 g5, rfl, qq⟩⟩
    · refine thnF (T.item (X.blk s3 H3 scope ce fp) rfl rfl rfl hc i [] s5 _ H5 (fun _ _ => False) I5 (calm' I5 n5) st5 go) fun r s6 ⟨u, hr, h6⟩ => ?_
      subst hr
      refine thnF h6 fun _ s7 ⟨x, H7, I7, r7, y7, st7, n7⟩ => ?_
      refine thnF (pg.run _ s7 _ H7 x u _ (I7.pinned (calm' I7 n7) (T.obj _ _ st7)) r7 (step x H7 y7)) fun _ s8 ⟨σ8, H8, I8, hw8, q8⟩ => ?_
      show wpAny _ _ (pure true) _ _ _
      refine wpAny_pure ?_
      simp only [if_true]
      refine thnF (pk.run _ s8 σ8 H8 _ I8 q8) fun z s10 ⟨yk, H10, I10, r10, q10⟩ => ?_
      refine thnF (pv.run _ s10 σ8 H10 _ I10 q10) fun z2 s11 ⟨yv, H11, I11, r11, q11⟩ => ?_
      refine dput_run (X := X.blk s3 H3 scope ce fp) hu I11 r10 r11 q11 fun s12 H12 I12 nx => ?_
      obtain ⟨m', hm, w'⟩ := hNx H12 nx
      have kept : ∀ b ∈ fp, ∀ o, s7.heap.get? b = some o → s12.heap.get? b = some o ∧ H12 b = none := fun b hb o e =>
        let y := I12.pin (b, o) (List.mem_append_right _ (List.mem_append_right _ (mem_pinsAt hb e)))
        ⟨y.1, y.2.1⟩
      have hl : (wipe σ (own.map (·.2))).length = σ8.length := by rw [← hw8, wipe_length]
      refine ⟨m', hm, i + 1, H12, (I12.unpinned (pins := [])).weak hl (fun j v e => ?_), T.keep _ _ _ st7 fun b hb o e => (kept b hb o e).1, fun b hb => ?_, w'⟩
      · rw [← hw8] at e
        exact (wipe_some e).1
      · obtain ⟨o, e, _⟩ := T.obj _ _ st7 b hb
        exact (kept b hb o e).2
  exact codeAny_compStart_dict loop (T.self X.A 0 _ _ _ st4 loop)
end
end PL

/-! The rules on cells: dict comprehensions, sorted dicts, sorted sets. -/
namespace PL
open PySem PySem.Spec PyProof.Rows L2 RZ
section
variable {K : PySem.W.Frag} {P : Program} {w : World}
variable {env env' env1 : List C} {te : TE} {σ σ' : PL.St} {G G' G1 G2 H H' H1 H2 : Hp} {v x y : V} {r : R} {Po : R → List C → Prop}
def putAll (key : Nat → NestedKey) (f : Nat → DD) (k : Nat) : List (NestedKey × DD) := (List.range k).foldl (fun kvs i => putD kvs (key i) (f i)) []
theorem putAll_succ (key : Nat → NestedKey) (f : Nat → DD) (k : Nat) : putAll key f (k + 1) = putD (putAll key f k) (key k) (f k) := by
  unfold putAll
  rw [List.range_succ, List.foldl_append]; rfl
theorem putAll_len (key : Nat → NestedKey) (f : Nat → DD) : ∀ k, (putAll key f k).length ≤ k
  | 0 => Nat.le_refl _
  | k + 1 => by
    rw [putAll_succ]
    have := putD_len (putAll key f k) (key k) (f k)
    have := putAll_len key f k
    omega
theorem we_dcN {wi : TI} {g : TG} {tk tv : TE} {vs : List Nat} (hg : GIn vs g)
    (h : WI K P w wi env fun items e1 => items.length ≤ 10000000 ∧ (∀ i ∈ vs, (e1.getD i .no).own = none) ∧ ∃ (key : Nat → NestedKey) (f : Nat → DD),
      (∀ k x, items[k]? = some x → WG K P w g (.c (.d x)) (wipeE e1 vs) fun e2 => WE K P w tk e2 fun r e3 => r = .c (.d (kd (key k))) ∧ (∃ ks, key k = .tup ks) ∧ (key k).depth ≤ 8 ∧ WE K P w tv e3 fun r2 e4 => r2 = .c (.d (f k)) ∧ wipeE e4 vs = wipeE e1 vs) ∧
      ∀ a, Po (.c (.m a (putAll key f items.length))) (restE e1 (wipeE e1 vs) vs)) : WE K P w (tDcN K P w wi g tk tv vs) env Po := fun σ G H rp Q o =>
  h σ G H rp _ fun J items e1 G1 H1 ⟨hz, hv, key, f, step, last⟩ s1 r1 it Dl hD => by
    obtain ⟨rw1, sw1⟩ := r1.wipe vs
    have hg1 : G1 Dl = none := Same.none_of r1.sub hD
    have nD : ¬ Owns (wipeE e1 vs) Dl := fun z => by
      obtain ⟨_, x, hx⟩ := rw1.owned z
      rw [hD] at hx; cases hx
    refine ⟨fun i m H' => m = items.length - i ∧ i ≤ items.length ∧ ∃ G' es, Stp e1 G1 H1 (wipeE e1 vs) G' H' ∧ Rep K P w (wipeE e1 vs) (L2.wipe σ vs) G' H' ∧ Same G1 G' ∧ H' Dl = some (DictO P w Dl es) ∧ G' Dl = none ∧ Ents K G' es (putAll key f i),
      ⟨items.length, by simp, Nat.zero_le _, G1, [], sw1.other hD, rw1.other nD hg1, fun _ _ h => h, upd_same, hg1, .nil⟩, ?_⟩
    rintro i m H2 ⟨rfl, hi, G2, es, s2, r2, sg, ho, hgD, he⟩
    obtain ⟨hgo, hstop, hy⟩ := it G2 H2 sg r2.sub
    by_cases hlt : i < items.length
    · refine .inr ⟨hgo i hlt, fun H' => ∃ G' es, Stp e1 G1 H1 (wipeE e1 vs) G' H' ∧ Rep K P w (wipeE e1 vs) (L2.wipe σ vs) G' H' ∧ Same G1 G' ∧ H' Dl = some (DictO P w Dl es) ∧ G' Dl = none ∧ Ents K G' es (putAll key f (i + 1)),
        fun H' q => ⟨items.length - (i + 1), by omega, rfl, hlt, q⟩, fun x H3 hyl => ?_⟩
      have hx : items[i]? = some items[i] := List.getElem?_eq_getElem hlt
      obtain ⟨G3, a1, a2, a3, a4, a5⟩ := hy i x H3 _ hx hyl
      obtain ⟨r3, s3⟩ := r2.grow a1 a2 a3 a4
      have ho3 : H3 Dl = some (DictO P w Dl es) := a3 _ _ ho
      have hg3 : G3 Dl = none := a4 Dl (by rw [ho]; simp) hgD
      have he3 : Ents K G3 es (putAll key f i) := he.mono a1
      refine hg x (wipe σ vs) H3 _ _ (fun σ4 H4 ew q => ⟨ew.trans (wipe_wipe σ vs), q ew⟩) (step i _ hx (L2.wipe σ vs) G3 H3 x r3 ⟨a5, fun c a e hc => by cases e; cases hc⟩ (fun σ4 H4 => wipe σ4 vs = wipe (L2.wipe σ vs) vs → _) fun e4 σ4 G4 H4 p4 s4 r4 ew => ?_)
      have s4' : Stp (wipeE e1 vs) G3 H3 e4 G4 H4 := Stp.refl.close s4 fun z hz => by cases hz
      refine p4 σ4 G4 H4 r4 _ fun rk vk e5 G5 H5 ⟨er, hks, hdep, p5⟩ s5 r5 ok5 f5 => ?_
      subst er
      have s5' := s4'.trans s5
      refine p5 σ4 G5 H5 r5 _ fun rv vv e6 G6 H6 ⟨er2, ew6⟩ s6 r6 ok6 f6 => ?_
      subst er2
      have s6' := s5'.trans s6
      have sg6 : Same G1 G6 := fun c z hz => s6'.g c z (a1 c z (sg c z hz))
      have kk5 : Dp K G5 vk (kd (key i)) := ok5
      have kk6 : Dp K G6 vk (kd (key i)) := Dp.mono s6.g _ _ kk5
      have h6D : H6 Dl = some (DictO P w Dl es) := s6'.keep Dl _ ho3 nD fun z => z
      have g6D : G6 Dl = none := s6'.fresh Dl (by rw [ho3]; simp) hg3 nD fun z => z
      have he6 : Ents K G6 es (putAll key f i) := he3.mono s6'.g
      obtain ⟨ks, eks⟩ := hks
      obtain ⟨t, et⟩ : ∃ t, vk = .ref t := by
        rw [eks] at kk6
        simp only [kd] at kk6
        cases kk6
        exact ⟨_, rfl⟩
      subst et
      obtain ⟨r7, s7⟩ := r6.wipe vs
      rw [ew, wipe_wipe, ew6] at r7
      rw [ew6] at s7
      have le : es.length = (putAll key f i).length := Paired.length he
      have lk := putAll_len key f i
      refine ⟨t, es, key i, rfl, h6D, he6.keys r6.sub, Dp.mono r6.sub _ _ kk6, hdep, Nat.le_trans (show es.length ≤ 10000000 by omega) (show 10000000 ≤ sizeLine by decide), G6, putE es (key i) t vv, ?_, r7.other nD g6D, sg6, upd_same, g6D, ?_⟩
      · exact (((s2.trans s3).trans s6').trans s7).other hD
      · rw [putAll_succ]
        exact he6.put kk6 hdep ok6
    · have e : i = items.length := by omega
      subst e
      obtain ⟨r3, own3⟩ := r1.rest r2 sg hv
      refine .inl ⟨hstop, o.step s1 (.c (.m Dl (putAll key f items.length))) (.ref Dl) _ G2 H2 (last Dl) ⟨s2.g, s2.fresh, s2.keep, s2.dom, fun a ha => s2.own a (own3 a ha)⟩ r3 ⟨rfl, hgD, Nat.le_trans (putAll_len key f _) (Nat.le_trans hz (show 10000000 ≤ sizeLine by decide)), es, ho, he⟩ fun a ha => ?_⟩
      cases ha
      exact ⟨fun z => nD (own3 Dl z), .inl hD⟩
/-- keys that sorted can sort -/
structure SortK (ks : List NestedKey) : Prop where
  whole : ∀ k ∈ ks, intsK k = true ∧ k.depth ≤ 8
  like : ∀ k ∈ ks, ∀ k' ∈ ks, PySem.W.alike (kd k) (kd k') = true
  some_ : ∀ k ∈ ks, ∃ x r, kd k = .tuple (x :: r)
theorem SortK.sorts {ks : List NestedKey} {L : List NK} (h : SortK ks) (hL : ∀ p ∈ L, p.2 ∈ ks) : Sorts L := ⟨fun p hp => h.whole _ (hL p hp), fun p hp q hq => h.like _ (hL p hp) _ (hL q hq), fun p hp => h.some_ _ (hL p hp)⟩
theorem SortK.tup {ks : List NestedKey} (h : SortK ks) {k : NestedKey} (hk : k ∈ ks) : ∃ l, k = .tup l := by
  obtain ⟨x, r, e⟩ := h.some_ k hk
  cases k with
  | tup l => exact ⟨l, rfl⟩
  | _ => simp [kd] at e
theorem nk_dps {G : Hp} : ∀ (bs : List NK), (∀ p ∈ bs, Dp K G (.ref p.1) (kd p.2)) → DpAll K G (bs.map fun p => V.ref p.1) ((bs.map (·.2)).map kd)
  | [], _ => .nil
  | p :: bs, h => .cons (h p List.mem_cons_self) (nk_dps bs fun q hq => h q (List.mem_cons_of_mem _ hq))
theorem ents_keys {G : Hp} {es : List Ent} {kvs : List (NestedKey × DD)} (e : Ents K G es kvs) : es.map (·.1) = kvs.map (·.1) := by
  induction e with
  | nil => rfl
  | @cons p q ps qs h _ ih => rw [List.map_cons, List.map_cons, ih, h.1]
theorem wk_sortedD {a : Addr} {kvs : List (NestedKey × DD)} (hk : SortK (kvs.map (·.1))) (p : ∀ (q : Addr) (ks : List NestedKey), ks.Perm (kvs.map (·.1)) → ks.Pairwise (fun a b => leK a b = true) → Po (.c (.l q (ks.map kd))) env) : WL K P w (rSortedU K P w) [.c (.m a kvs)] env Po := fun σ G H vs rp ps Q o => by
  obtain ⟨v, e1, e2, _⟩ := ps.one
  subst e1
  obtain ⟨rfl, hg, hz, es, ho, he⟩ : CellOk K P w G H v (.m a kvs) := e2
  have le : es.length = kvs.length := Paired.length he
  have ek := ents_keys he
  have kG : EKeys K G es := he.keys fun _ _ h => h
  have hm : ∀ p ∈ es.map (fun p => ((p.2.1, p.1) : NK)), p.2 ∈ kvs.map (·.1) ∧ Dp K G (.ref p.1) (kd p.2) := fun p hp => by
    obtain ⟨e, he', rfl⟩ := List.mem_map.mp hp
    exact ⟨by rw [← ek]; exact List.mem_map.mpr ⟨e, he', rfl⟩, (kG e he').1⟩
  refine .inr ⟨a, es, rfl, ho, by omega, fun p hp => ⟨Dp.mono rp.sub _ _ (hm p hp).2, (hk.whole _ (hm p hp).1).2, (hk.whole _ (hm p hp).1).1⟩, hk.sorts fun p hp => (hm p hp).1, fun bs q pm pw hq => ?_⟩
  have pk : (bs.map (·.2)).Perm (kvs.map (·.1)) := by
    have := pm.map (·.2)
    rw [List.map_map] at this
    rw [← ek]
    exact this
  exact o.lst rp (nk_dps bs fun p hp => (hm p (pm.mem_iff.mp hp)).2) (p q (bs.map (·.2)) pk pw) hq
theorem nk_of {G : Hp} : ∀ {vs : List V} {ks : List NestedKey}, (∀ k ∈ ks, ∃ l, k = .tup l) → DpAll K G vs (ks.map kd) → ∃ bs : List NK, vs = bs.map (fun p => V.ref p.1) ∧ bs.map (·.2) = ks ∧ ∀ p ∈ bs, Dp K G (.ref p.1) (kd p.2)
  | vs, [], _, h => by
    cases h
    exact ⟨[], rfl, rfl, fun p hp => by cases hp⟩
  | vs, k :: ks, hk, h => by
    cases h with
    | @cons v vs _ _ h1 h2 =>
      obtain ⟨bs, e1, e2, e3⟩ := nk_of (fun k' hk' => hk k' (List.mem_cons_of_mem _ hk')) h2
      obtain ⟨l, rfl⟩ := hk k List.mem_cons_self
      have h1' := h1
      simp only [kd] at h1'
      cases h1' with
      | @tup t _ _ _ _ =>
        refine ⟨(t, .tup l) :: bs, by rw [e1]; rfl, by rw [List.map_cons, e2], fun p hp => ?_⟩
        rcases List.mem_cons.mp hp with z | z
        · subst z; exact h1
        · exact e3 p z
/-- sorted(set(list)) -/
theorem we_sortSet {te : TE} (h : WE K P w te env fun r e => ∃ ks : List NestedKey, LL e r (ks.map kd) ∧ SortK ks ∧ ks.length < 64 ∧ ∀ (q : Addr) (ks' : List NestedKey), ks'.Nodup → (∀ k, k ∈ ks' ↔ k ∈ ks) → ks'.Pairwise (fun a b => leK a b = true) → Po (.c (.l q (ks'.map kd))) e) :
    WE K P w (tCB (rSortedU K P w) (tCons (tCB (rSetN K P w) (tCons te tNil)) tNil)) env Po := fun σ G H rp Q o =>
  h σ G H rp _ fun r v e1 G1 H1 ⟨ks, hl, hk, h64, p⟩ s1 r1 ok1 f1 => by
    obtain ⟨b, us, e, hs, hd⟩ := hl.seq r1 (Pend.of ok1 f1)
    subst e
    obtain ⟨bs, e1, e2, e3⟩ := nk_of (fun k hk' => hk.tup hk') hd
    subst e1
    have hm : ∀ p ∈ bs, p.2 ∈ ks := fun p hp => by rw [← e2]; exact List.mem_map.mpr ⟨p, hp, rfl⟩
    refine ⟨b, bs, rfl, hs, fun p hp => ⟨Dp.mono r1.sub _ _ (e3 p hp), (hk.whole _ (hm p hp)).2, (hk.whole _ (hm p hp)).1⟩, by rw [← e2, List.length_map] at h64; exact h64, fun a L ha hL1 hL2 hnd h64' => ?_⟩
    obtain ⟨r2, s2⟩ := r1.new (o := SetO P w a L) ha
    have kG : ∀ p ∈ L, Dp K G1 (.ref p.1) (kd p.2) := fun p hp => e3 p (hL1 p hp)
    refine .inl ⟨a, L, rfl, upd_same, fun p hp => ⟨Dp.mono r2.sub _ _ (kG p hp), (hk.whole _ (hm p (hL1 p hp))).2, (hk.whole _ (hm p (hL1 p hp))).1⟩, hk.sorts fun p hp => hm p (hL1 p hp), fun bs' q pm pw hq => ?_⟩
    have pm2 := pm.map (·.2)
    exact (o.step (s1.trans s2)).lst r2 (nk_dps bs' fun p hp => kG p (pm.mem_iff.mp hp)) (p q (bs'.map (·.2)) (pm2.nodup_iff.mpr hnd) (fun k => by
      rw [pm2.mem_iff]
      constructor
      · intro z
        obtain ⟨p, hp, e⟩ := List.mem_map.mp z
        rw [← e]; exact hm p (hL1 p hp)
      · intro z
        rw [← e2] at z
        obtain ⟨p, hp, e⟩ := List.mem_map.mp z
        rw [← e]; exact hL2 p hp) pw) hq
end
end PL

/-! Stands as keys; sorted lists of them; orders are the permutations. -/
namespace PL
open PySem PySem.Spec PyProof.Rows L2 RZ MA
def keyR (r : List Int) : NestedKey := .tup (r.map .num)
def keyS (s : Stand) : NestedKey := .tup (s.map keyR)
theorem kds_map {α : Type} (f : α → NestedKey) : ∀ xs : List α, kds (xs.map f) = xs.map fun x => kd (f x)
  | [] => rfl
  | x :: xs => by rw [List.map_cons, List.map_cons, kds, kds_map f xs]
theorem kd_keyR (r : List Int) : kd (keyR r) = encRow r := by
  unfold keyR
  rw [kd, kds_map]
  rfl
theorem kd_keyS (s : Stand) : kd (keyS s) = encStand s := by
  unfold keyS
  rw [kd, kds_map]
  congr 1
  exact List.map_congr_left fun r _ => kd_keyR r
theorem map_inj {α β : Type} {f : α → β} (hf : ∀ x y, f x = f y → x = y) : ∀ {xs ys : List α}, xs.map f = ys.map f → xs = ys
  | [], [], _ => rfl
  | [], _ :: _, h => by cases h
  | _ :: _, [], h => by cases h
  | x :: xs, y :: ys, h => by
    rw [List.map_cons, List.map_cons] at h
    obtain ⟨h1, h2⟩ := List.cons.inj h
    rw [hf x y h1, map_inj hf h2]
theorem keyS_inj {s t : Stand} (h : keyS s = keyS t) : s = t := by
  injection h with h
  refine map_inj (fun r q e => ?_) h
  injection e with e
  exact map_inj (fun x y z => by injection z) e
theorem intsKs_of {α : Type} {f : α → NestedKey} (hf : ∀ x, intsK (f x) = true) : ∀ xs : List α, intsKs (xs.map f) = true
  | [] => rfl
  | x :: xs => by rw [List.map_cons, intsKs, hf, intsKs_of hf xs]; rfl
theorem depthAll_of {α : Type} {f : α → NestedKey} {n : Nat} (hf : ∀ x, (f x).depth ≤ n) : ∀ xs : List α, NestedKey.depthAll (xs.map f) ≤ n
  | [] => Nat.zero_le _
  | x :: xs => by
    rw [List.map_cons, NestedKey.depthAll]
    exact Nat.max_le.mpr ⟨hf x, depthAll_of hf xs⟩
theorem keyS_ok (s : Stand) : intsK (keyS s) = true ∧ (keyS s).depth ≤ 8 := by
  have d1 : ∀ r : List Int, (keyR r).depth ≤ 1 := fun r => by
    unfold keyR
    rw [NestedKey.depth]
    have := depthAll_of (f := NestedKey.num) (n := 0) (fun x => Nat.le_refl _) r
    omega
  refine ⟨?_, ?_⟩
  · unfold keyS
    rw [intsK]
    exact intsKs_of (fun r => by unfold keyR; rw [intsK]; exact intsKs_of (fun _ => rfl) r) s
  · unfold keyS
    rw [NestedKey.depth]
    have := depthAll_of (f := keyR) (n := 1) d1 s
    omega
theorem alikeAll_of {α : Type} {f : α → DD} (hf : ∀ x y, PySem.W.alike (f x) (f y) = true) : ∀ xs ys : List α, PySem.W.alikeAll (xs.map f) (ys.map f) = true
  | [], ys => by simp [PySem.W.alikeAll]
  | x :: xs, [] => by simp [PySem.W.alikeAll]
  | x :: xs, y :: ys => by
    rw [List.map_cons, List.map_cons, PySem.W.alikeAll, hf, alikeAll_of hf xs ys]; rfl
theorem alike_stand (s t : Stand) : PySem.W.alike (encStand s) (encStand t) = true := by
  rw [PySem.W.alike]
  refine alikeAll_of (fun r q => ?_) s t
  rw [PySem.W.alike]
  exact alikeAll_of (fun x y => by rw [PySem.W.alike]) r q
theorem sortK_stands {α : Type} {f : α → Stand} {xs : List α} (h : ∀ x ∈ xs, f x ≠ []) : SortK (xs.map fun x => keyS (f x)) := by
  refine ⟨fun k hk => ?_, fun k hk k' hk' => ?_, fun k hk => ?_⟩
  · obtain ⟨x, _, rfl⟩ := List.mem_map.mp hk
    exact keyS_ok _
  · obtain ⟨x, _, rfl⟩ := List.mem_map.mp hk
    obtain ⟨y, _, rfl⟩ := List.mem_map.mp hk'
    rw [kd_keyS, kd_keyS]
    exact alike_stand _ _
  · obtain ⟨x, hx, rfl⟩ := List.mem_map.mp hk
    rw [kd_keyS]
    cases hs : f x with
    | nil => exact absurd hs (h x hx)
    | cons r s => exact ⟨encRow r, s.map encRow, rfl⟩
open PySem.W in
theorem toks_inj {x y : DD} (h : alike x y = true) (e : keyToks x = keyToks y) : PyData.eqv x y = true := by
  cases q : PyData.eqv x y with
  | true => rfl
  | false =>
    have g := (toks_eqv x y h).2 q
    have g1 := g [] [Sum.inl 0]
    have g2 := g [Sum.inl 0] [Sum.inl 0]
    rw [e] at g1 g2
    rw [lex_pre] at g1 g2
    have a : PyProof.Rows.lexLt itemOrd ([] : List (Int ⊕ List Nat)) [Sum.inl 0] = true := rfl
    rw [a] at g1
    have b : PyProof.Rows.lexLt itemOrd (keyToks y) (keyToks y) = false := lex_irrefl _
    rw [b] at g1
    cases g1
open PySem.W in
theorem leK_anti {s t : Stand} (h1 : leK (keyS s) (keyS t) = true) (h2 : leK (keyS t) (keyS s) = true) : s = t := by
  have e : keyToks (kd (keyS s)) = keyToks (kd (keyS t)) := by
    refine (listOrd itemOrd).total _ _ ?_ ?_
    · have h2' : (!(listOrd itemOrd).blt (keyToks (kd (keyS s))) (keyToks (kd (keyS t)))) = true := h2
      simpa using h2'
    · have h1' : (!(listOrd itemOrd).blt (keyToks (kd (keyS t))) (keyToks (kd (keyS s)))) = true := h1
      simpa using h1'
  rw [kd_keyS, kd_keyS] at e
  have := toks_inj (alike_stand s t) e
  rw [nice_stand.eq] at this
  exact of_decide_eq_true this
/-- sorted lists with the same members are the same -/
theorem sorted_uniq : ∀ {ks ls : List NestedKey}, (∀ k ∈ ks, ∃ s, k = keyS s) → ks.Nodup → ls.Nodup → (∀ k, k ∈ ks ↔ k ∈ ls) → ks.Pairwise (fun a b => leK a b = true) → ls.Pairwise (fun a b => leK a b = true) → ks = ls
  | [], [], _, _, _, _, _, _ => rfl
  | [], l :: ls, _, _, _, m, _, _ => absurd ((m l).mpr List.mem_cons_self) (by simp)
  | k :: ks, [], _, _, _, m, _, _ => absurd ((m k).mp List.mem_cons_self) (by simp)
  | k :: ks, l :: ls, hs, n1, n2, m, p1, p2 => by
    obtain ⟨a1, a2⟩ := List.pairwise_cons.mp p1
    obtain ⟨b1, b2⟩ := List.pairwise_cons.mp p2
    obtain ⟨c1, c2⟩ := List.nodup_cons.mp n1
    obtain ⟨d1, d2⟩ := List.nodup_cons.mp n2
    have e : k = l := by
      rcases List.mem_cons.mp ((m k).mp List.mem_cons_self) with z | z
      · exact z
      · rcases List.mem_cons.mp ((m l).mpr List.mem_cons_self) with y | y
        · exact y.symm
        · obtain ⟨s, rfl⟩ := hs k List.mem_cons_self
          obtain ⟨t, rfl⟩ := hs l (List.mem_cons_of_mem _ y)
          rw [leK_anti (a1 _ y) (b1 _ z)]
    subst e
    rw [sorted_uniq (fun x hx => hs x (List.mem_cons_of_mem _ hx)) c2 d2 (fun x => ?_) a2 b2]
    constructor
    · intro hx
      rcases List.mem_cons.mp ((m x).mp (List.mem_cons_of_mem _ hx)) with z | z
      · subst z; exact absurd hx c1
      · exact z
    · intro hx
      rcases List.mem_cons.mp ((m x).mpr (List.mem_cons_of_mem _ hx)) with z | z
      · subst z; exact absurd hx d1
      · exact z
/-! ### orders -/
theorem perms_iff {α : Type} [DecidableEq α] : ∀ (n : Nat) (b o : List α), b.length = n → (o ∈ perms n b ↔ o.Perm b)
  | 0, b, o, h => by
    have : b = [] := List.length_eq_zero_iff.mp h
    subst this
    simp [perms]
  | n + 1, b, o, h => by
    cases b with
    | nil => cases h
    | cons x b =>
      rw [perms_step x h, List.mem_flatMap]
      have cut : ∀ i, i < (x :: b).length → ((x :: b).take i ++ (x :: b).drop (i + 1)).length = n ∧ (x :: b).Perm ((x :: b).getD i x :: ((x :: b).take i ++ (x :: b).drop (i + 1))) := fun i hi => by
        refine ⟨by rw [List.length_append, List.length_take, List.length_drop]; omega, ?_⟩
        have e := getD_at (d := x) hi
        have e2 : (x :: b) = (x :: b).take i ++ (x :: b).getD i x :: (x :: b).drop (i + 1) := by
          conv => lhs; rw [← List.take_append_drop i (x :: b)]
          rw [List.drop_eq_getElem_cons hi]
          congr 2
          have := List.getElem?_eq_getElem hi
          rw [this] at e
          exact Option.some.inj e
        conv => lhs; rw [e2]
        exact List.perm_middle
      constructor
      · rintro ⟨i, hi, h2⟩
        obtain ⟨r, hr, rfl⟩ := List.mem_map.mp h2
        obtain ⟨c1, c2⟩ := cut i (List.mem_range.mp hi)
        exact (((perms_iff n _ r c1).mp hr).cons _).trans c2.symm
      · intro hp
        cases o with
        | nil => exact absurd hp.length_eq (by simp)
        | cons y o =>
          have hy : y ∈ x :: b := hp.mem_iff.mp List.mem_cons_self
          obtain ⟨i, hi, e⟩ := List.getElem_of_mem hy
          obtain ⟨c1, c2⟩ := cut i hi
          have ey : (x :: b).getD i x = y := getD_of (by rw [List.getElem?_eq_getElem hi, e])
          refine ⟨i, List.mem_range.mpr hi, List.mem_map.mpr ⟨o, (perms_iff n _ o c1).mpr ?_, by rw [ey]⟩⟩
          rw [ey] at c2
          exact (hp.trans c2).cons_inv
theorem ins_iff {α : Type} [DecidableEq α] (x : α) (o p : List α) : p ∈ insAll x o → p.Perm (x :: o) := by
  unfold insAll
  intro h
  obtain ⟨i, hi, rfl⟩ := List.mem_map.mp h
  rw [List.append_assoc]
  have g : (o.take i ++ x :: o.drop i).Perm (x :: (o.take i ++ o.drop i)) := List.perm_middle
  rw [List.take_append_drop] at g
  exact g
theorem orders_iff {α : Type} [DecidableEq α] (b : List α) : ∀ (k : Nat), k ≤ b.length → ∀ o, o ∈ orders (b.take k) ↔ o.Perm (b.take k)
  | 0, _, o => by simp [orders]
  | k + 1, hk, o => by
    have hx : b[k]? = some b[k] := List.getElem?_eq_getElem (by omega)
    rw [take_succ_at hx, orders_one, List.mem_flatMap]
    constructor
    · rintro ⟨o', h1, h2⟩
      have g := (orders_iff b k (by omega) o').mp h1
      exact (ins_iff _ _ _ h2).trans ((g.cons _).trans (List.perm_append_comm (l₁ := [b[k]]) (l₂ := b.take k)))
    · intro hp
      have hm : b[k] ∈ o := hp.mem_iff.mpr (List.mem_append_right _ List.mem_cons_self)
      obtain ⟨i, hi, e⟩ := List.getElem_of_mem hm
      have e2 : o = o.take i ++ b[k] :: o.drop (i + 1) := by
        conv => lhs; rw [← List.take_append_drop i o]
        rw [List.drop_eq_getElem_cons hi, e]
      refine ⟨o.take i ++ o.drop (i + 1), (orders_iff b k (by omega) _).mpr ?_, ?_⟩
      · have h1 : (b[k] :: (o.take i ++ o.drop (i + 1))).Perm (b[k] :: b.take k) := by
          refine List.perm_middle.symm.trans ?_
          rw [← e2]
          exact hp.trans (List.perm_append_comm (l₁ := b.take k) (l₂ := [b[k]]))
        exact h1.cons_inv
      · unfold insAll
        have hl : i ≤ (o.take i ++ o.drop (i + 1)).length := by rw [List.length_append, List.length_take, List.length_drop]; omega
        refine List.mem_map.mpr ⟨i, List.mem_range.mpr (by omega), ?_⟩
        have ht : (o.take i).length = i := by rw [List.length_take]; omega
        rw [List.take_append_of_le_length (by omega), List.drop_append_of_le_length (by omega), List.take_of_length_le (by omega), List.drop_of_length_le (by omega), List.nil_append, List.append_assoc]
        exact e2.symm
theorem orders_perms {α : Type} [DecidableEq α] (b o : List α) : o ∈ orders b ↔ o ∈ perms b.length b := by
  have h := orders_iff b b.length (Nat.le_refl _) o
  rw [List.take_length] at h
  rw [h, perms_iff b.length b o rfl]
end PL

/-! Meetings of four folk commute. -/
namespace PL
open PySem PySem.Spec PyProof.Rows L2 RZ MA
def freeB (h : Hall) (m m2 : Meet) : Bool := (standsOf h).all fun s => decide (behind h s [m, m2] = behind h s [m2, m])
theorem set_getD_ne {α : Type} {s : List α} {i j : Nat} {r d : α} (h : i ≠ j) : (s.set i r).getD j d = s.getD j d := by
  rw [List.getD_eq_getElem?_getD, List.getElem?_set_ne h, ← List.getD_eq_getElem?_getD]
def rowT (h : Hall) (s : Stand) (m : Meet) : List Int := (s.getD m.other []).set m.thing (min (h.lore m.thing).cap (at2 s m.other m.thing + 1))
theorem taught_set (h : Hall) (s : Stand) (m : Meet) : taught h s m = s.set m.other (rowT h s m) := rfl
theorem at2_taught_ne {h : Hall} {s : Stand} {m : Meet} {i j : Nat} (hne : m.other ≠ i) : at2 (taught h s m) i j = at2 s i j := by
  unfold at2
  rw [taught_set, set_getD_ne hne]
theorem lesson_taught {h : Hall} {s : Stand} {m m2 : Meet} (h1 : m.other ≠ m2.one) (h2 : m.other ≠ m2.other) : lesson h (taught h s m) m2 = lesson h s m2 := by
  unfold lesson
  rw [at2_taught_ne h1]
  congr 1
  refine congrArg _ (funext fun n => ?_)
  rw [at2_taught_ne h2]
theorem taught_comm {h : Hall} {s : Stand} {m m2 : Meet} (h2 : m.other ≠ m2.other) : taught h (taught h s m) m2 = taught h (taught h s m2) m := by
  have e1 : rowT h (taught h s m) m2 = rowT h s m2 := by
    unfold rowT
    rw [at2_taught_ne h2, taught_set, set_getD_ne h2]
  have e2 : rowT h (taught h s m2) m = rowT h s m := by
    unfold rowT
    rw [at2_taught_ne (Ne.symm h2), taught_set, set_getD_ne (Ne.symm h2)]
  rw [taught_set h (taught h s m) m2, taught_set h (taught h s m2) m, e1, e2, taught_set h s m, taught_set h s m2]
  exact List.set_comm _ _ h2
theorem wane_congr {h : Hall} {u v : Used} (s : Stand) (huv : ∀ p, p ∈ u ↔ p ∈ v) : wane h u s = wane h v s := by
  have e1 : ∀ i j x, wane1 h u i j x = wane1 h v i j x := fun i j x => by
    unfold wane1
    by_cases q : (i, j) ∈ u
    · rw [if_pos q, if_pos ((huv _).mp q)]
    · rw [if_neg q, if_neg fun z => q ((huv _).mpr z)]
  have e2 : ∀ i r, waneR h u i r = waneR h v i r := fun i r => by
    unfold waneR
    exact List.map_congr_left fun p _ => e1 _ _ _
  unfold wane
  exact List.map_congr_left fun p _ => e2 _ _
theorem free_four {h : Hall} {m m2 : Meet} (h1 : m.one ≠ m2.one) (h2 : m.one ≠ m2.other) (h3 : m.other ≠ m2.one) (h4 : m.other ≠ m2.other) (s : Stand) : behind h s [m, m2] = behind h s [m2, m] := by
  have key : (run h s [m, m2]).1 = (run h s [m2, m]).1 ∧ ∀ p, p ∈ (run h s [m, m2]).2 ↔ p ∈ (run h s [m2, m]).2 := by
    show (turn h (turn h (s, []) m) m2).1 = (turn h (turn h (s, []) m2) m).1 ∧ ∀ p, p ∈ (turn h (turn h (s, []) m) m2).2 ↔ p ∈ (turn h (turn h (s, []) m2) m).2
    have g1 := lesson_taught (h := h) (s := s) h3 h4
    have g2 := lesson_taught (h := h) (s := s) (m := m2) (m2 := m) (Ne.symm h2) (Ne.symm h4)
    have g3 := taught_comm (h := h) (s := s) h4
    unfold turn
    by_cases a : lesson h s m = true <;> by_cases b : lesson h s m2 = true <;> simp only [a, b, g1, g2, if_true, if_false, Bool.false_eq_true]
    · refine ⟨g3, fun p => ?_⟩
      simp only [List.nil_append, List.mem_append, List.mem_cons, List.not_mem_nil, or_false]
      exact or_comm
    · simp
    · simp
    · simp
  unfold behind
  rw [key.1]
  exact wane_congr _ key.2
end PL

/-! Ends of orders; free meetings. -/
namespace PL
open PySem PySem.Spec PyProof.Rows L2 RZ MA
local macro_rules | `(tactic| walk_at "pl1") => `(tactic| first | with_reducible refine ws_seq ?_ | with_reducible refine ws_ret ?_ | with_reducible refine ws_asg ?_ | with_reducible refine ws_dropC ?_ | ((with_reducible refine ws_app (a := ?a1) (xs := ?x1) ?h1 ?_); (case h1 => rfl)) | with_reducible refine ws_if ?_ | ((with_reducible refine we_d (x := ?x1) ?h1 ?_); (case h1 => rfl)) | ((with_reducible refine we_own (c := ?c1) (a := ?a1) ?h1 ?h2 ?_); (case h1 => rfl); (case h2 => rfl)) | ((fail_if_success (with_reducible refine we_all ?_ ?_)); with_reducible refine we_cb ?_) | with_reducible refine wa_cons ?_ | with_reducible refine wa_nil ?_ | with_reducible refine we_int ?_ | with_reducible refine we_bl ?_ | with_reducible refine we_non ?_ | with_reducible refine we_str ?_ | with_reducible refine we_cv ?_ | with_reducible refine we_op ?_ | with_reducible refine we_un ?_ | with_reducible refine we_andV ?_ | with_reducible refine we_orV ?_ | with_reducible refine we_notV ?_ | with_reducible refine we_chain ?_ | with_reducible refine we_tupU ?_ | with_reducible refine we_if ?_ | with_reducible refine wt_test ?_ | with_reducible refine wt_B ?_ | with_reducible refine wt_and ?_ | with_reducible refine wt_or ?_ | with_reducible refine wt_not ?_ | with_reducible refine we_sl ?_ | with_reducible refine wo_none ?_ | with_reducible refine wo_intC ?_ | ((with_reducible refine wo_var (i := ?i1) ?h1 ?_); (case h1 => rfl)) | ((with_reducible refine wo_suc (i := ?i1) ?h1 ?_); (case h1 => rfl)) | ((fail_if_success ((with_reducible refine we_callP (wa_cons (we_own (c := ?c1) (a := ?a1) ?h1 ?h2 ?_))); (case h1 => rfl); (case h2 => rfl))); with_reducible refine we_callP ?_) | with_reducible refine w2_bl ?_ | with_reducible refine w2_int ?_ | with_reducible refine wu_add ?_ | ((with_reducible refine wu_ixT (d := ?d1) ?h1 ?_); (case h1 => rfl)) | ((with_reducible refine wu_ixL (a := R.own ?a1) (xs := ?x1) (d := ?d1) ?h0 ?h1 ?_); (case h0 => (refine .inr (.inr ⟨_, 0, rfl, ?_⟩); rfl)); (case h1 => rfl)) | with_reducible refine wu_slT ?_ | with_reducible refine wk_lenT ?_ | with_reducible refine wk_min ?_ | with_reducible refine wk_max ?_ | with_reducible refine wg_name ?_ | with_reducible refine wgs_nil ?_ | with_reducible refine wgs_consD ?_ | with_reducible refine wgs_nilD ?_ | with_reducible refine wgs_cons ?_ | ((with_reducible refine wg_tup ?h1 ?_); (case h1 => rfl)))
local macro_rules | `(tactic| walk_at "pl") => `(tactic| repeat (walk_at "pl1"))
local macro_rules | `(tactic| walk_at "fin") => `(tactic| repeat' (first | exact trivial | refine And.intro ?_ ?_))
section
variable {K : PySem.W.Frag} {P : Program} {w : World}
/-- what ends tells: all stands behind orders, once each, rising -/
def EndsOf (h : Hall) (s : Stand) (b : Beat) (ks : List NestedKey) : Prop := ks.Nodup ∧ (∀ k, k ∈ ks ↔ ∃ o ∈ permsOf b, k = keyS (behind h s o)) ∧ ks.Pairwise (fun a b => leK a b = true)
def W_ends : PW := fun cs Po => ∃ (h : Hall) (s : Stand) (b : Beat), HallOk h ∧ StandOk h s ∧ BeatOk h b ∧ cs = [.d (encHall h), .d (encStand s), .d (encBeat b)] ∧ ∀ q ks e, EndsOf h s b ks → Po (.c (.l q (ks.map kd))) e
theorem perm_ok {h : Hall} {b o : Beat} (hb : BeatOk h b) (ho : o ∈ permsOf b) : BeatOk h o := by
  have pm := (perms_iff b.length b o rfl).mp ho
  exact ⟨by rw [pm.length_eq]; exact hb.len, fun m hm => hb.all m (pm.mem_iff.mp hm)⟩
theorem hasD_iff (kvs : List (NestedKey × DD)) (k : NestedKey) : hasD kvs k = true ↔ k ∈ kvs.map (·.1) := by
  unfold hasD
  rw [List.any_eq_true, List.mem_map]
  constructor
  · rintro ⟨p, hp, e⟩
    exact ⟨p, hp, of_decide_eq_true e⟩
  · rintro ⟨p, hp, e⟩
    exact ⟨p, hp, decide_eq_true e⟩
theorem putD_keys (kvs : List (NestedKey × DD)) (k : NestedKey) (d : DD) : (putD kvs k d).map (·.1) = if hasD kvs k then kvs.map (·.1) else kvs.map (·.1) ++ [k] := by
  unfold putD hasD
  by_cases q : kvs.any (fun p => decide (p.1 = k))
  · rw [if_pos q, if_pos q, List.map_map]
    apply List.map_congr_left
    intro p _
    simp only [Function.comp]
    split <;> rfl
  · rw [if_neg q, if_neg q, List.map_append]
    rfl
theorem putAll_keys (key : Nat → NestedKey) (f : Nat → DD) : ∀ n, ((putAll key f n).map (·.1)).Nodup ∧ ∀ k, k ∈ (putAll key f n).map (·.1) ↔ ∃ i, i < n ∧ k = key i
  | 0 => ⟨List.nodup_nil, fun k => by simp [putAll]⟩
  | n + 1 => by
    obtain ⟨h1, h2⟩ := putAll_keys key f n
    rw [putAll_succ, putD_keys]
    by_cases q : hasD (putAll key f n) (key n) = true
    · rw [if_pos q]
      refine ⟨h1, fun k => (h2 k).trans ⟨fun ⟨i, hi, e⟩ => ⟨i, by omega, e⟩, fun ⟨i, hi, e⟩ => ?_⟩⟩
      rcases Nat.lt_or_ge i n with z | z
      · exact ⟨i, z, e⟩
      · obtain rfl : i = n := by omega
        rw [e]
        exact (h2 _).mp ((hasD_iff _ _).mp q)
    · rw [if_neg q]
      have hn : key n ∉ (putAll key f n).map (·.1) := fun z => q ((hasD_iff _ _).mpr z)
      refine ⟨List.nodup_append.mpr ⟨h1, List.nodup_cons.mpr ⟨by simp, List.nodup_nil⟩, fun a ha b hb e => ?_⟩, fun k => ?_⟩
      · rw [List.mem_singleton.mp hb] at e
        rw [e] at ha
        exact hn ha
      · rw [List.mem_append, h2 k, List.mem_singleton]
        constructor
        · rintro (⟨i, hi, e⟩ | e)
          · exact ⟨i, by omega, e⟩
          · exact ⟨n, by omega, e⟩
        · rintro ⟨i, hi, e⟩
          rcases Nat.lt_or_ge i n with z | z
          · exact .inl ⟨i, z, e⟩
          · obtain rfl : i = n := by omega
            exact .inr e
theorem behind_ne {h : Hall} {s : Stand} {b : Beat} (hh : HallOk h) (hs : StandOk h s) (hb : ∀ m ∈ b, MeetOk h m) : behind h s b ≠ [] := by
  intro e
  have := (behind_ok hh hs hb).len
  rw [e] at this
  have := hh.folk
  simp at *
  omega
/-- ends -/
def rd_ends (K : PySem.W.Frag) (P : Program) (w : World) : TS :=
    (tSeq (tDrop (tCall (spW K P w W_need_hall) [] E0 (tCons (tVar 0) tNil)))
    (tSeq (tDrop (tCall (spW K P w W_need_stand) [] E0 (tCons (tVar 0) (tCons (tVar 1) tNil))))
    (tSeq (tDrop (tCall (spW K P w W_need_beat) [] E0 (tCons (tVar 0) (tCons (tVar 2) tNil))))
    (tRet (tCB (rSortedU K P w) (tCons (tDcN K P w (iSeqU K (tCall (spW K P w (W_orders_of 4)) [] E0 (tCons (tVar 2) tNil))) (gName 3) (tCall (spW K P w W_behind) [] E0 (tCons (tVar 0) (tCons (tVar 1) (tCons (tVar 3) tNil)))) (tC (.bl true)) [3]) tNil))))))
theorem ws_ends : WSok K P w (rd_ends K P w) 4 W_ends := by
  rintro cs Po ⟨h, s, b, hh, hs, hb, rfl, p⟩
  unfold rd_ends
  walk_at "pl"
  refine ⟨_, rfl, h, hh, rfl, fun _ => ?_⟩
  walk_at "pl"
  refine ⟨_, rfl, h, s, hh, hs, rfl, fun _ => ?_⟩
  walk_at "pl"
  refine ⟨_, rfl, h, b, hh, hb, rfl, fun _ => ?_⟩
  walk_at "pl"
  have hlen : (permsOf b).length ≤ 256 := by
    have h4 := hb.len
    refine Nat.le_trans (perms_len b.length b rfl) ?_
    exact Nat.le_trans (Nat.pow_le_pow_left h4 _) (Nat.pow_le_pow_right (by omega) h4)
  refine we_dcN (gin_name (by decide)) (wu_seqL ?_)
  walk_at "pl"
  refine ⟨_, rfl, b, hb.len, hb.len, rfl, fun _ => ⟨_, rfl, by rw [List.length_map]; omega, own1 rfl, fun k => keyS (behind h s ((permsOf b).getD k [])), fun _ => .bool true, fun k x hx => ?_, fun a => ?_⟩⟩
  · obtain ⟨o, ho, rfl⟩ := get_map hx
    have eo : (permsOf b).getD k [] = o := getD_of ho
    walk_at "pl"
    refine ⟨_, rfl, h, s, o, hh, hs, perm_ok hb (List.mem_of_getElem? ho), rfl, fun _ => ⟨?_, ⟨_, rfl⟩, (keyS_ok _).2, ?_⟩⟩
    · simp only [eo]
      rw [kd_keyS]
    · walk_at "pl"
      exact ⟨rfl, rfl⟩
  · rw [List.length_map]
    obtain ⟨n1, n2⟩ := putAll_keys (fun k => keyS (behind h s ((permsOf b).getD k []))) (fun _ => PyData.bool true) (permsOf b).length
    have mem : ∀ k, k ∈ (putAll (fun k => keyS (behind h s ((permsOf b).getD k []))) (fun _ => PyData.bool true) (permsOf b).length).map (·.1) ↔ ∃ o ∈ permsOf b, k = keyS (behind h s o) := fun k => (n2 k).trans ⟨fun ⟨i, hi, e⟩ => ⟨_, List.mem_of_getElem? (getD_at (d := []) hi), e⟩, fun ⟨o, ho, e⟩ => by
      obtain ⟨i, hi, e2⟩ := List.getElem_of_mem ho
      exact ⟨i, hi, by rw [e, getD_of (show (permsOf b)[i]? = some o by rw [List.getElem?_eq_getElem hi, e2])]⟩⟩
    have sk : SortK ((putAll (fun k => keyS (behind h s ((permsOf b).getD k []))) (fun _ => PyData.bool true) (permsOf b).length).map (·.1)) := by
      have sk0 := sortK_stands (f := fun o => behind h s o) (xs := permsOf b) fun o ho => behind_ne hh hs (perm_ok hb ho).all
      have inn : ∀ k, k ∈ (putAll (fun k => keyS (behind h s ((permsOf b).getD k []))) (fun _ => PyData.bool true) (permsOf b).length).map (·.1) → k ∈ (permsOf b).map fun o => keyS (behind h s o) := fun k hk => by
        obtain ⟨o, ho, e⟩ := (mem k).mp hk
        exact List.mem_map.mpr ⟨o, ho, e.symm⟩
      exact ⟨fun k hk => sk0.whole k (inn k hk), fun k hk k' hk' => sk0.like k (inn k hk) k' (inn k' hk'), fun k hk => sk0.some_ k (inn k hk)⟩
    walk_at "pl"
    refine wk_sortedD sk fun q ks pm pw => ?_
    exact ⟨⟨trivial, trivial, trivial, trivial⟩, p _ _ _ ⟨pm.nodup_iff.mpr n1, fun k => pm.mem_iff.trans (mem k), pw⟩⟩
def W_are_free : PW := fun cs Po => ∃ (h : Hall) (m m2 : Meet), HallOk h ∧ manyOf h ≤ 2000 ∧ MeetOk h m ∧ MeetOk h m2 ∧ cs = [.d (encHall h), .d (encMeet m), .d (encMeet m2)] ∧ ∀ e, Po (.c (.d (.bool (freeB h m m2)))) e
/-- are_free -/
def rd_are_free (K : PySem.W.Frag) (P : Program) (w : World) : TS :=
    (tSeq (tDrop (tCall (spW K P w W_need_hall) [] E0 (tCons (tVar 0) tNil)))
    (tSeq (tDrop (tCall (spW K P w W_need_meeting) [] E0 (tCons (tVar 0) (tCons (tVar 1) tNil))))
    (tSeq (tDrop (tCall (spW K P w W_need_meeting) [] E0 (tCons (tVar 0) (tCons (tVar 2) tNil))))
    (tSeq (tAsg (tTup (tCons (tTup (tCons (tVar 1) (tCons (tVar 2) tNil))) (tCons (tTup (tCons (tVar 2) (tCons (tVar 1) tNil))) tNil))) (gTup K 2 (gCons (gName 3) (gCons (gName 4) gNil))))
    (tRet (tCB (rAll K) (tCons (tLc (iSeqU K (tCall (spW K P w W_all_stands) [] E0 (tCons (tVar 0) tNil))) (gName 5) tYes (tOp (rEqD K) (tCall (spW K P w W_behind) [] E0 (tCons (tVar 0) (tCons (tVar 5) (tCons (tVar 3) tNil)))) (tCall (spW K P w W_behind) [] E0 (tCons (tVar 0) (tCons (tVar 5) (tCons (tVar 4) tNil))))) [5]) tNil)))))))
theorem ws_are_free : WSok K P w (rd_are_free K P w) 6 W_are_free := by
  rintro cs Po ⟨h, m, m2, hh, hmany, hm, hm2, rfl, p⟩
  have pairOk : ∀ a c : Meet, MeetOk h a → MeetOk h c → BeatOk h [a, c] := fun a c ha hc => ⟨by simp, fun x hx => by
    rcases List.mem_cons.mp hx with z | z
    · rw [z]; exact ha
    · rw [List.mem_singleton.mp z]; exact hc⟩
  unfold rd_are_free
  walk_at "pl"
  refine ⟨_, rfl, h, hh, rfl, fun _ => ?_⟩
  walk_at "pl"
  refine ⟨_, rfl, h, m, hh, hm, rfl, fun _ => ?_⟩
  walk_at "pl"
  refine ⟨_, rfl, h, m2, hh, hm2, rfl, fun _ => ?_⟩
  walk_at "pl"
  refine ⟨_, rfl, by simp, ?_⟩
  walk_at "pl"
  refine ⟨_, rfl, by simp, ?_⟩
  walk_at "pl"
  refine ⟨_, rfl, by simp, ?_⟩
  walk_at "pl"
  have hlen : (standsOf h).length ≤ 2000 := by
    unfold standsOf
    rw [standsBy_len]
    exact hmany
  refine we_all (gin_name (by decide)) (wu_seqL ?_)
  walk_at "pl"
  refine ⟨_, rfl, h, hh, hmany, rfl, fun _ => ⟨_, rfl, by rw [List.length_map]; omega, own1 rfl, fun k => decide (behind h ((standsOf h).getD k []) [m, m2] = behind h ((standsOf h).getD k []) [m2, m]), fun k x hx => ?_, ?_⟩⟩
  · obtain ⟨s, hs, rfl⟩ := get_map hx
    have hso := standsOf_ok hh (List.mem_of_getElem? hs)
    have es : (standsOf h).getD k [] = s := getD_of hs
    walk_at "pl"
    refine ⟨_, rfl, h, s, [m, m2], hh, hso, pairOk m m2 hm hm2, rfl, fun _ => ?_⟩
    walk_at "pl"
    refine ⟨_, rfl, h, s, [m2, m], hh, hso, pairOk m2 m hm2 hm, rfl, fun _ => ?_⟩
    refine w2_eqD .dat .dat (nice_stand.shaped (by omega) _) (nice_stand.shaped (by omega) _) ⟨?_, rfl⟩
    rw [nice_stand.eq]
    simp only [es]
  · rw [List.length_map]
    have e := all_range (f := fun s => decide (behind h s [m, m2] = behind h s [m2, m])) (standsOf h) []
    refine ⟨⟨trivial, trivial, trivial, trivial⟩, ?_⟩
    have := p
    unfold freeB at this
    rw [← e] at this
    exact this _
end
end PL

/-! Defs that raise an own error with one field. -/
namespace PL
open PySem PySem.Spec PyProof.Rows L2 RZ
/-- the way out that a raise asks for -/
def Out1 (C : Addr) (f : Str) (v : V) (E : XK) : Prop := ∀ (H : Hp) (d : Addr), H d = none → E (.ref C) (some d) (upd H d (.xd [(f, v)]))
/-- __init__(self, v): self.f = v -/
def spI (C : Addr) (f : Str) : Sp := fun vs H Q _ => ∃ (a : Addr) (v : V), vs = [.ref a, v] ∧ H a = some (exo a C none) ∧ ∀ dx, H dx = none → dx ≠ a → Q .non (upd (upd H dx (exd dx [(f, v)])) a (exo a C (some dx)))
def tInit (K : PySem.W.Frag) (f : Str) : TS := tOst K f (tVar 0) (tVar 1)
theorem init_ok {K : PySem.W.Frag} {C : Addr} {f : Str} (T : OexC K C) (hno : PySem.W.findIn K (.ref C) f = some none) {vs : List V} {H : Hp} {Q : VK} {E : XK} (h : spI C f vs H Q E) (N : List Str) (hN : N.length = 2) : tInit K f { nx := fun _ H' => Q .non H', rt := Q } (L2.start N vs) H := by
  obtain ⟨a, v, rfl, ha, q⟩ := h
  have e : L2.start N [V.ref a, v] = [some (.ref a), some v] := by
    unfold L2.start
    simp [hN]
  rw [e]
  exact ⟨v, rfl, .ref a, rfl, a, C, rfl, T, hno, .inl ⟨ha, fun dx h1 h2 => q dx h1 h2⟩⟩
/-- raise C(e) -/
def tRz (E : XK) (C : Addr) (f : Str) (ta : TA) : TS := fun _ σ H => tMkO C (spI C f) [] ta σ H fun cls d H' => E cls d H'
section
variable {X : Cx} {e : Expr} {es : List Expr} {ta : TA} {p pos : Pos}
/-- C(e): the object's context is None -/
theorem pmkN {CX : CXT} {x f : Str} {C fI : Addr} {k : Nat} {fd : FuncData} {ps : List Str} (T : OexC X.K C) (iC : PySem.W.findIn X.K (.ref C) "__init__" = some (some (.ref fI))) (tI : PySem.W.typeIn X.K (.ref fI) = some (.type "function"))
    (F1 : FnOk X.prog X.w X.K X.mg X.base CX k fI fd ps (spI C f)) (hr : Room (k + 1) X.A) (hb : Binds X.K fd ps []) (hx : Passes CX X (fun _ _ _ => False)) (hg : Gl X x) (hm : X.mg x = some (.ref C)) (ha : PA X (e :: es) ta)
    (hdb : (x == ("__debug__" : Str)) = false := by decide) (he : starEach (e :: es) X.env = (false, eval e X.env) :: starEach es X.env := by rfl) (hpl : (backTo pos (starEach es X.env)).any (·.1) = false := by rfl) :
    L2N.PMk X (.Call (.Name x p) (e :: es) [] pos) (tMkO C (spI C f) [] ta) := fun pins s σ H Q I h => by
  obtain ⟨nm, q, N, bs, bm, sn, sub, ab, col, dd, k0, k1, k2, k3, k5, hC, hbm⟩ := T.cls
  refine wpAny_Call_Name_kw (ld_glob I hg hm (PySem.W.callWith_K (h₀ := X.base) I.ok.mod.kin T.kC (thn (ha.run pos pins s σ H _ I h) fun us z ⟨vs, H1, I1, r1, hz, q1⟩ => ⟨I1.kIn, ?_⟩) he hpl) hdb)
  show wpAny _ _ (call (.ref C) us) _ _ _
  obtain ⟨hp, g, dr, tk, os⟩ := z
  have up1 : hp.objs.size ≤ hp.objs.size + 1 := Nat.le_succ _
  have go := q1 (hp.objs.size + 1) (I1.hok.fresh up1)
  have kk : ∀ b o, hp.get? b = some o → ((hp.push (PySem.W.kdv_tup us)).push (PySem.HandSPX.excO C hp.objs.size)).get? b = some o := fun b o e => Heap.get?_push_of_some _ (Heap.get?_push_of_some _ e)
  have at_ : ((hp.push (PySem.W.kdv_tup us)).push (PySem.HandSPX.excO C hp.objs.size)).get? (hp.objs.size + 1) = some (PySem.HandSPX.excO C hp.objs.size) := by heap_get
  have I2 : Inv X pins σ (upd H1 (hp.objs.size + 1) (exo (hp.objs.size + 1) C none)) ⟨(hp.push (PySem.W.kdv_tup us)).push (PySem.HandSPX.excO C hp.objs.size), g, dr, tk, os⟩ := I1.laid (t' := tk) kk up1 (exo_ok at_)
  rw [List.append_nil] at go
  have r2 : Vals (V.ref (hp.objs.size + 1) :: vs) (Value.ref (hp.objs.size + 1) :: us) := .cons rfl r1
  have hl : (Value.ref (hp.objs.size + 1) :: us ++ []).length = ps.length := by rw [List.append_nil]; exact r2.length.symm.trans (F1.len _ _ _ _ go)
  have bt := hb _ (Value.ref (hp.objs.size + 1) :: us) I2.kIn hl
  rw [List.append_nil] at bt
  refine wpAny_call (PySem.HandSPX.call_own F.excBase_ValueError (fun Y => PySem.HandSPX.refsVE_contains Y bm hbm) (I1.kIn _ _ hC) (PySem.W.looks_findIn I1.kIn iC) (fun self => PySem.W.bind_fn I1.kIn self tI) (by rw [← Paired.length r1, sizeLine_eq]; omega)
    (codeAny_mono (F1.run _ X.stack _ _ ⟨Value.ref (hp.objs.size + 1) :: us, []⟩ (Value.ref (hp.objs.size + 1) :: us) _ _ (fun _ _ _ => False) (hr.make C us []) (I2.env0.make C us []) bt r2 go) fun r z2 hq => ?_))
  cases r with
  | error er => exact hx pins σ _ _ er z2 I2 hq
  | ok fl =>
    cases fl with
    | ret u =>
      obtain ⟨v, H2, os2, bare2, un2, hok2, rv, ev, d, fs, ea, ed, hd1, q2⟩ := hq
      subst ev
      obtain ⟨h2, g2, d2, t2, os'⟩ := z2
      obtain ⟨t0, G, J, kG, ge, hoe, na⟩ := mk_end0 (d2 := d2) (t2 := t2) I1 up1 kk un2 hok2 os2 bare2 ea ed hd1
      exact ⟨rv, _, _, _, ⟨G, g2, d2, t2, os'⟩, _, .ref C, some d, rfl, J, kG, ge, hoe, ⟨rfl, rfl, fun vs e => by cases e; rfl⟩, rfl, rfl, na, rfl, bare2, raises_own T.exC T.tyC, q2⟩
    | _ => exact False.elim hq
end
end PL

/-! The rules for defs that raise. -/
namespace PL
open PySem PySem.Spec PyProof.Rows L2 RZ
abbrev CW := List C → Prop
section
variable {K : PySem.W.Frag} {P : Program} {w : World} {mg : Str → Option Value} {base : Heap}
variable (K P w) in
def spX (W : CW) (Ce : Addr) (fld : Str) (v : V) : Sp := fun vs H _ E => ∃ (cs : List C) (G : Hp), W cs ∧ vs.length = cs.length ∧ Rep K P w cs (vs.map some) G H ∧ Out1 Ce fld v E
def NoEnd : PD := { nx := fun _ => False, rt := fun _ _ => False }
theorem fnX {x qual : Str} {st : Stmt} {f : Addr} {fd : FuncData} {N ps : List Str} {k : Nat} {W : CW} {Ce : Addr} {fld : Str} {v : V} (F1 : Fun K x qual st f fd) (S : FnScope N ps (defScope st)) (hl : ∀ cs, W cs → cs.length = ps.length)
    (hbody : ∀ (cdv : Value) (A : Around) (outer : List Env) (s : Shared) (H : Hp) (E : XK), Room k (A.deeper (envOfC qual (defScope st) s.heap.objs.size f cdv)) →
      ∃ t, PSs (cxOf (L2N.CX P w) P w K mg base N qual (defScope st) f cdv A outer s H E) (defBody st) t ∧ ∀ cs, W cs → Out1 Ce fld v E → WS K P w t (cs ++ List.replicate (N.length - cs.length) .no) NoEnd) :
    FnOk P w K mg base (L2N.CX P w) (k + 1) f fd ps (spX K P w W Ce fld v) := by
  obtain ⟨oc, od, kV, doc, pm, an, cdv, ct, osl, rfl, lk, hcd⟩ := F1.ex
  refine fn_of lk hcd S (fun vs H Q E ⟨cs, G, hW, h1, _⟩ => h1.trans (hl cs hW)) fun A outer s H vs Q E hr ⟨cs, G, hW, h1, rp, ho⟩ => ?_
  obtain ⟨t, ht, hw⟩ := hbody _ A outer s H E hr
  refine ⟨t, ht, ?_⟩
  obtain ⟨r1, s1⟩ := start_rep (N := N) h1 rp
  exact hw cs hW ho (L2.start N vs) G H r1 _ ⟨fun _ _ _ _ z => z.elim, fun _ _ _ _ _ _ z => z.elim, fun _ _ _ _ z => z.elim, fun _ _ _ _ z => z.elim⟩
/-- raise C(e), e data -/
theorem ws_raise {env : List C} {E : XK} {Ce : Addr} {fld : Str} {v : V} {te : TE} {Po : PD} (ho : Out1 Ce fld v E) (h : ∀ σ H Q, Q v H → te σ H Q) : WS K P w (tRz E Ce fld (tCons te tNil)) env Po := fun σ G H rp D o =>
  h σ H _ ⟨by simp, fun a ha => ⟨a, v, rfl, upd_same, fun dx h1 h2 => ⟨rfl, dx, [(fld, v)], upd_same, by rw [upd_ne h2, upd_same], by rw [← h1, upd_ne h2], by
    have e : upd (del (upd (upd (upd H a (exo a Ce none)) dx (exd dx [(fld, v)])) a (exo a Ce (some dx))) a) dx (.xd [(fld, v)]) = upd H dx (.xd [(fld, v)]) := by
      funext b
      by_cases hb : b = dx
      · rw [hb, upd_same, upd_same]
      · rw [upd_ne hb, upd_ne hb]
        by_cases hb2 : b = a
        · rw [hb2, del_same, ha]
        · rw [del_ne hb2, upd_ne hb2, upd_ne hb, upd_ne hb2]
    rw [e]
    exact ho H dx (by rw [← h1, upd_ne h2])⟩⟩⟩
/-- a call that raises -/
theorem we_callX {env : List C} {Po : R → List C → Prop} {W : CW} {E : XK} {t : TA} {Ce : Addr} {fld : Str} {v : V} (ho : Out1 Ce fld v E) (h : WA K P w t env fun rs e => ∃ cs, argsD rs = some cs ∧ W cs) : WE K P w (tCall (spX K P w W Ce fld v) [] E t) env Po := fun σ G H rp Q o =>
  h σ G H rp _ fun rs vs e1 G1 H1 ⟨cs, hr, hW⟩ s1 r1 ps fs => by
    obtain ⟨ha, hn⟩ := argsD_ok (env := e1) hr
    obtain ⟨l, q1, q2⟩ := ha.cells r1 ps.all
    have no : ∀ b, ¬ Owns cs b := fun b ⟨i, c, hi, hc⟩ => by
      rw [hn c (List.mem_of_getElem? hi)] at hc; cases hc
    exact ⟨cs, G1, hW, by rw [List.append_nil]; exact l, ⟨by rw [List.append_nil, List.length_map]; exact l, r1.sub, fun i c hi => .inr (by rw [List.append_nil]; exact q1 i c hi), fun i j ci cj a hi hj h1 h2 => absurd ⟨i, ci, hi, h1⟩ (no a)⟩, ho⟩
end
end PL

/-! Halls of too many stands. -/
namespace PL
open PySem PySem.Spec PyProof.Rows L2 RZ MA
local macro_rules | `(tactic| walk_at "pl1") => `(tactic| first | with_reducible refine ws_seq ?_ | with_reducible refine ws_ret ?_ | with_reducible refine ws_asg ?_ | with_reducible refine ws_dropC ?_ | ((with_reducible refine ws_app (a := ?a1) (xs := ?x1) ?h1 ?_); (case h1 => rfl)) | with_reducible refine ws_if ?_ | ((with_reducible refine we_d (x := ?x1) ?h1 ?_); (case h1 => rfl)) | ((with_reducible refine we_own (c := ?c1) (a := ?a1) ?h1 ?h2 ?_); (case h1 => rfl); (case h2 => rfl)) | ((fail_if_success (with_reducible refine we_all ?_ ?_)); with_reducible refine we_cb ?_) | with_reducible refine wa_cons ?_ | with_reducible refine wa_nil ?_ | with_reducible refine we_int ?_ | with_reducible refine we_bl ?_ | with_reducible refine we_non ?_ | with_reducible refine we_str ?_ | with_reducible refine we_cv ?_ | with_reducible refine we_op ?_ | with_reducible refine we_un ?_ | with_reducible refine we_andV ?_ | with_reducible refine we_orV ?_ | with_reducible refine we_notV ?_ | with_reducible refine we_chain ?_ | with_reducible refine we_tupU ?_ | with_reducible refine we_if ?_ | with_reducible refine wt_test ?_ | with_reducible refine wt_B ?_ | with_reducible refine wt_and ?_ | with_reducible refine wt_or ?_ | with_reducible refine wt_not ?_ | with_reducible refine we_sl ?_ | with_reducible refine wo_none ?_ | with_reducible refine wo_intC ?_ | ((with_reducible refine wo_var (i := ?i1) ?h1 ?_); (case h1 => rfl)) | ((with_reducible refine wo_suc (i := ?i1) ?h1 ?_); (case h1 => rfl)) | ((fail_if_success ((with_reducible refine we_callP (wa_cons (we_own (c := ?c1) (a := ?a1) ?h1 ?h2 ?_))); (case h1 => rfl); (case h2 => rfl))); with_reducible refine we_callP ?_) | with_reducible refine w2_bl ?_ | with_reducible refine w2_int ?_ | with_reducible refine wu_add ?_ | ((with_reducible refine wu_ixT (d := ?d1) ?h1 ?_); (case h1 => rfl)) | ((with_reducible refine wu_ixL (a := R.own ?a1) (xs := ?x1) (d := ?d1) ?h0 ?h1 ?_); (case h0 => (refine .inr (.inr ⟨_, 0, rfl, ?_⟩); rfl)); (case h1 => rfl)) | with_reducible refine wu_slT ?_ | with_reducible refine wk_lenT ?_ | with_reducible refine wk_min ?_ | with_reducible refine wk_max ?_ | with_reducible refine wg_name ?_ | with_reducible refine wgs_nil ?_ | with_reducible refine wgs_consD ?_ | with_reducible refine wgs_nilD ?_ | with_reducible refine wgs_cons ?_ | ((with_reducible refine wg_tup ?h1 ?_); (case h1 => rfl)))
local macro_rules | `(tactic| walk_at "pl") => `(tactic| repeat (walk_at "pl1"))
local macro_rules | `(tactic| walk_at "fin") => `(tactic| repeat' (first | exact trivial | refine And.intro ?_ ?_))
section
variable {K : PySem.W.Frag} {P : Program} {w : World}
def W_all_over : CW := fun cs => ∃ (h : Hall), HallOk h ∧ 2000 < manyOf h ∧ cs = [.d (encHall h)]
/-- all_stands, raising; E: what its caller wishes -/
def rx_all_stands (K : PySem.W.Frag) (P : Program) (w : World) (Ce : Addr) (E : XK) : TS :=
    (tSeq (tAsg (tC (.int 1)) (gName 1))
    (tSeq (tFor (iSeqU K (tOp (rIxU K P w) (tVar 0) (tC (.int 1)))) (gName 2)
    (tFor (iRng1 (tCons (tOp (rIxU K P w) (tVar 0) (tC (.int 0))) tNil)) (gName 3)
    (tAug 1 (tOp (rAddU K) (tOp (rIxU K P w) (tVar 2) (tC (.int 2))) (tC (.int 1))) (rI CMul fun i j => .int (i * j)))))
    (tSeq (tIfS (tTest (tOp (rI0 fun i j => .bl (decide (j < i))) (tVar 1) (tC (.int 2000)))) (tRz E Ce "most" (tCons (tC (.int 2000)) tNil)) tNext)
    (tSeq (tAsg (tLst (tCons (tTup tNil) tNil)) (gName 4))
    (tSeq (tFor (iSeqU K (tOp (rIxU K P w) (tVar 0) (tC (.int 1)))) (gName 2)
    (tAsg (tLc2 (iSeqU K (tVar 4)) (gName 5) tYes (iRng1 (tCons (tOp (rAddU K) (tOp (rIxU K P w) (tVar 2) (tC (.int 2))) (tC (.int 1))) tNil)) (gName 6) tYes (tOp (rAddU K) (tVar 5) (tTup (tCons (tVar 6) tNil))) [5, 6] [6]) (gName 4)))
    (tSeq (tAsg (tLst (tCons (tTup tNil) tNil)) (gName 7))
    (tSeq (tFor (iRng1 (tCons (tOp (rIxU K P w) (tVar 0) (tC (.int 0))) tNil)) (gName 3)
    (tAsg (tLc2 (iSeqU K (tVar 7)) (gName 8) tYes (iSeqU K (tVar 4)) (gName 5) tYes (tOp (rAddU K) (tVar 8) (tTup (tCons (tVar 5) tNil))) [8, 5] [5]) (gName 7)))
    (tRet (tVar 7)))))))))
theorem wx_all_stands {Ce : Addr} {E : XK} : ∀ cs, W_all_over cs → Out1 Ce "most" (.int 2000) E → WS K P w (rx_all_stands K P w Ce E) (cs ++ List.replicate (9 - cs.length) .no) NoEnd := by
  rintro cs ⟨h, hh, hmany, rfl⟩ ho
  have hf := hh.folk
  have hm := hh.many
  unfold rx_all_stands
  walk_at "pl"
  refine ws_for (wu_seqT ?_)
  walk_at "pl"
  refine ⟨_, rfl, fun k e => ∃ c2 c3, e = [.d (encHall h), .d (.int (manyBy h.folk (h.things.take k) : Nat)), c2, c3, .no, .no, .no, .no, .no] ∧ c2.own = none ∧ c3.own = none, ⟨.no, .no, by unfold manyBy rowsBy; rw [List.take_zero]; show _ = [C.d (encHall h), C.d (.int ((1 ^ h.folk : Nat) : Int)), _, _, _, _, _, _, _]; rw [Nat.one_pow]; rfl, rfl, rfl⟩, fun k x e hx => ?_, fun e => ?_⟩
  · rintro ⟨c2, c3, rfl, h2, h3⟩
    obtain ⟨l, hl, rfl⟩ := get_map hx
    have hcap := capN_le (hh.lore k l hl)
    dsimp only
    rw [manyBy_succ h.folk hl]
    walk_at "pl"
    refine ws_for (wi_range1 ?_)
    walk_at "pl"
    refine ⟨_, rfl, by omega, by omega, fun t e => ∃ c3, e = [.d (encHall h), .d (.int ((manyBy h.folk (h.things.take k) * capN l ^ t : Nat) : Int)), .d (encLore l), c3, .no, .no, .no, .no, .no] ∧ c3.own = none, ⟨c3, by rw [Nat.pow_zero, Nat.mul_one]; rfl, h3⟩, fun t x e hx => ?_, fun e => ?_⟩
    · rintro ⟨c3, rfl, h3⟩
      obtain ⟨t', ht, rfl⟩ := get_map hx
      walk_at "pl"
      refine ws_aug (x := .int ((manyBy h.folk (h.things.take k) * capN l ^ t : Nat) : Int)) rfl ?_
      walk_at "pl"
      refine w2_intC (.inr ⟨by omega, by omega⟩) ⟨_, rfl, .d (.int (t' : Nat)), ?_, rfl⟩
      rw [Nat.pow_succ, ← Nat.mul_assoc, ← hcap.2.2, Int.natCast_mul]
      rfl
    · rintro ⟨c3, rfl, h3⟩
      refine ⟨.d (encLore l), c3, ?_, rfl, h3⟩
      rw [List.length_map, List.length_range]
      rfl
  · rintro ⟨c2, c3, rfl, h2, h3⟩
    dsimp only
    rw [List.length_map, List.take_length]
    have hM : manyBy h.folk h.things = manyOf h := rfl
    rw [hM]
    walk_at "pl"
    refine ⟨_, rfl, (fun _ => ws_raise ho fun σ H Q q => q), fun hq => ?_⟩
    have := of_decide_eq_false hq
    omega
def W_free_over : CW := fun cs => ∃ (h : Hall) (m m2 : Meet), HallOk h ∧ 2000 < manyOf h ∧ MeetOk h m ∧ MeetOk h m2 ∧ cs = [.d (encHall h), .d (encMeet m), .d (encMeet m2)]
/-- are_free, raising; E: what its caller wishes -/
def rx_are_free (K : PySem.W.Frag) (P : Program) (w : World) (Ce : Addr) (E : XK) : TS :=
    (tSeq (tDrop (tCall (spW K P w W_need_hall) [] E0 (tCons (tVar 0) tNil)))
    (tSeq (tDrop (tCall (spW K P w W_need_meeting) [] E0 (tCons (tVar 0) (tCons (tVar 1) tNil))))
    (tSeq (tDrop (tCall (spW K P w W_need_meeting) [] E0 (tCons (tVar 0) (tCons (tVar 2) tNil))))
    (tSeq (tAsg (tTup (tCons (tTup (tCons (tVar 1) (tCons (tVar 2) tNil))) (tCons (tTup (tCons (tVar 2) (tCons (tVar 1) tNil))) tNil))) (gTup K 2 (gCons (gName 3) (gCons (gName 4) gNil))))
    (tRet (tCB (rAll K) (tCons (tLc (iSeqU K (tCall (spX K P w W_all_over Ce "most" (.int 2000)) [] E (tCons (tVar 0) tNil))) (gName 5) tYes (tOp (rEqD K) (tCall (spW K P w W_behind) [] E0 (tCons (tVar 0) (tCons (tVar 5) (tCons (tVar 3) tNil)))) (tCall (spW K P w W_behind) [] E0 (tCons (tVar 0) (tCons (tVar 5) (tCons (tVar 4) tNil))))) [5]) tNil)))))))
theorem wx_are_free {Ce : Addr} {E : XK} : ∀ cs, W_free_over cs → Out1 Ce "most" (.int 2000) E → WS K P w (rx_are_free K P w Ce E) (cs ++ List.replicate (6 - cs.length) .no) NoEnd := by
  rintro cs ⟨h, m, m2, hh, hmany, hm, hm2, rfl⟩ ho
  unfold rx_are_free
  walk_at "pl"
  refine ⟨_, rfl, h, hh, rfl, fun _ => ?_⟩
  walk_at "pl"
  refine ⟨_, rfl, h, m, hh, hm, rfl, fun _ => ?_⟩
  walk_at "pl"
  refine ⟨_, rfl, h, m2, hh, hm2, rfl, fun _ => ?_⟩
  walk_at "pl"
  refine ⟨_, rfl, by simp, ?_⟩
  walk_at "pl"
  refine ⟨_, rfl, by simp, ?_⟩
  walk_at "pl"
  refine ⟨_, rfl, by simp, ?_⟩
  walk_at "pl"
  refine we_all (gin_name (by decide)) (wu_seqL (we_callX ho (wa_cons ?_)))
  walk_at "pl"
  exact ⟨_, rfl, h, hh, hmany, rfl⟩
end
end PL

/-! Plain facts for k10's law. -/
namespace PL
open PySem PySem.Spec PyProof.Rows L2 RZ MA
theorem ends_eq {h : Hall} {s : Stand} {b : Beat} {ks ls : List NestedKey} (e : EndsOf h s b ks) (nd : ls.Nodup) (m : ∀ k, k ∈ ls ↔ k ∈ (orders b).map fun o => keyS (behind h s o)) (pw : ls.Pairwise (fun a b => leK a b = true)) : ks = ls := by
  obtain ⟨n1, m1, p1⟩ := e
  refine sorted_uniq (fun k hk => ?_) n1 nd (fun k => ?_) p1 pw
  · obtain ⟨o, _, rfl⟩ := (m1 k).mp hk
    exact ⟨_, rfl⟩
  · rw [m1, m, List.mem_map]
    exact ⟨fun ⟨o, ho, e⟩ => ⟨o, (orders_perms b o).mpr ho, e.symm⟩, fun ⟨o, ho, e⟩ => ⟨o, (orders_perms b o).mp ho, e.symm⟩⟩
theorem ends_nil {h : Hall} {s : Stand} {ks : List NestedKey} (e : EndsOf h s [] ks) : ks = [keyS (behind h s [])] := by
  obtain ⟨n1, m1, _⟩ := e
  have m1' : ∀ k, k ∈ ks ↔ k = keyS (behind h s []) := fun k => by
    rw [m1]
    have : permsOf ([] : Beat) = [[]] := rfl
    rw [this]
    simp
  match ks, n1, m1' with
  | [], _, m => exact absurd ((m _).mpr rfl) (by simp)
  | [k], _, m => rw [(m k).mp (by simp)]
  | k :: l :: r, n, m =>
    have a := (m k).mp (by simp)
    have b := (m l).mp (by simp)
    rw [a, b] at n
    simp at n
theorem rowsC_len : ∀ (ls : List Lore) (rows : List (List Int)), (ls.foldl (fun rows l => rowStep rows (capN l)) rows).length = (ls.map (·.cap)).foldl (fun n c => n * (c + 1).toNat) rows.length
  | [], _ => rfl
  | l :: ls, rows => by
    rw [List.foldl_cons, rowsC_len ls, List.map_cons, List.foldl_cons, rowStep_len]
    rfl
def manyC (p : Shape) : Nat := ((p.2.map fun (c : Nat) => (c : Int)).foldl (fun n c => n * (c + 1).toNat) 1) ^ p.1
theorem fits_many {h : Hall} {p : Shape} (f : Fits h p) : manyOf h = manyC p := by
  unfold manyOf manyBy manyC rowsBy
  rw [rowsC_len, f.1, f.2]
  rfl
theorem smalls_many {h : Hall} {p : Shape} (hp : p ∈ smalls) (f : Fits h p) : manyOf h ≤ 100 := by
  rw [fits_many f]
  have : ∀ p ∈ smalls, manyC p ≤ 100 := by decide
  exact this p hp
theorem shapes_small : ∀ p ∈ smalls, ShapeOk p := by
  have h : ∀ p ∈ smalls, (2 ≤ p.1 ∧ p.1 ≤ 4) ∧ (1 ≤ p.2.length ∧ p.2.length ≤ 3) ∧ ∀ c ∈ p.2, 1 ≤ c ∧ c ≤ 3 := by decide
  exact fun p hp => ⟨(h p hp).1, (h p hp).2.1, (h p hp).2.2⟩
theorem shapes_great : ∀ p ∈ greats, ShapeOk p := by
  have h : ∀ p ∈ greats, (2 ≤ p.1 ∧ p.1 ≤ 4) ∧ (1 ≤ p.2.length ∧ p.2.length ≤ 3) ∧ ∀ c ∈ p.2, 1 ≤ c ∧ c ≤ 3 := by decide
  exact fun p hp => ⟨(h p hp).1, (h p hp).2.1, (h p hp).2.2⟩
theorem stands_len (h : Hall) : (standsOf h).length = manyOf h := by
  unfold standsOf
  rw [standsBy_len]
  rfl
def wideH : Hall := ⟨4, [⟨[], 1, 3, 1⟩, ⟨[0], 1, 3, 1⟩]⟩
theorem wide_ok : HallOk wideH := by
  refine ⟨by decide, by decide, fun i l hl => ?_⟩
  rcases i with _ | _ | i
  · cases hl
    exact ⟨by decide, by decide, by decide, by decide, by decide⟩
  · cases hl
    exact ⟨by decide, by decide, by decide, by decide, by decide⟩
  · cases hl
theorem wide_many : 2000 < manyOf wideH := by
  have : Fits wideH (4, [3, 3]) := ⟨rfl, rfl⟩
  rw [fits_many this]
  decide
end PL

/-! len(set(tuple of ints)). -/
namespace PL
open PySem PySem.Spec PyProof.Rows L2 RZ MA
theorem erase_mem_ne {a b : Int} {ys : List Int} (h : b ∈ ys) (n : b ≠ a) : b ∈ ys.erase a := (List.mem_erase_of_ne n).mpr h
theorem nodup_len : ∀ (xs ys : List Int), xs.Nodup → (∀ x ∈ xs, x ∈ ys) → xs.length ≤ ys.length ∧ (xs.length = ys.length → ys.Perm xs)
  | [], ys, _, _ => ⟨Nat.zero_le _, fun e => by
    have : ys = [] := List.length_eq_zero_iff.mp e.symm
    rw [this]⟩
  | x :: xs, ys, nd, sub => by
    have hx : x ∈ ys := sub x List.mem_cons_self
    have nd' := List.nodup_cons.mp nd
    have sub' : ∀ z ∈ xs, z ∈ ys.erase x := fun z hz => erase_mem_ne (sub z (List.mem_cons_of_mem _ hz)) (fun e => nd'.1 (e ▸ hz))
    obtain ⟨h1, h2⟩ := nodup_len xs (ys.erase x) nd'.2 sub'
    have hl := List.length_erase_of_mem hx
    have hp : 0 < ys.length := List.length_pos_of_mem hx
    refine ⟨by rw [List.length_cons]; omega, fun e => ?_⟩
    rw [List.length_cons] at e
    exact (List.perm_cons_erase hx).trans ((h2 (by omega)).cons x)
section
variable {X : Cx}
def tLenSetT (K : PySem.W.Frag) (ta : TE) : TE := fun σ H Q => ta σ H fun x H1 => ∃ (l : Addr) (ns : List Int), x = V.ref l ∧ SqT K H1 l (ns.map V.int) ∧ ns.length < 64 ∧ ∀ c : Nat, c ≤ ns.length → (c = ns.length → ns.Nodup) → Q (.int c) H1
theorem pe_lenSetT {a : Expr} {ta : TE} {p p2 q pos : Pos} (hc : X.calm = true) (hg : Gl X "len") (hm : X.mg "len" = none) (hg2 : Gl X "set") (hm2 : X.mg "set" = none) (ha : PE X a ta)
    (na : starEach [a] X.env = (false, eval a X.env) :: starEach [] X.env := by rfl) : PE X (.Call (.Name "len" p) [.Call (.Name "set" p2) [a] [] q] [] pos) (tLenSetT X.K ta) := by
  refine ⟨fun pins s σ H Q I h => ?_⟩
  refine Call_ (ld_blt I hg hm PySem.boot_len ?_)
  refine PyProof.Rows.callWith_builtin1 (PyProof.Rows.args_cons ?_ rfl) rfl rfl
  refine Call_ (ld_blt I hg2 hm2 PyProof.Rows.boot_set ?_)
  refine PyProof.Rows.callWith_type1 (PyProof.Rows.args_cons (thn (ha.run pins s σ H _ I h) fun v s1 ⟨x, H1, I1, r1, q1⟩ => PyProof.Rows.args_nil ?_) na) na rfl
  obtain ⟨l, ns, rfl, hq, h1, q1⟩ := q1
  cases r1
  obtain ⟨its, rv, pt, hz⟩ := I1.tuple hq
  have hi : IntsAre its.toArray.toList ns := ints_of_vals rv
  refine call_set_tupI ns (I1.ok.hd hc) (show s1.heap.IsTuple l its.toArray from pt) hi (by unfold scanBound; omega) fun h' tk c R1 hcn k => ?_
  refine PyProof.Rows.args_nil ?_
  obtain ⟨o, es, ep, t, ho, hex, hd, hge, hnd, hmem, hsb, hf, hn, hr, hl⟩ := R1
  have I2 : Inv X pins σ H1 { s1 with heap := h', toks := tk } := I1.kept k
  have card : c = ns.length → ns.Nodup := fun e => by
    have z := nodup_len (es.toList.map keyOf) ns hnd fun x hx => by simpa using (hmem x).mpr hx
    have e2 : (es.toList.map keyOf).length = ns.length := by rw [List.length_map, Array.length_toList, hn, e]
    exact (z.2 e2).nodup_iff.mpr hnd
  refine call_len_set ho hex hd hf (by rw [hn] <;> omega) ⟨.int c, H1, I2.tok _, ⟨_, by rw [hn]⟩, q1 c hcn card⟩
end
end PL

/-! k10's law: one turn of the small hall. -/
namespace PL
open PySem PySem.Spec PyProof.Rows L2 RZ MA
local macro_rules | `(tactic| walk_at "pl1") => `(tactic| first | with_reducible refine ws_seq ?_ | with_reducible refine ws_ret ?_ | with_reducible refine ws_asg ?_ | with_reducible refine ws_dropC ?_ | ((with_reducible refine ws_app (a := ?a1) (xs := ?x1) ?h1 ?_); (case h1 => rfl)) | with_reducible refine ws_if ?_ | ((with_reducible refine we_d (x := ?x1) ?h1 ?_); (case h1 => rfl)) | ((with_reducible refine we_own (c := ?c1) (a := ?a1) ?h1 ?h2 ?_); (case h1 => rfl); (case h2 => rfl)) | ((fail_if_success (with_reducible refine we_all ?_ ?_)); with_reducible refine we_cb ?_) | with_reducible refine wa_cons ?_ | with_reducible refine wa_nil ?_ | with_reducible refine we_int ?_ | with_reducible refine we_bl ?_ | with_reducible refine we_non ?_ | with_reducible refine we_str ?_ | with_reducible refine we_cv ?_ | with_reducible refine we_op ?_ | with_reducible refine we_un ?_ | with_reducible refine we_andV ?_ | with_reducible refine we_orV ?_ | with_reducible refine we_notV ?_ | with_reducible refine we_chain ?_ | with_reducible refine we_tupU ?_ | with_reducible refine we_if ?_ | with_reducible refine wt_test ?_ | with_reducible refine wt_B ?_ | with_reducible refine wt_and ?_ | with_reducible refine wt_or ?_ | with_reducible refine wt_not ?_ | with_reducible refine we_sl ?_ | with_reducible refine wo_none ?_ | with_reducible refine wo_intC ?_ | ((with_reducible refine wo_var (i := ?i1) ?h1 ?_); (case h1 => rfl)) | ((with_reducible refine wo_suc (i := ?i1) ?h1 ?_); (case h1 => rfl)) | ((fail_if_success ((with_reducible refine we_callP (wa_cons (we_own (c := ?c1) (a := ?a1) ?h1 ?h2 ?_))); (case h1 => rfl); (case h2 => rfl))); with_reducible refine we_callP ?_) | with_reducible refine w2_bl ?_ | with_reducible refine w2_int ?_ | with_reducible refine wu_add ?_ | ((with_reducible refine wu_ixT (d := ?d1) ?h1 ?_); (case h1 => rfl)) | ((with_reducible refine wu_ixL (a := R.own ?a1) (xs := ?x1) (d := ?d1) ?h0 ?h1 ?_); (case h0 => (refine .inr (.inr ⟨_, 0, rfl, ?_⟩); rfl)); (case h1 => rfl)) | with_reducible refine wu_slT ?_ | with_reducible refine wk_lenT ?_ | with_reducible refine wk_min ?_ | with_reducible refine wk_max ?_ | with_reducible refine wg_name ?_ | with_reducible refine wgs_nil ?_ | with_reducible refine wgs_consD ?_ | with_reducible refine wgs_nilD ?_ | with_reducible refine wgs_cons ?_ | ((with_reducible refine wg_tup ?h1 ?_); (case h1 => rfl)))
local macro_rules | `(tactic| walk_at "pl") => `(tactic| repeat (walk_at "pl1"))
local macro_rules | `(tactic| walk_at "fin") => `(tactic| repeat' (first | exact trivial | refine And.intro ?_ ?_))
section
variable {K : PySem.W.Frag} {P : Program} {w : World}
def rd_turn (K : PySem.W.Frag) (P : Program) (w : World) : TS :=
    (tSeq (tAsg (tTup (tCons (tCall (spW K P w W__law_meeting) [] E0 (tCons (tVar 2) (tCons (tVar 3) tNil))) (tCons (tCall (spW K P w W__law_meeting) [] E0 (tCons (tVar 2) (tCons (tVar 3) tNil))) tNil))) (gTup K 2 (gCons (gName 11) (gCons (gName 12) gNil))))
    (tSeq (tAsg (tTup (tCons (tLc (iSeqU K (tVar 9)) (gName 15) tYes (tCall (spW K P w W__law_behind) [] E0 (tCons (tVar 3) (tCons (tVar 15) (tCons (tTup (tCons (tVar 11) (tCons (tVar 12) tNil))) tNil)))) [15]) (tCons (tLst tNil) tNil))) (gTup K 2 (gCons (gName 13) (gCons (gName 14) gNil))))
    (tSeq (tFor (iSeqU K (tVar 9)) (gName 15)
    (tDrop (tBM K "list" rAppend (tVar 14) (tCons (tCall (spW K P w W__law_behind) [] E0 (tCons (tVar 3) (tCons (tVar 15) (tCons (tTup (tCons (tVar 12) (tCons (tVar 11) tNil))) tNil)))) tNil))))
    (tSeq (tAsg (tLc (iEnumA K (tCons (tVar 13) tNil)) (gTup K 2 (gCons (gName 17) (gCons (gName 15) gNil))) (tTest (tOp (rNeD K) (tVar 15) (tOp (rIxU K P w) (tVar 14) (tVar 17)))) (tVar 17) [17, 15]) (gName 16))
    (tSeq (tIfS (tOr (tNot (tB (tCall (spW K P w (W__law_same 6)) [] E0 (tCons (tCall (spW K P w W_are_free) [] E0 (tCons (tVar 3) (tCons (tVar 11) (tCons (tVar 12) tNil)))) (tCons (tOp (rEqD K) (tVar 16) (tLst tNil)) tNil))))) (tTest (tOp rNotB (tCall (spW K P w W_are_free) [] E0 (tCons (tVar 3) (tCons (tVar 11) (tCons (tVar 11) tNil)))) (tC (.bl true))))) (tRet (tC (.bl false))) tNext)
    (tIfS (tAnd (tTest (tOp (rNeD K) (tVar 16) (tLst tNil))) (tTest (tOp (rEqD K) (tLenSetT K (tOp (rAddU K) (tSl (rSlU K) (tVar 11) tNoPart (tPart (tC (.int 2)))) (tSl (rSlU K) (tVar 12) tNoPart (tPart (tC (.int 2)))))) (tC (.int 4))))) (tRet (tC (.bl false))) tNext))))))
def rd_small (K : PySem.W.Frag) (P : Program) (w : World) : TS :=
    (tSeq (tAsg (tCall (spW K P w W__law_hall) [] E0 (tCons (tVar 2) (tCons (tCall (spW K P w W__law_small) [] E0 tNil) tNil))) (gName 3))
    (tSeq (tAsg (tCall (spW K P w W__law_all) [] E0 (tCons (tVar 3) tNil)) (gName 9))
    (tFor (iRng1 (tCons (tC (.int 4)) tNil)) (gName 10)
    (rd_turn K P w))))
def rd_great (K : PySem.W.Frag) (P : Program) (w : World) : TS :=
    (tSeq (tAsg (tCall (spW K P w W__law_deck) [] E0 (tCons (tVar 1) (tCons (tC (.int 10)) tNil))) (gName 2))
    (tSeq (tAsg (tCall (spW K P w W__law_hall) [] E0 (tCons (tVar 2) (tCons (tCall (spW K P w W__law_great) [] E0 tNil) tNil))) (gName 3))
    (tSeq (tAsg (tTup (tCons (tCall (spW K P w W__law_stand) [] E0 (tCons (tVar 2) (tCons (tVar 3) tNil))) (tCons (tCall (spW K P w W__law_beat) [] E0 (tCons (tVar 2) (tCons (tVar 3) tNil))) tNil))) (gTup K 2 (gCons (gName 4) (gCons (gName 5) gNil))))
    (tSeq (tAsg (tCB (rSortedU K P w) (tCons (tCB (rSetN K P w) (tCons (tLc (iSeqU K (tCall (spW K P w W__law_orders) [] E0 (tCons (tVar 5) tNil))) (gName 7) tYes (tCall (spW K P w W__law_behind) [] E0 (tCons (tVar 3) (tCons (tVar 4) (tCons (tVar 7) tNil)))) [7]) tNil)) tNil)) (gName 6))
    (tSeq (tAsg (tCall (spW K P w W_ends) [] E0 (tCons (tVar 3) (tCons (tVar 4) (tCons (tVar 5) tNil)))) (gName 8))
    (tSeq (tIfS (tNot (tB (tCall (spW K P w (W__law_same 6)) [] E0 (tCons (tVar 8) (tCons (tVar 6) tNil))))) (tRet (tC (.bl false))) tNext)
    (tSeq (tDrop (tBM K "list" rAppend (tVar 8) (tCons (tC (.int 1)) tNil)))
    (tSeq (tIfS (tTest (tOp (rNeD K) (tCall (spW K P w W_ends) [] E0 (tCons (tVar 3) (tCons (tVar 4) (tCons (tTup tNil) tNil)))) (tLst (tCons (tCall (spW K P w W_by_beat) [] E0 (tCons (tVar 3) (tCons (tVar 4) (tCons (tTup tNil) tNil)))) tNil)))) (tRet (tC (.bl false))) tNext)
    (tSeq (tAsg (tCall (spW K P w W__law_hall) [] E0 (tCons (tVar 2) (tCons (tCall (spW K P w W__law_small) [] E0 tNil) tNil))) (gName 3))
    (tSeq (tAsg (tCall (spW K P w W__law_all) [] E0 (tCons (tVar 3) tNil)) (gName 9))
    (tFor (iRng1 (tCons (tC (.int 4)) tNil)) (gName 10)
    (rd_turn K P w))))))))))))
def rd_front (K : PySem.W.Frag) (P : Program) (w : World) : TS :=
    (tSeq (tFor (iSeqU K (tSl (rSlU K) (tOp (rAddU K) (tLst (tCons (tC (.int 0)) tNil)) (tVar 0)) tNoPart (tPart (tC (.int 8))))) (gName 1)
    (tSeq (tAsg (tCall (spW K P w W__law_deck) [] E0 (tCons (tVar 1) (tCons (tC (.int 10)) tNil))) (gName 2))
    (tSeq (tAsg (tCall (spW K P w W__law_hall) [] E0 (tCons (tVar 2) (tCons (tCall (spW K P w W__law_great) [] E0 tNil) tNil))) (gName 3))
    (tSeq (tAsg (tTup (tCons (tCall (spW K P w W__law_stand) [] E0 (tCons (tVar 2) (tCons (tVar 3) tNil))) (tCons (tCall (spW K P w W__law_beat) [] E0 (tCons (tVar 2) (tCons (tVar 3) tNil))) tNil))) (gTup K 2 (gCons (gName 4) (gCons (gName 5) gNil))))
    (tSeq (tAsg (tCB (rSortedU K P w) (tCons (tCB (rSetN K P w) (tCons (tLc (iSeqU K (tCall (spW K P w W__law_orders) [] E0 (tCons (tVar 5) tNil))) (gName 7) tYes (tCall (spW K P w W__law_behind) [] E0 (tCons (tVar 3) (tCons (tVar 4) (tCons (tVar 7) tNil)))) [7]) tNil)) tNil)) (gName 6))
    (tSeq (tAsg (tCall (spW K P w W_ends) [] E0 (tCons (tVar 3) (tCons (tVar 4) (tCons (tVar 5) tNil)))) (gName 8))
    (tSeq (tIfS (tNot (tB (tCall (spW K P w (W__law_same 6)) [] E0 (tCons (tVar 8) (tCons (tVar 6) tNil))))) (tRet (tC (.bl false))) tNext)
    (tSeq (tDrop (tBM K "list" rAppend (tVar 8) (tCons (tC (.int 1)) tNil)))
    (tSeq (tIfS (tTest (tOp (rNeD K) (tCall (spW K P w W_ends) [] E0 (tCons (tVar 3) (tCons (tVar 4) (tCons (tTup tNil) tNil)))) (tLst (tCons (tCall (spW K P w W_by_beat) [] E0 (tCons (tVar 3) (tCons (tVar 4) (tCons (tTup tNil) tNil)))) tNil)))) (tRet (tC (.bl false))) tNext)
    (tSeq (tAsg (tCall (spW K P w W__law_hall) [] E0 (tCons (tVar 2) (tCons (tCall (spW K P w W__law_small) [] E0 tNil) tNil))) (gName 3))
    (tSeq (tAsg (tCall (spW K P w W__law_all) [] E0 (tCons (tVar 3) tNil)) (gName 9))
    (tFor (iRng1 (tCons (tC (.int 4)) tNil)) (gName 10)
    (rd_turn K P w)))))))))))))
    (tAsg (tTup (tCons (tC (.int 4)) (tCons (tTup (tCons (tTup (tCons (tTup tNil) (tCons (tC (.int 1)) (tCons (tC (.int 3)) (tCons (tC (.int 1)) tNil))))) (tCons (tTup (tCons (tTup (tCons (tC (.int 0)) tNil)) (tCons (tC (.int 1)) (tCons (tC (.int 3)) (tCons (tC (.int 1)) tNil))))) tNil))) tNil))) (gName 18)))
theorem w2_notB {env : List C} {Po : R → List C → Prop} {a b : Bool} (p : Po (.c (.d (.bool (!decide (a = b))))) env) : W2 K P w rNotB (.c (.d (.bool a))) (.c (.d (.bool b))) env Po := fun σ G H x y rp px py Q o => ⟨a, b, dat_bl px, dat_bl py, o.now rp p (Dp.bl _) Fr.dat⟩
theorem dps_ints {G : Hp} : ∀ {ns : List Int} {vs : List V}, DpAll K G vs (ns.map .int) → vs = ns.map V.int
  | [], _, .nil => rfl
  | n :: ns, _, .cons h1 h2 => by cases h1; rw [dps_ints h2]; rfl
theorem we_lenSetT {env : List C} {Po : R → List C → Prop} {ta : TE} (h : WE K P w ta env fun r e => ∃ ns : List Int, r = .c (.d (.tuple (ns.map .int))) ∧ ns.length < 64 ∧ ∀ c : Nat, c ≤ ns.length → (c = ns.length → ns.Nodup) → Po (.c (.d (.int (c : Nat)))) e) : WE K P w (tLenSetT K ta) env Po := fun σ G H rp Q o =>
  h σ G H rp _ fun r v e G1 H1 ⟨ns, er, hl, p⟩ st rp' ok f => by
    subst er
    obtain ⟨a, vs, rfl, hs, hd⟩ := dat_tup (Pend.of ok f)
    have ev := dps_ints hd
    rw [ev] at hs
    exact ⟨a, ns, rfl, Same.seqT rp'.sub hs, hl, fun c hc hcn => o _ _ e G1 H1 (p c hc hcn) st rp' (Dp.int _) Fr.dat⟩
theorem ws_turn {ns : List Int} {a : Addr} {x y z : Int} {n : Nat} {h : Hall} {c1 c4 c5 c6 c7 c8 c10 c11 c12 c13 c14 c15 c16 c17 c18 : C} (hd : DeckOk n y z) (hn : n ≤ 80000) (hh : HallOk h) (hm : manyOf h ≤ 100) (h15 : c15.own = none) (h17 : c17.own = none)
    {Po : PD} (p : ∀ x y z c11 c12 c13 c14 c15 c16 c17, DeckOk (n + 6) y z → c15.own = none → c17.own = none → Po.nx [.d (.list (ns.map .int)), c1, deckC a x y z, .d (encHall h), c4, c5, c6, c7, c8, .d (.list ((standsOf h).map encStand)), c10, c11, c12, c13, c14, c15, c16, c17, c18]) :
    WS K P w (rd_turn K P w) [.d (.list (ns.map .int)), c1, deckC a x y z, .d (encHall h), c4, c5, c6, c7, c8, .d (.list ((standsOf h).map encStand)), c10, c11, c12, c13, c14, c15, c16, c17, c18] Po := by
  have hlen : (standsOf h).length ≤ 100 := by rw [stands_len]; exact hm
  unfold rd_turn
  refine ws_seq (ws_asgT (wa_cons (we_callO 2 (wa_cons ?_))))
  walk_at "pl"
  refine ⟨_, _, _, _, rfl, rfl, rfl, rfl, a, x, y, z, n, h, hd, by omega, hh, rfl, fun m1 e hm1 ⟨x1, y1, z1, e1, hd1⟩ c' hc ho => ?_⟩
  have ec := head_eq e1 hc
  subst ec
  refine wa_cons (we_callO 2 (wa_cons ?_))
  walk_at "pl"
  refine ⟨_, _, _, _, rfl, rfl, rfl, rfl, a, x1, y1, z1, n + 3, h, hd1, by omega, hh, rfl, fun m2 e hm2 ⟨x2, y2, z2, e2, hd2⟩ c' hc ho => ?_⟩
  have ec := head_eq e2 hc
  subst ec
  refine wa_nil ⟨rfl, by omega, wgs_cons (wg_name (wgs_cons (wg_name (wgs_nil ?_))))⟩
  have bk : ∀ u v : Meet, MeetOk h u → MeetOk h v → BeatOk h [u, v] := fun u v hu hv => ⟨by simp, fun x hx => by
    rcases List.mem_cons.mp hx with z | z
    · rw [z]; exact hu
    · rw [List.mem_singleton.mp z]; exact hv⟩
  refine ws_seq (ws_asgT (wa_cons (we_frz (we_lcF (gin_name (by decide)) (wu_seqL ?_)))))
  walk_at "pl"
  refine ⟨_, rfl, by rw [List.length_map]; omega, own1 h15, fun k => encStand (behind h ((standsOf h).getD k []) [m1, m2]), fun k x hx => ?_, fun a1 => ⟨a1, _, rfl, ?_⟩⟩
  · obtain ⟨s, hs, rfl⟩ := get_map hx
    have hso := standsOf_ok hh (List.mem_of_getElem? hs)
    have es : (standsOf h).getD k [] = s := getD_of hs
    walk_at "pl"
    refine ⟨_, rfl, by simp, ?_⟩
    walk_at "pl"
    refine ⟨_, rfl, h, s, [m1, m2], hh, hso, bk m1 m2 hm1 hm2, rfl, fun _ => ?_⟩
    refine ⟨?_, rfl⟩
    simp only [es]
  rw [List.length_map]
  refine wa_cons (we_lstU (wa_nil ⟨_, rfl, by simp, fun a2 => wa_nil ⟨rfl, by omega, wgs_cons (wg_name (wgs_cons (wg_name (wgs_nil ?_))))⟩⟩))
  have er1 : ((List.range (standsOf h).length).map fun k => encStand (behind h ((standsOf h).getD k []) [m1, m2])) = ((standsOf h).map fun s => behind h s [m1, m2]).map encStand := by
    rw [List.map_map]
    exact map_range (f := fun s => encStand (behind h s [m1, m2])) (standsOf h) []
  rw [er1]
  refine ws_seq (ws_for (wu_seqL ?_))
  walk_at "pl"
  refine ⟨_, rfl, fun k e => ∃ c15 : C, c15.own = none ∧ e = [.d (.list (ns.map .int)), c1, deckC a x2 y2 z2, .d (encHall h), c4, c5, c6, c7, c8, .d (.list ((standsOf h).map encStand)), c10, .d (encMeet m1), .d (encMeet m2), .d (.list (((standsOf h).map fun s => behind h s [m1, m2]).map encStand)), .l a2 ((((standsOf h).take k).map fun s => behind h s [m2, m1]).map encStand), c15, c16, c17, c18],
    ⟨_, h15, rfl⟩, fun k x e hx => ?_, fun e => ?_⟩
  · rintro ⟨c15, h15, rfl⟩
    obtain ⟨s, hs, rfl⟩ := get_map hx
    have hso := standsOf_ok hh (List.mem_of_getElem? hs)
    have hk := (List.getElem?_eq_some_iff.mp hs).1
    walk_at "pl"
    refine ⟨_, rfl, by simp, ?_⟩
    walk_at "pl"
    refine ⟨_, rfl, h, s, [m2, m1], hh, hso, bk m2 m1 hm2 hm1, rfl, fun _ => ⟨_, _, rfl, rfl, ?_, .d (encStand s), rfl, ?_⟩⟩
    · rw [List.length_map, List.length_map, List.length_take]; omega
    · rw [take_succ_at hs, List.map_append, List.map_append]
      rfl
  rintro ⟨c15, h15, rfl⟩
  rw [List.length_map, List.take_length]
  dsimp only
  refine ws_seq (ws_asg (we_frz (we_lcC (gin_tup (gins_name (by decide) (gins_name (by decide) gins_nil))) (wi_enumL ?_))))
  walk_at "pl"
  refine ⟨_, rfl, by rw [enumD_len, List.length_map, List.length_map]; omega, own2 h17 h15, fun k => !decide (behind h ((standsOf h).getD k []) [m1, m2] = behind h ((standsOf h).getD k []) [m2, m1]), fun (k : Nat) => .int (k : Int), fun k x hx => ?_, fun a3 => ⟨a3, _, rfl, ?_⟩⟩
  · obtain ⟨d, hd, rfl⟩ := enumD_at hx
    obtain ⟨s1, hs1, rfl⟩ := get_map hd
    obtain ⟨s, hs, rfl⟩ := get_map hs1
    have es : (standsOf h).getD k [] = s := getD_of hs
    walk_at "pl"
    refine wu_ixL (LL.own 14 rfl) (atI_map (f := encStand) (y := behind h s [m2, m1]) (by rw [List.getElem?_map, hs]; rfl)) ?_
    refine w2_neD .dat .dat (nice_stand.shaped (by omega) _) (nice_stand.shaped (by omega) _) ⟨_, rfl, ?_, fun hb => ?_, fun hb => rfl⟩
    · rw [nice_stand.eq]
      simp only [es]
    · walk_at "pl"
      exact ⟨rfl, rfl⟩
  rw [enumD_len, List.length_map, List.length_map]
  generalize hB : List.filter (fun k => !decide (behind h ((standsOf h).getD k []) [m1, m2] = behind h ((standsOf h).getD k []) [m2, m1])) (List.range (standsOf h).length) = B
  have hBf : decide (B = []) = freeB h m1 m2 := by
    have e : freeB h m1 m2 = (List.range (standsOf h).length).all fun k => decide (behind h ((standsOf h).getD k []) [m1, m2] = behind h ((standsOf h).getD k []) [m2, m1]) := (all_range (f := fun s => decide (behind h s [m1, m2] = behind h s [m2, m1])) (standsOf h) []).symm
    rw [e, ← hB, Bool.eq_iff_iff, decide_eq_true_iff, List.filter_eq_nil_iff, List.all_eq_true]
    simp
  have hBl : B.length ≤ 100 := by
    rw [← hB]
    refine Nat.le_trans (List.length_filter_le _ _) ?_
    rw [List.length_range]; exact hlen
  have hbn : PyData.eqv (.list (B.map fun (k : Nat) => .int (k : Int))) (.list []) = decide (B = []) := nice_nat.lst.eq B []
  have sB : SeqAt.shaped (.list (B.map fun (k : Nat) => .int (k : Int))) = true := nice_nat.lst.shaped (by omega) B
  have hff : freeB h m1 m1 = true := by
    unfold freeB
    rw [List.all_eq_true]
    intro s _
    exact decide_eq_true rfl
  walk_at "pl"
  refine ⟨_, rfl, h, m1, m2, hh, by omega, hm1, hm2, rfl, fun _ => ?_⟩
  walk_at "pl"
  refine we_lstU (wa_nil ⟨_, rfl, by simp, fun q => ?_⟩)
  refine w2_eqD .dat (.of .new) sB rfl ?_
  walk_at "pl"
  rw [hbn, hBf]
  refine ⟨_, rfl, .bool (freeB h m1 m2), .inl (.inl ⟨_, rfl⟩), rfl, fun _ => ⟨_, rfl, (fun z => nomatch z), fun _ => ?_⟩⟩
  walk_at "pl"
  refine ⟨_, rfl, h, m1, m1, hh, by omega, hm1, hm1, rfl, fun _ => ?_⟩
  walk_at "pl"
  rw [hff]
  refine w2_notB ⟨_, rfl, (fun z => nomatch z), fun _ => ws_nx ?_⟩
  walk_at "pl"
  refine we_lstU (wa_nil ⟨_, rfl, by simp, fun q => ?_⟩)
  refine w2_neD .dat (.of .new) sB rfl ⟨_, rfl, fun hb => ?_, fun hb => ⟨(fun z => nomatch z), fun _ => ws_nx (p x2 y2 z2 _ _ _ _ c15 _ c17 hd2 h15 h17)⟩⟩
  rw [hbn, hBf] at hb
  refine wt_test (we_op (we_lenSetT ?_))
  walk_at "pl"
  refine wu_catT (Nat.le_trans (Nat.add_le_add (cut_len _ _ _) (cut_len _ _ _)) (by simp)) ⟨[(m1.one : Int), (m1.other : Int), (m2.one : Int), (m2.other : Int)], rfl, by simp, fun c hc hcn => ?_⟩
  walk_at "pl"
  refine w2_eqD .dat .dat rfl rfl ⟨_, rfl, fun h4 => ?_, fun _ => ws_nx (p x2 y2 z2 _ _ _ _ c15 _ c17 hd2 h15 h17)⟩
  exfalso
  rw [nice_int.eq] at h4
  have h4' : (c : Int) = 4 := of_decide_eq_true h4
  have nd := hcn (show c = 4 by omega)
  simp only [List.nodup_cons, List.mem_cons, List.not_mem_nil, or_false, not_or, Int.natCast_inj] at nd
  have hf : freeB h m1 m2 = true := by
    unfold freeB
    rw [List.all_eq_true]
    intro s _
    exact decide_eq_true (free_four nd.1.2.1 nd.1.2.2 nd.2.1.1 nd.2.1.2 s)
  rw [hf] at hb
  cases hb
end
end PL

/-! k10's law: a cell; all cells. -/
namespace PL
open PySem PySem.Spec PyProof.Rows L2 RZ MA
local macro_rules | `(tactic| walk_at "pl1") => `(tactic| first | with_reducible refine ws_seq ?_ | with_reducible refine ws_ret ?_ | with_reducible refine ws_asg ?_ | with_reducible refine ws_dropC ?_ | ((with_reducible refine ws_app (a := ?a1) (xs := ?x1) ?h1 ?_); (case h1 => rfl)) | with_reducible refine ws_if ?_ | ((with_reducible refine we_d (x := ?x1) ?h1 ?_); (case h1 => rfl)) | ((with_reducible refine we_own (c := ?c1) (a := ?a1) ?h1 ?h2 ?_); (case h1 => rfl); (case h2 => rfl)) | ((fail_if_success (with_reducible refine we_all ?_ ?_)); with_reducible refine we_cb ?_) | with_reducible refine wa_cons ?_ | with_reducible refine wa_nil ?_ | with_reducible refine we_int ?_ | with_reducible refine we_bl ?_ | with_reducible refine we_non ?_ | with_reducible refine we_str ?_ | with_reducible refine we_cv ?_ | with_reducible refine we_op ?_ | with_reducible refine we_un ?_ | with_reducible refine we_andV ?_ | with_reducible refine we_orV ?_ | with_reducible refine we_notV ?_ | with_reducible refine we_chain ?_ | with_reducible refine we_tupU ?_ | with_reducible refine we_if ?_ | with_reducible refine wt_test ?_ | with_reducible refine wt_B ?_ | with_reducible refine wt_and ?_ | with_reducible refine wt_or ?_ | with_reducible refine wt_not ?_ | with_reducible refine we_sl ?_ | with_reducible refine wo_none ?_ | with_reducible refine wo_intC ?_ | ((with_reducible refine wo_var (i := ?i1) ?h1 ?_); (case h1 => rfl)) | ((with_reducible refine wo_suc (i := ?i1) ?h1 ?_); (case h1 => rfl)) | ((fail_if_success ((with_reducible refine we_callP (wa_cons (we_own (c := ?c1) (a := ?a1) ?h1 ?h2 ?_))); (case h1 => rfl); (case h2 => rfl))); with_reducible refine we_callP ?_) | with_reducible refine w2_bl ?_ | with_reducible refine w2_int ?_ | with_reducible refine wu_add ?_ | ((with_reducible refine wu_ixT (d := ?d1) ?h1 ?_); (case h1 => rfl)) | ((with_reducible refine wu_ixL (a := R.own ?a1) (xs := ?x1) (d := ?d1) ?h0 ?h1 ?_); (case h0 => (refine .inr (.inr ⟨_, 0, rfl, ?_⟩); rfl)); (case h1 => rfl)) | with_reducible refine wu_slT ?_ | with_reducible refine wk_lenT ?_ | with_reducible refine wk_min ?_ | with_reducible refine wk_max ?_ | with_reducible refine wg_name ?_ | with_reducible refine wgs_nil ?_ | with_reducible refine wgs_consD ?_ | with_reducible refine wgs_nilD ?_ | with_reducible refine wgs_cons ?_ | ((with_reducible refine wg_tup ?h1 ?_); (case h1 => rfl)))
local macro_rules | `(tactic| walk_at "pl") => `(tactic| repeat (walk_at "pl1"))
local macro_rules | `(tactic| walk_at "fin") => `(tactic| repeat' (first | exact trivial | refine And.intro ?_ ?_))
section
variable {K : PySem.W.Frag} {P : Program} {w : World}
theorem flatMap_const {α β : Type} {F : α → List β} {N : Nat} : ∀ (xs : List α), (∀ x ∈ xs, (F x).length = N) → (xs.flatMap F).length = xs.length * N
  | [], _ => by simp
  | x :: xs, h => by
    rw [List.flatMap_cons, List.length_append, h x List.mem_cons_self, flatMap_const xs fun y hy => h y (List.mem_cons_of_mem _ hy), List.length_cons, Nat.succ_mul]
    omega
theorem orders_count {α : Type} (b : List α) : ∀ k, k < b.length → (orders (b.take (k + 1))).length = (orders (b.take k)).length * (k + 1) := fun k hk => by
  rw [take_succ_at (List.getElem?_eq_getElem hk), orders_one]
  refine flatMap_const _ fun o ho => ?_
  unfold insAll
  rw [List.length_map, List.length_range, orders_mem b k (by omega) o ho]
theorem orders_24 {α : Type} (b : List α) (h4 : b.length ≤ 4) : (orders b).length ≤ 24 := by
  have e0 : (orders (b.take 0)).length = 1 := by rw [List.take_zero]; rfl
  have c := orders_count b
  have e : orders b = orders (b.take b.length) := by rw [List.take_length]
  rw [e]
  have d1 := c 0
  have d2 := c 1
  have d3 := c 2
  have d4 := c 3
  have hb : b.length = 0 ∨ b.length = 1 ∨ b.length = 2 ∨ b.length = 3 ∨ b.length = 4 := by omega
  rcases hb with q | q | q | q | q <;> rw [q] at d1 d2 d3 d4 ⊢ <;> simp at d1 d2 d3 d4 e0 <;> simp <;> omega
theorem nodup_le {α : Type} [DecidableEq α] : ∀ (xs ys : List α), xs.Nodup → (∀ x ∈ xs, x ∈ ys) → xs.length ≤ ys.length
  | [], _, _, _ => Nat.zero_le _
  | x :: xs, ys, nd, sub => by
    have hx : x ∈ ys := sub x List.mem_cons_self
    have nd' := List.nodup_cons.mp nd
    have h1 := nodup_le xs (ys.erase x) nd'.2 fun z hz => (List.mem_erase_of_ne (fun e => nd'.1 (by rw [← e]; exact hz))).mpr (sub z (List.mem_cons_of_mem _ hz))
    have hl := List.length_erase_of_mem hx
    have hp : 0 < ys.length := List.length_pos_of_mem hx
    rw [List.length_cons]
    omega
/-- law's slots between two cells -/
def Loose (ns : List Int) (e : List C) : Prop := ∃ c1 c2 c3 c4 c5 c6 c7 c8 c9 c10 c11 c12 c13 c14 c15 c16 c17 c18 : C, e = [.d (.list (ns.map .int)), c1, c2, c3, c4, c5, c6, c7, c8, c9, c10, c11, c12, c13, c14, c15, c16, c17, c18] ∧ c7.own = none ∧ c15.own = none ∧ c17.own = none
theorem ws_small {ns : List Int} {a : Addr} {x y z : Int} {n : Nat} {c1 c3 c4 c5 c6 c7 c8 c9 c10 c11 c12 c13 c14 c15 c16 c17 c18 : C} (hd : DeckOk n y z) (hn : n ≤ 9000) (h7 : c7.own = none) (h15 : c15.own = none) (h17 : c17.own = none)
    {Po : PD} (p : ∀ e, Loose ns e → Po.nx e) :
    WS K P w (rd_small K P w) [.d (.list (ns.map .int)), c1, deckC a x y z, c3, c4, c5, c6, c7, c8, c9, c10, c11, c12, c13, c14, c15, c16, c17, c18] Po := by
  unfold rd_small
  refine ws_seq (ws_asg (we_callO 2 (wa_cons ?_)))
  walk_at "pl"
  refine ⟨_, rfl, rfl, fun _ => ?_⟩
  walk_at "pl"
  refine ⟨_, _, _, _, rfl, rfl, rfl, rfl, a, x, y, z, n, smalls, hd, by omega, by decide, by decide, shapes_small, rfl, fun h sh e hh hsh hfit ⟨x1, y1, z1, e1, hd1⟩ c' hc ho => ?_⟩
  have ec := head_eq e1 hc
  subst ec
  have hmany := smalls_many hsh hfit
  walk_at "pl"
  refine ⟨_, rfl, h, hh, by omega, rfl, fun _ => ?_⟩
  walk_at "pl"
  refine ws_for (wi_range1 ?_)
  walk_at "pl"
  refine ⟨_, rfl, by omega, by omega, fun k e => ∃ x y z c10 c11 c12 c13 c14 c15 c16 c17, DeckOk (n + 20 + 6 * k) y z ∧ C.own c15 = none ∧ C.own c17 = none ∧ e = [.d (.list (ns.map .int)), c1, deckC a x y z, .d (encHall h), c4, c5, c6, c7, c8, .d (.list ((standsOf h).map encStand)), c10, c11, c12, c13, c14, c15, c16, c17, c18],
    ⟨x1, y1, z1, _, _, _, _, _, _, _, _, hd1, h15, h17, rfl⟩, fun k xx e hx => ?_, fun e => ?_⟩
  · rintro ⟨x, y, z, c10, c11, c12, c13, c14, c15, c16, c17, hd, h15, h17, rfl⟩
    have hk := (List.getElem?_eq_some_iff.mp hx).1
    rw [List.length_map, List.length_range] at hk
    have hk4 : k < 4 := hk
    refine wg_name ?_
    refine ws_turn hd (by omega) hh hmany h15 h17 fun x y z c11 c12 c13 c14 c15 c16 c17 hd' h15 h17 => ?_
    exact ⟨x, y, z, _, _, _, _, _, _, _, _, hd', h15, h17, rfl⟩
  · rintro ⟨x, y, z, c10, c11, c12, c13, c14, c15, c16, c17, hd, h15, h17, rfl⟩
    exact p _ ⟨_, _, _, _, _, _, _, _, _, _, _, _, _, _, _, _, _, _, rfl, h7, h15, h17⟩
theorem ws_great {ns : List Int} {v : Int} {c2 c3 c4 c5 c6 c7 c8 c9 c10 c11 c12 c13 c14 c15 c16 c17 c18 : C} (h7 : c7.own = none) (h15 : c15.own = none) (h17 : c17.own = none)
    {Po : PD} (p : ∀ e, Loose ns e → Po.nx e) :
    WS K P w (rd_great K P w) [.d (.list (ns.map .int)), .d (.int v), c2, c3, c4, c5, c6, c7, c8, c9, c10, c11, c12, c13, c14, c15, c16, c17, c18] Po := by
  unfold rd_great
  walk_at "pl"
  refine ⟨_, rfl, v, 10, by omega, by omega, rfl, fun a x y z _ hd => ?_⟩
  refine wg_name (ws_seq (ws_asg (we_callO 2 (wa_cons ?_))))
  walk_at "pl"
  refine ⟨_, rfl, rfl, fun _ => ?_⟩
  walk_at "pl"
  refine ⟨_, _, _, _, rfl, rfl, rfl, rfl, a, x, y, z, _, greats, hd, by omega, by decide, by decide, shapes_great, rfl, fun h sh e hh hsh hfit ⟨x1, y1, z1, e1, hd1⟩ c' hc ho => ?_⟩
  have ec := head_eq e1 hc
  subst ec
  refine wg_name (ws_seq (ws_asgT (wa_cons (we_callO 2 (wa_cons ?_)))))
  walk_at "pl"
  refine ⟨_, _, _, _, rfl, rfl, rfl, rfl, a, x1, y1, z1, _, h, hd1, by omega, hh, rfl, fun s e hs ⟨x2, y2, z2, e2, hd2⟩ c' hc ho => ?_⟩
  have ec := head_eq e2 hc
  subst ec
  refine wa_cons (we_callO 2 (wa_cons ?_))
  walk_at "pl"
  refine ⟨_, _, _, _, rfl, rfl, rfl, rfl, a, x2, y2, z2, _, h, hd2, by omega, hh, rfl, fun b e hb ⟨x3, y3, z3, e3, hd3⟩ c' hc ho => ?_⟩
  have ec := head_eq e3 hc
  subst ec
  refine wa_nil ⟨rfl, by omega, wgs_cons (wg_name (wgs_cons (wg_name (wgs_nil ?_))))⟩
  have hol : (orders b).length ≤ 24 := orders_24 b hb.len
  have hoo : ∀ o ∈ orders b, BeatOk h o := fun o ho => perm_ok hb ((orders_perms b o).mp ho)
  refine ws_seq (ws_asg (we_frz (we_sortSet (we_lcF (gin_name (by decide)) (wu_seqL ?_)))))
  walk_at "pl"
  refine ⟨_, rfl, b, hb.len, rfl, fun _ => ⟨_, rfl, by rw [List.length_map]; omega, own1 h7, fun k => encStand (behind h s ((orders b).getD k [])), fun k x hx => ?_, fun a1 => ?_⟩⟩
  · obtain ⟨o, ho, rfl⟩ := get_map hx
    have eo : (orders b).getD k [] = o := getD_of ho
    walk_at "pl"
    refine ⟨_, rfl, h, s, o, hh, hs, hoo o (List.mem_of_getElem? ho), rfl, fun _ => ⟨?_, rfl⟩⟩
    simp only [eo]
  rw [List.length_map]
  have er : ((List.range (orders b).length).map fun k => encStand (behind h s ((orders b).getD k []))) = ((orders b).map fun o => keyS (behind h s o)).map kd := by
    rw [List.map_map]
    refine (map_range (f := fun o => encStand (behind h s o)) (orders b) []).trans ?_
    exact List.map_congr_left fun o _ => (kd_keyS _).symm
  rw [er]
  refine ⟨_, .new, sortK_stands fun o ho => behind_ne hh hs (hoo o ho).all, by rw [List.length_map]; omega, fun q ls nd mem pw => ⟨q, _, rfl, ?_⟩⟩
  walk_at "pl"
  refine ⟨_, rfl, h, s, b, hh, hs, hb, rfl, fun q2 ks _ hends => ?_⟩
  have eks : ks = ls := ends_eq hends nd mem pw
  subst eks
  have hkl : ks.length ≤ 24 := Nat.le_trans (nodup_le ks _ nd fun k hk => (mem k).mp hk) (by rw [List.length_map]; exact hol)
  have hplain : PlainD 6 (.list (ks.map kd)) := by
    refine .inr ⟨_, .inr rfl, by rw [List.length_map]; omega, fun yy hy => ?_⟩
    obtain ⟨k, hk, rfl⟩ := List.mem_map.mp hy
    obtain ⟨o, ho, rfl⟩ := List.mem_map.mp ((mem k).mp hk)
    have so := behind_ok hh hs (hoo o ho).all
    have f1 := hh.folk
    have f2 := hh.many
    rw [kd_keyS]
    refine .inr ⟨_, .inl rfl, by rw [List.length_map, so.len]; omega, fun yy hy => ?_⟩
    obtain ⟨r, hr, rfl⟩ := List.mem_map.mp hy
    refine .inr ⟨_, .inl rfl, by rw [List.length_map, (so.row r hr).1]; omega, fun yy hy => ?_⟩
    obtain ⟨i, hi, rfl⟩ := List.mem_map.mp hy
    exact .inl (.inr ⟨i, rfl⟩)
  refine wg_name (ws_seq (ws_if (wt_not (wt_B (we_callB ?_)))))
  walk_at "pl"
  refine ⟨q2, 8, _, _, _, rfl, rfl, rfl, .list (ks.map kd), hplain, rfl, fun _ => ⟨true, rfl, true, rfl, (fun z => nomatch z), fun _ => ws_nx ?_⟩⟩
  walk_at "pl"
  refine ⟨_, _, rfl, rfl, by rw [List.length_map]; omega, ?_⟩
  walk_at "pl"
  refine ⟨_, rfl, by simp, ?_⟩
  walk_at "pl"
  refine ⟨_, rfl, h, s, [], hh, hs, ⟨by simp, fun m hm => by cases hm⟩, rfl, fun q3 ks2 _ hends2 => ?_⟩
  rw [ends_nil hends2]
  refine we_lstU (wa_cons (we_callP ?_))
  walk_at "pl"
  refine ⟨_, rfl, by simp, ?_⟩
  walk_at "pl"
  refine ⟨_, rfl, h, s, [], hh, hs, ⟨by simp, fun m hm => by cases hm⟩, rfl, fun _ => ?_⟩
  walk_at "pl"
  refine ⟨_, rfl, by simp, fun q4 => ?_⟩
  have eq1 : PyData.eqv (.list (([keyS (behind h s [])] : List NestedKey).map kd)) (.list [encStand (behind h s [])]) = true := by
    have := nice_stand.lst.eq [behind h s []] [behind h s []]
    rw [decide_eq_true rfl] at this
    rw [List.map_cons, kd_keyS, List.map_nil]
    exact this
  have sh1 : SeqAt.shaped (.list (([keyS (behind h s [])] : List NestedKey).map kd)) = true := by
    rw [List.map_cons, kd_keyS, List.map_nil]
    exact nice_stand.lst.shaped (by omega) [behind h s []]
  refine w2_neD (.of .new) (.of .new) sh1 (nice_stand.lst.shaped (by omega) [behind h s []]) ⟨_, rfl, fun hq => ?_, fun _ => ws_nx ?_⟩
  · rw [eq1] at hq
    cases hq
  exact ws_small (n := 1000 + 20 + 24 + 13) hd3 (by omega) h7 h15 h17 p
theorem ws_front {ns : List Int} {c1 c2 c3 c4 c5 c6 c7 c8 c9 c10 c11 c12 c13 c14 c15 c16 c17 c18 : C} (hl : ns.length ≤ 63) (h7 : c7.own = none) (h15 : c15.own = none) (h17 : c17.own = none)
    {Po : PD} (p : ∀ e, Loose ns e → Po.nx (e.set 18 (.d (encHall wideH)))) :
    WS K P w (rd_front K P w) [.d (.list (ns.map .int)), c1, c2, c3, c4, c5, c6, c7, c8, c9, c10, c11, c12, c13, c14, c15, c16, c17, c18] Po := by
  unfold rd_front
  refine ws_seq (ws_for (wu_seqL (we_frz (we_sl (we_op (we_lstU ?_))))))
  walk_at "pl"
  refine ⟨_, rfl, by simp, fun q1 => ?_⟩
  walk_at "pl"
  refine wu_catL .new (.inl rfl) (by simp; omega) fun q2 => ?_
  walk_at "pl"
  refine wu_slL .new fun q3 => ⟨q3, _, rfl, _, rfl, fun k e => Loose ns e, ⟨_, _, _, _, _, _, _, _, _, _, _, _, _, _, _, _, _, _, rfl, h7, h15, h17⟩, fun k x e hx hL => ?_, fun e hL => ?_⟩
  · obtain ⟨c1, c2, c3, c4, c5, c6, c7, c8, c9, c10, c11, c12, c13, c14, c15, c16, c17, c18, rfl, h7, h15, h17⟩ := hL
    obtain ⟨v, rfl⟩ : ∃ v : Int, x = .int v := by
      have hm := List.mem_of_mem_drop (List.mem_of_mem_take (List.mem_of_getElem? hx))
      rcases List.mem_append.mp hm with z | z
      · exact ⟨0, List.mem_singleton.mp z⟩
      · obtain ⟨i, _, rfl⟩ := List.mem_map.mp z
        exact ⟨i, rfl⟩
    refine wg_name ?_
    exact ws_great h7 h15 h17 fun e hL => hL
  · have hp := p e hL
    obtain ⟨c1, c2, c3, c4, c5, c6, c7, c8, c9, c10, c11, c12, c13, c14, c15, c16, c17, c18, rfl, h7, h15, h17⟩ := hL
    iterate 6 (walk_at "pl"; refine ⟨_, rfl, by simp, ?_⟩)
    exact wg_name hp
end
end PL

/-! Ends of iterators, and tuples taken apart, while an exception is handled. -/
namespace PL
open PySem PySem.Spec PyProof.Rows HotX
section
variable {prog : Program} {w : World} {A : Around} {E : Value → Shared → Prop} {s : Shared}
/-- what a raised StopIteration leaves: all that stood, and itself -/
theorem stop_hot {α : Type} {x1 : Addr} {Q : α → Shared → Prop} (hot : HotAt A x1 s.heap) (q : ∀ h' e, (∀ c o, s.heap.get? c = some o → h'.get? c = some o) → (∃ o, h'.get? e = some o ∧ o.cls = .type "StopIteration") → E (.ref e) { s with heap := h' }) :
    wpAny (model prog w) A (newExc (.type "StopIteration") [] >>= fun e => (raiseNew e : Sem α)) Q E s := by
  obtain ⟨hh, o1, vs1, h1, d1, c1⟩ := hot
  refine wpAny_bind ?_
  simp only [newExc, newTuple]
  refine wpAny_bind (wpAny_newObj_type ?_ (by size_fits))
  refine wpAny_bind (m := firstArgMember _ _) (wpAny_of_eq (a := Value.none) (by first | rfl | (simp only [firstArgMember]; rfl)) ?_)
  refine wpAny_newObj_type ?_ (by size_fits)
  refine raiseNew_hot ⟨hh, o1, vs1, Heap.get?_push_of_some _ (Heap.get?_push_of_some _ h1), d1, c1⟩ (Nat.ne_of_lt (Heap.lt_size (Heap.get?_push_of_some _ h1))) (Heap.get?_push_size _ rfl) rfl (by first | (simp; done) | (simp; omega) | (simp only [Array.size_append]; simp; omega)) ?_
  refine q _ _ (fun c o e => ?_) ⟨_, Heap.get?_update_self _ (Heap.get?_push_size _ rfl) rfl, rfl⟩
  rw [Heap.get?_update_other _ _ (Nat.ne_of_gt (Heap.lt_size (Heap.get?_push_of_some _ e)))]
  exact Heap.get?_push_of_some _ (Heap.get?_push_of_some _ e)
theorem hot_in1 {x1 : Addr} {h : Heap} (hot : HotAt A x1 h) : HotAt A.in1 x1 h := hot
theorem hot_but {x1 it : Addr} {h h' : Heap} (hot : HotAt A x1 h) (hne : x1 ≠ it) (k : ∀ c o, c ≠ it → h.get? c = some o → h'.get? c = some o) : HotAt A x1 h' := by
  obtain ⟨hh, o, vs, h1, d, c⟩ := hot
  exact ⟨hh, o, vs, k _ _ hne h1, d, c⟩
theorem hot_ne {x1 it : Addr} {h : Heap} {o : Obj} {cls : Value} {fs : Array Value} (hot : HotAt A x1 h) (ho : h.get? it = some o) (hd : o.data = .fields fs) (h2 : fs[2]? ≠ some .none) : x1 ≠ it := fun e => by
  obtain ⟨_, o1, vs, h1, d, c⟩ := hot
  rw [e, ho] at h1
  cases h1
  rw [hd] at d
  cases d
  exact h2 c
theorem nextOf_end_hot {it l x1 : Addr} {i : Nat} {items : Array Value} {Q : Value → Shared → Prop} (hot : HotAt A x1 s.heap) (hne : x1 ≠ it) (hit : s.heap.IsListIter it l i) (hl : s.heap.IsList l items) (hx : items[i]? = none)
    (hE : ∀ h' e, Heap.ExtBut it s.heap h' → (∃ o, h'.get? e = some o ∧ o.cls = .type "StopIteration") → E (.ref e) { s with heap := h' }) : wpAny (model prog w) A (Builtin.SmallTypes.nextOf (.ref it)) Q E s := by
  obtain ⟨o, ho, hc, hd⟩ := id hit
  obtain ⟨ol, hol, _, nl, hdl⟩ := hl
  unfold Builtin.SmallTypes.nextOf
  refine wpAny_bind (wpAny_callSpecial?_slot (name := Str.ofString "__next__") hit.typeIs slot_listiter_next (wpAny_call_entry slot_listiter_next hit.typeIs entry_listiter_next ?_ (args_listiter_next _)))
  show wpAny _ _ (field (.ref it) 0 >>= _) _ _ s
  refine wpAny_bind (wpAny_field ho hd (x := .ref l) rfl ?_)
  show wpAny _ _ (if (Value.ref l == Value.none) = true then _ else _) _ _ s
  rw [if_neg (show ¬ ((Value.ref l == Value.none) = true) from Bool.false_ne_true)]
  show wpAny _ _ (field (.ref it) 1 >>= _) _ _ s
  refine wpAny_bind (wpAny_field ho hd (x := .int i 0) rfl ?_)
  show wpAny _ _ (seqItems? (.ref l) >>= _) _ _ s
  refine wpAny_bind (wpAny_seqItems hol hdl ?_)
  simp only [Int.toNat_natCast, hx]
  refine wpAny_bind (wpAny_rule (wpAny_bind (wpAny_setField ho hd (by simp) ?_)))
  refine stop_hot (A := A.in1) (hot_but (hot_in1 hot) hne fun c u hc e => (Heap.SameBut.update ..).extBut c u hc e) fun h' e keep he => hE h' e (fun c u hc z => keep c u ((Heap.SameBut.update ..).extBut c u hc z)) he
theorem tuple_end_hot {it t x1 : Addr} {i : Nat} {items : Array Value} {Q : Option Value → Shared → Prop} (hot : HotAt A x1 s.heap) (hne : x1 ≠ it) (hit : s.heap.IsTupleIter it t i) (ht : s.heap.IsTuple t items) (hx : items[i]? = none)
    (hQ : ∀ h', Heap.ExtBut it s.heap h' → Q none { s with heap := h' }) : wpAny (model prog w) A (pyNext (.ref it)) Q E s := by
  obtain ⟨o, ho, hc, hd⟩ := id hit
  obtain ⟨ol, hol, _, nl, hdl⟩ := ht
  unfold pyNext
  refine wpAny_bind (wpAny_attempt (wpAny_callSpecial?_slot (name := Str.ofString "__next__") hit.typeIs F.slot_tuple_iterator_next (wpAny_call_entry F.slot_tuple_iterator_next hit.typeIs F.entry_tuple_iterator_next ?_ (F.args_tuple_iterator_next_1 _))))
  show wpAny _ _ (field (.ref it) 0 >>= _) _ _ s
  refine wpAny_bind (wpAny_field ho hd (x := .ref t) rfl ?_)
  show wpAny _ _ (if (Value.ref t == Value.none) = true then _ else _) _ _ s
  rw [if_neg (show ¬ ((Value.ref t == Value.none) = true) from Bool.false_ne_true)]
  show wpAny _ _ (field (.ref it) 1 >>= _) _ _ s
  refine wpAny_bind (wpAny_field ho hd (x := .int i 0) rfl ?_)
  show wpAny _ _ (seqItems? (.ref t) >>= _) _ _ s
  refine wpAny_bind (wpAny_seqItems hol hdl ?_)
  simp only [Int.toNat_natCast, hx]
  refine wpAny_bind (wpAny_rule (wpAny_bind (wpAny_setField ho hd (by simp) ?_)))
  refine stop_hot (A := A.in1) (hot_but (hot_in1 hot) hne fun c u hc e => (Heap.SameBut.update ..).extBut c u hc e) fun h' e keep ⟨oe, he, hce⟩ => ?_
  refine wpAny_bind (wpAny_isInstance (T := "StopIteration") (b := true) ⟨oe, he, hce⟩ isSubtype_stop ?_)
  exact wpAny_pure (hQ _ fun c u hc z => keep c u ((Heap.SameBut.update ..).extBut c u hc z))
theorem assign_tuple_hot {env : Env} {elts : List Expr} {k : Nat} {pos : Pos} {t x1 : Addr} {items : Array Value} {Q : Unit → Shared → Prop} (hot : HotAt A x1 s.heap) (ht : s.heap.IsTuple t items) (hn : (assignEach elts env).length = items.size) (hstar : (assignEach elts env).findIdx? (·.1) = none)
    (h : ∀ h', Heap.ExtBut s.heap.objs.size s.heap h' → wpAny (model prog w) A (assignInOrder ((assignEach elts env).map (·.2)) items.toList) Q E { s with heap := h' }) : wpAny (model prog w) A (assign (.Tuple elts k pos) env (.ref t)) Q E s := by
  have hx : x1 ≠ s.heap.objs.size := by
    obtain ⟨_, o1, _, h1, _⟩ := hot
    exact Nat.ne_of_lt (Heap.lt_size h1)
  have hlt : t ≠ s.heap.objs.size := by
    obtain ⟨o, ho, _⟩ := ht
    exact Nat.ne_of_lt (Heap.lt_size ho)
  rw [arm_assign_Tuple]
  refine wpAny_bind (wpAny_standAt ?_)
  unfold unpack
  rw [hn, hstar]
  refine wpAny_bind (wpAny_holding ?_)
  unfold unpackItems
  refine wpAny_bind ?_
  unfold notIterableAtAll
  refine wpAny_bind (wpAny_specialOf ht.typeIs F.slot_tuple_iter.lookup (wpAny_pure ?_))
  simp only [Bool.false_eq_true, if_false]
  refine wpAny_bind (wpAny_holding (wpAny_pyIter_tuple ht ?_))
  refine wpAny_bind (wpAny_holding (wpAny_draw_tuple hlt items.size 0 _ _ ⟨_, Heap.get?_push_size _ rfl, rfl, rfl⟩ (ht.push _) (by omega) fun h₁ hit₁ hs₁ => ?_))
  rw [List.drop_zero, List.take_of_length_le (by simp), if_neg (by simp)]
  have k1 : ∀ c o, c ≠ s.heap.objs.size → s.heap.get? c = some o → h₁.get? c = some o := fun c o hc e => hs₁.extBut c o hc (Heap.get?_push_of_some _ e)
  refine wpAny_bind (wpAny_holding (tuple_end_hot (hot_but hot hx k1) hx hit₁ ((ht.push _).extBut hs₁.extBut hlt) (by simp) fun h₂ he₂ => ?_))
  simp only [Option.isSome_none, Bool.false_eq_true, if_false]
  exact wpAny_pure (h h₂ fun c o hc e => he₂ c o hc (k1 c o hc e))
/-- zip ends -/
theorem zip_end_hot {z TI TO i1 i2 l1 l2 x1 : Addr} {k1 : Nat} {xs : Array Value} {Q : Option Value → Shared → Prop} (hot : HotAt A x1 s.heap) (n1 : x1 ≠ z) (n2 : x1 ≠ i1) (D : ZipApart z TI TO i1 i2 l1 l2) (hz : IsZip s.heap z TI TO .none)
    (hTI : IsPair s.heap TI (.ref i1) (.ref i2)) (h1 : s.heap.IsListIter i1 l1 k1) (hl1 : s.heap.IsList l1 xs) (hend : xs[k1]? = none) (hQ : ∀ h', (∀ c o, c ≠ z → c ≠ i1 → s.heap.get? c = some o → h'.get? c = some o) → Q none { s with heap := h' }) :
    wpAny (model prog w) A (pyNext (.ref z)) Q E s := by
  have hT : s.TypeIs (.ref z) "zip" := ⟨_, hz, rfl⟩
  unfold pyNext
  refine wpAny_bind (wpAny_attempt (wpAny_callSpecial?_slot (name := Str.ofString "__next__") hT F.slot_zip_next (wpAny_call_entry F.slot_zip_next hT F.entry_zip_next ?_ (F.args_zip_next_1 _))))
  show wpAny _ _ (field (.ref z) 2 >>= _) _ _ _
  refine wpAny_bind (wpAny_field hz rfl (x := .bool false) rfl ?_)
  show wpAny _ _ (field (.ref z) 3 >>= _) _ _ _
  refine wpAny_bind (wpAny_field hz rfl (x := .ref TI) rfl (wpAny_bind (wpAny_seqItems hTI rfl ?_)))
  show wpAny _ _ (Builtin.SmallTypes.ownedTupleIsFree (.ref z) >>= _) _ _ _
  refine wpAny_bind ?_
  unfold Builtin.SmallTypes.ownedTupleIsFree
  refine wpAny_bind (wpAny_field hz rfl (x := .none) rfl (wpAny_pure ?_))
  simp only [if_true]
  refine wpAny_bind (wpAny_rule (wpAny_bind (wpAny_field hz rfl (x := .ref TO) rfl (wpAny_bind (wpAny_setField_rec hz (by simp) fun h₁ hz₁ hs₁ => ?_)))))
  replace hz₁ : IsZip h₁ z TI TO .ellipsis := hz₁
  refine wpAny_bind ?_
  simp only [List.zipIdx_cons, List.zipIdx_nil, List.forIn_cons, List.forIn_nil]
  refine wpAny_bind (wpAny_bind (wpAny_onRaise ?_))
  show wpAny _ _ (Builtin.SmallTypes.nextOf (.ref i1) >>= _) _ _ _
  refine wpAny_bind (nextOf_end_hot (A := A.in1) (hot_but (hot_in1 hot) n1 fun c o hc e => hs₁.extBut c o hc e) n2 (h1.extBut hs₁.extBut D.i1z) (hl1.extBut hs₁.extBut D.l1z) hend fun h₂ e hs₂ he => ?_)
  obtain ⟨oe, hoe, hce⟩ := he
  have hz₂ : IsZip h₂ z TI TO .ellipsis := hs₂ _ _ D.i1z.symm hz₁
  have hez : e ≠ z := fun x => by
    subst x
    rw [hz₂] at hoe
    cases hoe
    simp at hce
  refine wpAny_setField_rec hz₂ (by simp) fun h₃ _ hs₃ => ?_
  refine wpAny_bind (wpAny_isInstance (T := "StopIteration") (b := true) ⟨oe, hs₃.extBut _ _ hez hoe, hce⟩ isSubtype_stop ?_)
  exact wpAny_pure (hQ _ fun c o c1 c3 x => hs₃.extBut _ _ c1 (hs₂ _ _ c3 (hs₁.extBut _ _ c1 x)))
end
end PL

/-! Comprehensions over zip while an exception is handled. -/
namespace PL
open PySem PySem.Spec PyProof.Rows HotX L2 L2H
/-- two lists side by side, the first the shorter -/
def ItzH (K : PySem.W.Frag) (a b : Addr) : It := ⟨(Itz K a b).go, (Itz K a b).yld, fun i H => ∃ xs ys : List V, SqL K H a xs ∧ SqL K H b ys ∧ xs.length ≤ i⟩
def ZipSt (z TI TO i1 i2 a b : Addr) (i : Nat) (h : Heap) : Prop := IsZip h z TI TO .none ∧ IsPair h TI (.ref i1) (.ref i2) ∧ (∃ x y, IsPair h TO x y) ∧ h.IsListIter i1 a i ∧ h.IsListIter i2 b i
theorem five {z TI TO i1 i2 c : Addr} (h : c ∈ [z, TI, TO, i1, i2]) : c = z ∨ c = TI ∨ c = TO ∨ c = i1 ∨ c = i2 := by simpa using h
section
variable {X : Cx} {pins : List (Addr × Obj)} {σ : L2.St} {H : Hp} {s : Shared}
theorem hot_off {x1 it : Addr} {h : Heap} {o : Obj} {cls : String} {fs : Array Value} (hot : HotAt X.A x1 h) (ho : h.get? it = some o) (hd : o.data = .fields fs) (h2 : fs[2]? ≠ some Value.none) : x1 ≠ it := fun e => by
  obtain ⟨_, o1, vs, h1, d, c⟩ := hot
  rw [e, ho] at h1
  cases h1
  rw [hd] at d
  cases d
  exact h2 c
theorem turn_zipH {P : Program} {w : World} {K : PySem.W.Frag} {elts : List Expr} {kk : Nat} {tpos : Pos} {a b z TI TO i1 i2 : Addr} (D : ZipApart z TI TO i1 i2 a b) : TurnH P w K (.Tuple elts kk tpos) (ItzH K a b) [z, TI, TO, i1, i2] z (ZipSt z TI TO i1 i2 a b) where
  mem := by simp
  obj := fun i h ⟨hz, hTI, ⟨x, y, hTO⟩, ⟨o1, e1, _, d1⟩, ⟨o2, e2, _, d2⟩⟩ c hc => by
    rcases five hc with q | q | q | q | q <;> subst q
    · exact ⟨_, hz, fun v q => nomatch q⟩
    · exact ⟨_, hTI, fun v q => nomatch q⟩
    · exact ⟨_, hTO, fun v q => nomatch q⟩
    · exact ⟨o1, e1, fun v q => by rw [d1] at q; cases q⟩
    · exact ⟨o2, e2, fun v q => by rw [d2] at q; cases q⟩
  keep := fun i h h' ⟨hz, hTI, ⟨x, y, hTO⟩, h1, h2⟩ k => ⟨k _ (by simp) _ hz, k _ (by simp) _ hTI, ⟨x, y, k _ (by simp) _ hTO⟩, h1.at fun o q => k _ (by simp) o q, h2.at fun o q => k _ (by simp) o q⟩
  item := fun X hP hw hK hc i pins s σ H E I hf ⟨hz, hTI, ⟨x0, y0, hTO⟩, h1, h2⟩ ⟨xs, ys, x, y, hqx, hqy, hx, hy⟩ => by
    subst hP hw hK
    obtain ⟨its, rv, p, _⟩ := I.list hqx
    obtain ⟨its2, rv2, p2, _⟩ := I.list hqy
    obtain ⟨u, hu, ru⟩ := rv.get hx
    obtain ⟨u2, hu2, ru2⟩ := rv2.get hy
    have lt : ∀ c ∈ [z, TI, TO, i1, i2], c < s.heap.objs.size := fun c hc => by
      rcases five hc with q | q | q | q | q <;> subst q
      · exact Heap.lt_size hz
      · exact Heap.lt_size hTI
      · exact Heap.lt_size hTO
      · exact Heap.lt_size h1.choose_spec.1
      · exact Heap.lt_size h2.choose_spec.1
    refine wpAny_pyNext_zip_item D hz hTI hTO h1 h2 p.isList p2.isList (x := u) (y := u2) (by simpa using hu) (by simpa using hu2) fun h' z' TO' h1' h2' hT hsz hk => ⟨_, rfl, wpAny_letOwnedTupleGo_zip (s := { s with heap := h' }) z' fun h'' z'' sb => ?_⟩
    have off : ∀ c, c ≠ z → h''.get? c = h'.get? c := fun c hc => sb.2 c hc
    have I1 : Inv X pins σ (upd H s.heap.objs.size (.tup [x, y])) { s with heap := h'' } :=
      I.turnedNew (t' := s.toks) (ch := [z, TI, TO, i1, i2]) (fun c o hb q => by
        have n : ∀ d ∈ [z, TI, TO, i1, i2], c ≠ d := fun d hd e => hb (e ▸ hd)
        exact (off c (n z (by simp))).trans (hk c o (n z (by simp)) (n TO (by simp)) (n i1 (by simp)) (n i2 (by simp)) q)) hf (Nat.le_refl _)
        ⟨by show 2 ≤ sizeLine; decide, [u, u2], .cons ru (.cons ru2 .nil), ⟨_, (off _ (Nat.ne_of_gt (lt z (by simp)))).trans hT, rfl, _, rfl⟩⟩
    refine ⟨.ref s.heap.objs.size, _, I1, rfl, ⟨_, x, y, rfl, I.hok.fresh (Nat.le_refl _), rfl, fun l hl => by rw [I.list_inj hl hqx]; exact hx, fun l hl => by rw [I.list_inj hl hqy]; exact hy⟩,
      ⟨z'', (off _ D.TIz).trans (hk _ _ D.TIz D.TITO D.TIi1 D.TIi2 hTI), ⟨u, u2, (off _ D.TOz).trans TO'⟩, h1'.at fun o q => (off _ D.i1z).trans q, h2'.at fun o q => (off _ D.i2z).trans q⟩, fun c hcm => ?_⟩
    rw [upd_ne (Nat.ne_of_lt (lt c hcm))]
    exact (hf c hcm).1
  done := fun X hP hw hK hc i pins s σ H E I hf ⟨hz, hTI, ⟨x0, y0, hTO⟩, h1, h2⟩ ⟨xs, ys, hqx, hqy, hend⟩ => by
    subst hP hw hK
    obtain ⟨its, rv, p, _⟩ := I.list hqx
    obtain ⟨x1, hot⟩ := hc.at I
    obtain ⟨o1, e1, _, d1⟩ := id h1
    have l1 := rv.length
    refine zip_end_hot hot (hot_off (cls := "zip") hot hz rfl (by simp)) (hot_off (cls := "list_iterator") hot e1 d1 (by simp)) D hz hTI h1 p.isList (by simp; omega) fun h' hk => ⟨rfl, I.turnedL (t' := s.toks) (ch := [z, TI, TO, i1, i2]) (fun c o hb q =>
      hk c o (fun q' => hb (by simp [q'])) (fun q' => hb (by simp [q'])) q) hf⟩
  self := fun A i s Q E st h => wpAny_pyIter_zip st.1 h
def iZipH (K : PySem.W.Frag) (ta : TA) : TI := fun σ H R => ta σ H fun vs H1 => ∃ a b xs ys, vs = [.ref a, .ref b] ∧ SqL K H1 a xs ∧ SqL K H1 b ys ∧ R (ItzH K a b) H1
theorem pi_zipH {e e2 : Expr} {ta : TA} {p pos tpos : Pos} {elts : List Expr} {kk : Nat} (hg : Gl X "zip") (hm : X.mg "zip" = none) (ha : PA X [e, e2] ta) (hs : starEach [e, e2] X.env = (false, eval e X.env) :: starEach [e2] X.env := by rfl)
    (hpl : (backTo pos (starEach [e2] X.env)).any (·.1) = false := by rfl) : PIH X (.Tuple elts kk tpos) (.Call (.Name "zip" p) [e, e2] [] pos) (iZipH X.K ta) := by
  refine ⟨fun pins s σ H R I h => Call_ (ld_blt I hg hm PyProof.Rows.boot_zip (PyProof.Rows.callWith_type1 (thn (ha.run pos pins s σ H _ I h) fun us z ⟨vs, H1, I1, r1, a, b, xs, ys, ex, hqx, hqy, q⟩ => ?_) hs hpl))⟩
  subst ex
  obtain ⟨u, u2, rfl, r, r'⟩ := r1.two
  cases r
  cases r'
  obtain ⟨its, rv, p1, _⟩ := I1.list hqx
  obtain ⟨its2, rv2, p2, _⟩ := I1.list hqy
  refine call_zip_2 p1.isList p2.isList fun h' hz hTI hTO h1 h2 hsz hk => wpAny_pyIter_zip hz ?_
  refine ⟨z.heap.objs.size + 4, [z.heap.objs.size + 4, z.heap.objs.size + 2, z.heap.objs.size + 3, z.heap.objs.size, z.heap.objs.size + 1], _, _, H1, rfl, I1.kept (t' := z.toks) hk, turn_zipH (PySem.W.ktu_apart z.heap.objs.size a b p1.lt p2.lt), ⟨hz, hTI, ⟨_, _, hTO⟩, h1, h2⟩, fun c hcm => ?_, q⟩
  have hle : z.heap.objs.size ≤ c := by
    rcases five hcm with q | q | q | q | q <;> subst q
    · exact Nat.le_add_right _ _
    · exact Nat.le_add_right _ _
    · exact Nat.le_add_right _ _
    · exact Nat.le_refl _
    · exact Nat.le_add_right _ _
  exact I1.fpOk hle (I1.hok.fresh hle)
/-- a tuple target -/
theorem pg_tupH {es : List Expr} {k : Nat} {t : TGs} {n : Nat} {pos : Pos} (hc : HotC X) (h : PGs X es t) (hn : (assignEach es X.env).length = n := by rfl) (hst : (assignEach es X.env).findIdx? (·.1) = none := by rfl) : PG X (.Tuple es k pos) (gTup X.K n t) := by
  refine ⟨fun pins s σ H v u Q I r ⟨a, xs, e1, hq, hl, hw⟩ => ?_⟩
  subst e1
  cases r
  obtain ⟨its, rv, ht, hz⟩ := I.tuple hq
  obtain ⟨x1, hot⟩ := hc.at I
  refine assign_tuple_hot hot ht (by simp [hn, ← hl, rv.length]) hst fun h' hx => ?_
  have I1 : Inv X pins σ H { s with heap := h' } := I.kept (t' := s.toks) fun b o e => hx b o (Nat.ne_of_lt (Heap.lt_size e)) e
  exact h.run pins _ σ H xs _ Q I1 (by simpa using rv) hw
end
end PL

/-! A list comprehension while an exception is handled. -/
namespace PL
open PySem PySem.Spec PyProof.Rows HotX L2 L2H
/-- a block that still bears the handled exception -/
abbrev blkH (X : Cx) (p : Addr × Obj) (s : Shared) (H : Hp) (scope : Scope) (cenv : Env) (fp : List Addr) : Cx := { X.blk s H scope cenv fp with pn := [p] }
section
variable {X : Cx}
theorem blkH_inv {p : Addr × Obj} {s0 s : Shared} {H0 H : Hp} {scope : Scope} {ce : Env} {fp : List Addr} {σ : L2.St} (I : Inv (X.blk s0 H0 scope ce fp) [] σ H s) (hp : s.heap.get? p.1 = some p.2 ∧ H p.1 = none ∧ p.1 ≠ ce.locals ∧ p.1 ∉ frs X.stack ∧ ∀ v, p.2.data ≠ .cell v) : Inv (blkH X p s0 H0 scope ce fp) [] σ H s :=
  ⟨⟨I.ok.mod, I.ok.kind, I.ok.glob, I.ok.blt, I.ok.above, I.ok.inj, I.ok.has, I.ok.cab, I.ok.hd, I.ok.frames, I.ok.stk, I.ok.exf, I.ok.bs, I.ok.bsz, I.ok.noex, I.ok.exfs, I.ok.funs, I.ok.frf⟩, I.os, I.bare, I.base, I.loc, I.cell, I.free, I.freeC, fun q hq => by
    have e : q = p := by simpa using hq
    subst e
    exact hp, I.hok, I.len⟩
theorem blkH_back {p : Addr × Obj} {s0 s : Shared} {H0 H : Hp} {scope : Scope} {ce : Env} {fp : List Addr} {σ : L2.St} (I : Inv (blkH X p s0 H0 scope ce fp) [] σ H s) : Inv (X.blk s0 H0 scope ce fp) [] σ H s :=
  ⟨⟨I.ok.mod, I.ok.kind, I.ok.glob, I.ok.blt, I.ok.above, I.ok.inj, I.ok.has, I.ok.cab, I.ok.hd, I.ok.frames, I.ok.stk, I.ok.exf, I.ok.bs, I.ok.bsz, I.ok.noex, I.ok.exfs, I.ok.funs, I.ok.frf⟩, I.os, I.bare, I.base, I.loc, I.cell, I.free, I.freeC, fun q hq => by simp at hq, I.hok, I.len⟩
theorem pe_lcH {p : Addr × Obj} {elt tg iter : Expr} {ifs : List Expr} {scope : Scope} {own : List (Str × Nat)} {pos : Pos} {wi : TI} {g : TG} {tt : TT} {te : TE} (hot : Hot1 X.A p) (hpn : p ∈ X.pn) (hex : X.ex = []) (hN : X.N.Nodup) (hi : PIH X tg iter wi) (ok : BlkOk X.N X.env.scope scope own)
    (hg : ∀ (s : Shared) (H : Hp) (C : Addr) (cl : List (Str × Addr)) (fp : List Addr), PG (blkH X p s H scope (compEnvC scope cl C X.env) fp) tg g) (ht : ∀ (s : Shared) (H : Hp) (C : Addr) (cl : List (Str × Addr)) (fp : List Addr), PTs (blkH X p s H scope (compEnvC scope cl C X.env) fp) ifs tt)
    (he : ∀ (s : Shared) (H : Hp) (C : Addr) (cl : List (Str × Addr)) (fp : List Addr), PE (blkH X p s H scope (compEnvC scope cl C X.env) fp) elt te) (hs : ∀ x, foldedSetIterable iter X.env x = pure x := by intro _; rfl) :
    PE X (.ListComp elt [⟨tg, iter, ifs, 0⟩] scope pos) (tLc wi g tt te (own.map (·.2))) := by
  refine ⟨fun pins s σ H Q I h => ?_⟩
  rw [eval_ListComp]
  have free : ∀ y ∈ scope.names, y.2 = .free → ∃ c, X.env.cells.lookup y.1 = some c := fun y hy e => (ok.free y hy e).elim (fun z => I.ok.has _ (.inl z)) fun z => I.ok.has _ (.inr z)
  refine wpAny_comprehension_free (use := _) rfl hs (closure_ok free) ok.kind (fun y hy e => by rw [ok.uniq y hy, e])
    (thn (hi.run pins s σ H _ I h) fun xv s1 hx => thn hx fun itv s2 ⟨it, fp, tn, J, H2, e, I2, T, st2, f2, q⟩ => ?_)
  subst e
  refine wpAny_newObj_type (newEnv_comp ?_) (by show 0 ≤ sizeLine; decide)
  have hDn : H2 s2.heap.objs.size = none := I2.hok.fresh (Nat.le_refl _)
  obtain ⟨W, ⟨m0, w0⟩, turn⟩ := q s2.heap.objs.size hDn
  have I3 : Inv X pins σ (upd H2 s2.heap.objs.size (.lst [])) { s2 with heap := s2.heap.push { cls := .type "list", data := .seq ([] : List Value).toArray } } :=
    I2.laid (t' := s2.toks) (fun b o e => Heap.get?_push_of_some _ e) (Nat.le_refl _) ⟨Nat.zero_le _, [], 0, .nil, Heap.get?_push_size _ rfl⟩
  have old : ∀ b ∈ fp, b < s2.heap.objs.size := fun b hb => by
    obtain ⟨o, e, _⟩ := T.obj _ _ st2 b hb
    exact Heap.lt_size e
  have st3 : tn 0 (s2.heap.push { cls := .type "list", data := .seq ([] : List Value).toArray }) := T.keep _ _ _ st2 fun b _ o e => Heap.get?_push_of_some _ e
  generalize hD : s2.heap.objs.size = D at *
  generalize hH3 : upd H2 D (.lst []) = H3 at *
  generalize hs3 : ({ s2 with heap := s2.heap.push { cls := .type "list", data := .seq ([] : List Value).toArray } } : Shared) = s3 at *
  have h3 : s2.heap.push { cls := .type "list", data := .seq ([] : List Value).toArray } = s3.heap := by rw [← hs3]
  rw [h3] at st3
  have f3 : ∀ b ∈ fp, FpOk X pins H3 b ∧ b < s3.heap.objs.size := fun b hb => by
    have lt := old b hb
    refine ⟨⟨?_, (f2 b hb).2⟩, by rw [← h3, Heap.size_push, hD]; exact Nat.lt_succ_of_lt lt⟩
    rw [← hH3, upd_ne (Nat.ne_of_lt lt)]
    exact (f2 b hb).1
  have I4 := block_start I3 ok hN f3
  have P3 := I3.pin p (List.mem_append_left _ hpn)
  have pg := hg s3 H3 s3.heap.objs.size (cellsFrom (s3.heap.objs.size + 1) scope.names (cloFrom X.env.cells scope.names [])) fp
  have pt := ht s3 H3 s3.heap.objs.size (cellsFrom (s3.heap.objs.size + 1) scope.names (cloFrom X.env.cells scope.names [])) fp
  have pe := he s3 H3 s3.heap.objs.size (cellsFrom (s3.heap.objs.size + 1) scope.names (cloFrom X.env.cells scope.names [])) fp
  have goal : ∀ ce, codeAny (model X.prog X.w) X.A (.compStart (.ListComp elt [⟨tg, iter, ifs, 0⟩] scope pos) 0 (.ref it) (.ref D) ce) (compPost (model X.prog X.w) X.A X.xe none (EP X pins σ Q) (.ref D) s3.heap.objs.size) { s3 with heap := pushCells (s3.heap.push { cls := .type "dict", data := .dict #[] }) scope.names } → ce = compEnvC scope (cellsFrom (s3.heap.objs.size + 1) scope.names (cloFrom X.env.cells scope.names [])) s3.heap.objs.size X.env →
      codeAny (model X.prog X.w) X.A (.compStart (.ListComp elt [⟨tg, iter, ifs, 0⟩] scope pos) 0 (.ref it) (.ref D) (compEnvC scope (cellsFrom (s3.heap.objs.size + 1) scope.names (cloFrom X.env.cells scope.names [])) s3.heap.objs.size X.env)) (compPost (model X.prog X.w) X.A X.xe none (EP X pins σ Q) (.ref D) s3.heap.objs.size) { s3 with heap := pushCells (s3.heap.push { cls := .type "dict", data := .dict #[] }) scope.names } := fun ce h e => e ▸ h
  refine goal _ ?_ rfl
  clear goal
  generalize hce : compEnvC scope (cellsFrom (s3.heap.objs.size + 1) scope.names (cloFrom X.env.cells scope.names [])) s3.heap.objs.size X.env = ce at I4 pg pt pe ⊢
  have cL : ce.locals = s3.heap.objs.size := by subst hce; rfl
  have I4 := blkH_inv (p := p) I4 ⟨pushCells_keeps _ _ _ _ (Heap.get?_push_of_some _ P3.1), P3.2.1, by rw [cL]; exact Nat.ne_of_lt (Heap.lt_size P3.1), fun hm => (List.mem_cons.mp (I3.stkSub p.1 hm)).elim P3.2.2.1 P3.2.2.2.1, P3.2.2.2.2⟩
  generalize hs4 : ({ s3 with heap := pushCells (s3.heap.push { cls := .type "dict", data := .dict #[] }) scope.names } : Shared) = s4 at I4 ⊢
  have st4 : tn 0 s4.heap := T.keep _ _ _ st3 fun b _ o e => by rw [← hs4]; exact pushCells_keeps _ _ _ _ (Heap.get?_push_of_some _ e)
  have nep : ∀ b ∈ fp, ∀ q ∈ X.pn ++ pins, q.1 ≠ b := fun b hb q hq => by
    have := (f3 b hb).1.2.2.2.2.2 q hq
    exact this
  have calm' : ∀ {σ' : L2.St} {H' : Hp} {s' : Shared}, Inv (blkH X p s3 H3 scope ce fp) [] σ' H' s' → (∀ b ∈ fp, H' b = none) → ∀ b ∈ fp, FpOk (blkH X p s3 H3 scope ce fp) [] H' b := fun I' n b hb =>
    ⟨n b hb, (I'.ok.exf b hb).1, I'.ok.exfs b hb, .inl hb, fun x c e => (I'.ok.exf b hb).2 x c e, fun q hq => by
      have e : q = p := by simpa using hq
      subst e
      exact nep b hb q (List.mem_append_left _ hpn)⟩
  have hotB : HotC (blkH X p s3 H3 scope ce fp) := ⟨p, hot, List.mem_cons_self⟩
  have loop : codeAny (model X.prog X.w) X.A (.compLoop (.ListComp elt [⟨tg, iter, ifs, 0⟩] scope pos) 0 (.ref it) (.ref D) ce) (compPost (model X.prog X.w) X.A X.xe none (EP X pins σ Q) (.ref D) s3.heap.objs.size) s4 := by
    refine compLoop_any (fun n s' => ∃ i H', Inv (blkH X p s3 H3 scope ce fp) [] (wipe σ (own.map (·.2))) H' s' ∧ tn i s'.heap ∧ (∀ b ∈ fp, H' b = none) ∧ W i n H') ?_ m0 ⟨0, H3, I4, st4, fun b hb => (f3 b hb).1.1, w0⟩
    rintro n s5 ⟨i, H5, I5, st5, n5, w5⟩
    rcases turn i n H5 w5 with ⟨stop, qq⟩ | ⟨go, Nx, hNx, step⟩
    · refine thnF (T.done (blkH X p s3 H3 scope ce fp) rfl rfl rfl hotB i [] s5 _ H5 (fun _ _ => False) I5 (calm' I5 n5) st5 stop) fun r s6 ⟨hr, I6⟩ => ?_
      subst hr
      have I7 : Inv X pins σ H5 s6 := I3.call' (ch := fp) I6.os I6.base I6.hok I6.bare fun b hb => ⟨(f3 b hb).1.2.2.2.1, (f3 b hb).1.2.1, (f3 b hb).1.2.2.2.2.1, (f3 b hb).1.2.2.2.2.2⟩
      have nC : H5 s3.heap.objs.size = none := by rw [← cL]; exact I6.free
      obtain ⟨m, hn, _⟩ := I6.loc
      have hn : s6.heap.Ns s3.heap.objs.size m := by rw [← cL]; exact hn
      obtain ⟨g0, g1, g2, g3, g4, g5⟩ := I3.fpOk (Nat.le_refl _) nC
      exact ⟨m, hn, fun h' sb => ⟨.ref D, H5, I7.turned (t' := s6.toks) (fun b o hb e => (sb.2 b hb).trans e) g0 g1 g3 g4 g5, rfl, qq⟩⟩
    · refine thnF (T.item (blkH X p s3 H3 scope ce fp) rfl rfl rfl hotB i [] s5 _ H5 (fun _ _ => False) I5 (calm' I5 n5) st5 go) fun r s6 ⟨u, hr, h6⟩ => ?_
      subst hr
      refine thnF h6 fun _ s7 ⟨x, H7, I7, r7, y7, st7, n7⟩ => ?_
      refine thnF (pg.run _ s7 _ H7 x u _ (I7.pinned (calm' I7 n7) (T.obj _ _ st7)) r7 (step x H7 y7)) fun _ s8 ⟨σ8, H8, I8, hw8, q8⟩ => ?_
      refine thnF (pt.run _ s8 σ8 H8 _ I8 q8) fun b s9 ⟨H9, I9, q9⟩ => ?_
      have fin : ∀ {s' : Shared} {H' : Hp}, Inv (blkH X p s3 H3 scope ce fp) ([] ++ pinsAt fp s7.heap) σ8 H' s' → Nx H' → ∃ m, m < n ∧ ∃ i H', Inv (blkH X p s3 H3 scope ce fp) [] (wipe σ (own.map (·.2))) H' s' ∧ tn i s'.heap ∧ (∀ b ∈ fp, H' b = none) ∧ W i m H' := fun {s' H'} I' nx => by
        obtain ⟨m', hm, w'⟩ := hNx H' nx
        have kept : ∀ b ∈ fp, ∀ o, s7.heap.get? b = some o → s'.heap.get? b = some o ∧ H' b = none := fun b hb o e =>
          let y := I'.pin (b, o) (List.mem_append_right _ (List.mem_append_right _ (mem_pinsAt hb e)))
          ⟨y.1, y.2.1⟩
        have hl : (wipe σ (own.map (·.2))).length = σ8.length := by rw [← hw8, wipe_length]
        refine ⟨m', hm, i + 1, H', (I'.unpinned (pins := [])).weak hl (fun j v e => ?_), T.keep _ _ _ st7 fun b hb o e => (kept b hb o e).1, fun b hb => ?_, w'⟩
        · rw [← hw8] at e
          exact (wipe_some e).1
        · obtain ⟨o, e, _⟩ := T.obj _ _ st7 b hb
          exact (kept b hb o e).2
      cases b with
      | false =>
        simp only [Bool.false_eq_true, if_false] at q9 ⊢
        exact fin I9 q9
      | true =>
        simp only [if_true] at q9 ⊢
        refine thnF (pe.run _ s9 σ8 H9 _ I9 q9) fun z s10 ⟨yv, H10, I10, r10, acc, hD10, hz10, nx⟩ => ?_
        exact app_ok (X := blkH X p s3 H3 scope ce fp) I10 hD10 hz10 r10 fun s11 I11 => fin I11 nx
  exact codeAny_compStart_list loop (T.self X.A 0 _ _ _ st4 loop)
end
end PL

/-! isinstance of a caught error that has its own dict. -/
namespace PL
open PySem PySem.Spec PySem.Calls PyProof.Rows PySem.W
section
variable {prog : Program} {w : World} {A : Around} {E : Value → Shared → Prop} {s : Shared} {K : Frag} {x D : Addr} {ox : Obj} {od : Option Obj}
theorem found_class (T : L2.ExcC K D) : findObj K D od "__class__" = some (.bind (.builtin "getset_descriptor.__get__") (.builtin "object.__class__")) := by
  obtain ⟨cd, hc, _⟩ := any_some T.hd
  have e : (clsIn K D).isSome = true := by rw [hc]; rfl
  cases od with
  | none => exact findObj_dataN e T.ha T.hn T.ht
  | some o => exact findObj_data e T.ha T.hn T.ht
theorem class_of (T : L2.ExcC K D) {Q : Option Value → Shared → Prop} (X : K.In s.heap) (I : InstAt s.heap x ox D od) (h : Q (some (.ref D)) { s with toks := s.toks + 1 }) : wpAny (model prog w) A (getAttr? (.ref x) "__class__") Q E s := by
  obtain ⟨hp, g, d, t, os⟩ := s
  have L0 := I.type (M := model prog w)
  have L1 := looks_findIn (M := model prog w) X T.hg
  have L2 := looks_findIn (M := model prog w) X T.hk
  have L3 := looks_find (M := model prog w) X I (found_class T)
  have sub : Looks (model prog w) hp (isInstance (.ref x) (.type "BaseException")) true := L0.andThen (looks_subIn X T.hs)
  have plain : (onTheHeap (Value.ref D) && Value.builtin "BaseException.__getattribute__" == Value.builtin "object.__getattribute__") = false := by
    rw [show (Value.builtin "BaseException.__getattribute__" == Value.builtin "object.__getattribute__") = false from by decide +kernel]; rfl
  unfold getAttr? getAttrBy? getAttrBy
  refine wpAny_bind (wpAny_mkText (wpAny_bind (wpAny_attempt (wpAny_holding (wpAny_bind (L0.at (wpAny_bind (L1.at ?_))))))))
  show wpAny _ _ (if (onTheHeap (Value.ref D) && Value.builtin "BaseException.__getattribute__" == Value.builtin "object.__getattribute__") = true then _ else _) _ _ _
  rw [plain, if_neg Bool.false_ne_true]
  unfold getAttrByItsOwn hookBefore
  refine wpAny_bind ?_
  rw [if_pos (show onTheHeap (Value.ref D) = true from rfl)]
  refine L2.at (wpAny_bind (wpAny_attempt (wpAny_holding ?_)))
  unfold callGetattribute
  rw [show (false && onTheHeap (Value.builtin "BaseException.__getattribute__")) = false from rfl, if_neg Bool.false_ne_true]
  unfold boundAndCalled
  rw [PySem.F.excAttr_ValueError.ga.bind (.ref x)]
  refine wpAny_bind (wpAny_pure ?_)
  show wpAny _ _ (call (.builtin "BaseException.__getattribute__") [.ref x, .str "__class__" t]) _ _ _
  refine wpAny_call (codeAny_call_builtin PySem.F.excAttr_ValueError.ga.plain PySem.F.entry_bexc_ga (@check_slot (model prog w) _ _ ⟨hp, g, d, t + 1, os⟩ "BaseException.__getattribute__" "BaseException" "__getattribute__" (.ref x) [.str "__class__" t] [] _ (by decide +kernel) (by decide +kernel) sub (PySem.F.args_bexc_ga (.ref x) (.str "__class__" t)) ?_))
  unfold Builtin.«object.__getattribute__»
  refine wpAny_bind (wpAny_of_eq (a := ((Value.ref x : Value), [Value.str "__class__" t])) (by first | rfl | (simp only [slotArgs]; rfl)) ?_)
  refine wpAny_bind (wpAny_pure (wpAny_bind (L0.at (wpAny_bind (L3.at ?_)))))
  show wpAny _ _ (holding [Value.builtin "object.__class__"] (call (.builtin "getset_descriptor.__get__") [.builtin "object.__class__", .ref x, .ref D]) >>= ret) _ _ _
  refine wpAny_bind (wpAny_holding (wpAny_call (class_get (s := ⟨hp, g, d, t + 1, os⟩) (ox := ox) (od := od) X I T.hm ?_)))
  refine wpAny_pure ?_
  show wpAny _ _ (handedOut (.ref D)) _ _ _
  rw [handedOut_of (v := .ref D) rfl]
  first
    | exact wpAny_pure (wpAny_pure h)
    | exact wpAny_pure h
    | exact wpAny_pure (wpAny_bind (wpAny_pure (wpAny_pure h)))
theorem kitx_of (T : L2.ExcC K D) : KitX K (.ref x) (.ref D) (fun h => InstAt h x ox D od) := by
  have cls : ∃ c' d' cd' sl', K.lookup D = some ⟨c', d', .cls cd', sl'⟩ := by
    obtain ⟨cdD, hcD, _⟩ := any_some T.hd
    unfold clsIn at hcD
    split at hcD
    · rename_i c' d' cd' sl' ho
      exact ⟨_, _, _, _, ho⟩
    · cases hcD
  obtain ⟨c', d', cd', sl', ho⟩ := cls
  exact { ty := fun _ _ _ I => I.type
          it := fun _ _ X _ A' Q' E' s' k q => by
            unfold isType loadHead
            exact wpAny_bind (wpAny_loadPart (k _ _ (X _ _ ho)) (wpAny_pure q))
          ne := fun h tp dd its n sl X htp => by
            refine Bool.eq_false_iff.mpr fun q => ?_
            have e : D = tp := Value.ref.inj (beq_iff_eq.mp q)
            subst e
            cases (X _ _ ho).symm.trans htp
          ca := fun X I k => class_of T X I k }
end
end PL

/-! What a def asks of a caught error: the rules on cells. -/
namespace PL
open PySem PySem.Spec PyProof.Rows HotX L2 L2H RZ
/-- isinstance(e, c), e the error at a, its class D, its own dict dd -/
def rIsP (K : PySem.W.Frag) (D a dd : Addr) : List V → Hp → VK → Prop := fun xs H Q => ∃ (c : V) (cv : Value) (b : Bool) (fs : List (Str × V)), xs = [.ref a, c] ∧ (∀ u, RelV c u → u = cv) ∧ PySem.W.kitOne K (.ref D) cv = some b ∧ H dd = some (.xd fs) ∧ Q (.bl b) H
theorem call_isP {X : Cx} {a D dd : Addr} {oe : Obj} (T : ExcC X.K D) (hc : oe.cls = .ref D) (hd : oe.dict = some dd) (hf : ∃ vs, oe.data = .fields vs) (hp : (a, oe) ∈ X.pn) : CallR X (.builtin "isinstance") (rIsP X.K D a dd) := by
  intro pins s σ H xs us Q I r h
  obtain ⟨c, cv, b, fs, rfl, hcv, e, hx, q⟩ := h
  obtain ⟨u, u2, rfl, r1, r2⟩ := r.two
  cases r1
  have ec := hcv _ r2
  subst ec
  obtain ⟨hget, _⟩ := I.pin (a, oe) (List.mem_append_left _ hp)
  have ob : ObjOk X.prog X.w H s.heap dd (.xd fs) := I.hok dd _ hx
  obtain ⟨mA, hns, hr⟩ := ob
  obtain ⟨od, ho, _⟩ := lookIn_ns hns
  obtain ⟨vs, hv⟩ := hf
  have J : PySem.W.InstAt s.heap a oe D (some od) := ⟨hget, hc, by unfold PySem.W.notCls; rw [hv] <;> rfl, by rw [hd]; exact ho⟩
  exact PySem.W.kia_one (kitx_of T) I.kIn J e (fun z => nomatch z) fun tk => ⟨.bl b, H, I.kept (t' := tk) fun _ _ z => z, rfl, q⟩
section
variable {K : PySem.W.Frag} {P : Program} {w : World}
variable {env : List C} {Po : R → List C → Prop}
/-- the error's own dict stands -/
def Stays (dd : Addr) (fs : List (Str × V)) (G : Hp) : Prop := G dd = some (.xd fs)
theorem wi_zipH {Pi : List DD → List C → Prop} {t : TA} (h : WA K P w t env fun rs e => ∃ xs ys, rs = [.c (.d (.list xs)), .c (.d (.list ys))] ∧ xs.length ≤ ys.length ∧ Pi ((xs.zip ys).map fun p => .tuple [p.1, p.2]) e) : WI K P w (iZipH K t) env Pi := fun σ G H rp Q o =>
  h σ G H rp _ fun rs vs e1 G1 H1 ⟨xs, ys, er, hle, p⟩ s1 r1 ps fs => by
    subst er
    obtain ⟨v, u, ev, p1, p2⟩ := ps.two
    have k1 : Dp K G1 v (.list xs) := p1.1
    have k2 : Dp K G1 u (.list ys) := p2.1
    cases k1 with
    | lst g1 d1 =>
      cases k2 with
      | lst g2 d2 =>
        rename_i a1 vs1 a2 vs2
        have l1 := d1.plength
        have l2 := d2.plength
        have wk : Walk (ItzH K a1 a2) (min vs1.length vs2.length) (fun H => SqL K H a1 vs1 ∧ SqL K H a2 vs2) (YPair (fun i => vs1[i]?) (fun i => vs2[i]?)) :=
          ⟨(walk_zip rfl).goes, fun H q => ⟨vs1, vs2, q.1, q.2, by omega⟩, (walk_zip rfl).yields⟩
        refine ⟨_, _, _, _, ev, Same.seq r1.sub g1, Same.seq r1.sub g2, o _ _ e1 G1 H1 p s1 r1 ?_⟩
        refine iter_pair wk (by simp [l1, l2]) (fun G2 H2 sg sh => ⟨Same.seq sh (Same.seq sg g1), Same.seq sh (Same.seq sg g2)⟩) fun i x y hx hy hi => ?_
        obtain ⟨d, hd, q⟩ := d1.pgetV hx
        obtain ⟨e, he, q2⟩ := d2.pgetV hy
        exact ⟨d, e, zip_item hd he, q, q2⟩
theorem strs_of {G : Hp} : ∀ {vs : List V} {ys : List Str}, DpAll K G vs (ys.map .str) → vs = ys.map V.str
  | _, [], h => by cases h; rfl
  | _, y :: ys, h => by
    cases h with
    | cons h1 h2 =>
      cases h1
      rw [strs_of h2]; rfl
/-- sep.join(list of texts) -/
theorem we_join {sep : Str} {te : TE} (h : WE K P w te env fun r e => ∃ ys : List Str, LL e r (ys.map .str) ∧ (ys.map (·.length)).sum + ys.length * sep.length ≤ 16777216 ∧ Po (.c (.d (.str (Txt.join sep ys)))) e) :
    WE K P w (tM1 (fun x xs H Q => ∃ a p, ∃ ys : List Str, x = .str a ∧ xs = [.ref p] ∧ (SqL K H p (ys.map V.str) ∨ SqT K H p (ys.map V.str)) ∧ (ys.map (·.length)).sum + ys.length * a.length ≤ 16777216 ∧ Q (.str (Txt.join a ys)) H) (tC (.str sep)) te) env Po := fun σ G H rp Q o =>
  ⟨⟨sep, rfl⟩, h σ G H rp _ fun r v e1 G1 H1 ⟨ys, hl, hz, p⟩ s1 r1 ok1 f1 => by
    obtain ⟨b, us, e, hs, hd⟩ := hl.seq r1 (Pend.of ok1 f1)
    subst e
    have eu := strs_of hd
    subst eu
    exact ⟨sep, b, ys, rfl, rfl, .inl hs, hz, (o.step s1).now r1 p (Dp.str _) Fr.dat⟩⟩
end
end PL

/-! A def that is handed the error that is being handled. -/
namespace PL
open PySem PySem.Spec PyProof.Rows HotX L2 L2H RZ
theorem roomH_mark' {k : Nat} {A : Around} (r : RoomH k A) (h : Option Value) : RoomH k (A.mark h) := ⟨r.dp, r.un⟩
section
variable {P : Program} {w : World} {K : PySem.W.Frag} {mg : Str → Option Value} {base : Heap}
/-- the context of such a def's body -/
abbrev cxK (P : Program) (w : World) (K : PySem.W.Frag) (mg : Str → Option Value) (base : Heap) (N : List Str) (qual : Str) (scope : Scope) (f : Addr) (cd : Value) (A : Around) (outer : List Env) (s : Shared) (H : Hp) (p : Addr × Obj) : Cx := (cxH CX0 P w K mg base N qual scope f cd A outer s H E0 p).nox
/-- f(e): e the handled error; pre: what its object is, what the heap is -/
def FnE (P : Program) (w : World) (K : PySem.W.Frag) (mg : Str → Option Value) (base : Heap) (k : Nat) (f : Addr) (fd : FuncData) (ps : List Str) (pre : Addr × Obj → Hp → VK → Prop) : Prop :=
  ∀ (A : Around) (outer : List Env) (s : Shared) (H : Hp) (args : PySem.Args) (us : List Value) (Q : VK) (p : Addr × Obj), RoomH k A → Hot1 A p → PinOk outer H s p → Env0 P w K mg base A outer s H → BindsTo s fd args (ps.zip us) → us = [.ref p.1] → pre p H Q →
    codeAny (model P w) A (.call (.ref f) args) (CR CX0 outer P w H s Q E0) s
theorem fnE_ok {x qual : Str} {st : Stmt} {f : Addr} {fd : FuncData} {N ps : List Str} {k : Nat} {pre : Addr × Obj → Hp → VK → Prop} (F1 : Fun K x qual st f fd) (S : FnScope N ps (defScope st)) (h1 : ps.length = 1)
    (hbody : ∀ (cdv : Value) (A : Around) (outer : List Env) (s : Shared) (H : Hp) (Q : VK) (p : Addr × Obj), Hot1 A p → RoomH k (A.deeper (envOfC qual (defScope st) s.heap.objs.size f cdv)) → pre p H Q →
      ∃ t, PSs (cxK P w K mg base N qual (defScope st) f cdv A outer s H p) (defBody st) t ∧ t { nx := fun _ H' => Q .non H', rt := Q } (L2.start N [.ref p.1]) H) : FnE P w K mg base (k + 1) f fd ps pre := by
  obtain ⟨oc, od, kV, doc, pm, an, cdv, ct, osl, rfl, lk, hcd⟩ := F1.ex
  intro A outer s H args us Q p hr hot hpin e0 hb hus hpre
  subst hus
  have KX : K.In s.heap := e0.mod.kin.keeps fun b o e => (e0.bs b o e).1
  have kinds : ∀ y ∈ ps.zip [Value.ref p.1], (defScope st).names.lookup y.1 = some .local ∨ ((defScope st).names.lookup y.1 = some .cell ∧ ((cellsFrom (s.heap.objs.size + 1) (defScope st).names []).lookup y.1).isSome = true) := fun ⟨n, v⟩ hy =>
    (S.par n (List.of_mem_zip hy).1).elim .inl fun q => .inr ⟨q, PySem.W.cellsFrom_some _ _ _ (.inl q)⟩
  refine codeAny_call_function hr.depth (KX _ _ lk) rfl S.co S.gen rfl (PySem.W.codeRec_of KX hcd) (hb _ _ _ _ (wpAny_newFunctionEnv_cells S.kind kinds fun env he s1 x => ?_))
  subst he
  refine ⟨(e0.mod.nolimit.keeps fun b o e => (e0.bs b o e).1).keeps x.toInCall.keep, codeAny_func ?_⟩
  obtain ⟨t, ht, hq⟩ := hbody cdv A outer s H Q p hot (hr.deeper _) hpre
  have I : Inv (cxH CX0 P w K mg base N qual (defScope st) f cdv A outer s H E0 p) [] (L2.start N [.ref p.1]) H s1 := inv_startH S hpin e0 (by rw [h1]; rfl) (.cons rfl .nil) x
  refine wpAny_mono (ht.nox.run [] s1 (L2.start N [.ref p.1]) H _ I hq) (fun fl s' hs => ?_) fun e s' hs => hs
  have fin : ∀ {σ' : L2.St} {H' : Hp} {v : V} {u : Value}, Inv (cxH CX0 P w K mg base N qual (defScope st) f cdv A outer s H E0 p) [] σ' H' s' → RelV v u → Q v H' → CE outer P w H s Q u s' := fun {σ' H' v u} J rv q => ⟨v, H', J.os, J.bare, J.base, J.hok, rv, q⟩
  cases fl with
  | ret u =>
    obtain ⟨v, σ', H', J, rv, q⟩ := hs
    exact fin J rv q
  | next =>
    obtain ⟨σ', H', J, q⟩ := hs
    exact fin (v := V.non) (u := Value.none) J rfl q
  | brk =>
    obtain ⟨_, _, _, q⟩ := hs
    exact False.elim q
  | cont =>
    obtain ⟨_, _, _, q⟩ := hs
    exact False.elim q
/-- the call in an except suite -/
theorem pe_callE {X : Cx} {a : Addr} {oe : Obj} {pn : List (Addr × Obj)} {x : Str} {f : Addr} {fd : FuncData} {k : Nat} {ps : List Str} {pre : Addr × Obj → Hp → VK → Prop} {e : Expr} {ta : TA} {q pos : Pos} (F1 : FnE X.prog X.w X.K X.mg X.base k f fd ps pre) (hr : RoomH k X.A) (hn : ∃ vs : Array Value, oe.data = .fields vs ∧ vs[2]? = some .none)
    (hg : Gl (X.suite a ((a, oe) :: pn)) x) (hm : X.mg x = some (.ref f)) (hk : PySem.W.keepIn X.K (.ref f) = true) (hb : Binds X.K fd ps []) (h1 : ps.length = 1) (ha : PA (X.suite a ((a, oe) :: pn)) [e] ta) (hdb : (x == ("__debug__" : Str)) = false := by decide)
    (he : starEach [e] X.env = (false, eval e X.env) :: starEach [] X.env := by rfl) (hpl : (backTo pos (starEach [] X.env)).any (·.1) = false := by rfl) :
    PE (X.suite a ((a, oe) :: pn)) (.Call (.Name x q) [e] [] pos) (fun σ H Q => ta σ H fun vs H1 => vs = [.ref a] ∧ pre (a, oe) H1 Q) := by
  refine ⟨fun pins s σ H Q I h => ?_⟩
  refine wpAny_Call_Name_kw (ld_glob I hg hm ?_ hdb)
  refine PySem.W.callWith_K (h₀ := X.base) I.ok.mod.kin hk (thn (ha.run pos pins s σ H _ I h) fun us s1 ⟨vs, H1, I1, r, ev, q⟩ => ⟨I1.kIn, ?_⟩) he hpl
  subst ev
  obtain ⟨u, rfl, ru⟩ := vals1 r
  cases ru
  have b := hb s1 [.ref a] I1.kIn (by rw [List.append_nil, h1]; rfl)
  rw [List.append_nil] at b
  have P1 := I1.pin (a, oe) (List.mem_append_left _ List.mem_cons_self)
  have hpin : PinOk X.stack H1 s1 (a, oe) := ⟨P1.1, P1.2.1, fun hm => (List.mem_cons.mp (I1.stkSub a hm)).elim P1.2.2.1 P1.2.2.2.1, P1.2.2.2.2⟩
  refine wpAny_call (codeAny_mono (F1 (X.suite a ((a, oe) :: pn)).A X.stack s1 H1 ⟨[.ref a], []⟩ [.ref a] Q (a, oe) (roomH_mark' hr _) ⟨rfl, hn⟩ hpin I1.env0 b rfl q) fun r s' hq => ?_)
  cases r with
  | error e => exact hq.elim
  | ok fl =>
    cases fl with
    | ret u => exact I1.after hq
    | _ => exact False.elim hq
end
end PL

/-! try .. except X as e: .. except ..: the first clause takes it. -/
namespace PL
open PySem PySem.Spec PyProof.Rows HotX L2 L2N
/-- the first clause is the one -/
def wHit (K : PySem.W.Frag) (c : Value) (i : Nat) (ts : Addr → Value → Option Addr → TS) (D : Ends) : WX := fun cls d σ H => PySem.W.exmOne K cls c = some true ∧ ∀ a, H a = none →
  ts a cls d { nx := fun σ' H' => D.nx (σ'.set i none) H', rt := D.rt, bk := fun σ' H' => D.bk (σ'.set i none) H', ct := fun σ' H' => D.ct (σ'.set i none) H' } (σ.set i (some (.ref a))) H
section
variable {X : Cx} {x n : Str} {c : Value} {i : Nat} {body suite : List Stmt} {b₀ : Stmt} {rest : List ExceptHandler} {np pos pos' : Pos} {tb : WX → TS} {ts : Addr → Value → Option Addr → TS}
theorem ps_try_hit (hs : X.stack = X.env :: X.outer) (hf : X.env.frame = some X.env.locals) (hN : X.N.Nodup) (hi : X.N[i]? = some n) (hln : X.env.kindOf n = some .local) (hc : Names X x c)
    (hb : ∀ (W : WX) (pn : List (Addr × Obj)) (xe : Value → Shared → Prop), L2N.Takes (X.tr pn xe) W → PassesOwn (model X.prog X.w) X.A X.env xe → PSs (X.tr pn xe) body (tb W))
    (hsu : ∀ (a : Addr) (oe : Obj) (cls : Value) (d : Option Addr) (pn : List (Addr × Obj)), Zn cls d oe → (∃ vs : Array Value, oe.data = .fields vs ∧ vs[2]? = some .none) → PSs (X.suite a ((a, oe) :: pn)) (b₀ :: suite) (ts a cls d)) :
    PS X (.Try body (.ExceptHandler (some (.Name x np)) (some n) (b₀ :: suite) pos' :: rest) [] [] pos) (fun D σ H => tb (wHit X.K c i ts D) D σ H) := by
  refine ⟨fun pins s σ H D I h => ?_⟩
  have ok := I.ok
  have hfr : X.A.frames = some (X.env :: X.outer) := by rw [ok.frames, hs]
  refine wpAny_Try_except (wpAny_mono ((hb (wHit X.K c i ts D) (X.pn ++ pins) (fun e s₁ => wpAny (model X.prog X.w) X.A (noteFrame e X.env) (fun _ s₂ => wpAny (model X.prog X.w) X.A (setFlight e none) (fun _ s₃ =>
    wpAny (model X.prog X.w) X.A (handleBy e X.env (.ExceptHandler (some (.Name x np)) (some n) (b₀ :: suite) pos' :: rest)) (SP X pins D) X.xe s₃) X.xe s₂) X.xe s₁) (fun u s' xx => ?_) PassesOwn.looking).run [] s σ H D (I.toTry _) h) (fun f s1 hsp => ?_) (fun e s1 he => he))
  · obtain ⟨a, B, sI, pins', σ', H', cls, d, rfl, J', nb, up, sky, na, os, ag, hit, go⟩ := xx
    have J : Inv X pins σ' H' sI := J'.ofTry ok
    show wpAny (model X.prog X.w) X.A (noteFrame (.ref a) X.env) _ _ _
    refine L2N.Sky.land Zn.steady hfr hf (by rw [← hs]; exact sky) fun h3 fl3 up3 => ?_
    have J3 : Inv X pins σ' H' { s' with heap := h3 } := J.landed nb fl3.1 (up.trans up3) os ag
    obtain ⟨oe3, vs3, he3, hz3, hd3⟩ := fl3.there
    have off : a ∉ frs (X.env :: X.outer) := fun hm => by
      obtain ⟨_, o', e', hnf⟩ := fl3.2.2.1.mem hm
      rw [he3] at e'
      cases e'
      exact hnf _ hd3
    have nL : a ≠ X.env.locals := fun z => off (List.mem_filterMap.mpr ⟨X.env, List.mem_cons_self, by rw [hf, z]⟩)
    have nF : a ∉ X.fs := fun hm => by
      obtain ⟨e, he, q⟩ := List.mem_filterMap.mp hm
      exact off (List.mem_filterMap.mpr ⟨e, List.mem_cons_of_mem _ he, q⟩)
    have S3 := J3.suite he3 hd3 na nL nF
    refine wpAny_handleBy_cons (codeAny_handlers_test ?_) (by intro q; cases q)
    have LT : PySem.W.Looks (model X.prog X.w) h3 (typeOf (.ref a)) cls := fun A Q E s k q => wpAny_typeOf_ref (k _ _ he3) (by rw [hz3.1]; exact q)
    have LM := PySem.W.exm_one (M := model X.prog X.w) J3.kIn LT hit
    have test : ∀ {Q : Value → Shared → Prop} {E : Value → Shared → Prop}, Q c { s' with heap := h3 } → wpAny (model X.prog X.w) (X.A.mark (some (.ref a))) (eval (.Name x np) X.env) Q E { s' with heap := h3 } := fun {Q E} q => by
      obtain ⟨hg, hdbg, hm | ⟨hm, hv, hnn⟩⟩ := hc
      · exact ld_glob (X := X.suite a ((a, oe3) :: (X.pn ++ pins))) S3 hg hm q hdbg
      · exact ld_blt (X := X.suite a ((a, oe3) :: (X.pn ++ pins))) S3 hg hm hv q hnn hdbg
    refine test (LM.here (codeAny_handlers_suite_as (HandSPX.lands_againZ fl3 fun h4 fl4 up4 => ?_)))
    have J4 : Inv X pins σ' H' { s' with heap := h4 } := J.landed nb fl4.1 ((up.trans up3).trans up4) os ag
    obtain ⟨oe4, vs4, he4, hz4, hd4⟩ := fl4.there
    refine store_ok (X := X.suite a ((a, oe4) :: (X.pn ++ pins))) (v := .ref a) (J4.suite he4 hd4 na nL nF) hN hi (.inl hln) rfl (fun s5 S5 => ?_) (.inr hln)
    refine wpAny_mono ((hsu a oe4 cls d (X.pn ++ pins) hz4 ⟨_, hd4, hz4.2.2 _ hd4⟩).run [] s5 _ H' _ S5 (go a na)) (fun f s6 hsp => ?_) (fun _ _ z => False.elim z)
    have gone : ∀ {σ6 : L2.St} {H6 : Hp} {Q : Shared → Prop}, Inv (X.suite a ((a, oe4) :: (X.pn ++ pins))) [] σ6 H6 s6 → (∀ s7, Inv X pins (σ6.set i none) H6 s7 → Q s7) →
        wpAny (model X.prog X.w) X.A (do bindName X.env n .none; unbindBehindTheSuite X.env n pos') (fun _ s7 => Q s7) X.xe s6 := fun S6 hq => gone_ok (S6.unsuite ok) hN hi hln hq
    cases f with
    | next =>
      obtain ⟨σ6, H6, S6, q6⟩ := hsp
      exact gone S6 fun s7 J7 => ⟨_, _, J7, q6⟩
    | brk =>
      obtain ⟨σ6, H6, S6, q6⟩ := hsp
      exact gone S6 fun s7 J7 => ⟨_, _, J7, q6⟩
    | cont =>
      obtain ⟨σ6, H6, S6, q6⟩ := hsp
      exact gone S6 fun s7 J7 => ⟨_, _, J7, q6⟩
    | ret u =>
      obtain ⟨v6, σ6, H6, S6, r6, q6⟩ := hsp
      exact gone S6 fun s7 J7 => ⟨_, _, _, J7, r6, q6⟩
  · cases f with
    | next =>
      obtain ⟨σ', H', J', q⟩ := hsp
      exact wpAny_execs_nil ⟨σ', H', J'.ofTry ok, q⟩
    | brk =>
      obtain ⟨σ', H', J', q⟩ := hsp
      exact ⟨σ', H', J'.ofTry ok, q⟩
    | cont =>
      obtain ⟨σ', H', J', q⟩ := hsp
      exact ⟨σ', H', J'.ofTry ok, q⟩
    | ret u =>
      obtain ⟨v, σ', H', J', r, q⟩ := hsp
      exact ⟨v, σ', H', J'.ofTry ok, r, q⟩
end
end PL

/-! What `_law_kin` tells of a caught TooMany. -/
namespace PL
open PySem PySem.Spec PyProof.Rows L2 RZ
section
variable {K : PySem.W.Frag} {P : Program} {w : World}
def isL (K : PySem.W.Frag) (D a dd : Addr) : List V → TA
  | [] => tNil
  | c :: cs => tCons (tCB (rIsP K D a dd) (tCons (tVar 0) (tCons (tC c) tNil))) (isL K D a dd cs)
def Kit1 (K : PySem.W.Frag) (D : Addr) (c : V) (b : Bool) : Prop := ∃ cv, (∀ u, RelV c u → u = cv) ∧ PySem.W.kitOne K (.ref D) cv = some b
theorem isL_go {D a dd : Addr} {fs : List (Str × V)} {σ : L2.St} {H : Hp} (hd : H dd = some (.xd fs)) (h0 : σ[0]? = some (some (.ref a))) : ∀ {cs : List V} {bs : List Bool}, Paired (Kit1 K D) cs bs → ∀ {Q : List V → Hp → Prop}, Q (bs.map .bl) H → isL K D a dd cs σ H Q
  | [], [], _, _, q => q
  | c :: cs, b :: bs, hp, Q, q => by
    cases hp with
    | cons h t =>
      obtain ⟨cv, h1, h2⟩ := h
      exact ⟨_, h0, c, cv, b, fs, rfl, h1, h2, hd, isL_go hd h0 t q⟩
  | [], _ :: _, hp, _, _ => by cases hp
  | _ :: _, [], hp, _, _ => by cases hp
def strsT : List Str → TA
  | [] => tNil
  | c :: cs => tCons (tC (.str c)) (strsT cs)
def kinNames : List Str := ["NoHall", "NoStand", "NoBeat", "NoPlan", "NoThing", "NoCount", "NoMeeting", "TooMany", "+"]
def tailKin (K : PySem.W.Frag) : TS :=
  tSeq (tAsg (tLst (strsT kinNames)) (gName 2))
    (tRet (tM1 (fun x xs H Q => ∃ a p, ∃ ys : List Str, x = .str a ∧ xs = [.ref p] ∧ (SqL K H p (ys.map V.str) ∨ SqT K H p (ys.map V.str)) ∧ (ys.map (·.length)).sum + ys.length * a.length ≤ 16777216 ∧ Q (.str (Txt.join a ys)) H) (tC (.str ""))
      (tLc (iZipH K (tCons (tVar 2) (tCons (tVar 1) tNil))) (gTup K 2 (gCons (gName 3) (gCons (gName 4) gNil))) (tB (tVar 4)) (tVar 3) [3, 4])))
def tKin (K : PySem.W.Frag) (D a dd : Addr) (x1 x2 x3 : List V) : TS :=
  tSeq (tAsg (tLst (isL K D a dd x1)) (gName 1))
  (tSeq (tAsg (tOp (rAddU K) (tVar 1) (tLst (isL K D a dd x2))) (gName 1))
  (tSeq (tAsg (tOp (rAddU K) (tVar 1) (tLst (isL K D a dd x3))) (gName 1)) (tailKin K)))
theorem we_lsC {xs : List Str} {env : List C} {Po : R → List C → Prop} (hz : xs.length ≤ 100000) (p : Po (.c (.d (.list (xs.map .str)))) env) : WE K P w (tLst (strsT xs)) env Po := by
  have wa : ∀ (xs : List Str) (Po : List R → List C → Prop), Po (xs.map fun s => R.c (.d (.str s))) env → WA K P w (strsT xs) env Po := fun xs => by
    induction xs with
    | nil => exact fun Po p => wa_nil p
    | cons x xs ih => exact fun Po p => wa_cons (we_str (ih _ p))
  refine we_frz (we_lst (wa xs _ ⟨xs.map .str, by simp [R.dat], by simpa using hz, fun a => ⟨a, _, rfl, p⟩⟩))
theorem tail_ok {Q : VK} {c0 : C} : WS K P w (tailKin K) [c0, .d (.list ([false, false, false, false, false, false, false, true, true].map .bool)), .no, .no, .no] ⟨fun _ => False, fun r _ => r = .c (.d (.str "TooMany+")), fun _ => False, fun _ => False⟩ := by
  unfold tailKin
  refine ws_seq (ws_asg (we_lsC (by decide) (wg_name ?_)))
  refine ws_ret (we_join ?_)
  refine we_lcC (gin_tup (gins_name (by decide) (gins_name (by decide) gins_nil))) (wi_zipH (wa_cons (we_d rfl (wa_cons (we_d rfl (wa_nil ?_)))))) 
  refine ⟨_, _, rfl, by decide, by decide, own2 rfl rfl, fun k => decide (7 ≤ k), fun k => .str (kinNames.getD k ""), fun k x hx => ?_, fun a => ?_⟩
  · have hk : k < 9 := by
      have h := (List.getElem?_eq_some_iff.mp hx).1
      rw [List.length_map, List.length_zip] at h
      exact h
    have h9 : k = 0 ∨ k = 1 ∨ k = 2 ∨ k = 3 ∨ k = 4 ∨ k = 5 ∨ k = 6 ∨ k = 7 ∨ k = 8 := by omega
    rcases h9 with rfl | rfl | rfl | rfl | rfl | rfl | rfl | rfl | rfl <;>
    · obtain rfl := Option.some.inj hx
      refine wg_tup rfl (wgs_consD (wg_name (wgs_consD (wg_name (wgs_nilD ?_)))))
      refine wt_B (we_d rfl ⟨_, rfl, rfl, fun hb => ?_, fun hb => ?_⟩)
      · first
          | exact Bool.noConfusion hb
          | exact we_d rfl ⟨rfl, rfl⟩
      · first
          | exact Bool.noConfusion hb
          | exact rfl
  · exact ⟨["TooMany", "+"], .inr (.inl ⟨a, rfl⟩), by decide, rfl⟩
theorem bls_dp (G : Hp) : ∀ (bs : List Bool), DpAll K G (bs.map V.bl) (bs.map .bool)
  | [] => .nil
  | b :: bs => .cons (.bl b) (bls_dp G bs)
theorem kin_ok {PP : Program} {ww : World} {D a dd : Addr} {fs : List (Str × V)} {x1 x2 x3 : List V} {H : Hp} {Q : VK} (hd : H dd = some (.xd fs)) (h1 : Paired (Kit1 K D) x1 [false, false, false, false]) (h2 : Paired (Kit1 K D) x2 [false, false, false]) (h3 : Paired (Kit1 K D) x3 [true, true])
    (hq : ∀ H', Same H H' → Q (.str "TooMany+") H') : tKin K D a dd x1 x2 x3 { nx := fun _ H' => Q .non H', rt := Q } [some (.ref a), none, none, none, none] H := by
  unfold tKin
  refine isL_go hd rfl h1 ⟨by decide, fun p1 e1 => ?_⟩
  have s1 := same_new (o := .lst ([false, false, false, false].map V.bl)) e1
  have g1 : (upd H p1 (.lst ([false, false, false, false].map V.bl))) p1 = some (.lst ([false, false, false, false].map V.bl)) := upd_same
  generalize upd H p1 (.lst ([false, false, false, false].map V.bl)) = H1 at s1 g1 ⊢
  show tSeq _ _ _ _ H1
  refine ⟨_, rfl, isL_go (s1 _ _ hd) rfl h2 ⟨by decide, fun p2 e2 => ?_⟩⟩
  have s2 := same_new (o := .lst ([false, false, false].map V.bl)) e2
  have g2 : (upd H1 p2 (.lst ([false, false, false].map V.bl))) p2 = some (.lst ([false, false, false].map V.bl)) := upd_same
  generalize upd H1 p2 (.lst ([false, false, false].map V.bl)) = H2 at s2 g2 ⊢
  refine .inr (.inr ⟨p1, p2, [false, false, false, false].map V.bl, [false, false, false].map V.bl, rfl, rfl, .inl (.inl (s2 _ _ g1)), .inl (.inl g2), by decide, fun p3 e3 => ?_⟩)
  have s3 := same_new (o := .lst ([false, false, false, false].map V.bl ++ [false, false, false].map V.bl)) e3
  have g3 : (upd H2 p3 (.lst ([false, false, false, false].map V.bl ++ [false, false, false].map V.bl))) p3 = some (.lst ([false, false, false, false].map V.bl ++ [false, false, false].map V.bl)) := upd_same
  generalize upd H2 p3 (.lst ([false, false, false, false].map V.bl ++ [false, false, false].map V.bl)) = H3 at s3 g3 ⊢
  show tSeq _ _ _ _ H3
  refine ⟨_, rfl, isL_go (s3 _ _ (s2 _ _ (s1 _ _ hd))) rfl h3 ⟨by decide, fun p4 e4 => ?_⟩⟩
  have s4 := same_new (o := .lst ([true, true].map V.bl)) e4
  have g4 : (upd H3 p4 (.lst ([true, true].map V.bl))) p4 = some (.lst ([true, true].map V.bl)) := upd_same
  generalize upd H3 p4 (.lst ([true, true].map V.bl)) = H4 at s4 g4 ⊢
  refine .inr (.inr ⟨p3, p4, [false, false, false, false].map V.bl ++ [false, false, false].map V.bl, [true, true].map V.bl, rfl, rfl, .inl (.inl (s4 _ _ g3)), .inl (.inl g4), by decide, fun p5 e5 => ?_⟩)
  have s5 := same_new (o := .lst (([false, false, false, false].map V.bl ++ [false, false, false].map V.bl) ++ [true, true].map V.bl)) e5
  have g5 : (upd H4 p5 (.lst (([false, false, false, false].map V.bl ++ [false, false, false].map V.bl) ++ [true, true].map V.bl))) p5 = some (.lst ([false, false, false, false, false, false, false, true, true].map V.bl)) := upd_same
  generalize upd H4 p5 (.lst (([false, false, false, false].map V.bl ++ [false, false, false].map V.bl) ++ [true, true].map V.bl)) = H5 at s5 g5 ⊢
  have s : Same H H5 := fun b o e => s5 _ _ (s4 _ _ (s3 _ _ (s2 _ _ (s1 _ _ e))))
  have rp : Rep K PP ww [.raw (.ref a), .d (.list ([false, false, false, false, false, false, false, true, true].map .bool)), .no, .no, .no] [some (.ref a), some (.ref p5), none, none, none] (fun b => if b = p5 then some (.lst ([false, false, false, false, false, false, false, true, true].map V.bl)) else none) H5 := by
    refine ⟨rfl, fun b o e => ?_, fun i c hi => ?_, fun i j ci cj b hi hj hbi hbj => ?_⟩
    · split at e
      · rename_i hb
        rw [hb, g5]; exact e
      · cases e
    · rcases i with _ | _ | _ | _ | _ | i
      · cases hi; exact .inr ⟨_, rfl, rfl⟩
      · cases hi
        refine .inr ⟨_, rfl, .lst (.inl (.inl (if_pos rfl))) (bls_dp _ _)⟩
      · cases hi; exact .inl rfl
      · cases hi; exact .inl rfl
      · cases hi; exact .inl rfl
      · cases hi
    · rcases i with _ | _ | _ | _ | _ | i <;> cases hi <;> cases hbi
  refine tail_ok (c0 := .raw (.ref a)) (Q := Q) _ _ _ rp { nx := fun x H' => Q .non H', rt := Q } ⟨fun e σ' G' H' p st rp' => p.elim, fun r v e σ' G' H' p st rp' ok f => ?_, fun e σ' G' H' p st rp' => p.elim, fun e σ' G' H' p st rp' => p.elim⟩
  have p : r = .c (.d (.str "TooMany+")) := p
  subst p
  have ok : Dp K G' v (.str "TooMany+") := ok
  cases ok
  refine hq H' fun b o e => st.keep b o (s b o e) (fun ⟨i, c, hi, hc⟩ => ?_) id
  rcases i with _ | _ | _ | _ | _ | i <;> cases hi <;> cases hc
end
end PL

namespace PL
open PySem PySem.Spec PyProof.Rows L2 RZ MA
/-! ### the law's defs -/
def top (i : Nat) : Stmt := PySem.Challenge.pw_lorehall_k10_whole_orders_of_meetings.main.body.getD i (.Pass ⟨0, 0, 0, 0⟩)
abbrev s_is_from : Stmt := top 16
abbrev nm_is_from : List Str := ["thing", "low", "high"]
theorem sc_is_from : FnScope nm_is_from ["thing", "low", "high"] (defScope s_is_from) := ⟨rfl, rfl, rfl, by decide +kernel, rfl, by decide +kernel, by decide +kernel⟩
abbrev s_is_tuple : Stmt := top 17
abbrev nm_is_tuple : List Str := ["thing", "least", "most"]
theorem sc_is_tuple : FnScope nm_is_tuple ["thing", "least", "most"] (defScope s_is_tuple) := ⟨rfl, rfl, rfl, by decide +kernel, rfl, by decide +kernel, by decide +kernel⟩
abbrev s_is_lore : Stmt := top 18
abbrev nm_is_lore : List Str := ["thing", "at", "needs", "teach", "cap", "loss", "one", "other"]
theorem sc_is_lore : FnScope nm_is_lore ["thing", "at"] (defScope s_is_lore) := ⟨rfl, rfl, rfl, by decide +kernel, rfl, by decide +kernel, by decide +kernel⟩
abbrev s_is_hall : Stmt := top 19
abbrev nm_is_hall : List Str := ["thing", "at", "one"]
theorem sc_is_hall : FnScope nm_is_hall ["thing"] (defScope s_is_hall) := ⟨rfl, rfl, rfl, by decide +kernel, rfl, by decide +kernel, by decide +kernel⟩
abbrev s_need_hall : Stmt := top 20
abbrev nm_need_hall : List Str := ["hall"]
theorem sc_need_hall : FnScope nm_need_hall ["hall"] (defScope s_need_hall) := ⟨rfl, rfl, rfl, by decide +kernel, rfl, by decide +kernel, by decide +kernel⟩
abbrev s_is_standing : Stmt := top 21
abbrev nm_is_standing : List Str := ["hall", "thing", "folk", "things", "levels", "level", "one"]
theorem sc_is_standing : FnScope nm_is_standing ["hall", "thing"] (defScope s_is_standing) := ⟨rfl, rfl, rfl, by decide +kernel, rfl, by decide +kernel, by decide +kernel⟩
abbrev s_is_meeting : Stmt := top 22
abbrev nm_is_meeting : List Str := ["hall", "thing"]
theorem sc_is_meeting : FnScope nm_is_meeting ["hall", "thing"] (defScope s_is_meeting) := ⟨rfl, rfl, rfl, by decide +kernel, rfl, by decide +kernel, by decide +kernel⟩
abbrev s_is_beating : Stmt := top 23
abbrev nm_is_beating : List Str := ["hall", "thing", "one"]
theorem sc_is_beating : FnScope nm_is_beating ["hall", "thing"] (defScope s_is_beating) := ⟨rfl, rfl, rfl, by decide +kernel, rfl, by decide +kernel, by decide +kernel⟩
abbrev s_need_stand : Stmt := top 24
abbrev nm_need_stand : List Str := ["hall", "stand"]
theorem sc_need_stand : FnScope nm_need_stand ["hall", "stand"] (defScope s_need_stand) := ⟨rfl, rfl, rfl, by decide +kernel, rfl, by decide +kernel, by decide +kernel⟩
abbrev s_need_beat : Stmt := top 25
abbrev nm_need_beat : List Str := ["hall", "beat"]
theorem sc_need_beat : FnScope nm_need_beat ["hall", "beat"] (defScope s_need_beat) := ⟨rfl, rfl, rfl, by decide +kernel, rfl, by decide +kernel, by decide +kernel⟩
abbrev s_need_meeting : Stmt := top 26
abbrev nm_need_meeting : List Str := ["hall", "meeting"]
theorem sc_need_meeting : FnScope nm_need_meeting ["hall", "meeting"] (defScope s_need_meeting) := ⟨rfl, rfl, rfl, by decide +kernel, rfl, by decide +kernel, by decide +kernel⟩
abbrev s_all_stands : Stmt := top 27
abbrev nm_all_stands : List Str := ["hall", "many", "one", "turn", "rows", "row", "level", "found", "stand"]
theorem sc_all_stands : FnScope nm_all_stands ["hall"] (defScope s_all_stands) := ⟨rfl, rfl, rfl, by decide +kernel, rfl, by decide +kernel, by decide +kernel⟩
abbrev s_is_lesson : Stmt := top 29
abbrev nm_is_lesson : List Str := ["hall", "stand", "meeting", "one", "other", "thing", "needs", "teach", "cap", "loss", "need"]
theorem sc_is_lesson : FnScope nm_is_lesson ["hall", "stand", "meeting"] (defScope s_is_lesson) := ⟨rfl, rfl, rfl, by decide +kernel, rfl, by decide +kernel, by decide +kernel⟩
abbrev s_taught : Stmt := top 30
abbrev nm_taught : List Str := ["hall", "stand", "meeting", "other", "thing", "levels", "more", "row"]
theorem sc_taught : FnScope nm_taught ["hall", "stand", "meeting"] (defScope s_taught) := ⟨rfl, rfl, rfl, by decide +kernel, rfl, by decide +kernel, by decide +kernel⟩
abbrev s_behind : Stmt := top 31
abbrev nm_behind : List Str := ["hall", "stand", "beat", "used", "meeting", "found", "who", "levels", "row", "thing", "level"]
theorem sc_behind : FnScope nm_behind ["hall", "stand", "beat"] (defScope s_behind) := ⟨rfl, rfl, rfl, by decide +kernel, rfl, by decide +kernel, by decide +kernel⟩
abbrev s_by_beat : Stmt := top 32
abbrev nm_by_beat : List Str := ["hall", "stand", "beat"]
theorem sc_by_beat : FnScope nm_by_beat ["hall", "stand", "beat"] (defScope s_by_beat) := ⟨rfl, rfl, rfl, by decide +kernel, rfl, by decide +kernel, by decide +kernel⟩
abbrev s_orders_of : Stmt := top 34
abbrev nm_orders_of : List Str := ["beat", "found", "at", "one", "rest"]
theorem sc_orders_of : FnScope nm_orders_of ["beat"] (defScope s_orders_of) := ⟨rfl, rfl, rfl, by decide +kernel, rfl, by decide +kernel, by decide +kernel⟩
abbrev s_ends : Stmt := top 35
abbrev nm_ends : List Str := ["hall", "stand", "beat", "order"]
theorem sc_ends : FnScope nm_ends ["hall", "stand", "beat"] (defScope s_ends) := ⟨rfl, rfl, rfl, by decide +kernel, rfl, by decide +kernel, by decide +kernel⟩
abbrev s_are_free : Stmt := top 36
abbrev nm_are_free : List Str := ["hall", "meeting", "second", "one", "other", "stand"]
theorem sc_are_free : FnScope nm_are_free ["hall", "meeting", "second"] (defScope s_are_free) := ⟨rfl, rfl, rfl, by decide +kernel, rfl, by decide +kernel, by decide +kernel⟩
abbrev s__law_deck : Stmt := top 38
abbrev nm__law_deck : List Str := ["cell", "turn"]
theorem sc__law_deck : FnScope nm__law_deck ["cell", "turn"] (defScope s__law_deck) := ⟨rfl, rfl, rfl, by decide +kernel, rfl, by decide +kernel, by decide +kernel⟩
abbrev s__law_pick : Stmt := top 39
abbrev nm__law_pick : List Str := ["deck", "size", "found", "number"]
theorem sc__law_pick : FnScope nm__law_pick ["deck", "size"] (defScope s__law_pick) := ⟨rfl, rfl, rfl, by decide +kernel, rfl, by decide +kernel, by decide +kernel⟩
abbrev s__law_one : Stmt := top 40
abbrev nm__law_one : List Str := ["deck", "some"]
theorem sc__law_one : FnScope nm__law_one ["deck", "some"] (defScope s__law_one) := ⟨rfl, rfl, rfl, by decide +kernel, rfl, by decide +kernel, by decide +kernel⟩
abbrev s__law_kin : Stmt := top 41
abbrev nm__law_kin : List Str := ["e", "kinds_met", "names", "name", "good"]
theorem sc__law_kin : FnScope nm__law_kin ["e"] (defScope s__law_kin) := ⟨rfl, rfl, rfl, by decide +kernel, rfl, by decide +kernel, by decide +kernel⟩
abbrev s__law_try : Stmt := top 42
abbrev nm__law_try : List Str := ["door", "found", "e"]
theorem sc__law_try : FnScope nm__law_try ["door"] (defScope s__law_try) := ⟨rfl, rfl, rfl, by decide +kernel, rfl, by decide +kernel, by decide +kernel⟩
abbrev s__law_sort : Stmt := top 43
abbrev nm__law_sort : List Str := ["thing"]
theorem sc__law_sort : FnScope nm__law_sort ["thing"] (defScope s__law_sort) := ⟨rfl, rfl, rfl, by decide +kernel, rfl, by decide +kernel, by decide +kernel⟩
abbrev s__law_same : Stmt := top 44
abbrev nm__law_same : List Str := ["told", "due", "k", "part"]
theorem sc__law_same : FnScope nm__law_same ["told", "due"] (defScope s__law_same) := ⟨rfl, rfl, rfl, by decide +kernel, rfl, by decide +kernel, by decide +kernel⟩
abbrev s__law_hall : Stmt := top 45
abbrev nm__law_hall : List Str := ["deck", "shapes", "folk", "caps", "things", "at", "cap", "needs", "one", "loss"]
theorem sc__law_hall : FnScope nm__law_hall ["deck", "shapes"] (defScope s__law_hall) := ⟨rfl, rfl, rfl, by decide +kernel, rfl, by decide +kernel, by decide +kernel⟩
abbrev s__law_small : Stmt := top 46
abbrev nm__law_small : List Str := []
theorem sc__law_small : FnScope nm__law_small [] (defScope s__law_small) := ⟨rfl, rfl, rfl, by decide +kernel, rfl, by decide +kernel, by decide +kernel⟩
abbrev s__law_great : Stmt := top 47
abbrev nm__law_great : List Str := []
theorem sc__law_great : FnScope nm__law_great [] (defScope s__law_great) := ⟨rfl, rfl, rfl, by decide +kernel, rfl, by decide +kernel, by decide +kernel⟩
abbrev s__law_meeting : Stmt := top 48
abbrev nm__law_meeting : List Str := ["deck", "hall", "one", "other"]
theorem sc__law_meeting : FnScope nm__law_meeting ["deck", "hall"] (defScope s__law_meeting) := ⟨rfl, rfl, rfl, by decide +kernel, rfl, by decide +kernel, by decide +kernel⟩
abbrev s__law_beat : Stmt := top 49
abbrev nm__law_beat : List Str := ["deck", "hall", "k"]
theorem sc__law_beat : FnScope nm__law_beat ["deck", "hall"] (defScope s__law_beat) := ⟨rfl, rfl, rfl, by decide +kernel, rfl, by decide +kernel, by decide +kernel⟩
abbrev s__law_stand : Stmt := top 50
abbrev nm__law_stand : List Str := ["deck", "hall", "rows", "who", "lore"]
theorem sc__law_stand : FnScope nm__law_stand ["deck", "hall"] (defScope s__law_stand) := ⟨rfl, rfl, rfl, by decide +kernel, rfl, by decide +kernel, by decide +kernel⟩
abbrev s__law_met : Stmt := top 51
abbrev nm__law_met : List Str := ["hall", "table", "meeting", "one", "other", "thing", "needs", "teach", "cap", "loss", "need"]
theorem sc__law_met : FnScope nm__law_met ["hall", "table", "meeting"] (defScope s__law_met) := ⟨rfl, rfl, rfl, by decide +kernel, rfl, by decide +kernel, by decide +kernel⟩
abbrev s__law_table : Stmt := top 52
abbrev nm__law_table : List Str := ["stand", "found", "who", "levels", "thing", "level"]
theorem sc__law_table : FnScope nm__law_table ["stand"] (defScope s__law_table) := ⟨rfl, rfl, rfl, by decide +kernel, rfl, by decide +kernel, by decide +kernel⟩
abbrev s__law_stand_of : Stmt := top 53
abbrev nm__law_stand_of : List Str := ["hall", "table", "rows", "who", "thing"]
theorem sc__law_stand_of : FnScope nm__law_stand_of ["hall", "table"] (defScope s__law_stand_of) := ⟨rfl, rfl, rfl, by decide +kernel, rfl, by decide +kernel, by decide +kernel⟩
abbrev s__law_behind : Stmt := top 54
abbrev nm__law_behind : List Str := ["hall", "stand", "beat", "table", "used", "meeting", "spot"]
theorem sc__law_behind : FnScope nm__law_behind ["hall", "stand", "beat"] (defScope s__law_behind) := ⟨rfl, rfl, rfl, by decide +kernel, rfl, by decide +kernel, by decide +kernel⟩
abbrev s__law_all : Stmt := top 55
abbrev nm__law_all : List Str := ["hall", "rows", "lore", "more", "row", "level", "found", "who", "stand"]
theorem sc__law_all : FnScope nm__law_all ["hall"] (defScope s__law_all) := ⟨rfl, rfl, rfl, by decide +kernel, rfl, by decide +kernel, by decide +kernel⟩
abbrev s__law_orders : Stmt := top 56
abbrev nm__law_orders : List Str := ["beat", "found", "one", "more", "order", "at"]
theorem sc__law_orders : FnScope nm__law_orders ["beat"] (defScope s__law_orders) := ⟨rfl, rfl, rfl, by decide +kernel, rfl, by decide +kernel, by decide +kernel⟩
abbrev s_law : Stmt := top 57
abbrev nm_law : List Str := ["script", "cell", "deck", "hall", "stand", "beat", "due", "order", "told", "every", "turn", "one", "other", "first", "second", "here", "bad", "k", "wide"]
theorem sc_law : FnScope nm_law ["script"] (defScope s_law) := ⟨rfl, rfl, rfl, by decide +kernel, rfl, by decide +kernel, by decide +kernel⟩
/-- what the top has written -/
structure Txt (K : PySem.W.Frag) (mg : Str → Option Value) where
  a_is_from : Addr
  d_is_from : FuncData
  F_is_from : Fun K "is_from" "is_from" s_is_from a_is_from d_is_from
  m_is_from : mg "is_from" = some (.ref a_is_from)
  b_is_from : Binds K d_is_from ["thing", "low", "high"] []
  a_is_tuple : Addr
  d_is_tuple : FuncData
  F_is_tuple : Fun K "is_tuple" "is_tuple" s_is_tuple a_is_tuple d_is_tuple
  m_is_tuple : mg "is_tuple" = some (.ref a_is_tuple)
  b_is_tuple : Binds K d_is_tuple ["thing", "least", "most"] []
  a_is_lore : Addr
  d_is_lore : FuncData
  F_is_lore : Fun K "is_lore" "is_lore" s_is_lore a_is_lore d_is_lore
  m_is_lore : mg "is_lore" = some (.ref a_is_lore)
  b_is_lore : Binds K d_is_lore ["thing", "at"] []
  a_is_hall : Addr
  d_is_hall : FuncData
  F_is_hall : Fun K "is_hall" "is_hall" s_is_hall a_is_hall d_is_hall
  m_is_hall : mg "is_hall" = some (.ref a_is_hall)
  b_is_hall : Binds K d_is_hall ["thing"] []
  a_need_hall : Addr
  d_need_hall : FuncData
  F_need_hall : Fun K "need_hall" "need_hall" s_need_hall a_need_hall d_need_hall
  m_need_hall : mg "need_hall" = some (.ref a_need_hall)
  b_need_hall : Binds K d_need_hall ["hall"] []
  a_is_standing : Addr
  d_is_standing : FuncData
  F_is_standing : Fun K "is_standing" "is_standing" s_is_standing a_is_standing d_is_standing
  m_is_standing : mg "is_standing" = some (.ref a_is_standing)
  b_is_standing : Binds K d_is_standing ["hall", "thing"] []
  a_is_meeting : Addr
  d_is_meeting : FuncData
  F_is_meeting : Fun K "is_meeting" "is_meeting" s_is_meeting a_is_meeting d_is_meeting
  m_is_meeting : mg "is_meeting" = some (.ref a_is_meeting)
  b_is_meeting : Binds K d_is_meeting ["hall", "thing"] []
  a_is_beating : Addr
  d_is_beating : FuncData
  F_is_beating : Fun K "is_beating" "is_beating" s_is_beating a_is_beating d_is_beating
  m_is_beating : mg "is_beating" = some (.ref a_is_beating)
  b_is_beating : Binds K d_is_beating ["hall", "thing"] []
  a_need_stand : Addr
  d_need_stand : FuncData
  F_need_stand : Fun K "need_stand" "need_stand" s_need_stand a_need_stand d_need_stand
  m_need_stand : mg "need_stand" = some (.ref a_need_stand)
  b_need_stand : Binds K d_need_stand ["hall", "stand"] []
  a_need_beat : Addr
  d_need_beat : FuncData
  F_need_beat : Fun K "need_beat" "need_beat" s_need_beat a_need_beat d_need_beat
  m_need_beat : mg "need_beat" = some (.ref a_need_beat)
  b_need_beat : Binds K d_need_beat ["hall", "beat"] []
  a_need_meeting : Addr
  d_need_meeting : FuncData
  F_need_meeting : Fun K "need_meeting" "need_meeting" s_need_meeting a_need_meeting d_need_meeting
  m_need_meeting : mg "need_meeting" = some (.ref a_need_meeting)
  b_need_meeting : Binds K d_need_meeting ["hall", "meeting"] []
  a_all_stands : Addr
  d_all_stands : FuncData
  F_all_stands : Fun K "all_stands" "all_stands" s_all_stands a_all_stands d_all_stands
  m_all_stands : mg "all_stands" = some (.ref a_all_stands)
  b_all_stands : Binds K d_all_stands ["hall"] []
  a_is_lesson : Addr
  d_is_lesson : FuncData
  F_is_lesson : Fun K "is_lesson" "is_lesson" s_is_lesson a_is_lesson d_is_lesson
  m_is_lesson : mg "is_lesson" = some (.ref a_is_lesson)
  b_is_lesson : Binds K d_is_lesson ["hall", "stand", "meeting"] []
  a_taught : Addr
  d_taught : FuncData
  F_taught : Fun K "taught" "taught" s_taught a_taught d_taught
  m_taught : mg "taught" = some (.ref a_taught)
  b_taught : Binds K d_taught ["hall", "stand", "meeting"] []
  a_behind : Addr
  d_behind : FuncData
  F_behind : Fun K "behind" "behind" s_behind a_behind d_behind
  m_behind : mg "behind" = some (.ref a_behind)
  b_behind : Binds K d_behind ["hall", "stand", "beat"] []
  a_by_beat : Addr
  d_by_beat : FuncData
  F_by_beat : Fun K "by_beat" "by_beat" s_by_beat a_by_beat d_by_beat
  m_by_beat : mg "by_beat" = some (.ref a_by_beat)
  b_by_beat : Binds K d_by_beat ["hall", "stand", "beat"] []
  a_orders_of : Addr
  d_orders_of : FuncData
  F_orders_of : Fun K "orders_of" "orders_of" s_orders_of a_orders_of d_orders_of
  m_orders_of : mg "orders_of" = some (.ref a_orders_of)
  b_orders_of : Binds K d_orders_of ["beat"] []
  a_ends : Addr
  d_ends : FuncData
  F_ends : Fun K "ends" "ends" s_ends a_ends d_ends
  m_ends : mg "ends" = some (.ref a_ends)
  b_ends : Binds K d_ends ["hall", "stand", "beat"] []
  a_are_free : Addr
  d_are_free : FuncData
  F_are_free : Fun K "are_free" "are_free" s_are_free a_are_free d_are_free
  m_are_free : mg "are_free" = some (.ref a_are_free)
  b_are_free : Binds K d_are_free ["hall", "meeting", "second"] []
  a__law_deck : Addr
  d__law_deck : FuncData
  F__law_deck : Fun K "_law_deck" "_law_deck" s__law_deck a__law_deck d__law_deck
  m__law_deck : mg "_law_deck" = some (.ref a__law_deck)
  b__law_deck : Binds K d__law_deck ["cell", "turn"] []
  a__law_pick : Addr
  d__law_pick : FuncData
  F__law_pick : Fun K "_law_pick" "_law_pick" s__law_pick a__law_pick d__law_pick
  m__law_pick : mg "_law_pick" = some (.ref a__law_pick)
  b__law_pick : Binds K d__law_pick ["deck", "size"] []
  a__law_one : Addr
  d__law_one : FuncData
  F__law_one : Fun K "_law_one" "_law_one" s__law_one a__law_one d__law_one
  m__law_one : mg "_law_one" = some (.ref a__law_one)
  b__law_one : Binds K d__law_one ["deck", "some"] []
  a__law_kin : Addr
  d__law_kin : FuncData
  F__law_kin : Fun K "_law_kin" "_law_kin" s__law_kin a__law_kin d__law_kin
  m__law_kin : mg "_law_kin" = some (.ref a__law_kin)
  b__law_kin : Binds K d__law_kin ["e"] []
  a__law_try : Addr
  d__law_try : FuncData
  F__law_try : Fun K "_law_try" "_law_try" s__law_try a__law_try d__law_try
  m__law_try : mg "_law_try" = some (.ref a__law_try)
  b__law_try : Binds K d__law_try ["door"] []
  a__law_sort : Addr
  d__law_sort : FuncData
  F__law_sort : Fun K "_law_sort" "_law_sort" s__law_sort a__law_sort d__law_sort
  m__law_sort : mg "_law_sort" = some (.ref a__law_sort)
  b__law_sort : Binds K d__law_sort ["thing"] []
  a__law_same : Addr
  d__law_same : FuncData
  F__law_same : Fun K "_law_same" "_law_same" s__law_same a__law_same d__law_same
  m__law_same : mg "_law_same" = some (.ref a__law_same)
  b__law_same : Binds K d__law_same ["told", "due"] []
  a__law_hall : Addr
  d__law_hall : FuncData
  F__law_hall : Fun K "_law_hall" "_law_hall" s__law_hall a__law_hall d__law_hall
  m__law_hall : mg "_law_hall" = some (.ref a__law_hall)
  b__law_hall : Binds K d__law_hall ["deck", "shapes"] []
  a__law_small : Addr
  d__law_small : FuncData
  F__law_small : Fun K "_law_small" "_law_small" s__law_small a__law_small d__law_small
  m__law_small : mg "_law_small" = some (.ref a__law_small)
  b__law_small : Binds K d__law_small [] []
  a__law_great : Addr
  d__law_great : FuncData
  F__law_great : Fun K "_law_great" "_law_great" s__law_great a__law_great d__law_great
  m__law_great : mg "_law_great" = some (.ref a__law_great)
  b__law_great : Binds K d__law_great [] []
  a__law_meeting : Addr
  d__law_meeting : FuncData
  F__law_meeting : Fun K "_law_meeting" "_law_meeting" s__law_meeting a__law_meeting d__law_meeting
  m__law_meeting : mg "_law_meeting" = some (.ref a__law_meeting)
  b__law_meeting : Binds K d__law_meeting ["deck", "hall"] []
  a__law_beat : Addr
  d__law_beat : FuncData
  F__law_beat : Fun K "_law_beat" "_law_beat" s__law_beat a__law_beat d__law_beat
  m__law_beat : mg "_law_beat" = some (.ref a__law_beat)
  b__law_beat : Binds K d__law_beat ["deck", "hall"] []
  a__law_stand : Addr
  d__law_stand : FuncData
  F__law_stand : Fun K "_law_stand" "_law_stand" s__law_stand a__law_stand d__law_stand
  m__law_stand : mg "_law_stand" = some (.ref a__law_stand)
  b__law_stand : Binds K d__law_stand ["deck", "hall"] []
  a__law_met : Addr
  d__law_met : FuncData
  F__law_met : Fun K "_law_met" "_law_met" s__law_met a__law_met d__law_met
  m__law_met : mg "_law_met" = some (.ref a__law_met)
  b__law_met : Binds K d__law_met ["hall", "table", "meeting"] []
  a__law_table : Addr
  d__law_table : FuncData
  F__law_table : Fun K "_law_table" "_law_table" s__law_table a__law_table d__law_table
  m__law_table : mg "_law_table" = some (.ref a__law_table)
  b__law_table : Binds K d__law_table ["stand"] []
  a__law_stand_of : Addr
  d__law_stand_of : FuncData
  F__law_stand_of : Fun K "_law_stand_of" "_law_stand_of" s__law_stand_of a__law_stand_of d__law_stand_of
  m__law_stand_of : mg "_law_stand_of" = some (.ref a__law_stand_of)
  b__law_stand_of : Binds K d__law_stand_of ["hall", "table"] []
  a__law_behind : Addr
  d__law_behind : FuncData
  F__law_behind : Fun K "_law_behind" "_law_behind" s__law_behind a__law_behind d__law_behind
  m__law_behind : mg "_law_behind" = some (.ref a__law_behind)
  b__law_behind : Binds K d__law_behind ["hall", "stand", "beat"] []
  a__law_all : Addr
  d__law_all : FuncData
  F__law_all : Fun K "_law_all" "_law_all" s__law_all a__law_all d__law_all
  m__law_all : mg "_law_all" = some (.ref a__law_all)
  b__law_all : Binds K d__law_all ["hall"] []
  a__law_orders : Addr
  d__law_orders : FuncData
  F__law_orders : Fun K "_law_orders" "_law_orders" s__law_orders a__law_orders d__law_orders
  m__law_orders : mg "_law_orders" = some (.ref a__law_orders)
  b__law_orders : Binds K d__law_orders ["beat"] []
  a_law : Addr
  d_law : FuncData
  F_law : Fun K "law" "law" s_law a_law d_law
  m_law : mg "law" = some (.ref a_law)
  b_law : Binds K d_law ["script"] []
  n_ValueError : mg "ValueError" = none
  n_all : mg "all" = none
  n_bool : mg "bool" = none
  n_enumerate : mg "enumerate" = none
  n_int : mg "int" = none
  n_isinstance : mg "isinstance" = none
  n_len : mg "len" = none
  n_list : mg "list" = none
  n_max : mg "max" = none
  n_min : mg "min" = none
  n_range : mg "range" = none
  n_set : mg "set" = none
  n_sorted : mg "sorted" = none
  n_str : mg "str" = none
  n_tuple : mg "tuple" = none
  n_zip : mg "zip" = none
  c_MOST_FOLK : ∃ t, mg "MOST_FOLK" = some (.int 4 t)
  c_MOST_THINGS : ∃ t, mg "MOST_THINGS" = some (.int 3 t)
  c_MOST_CAP : ∃ t, mg "MOST_CAP" = some (.int 3 t)
  c_MOST_MEETINGS : ∃ t, mg "MOST_MEETINGS" = some (.int 4 t)
  c_MOST_STANDS : ∃ t, mg "MOST_STANDS" = some (.int 2000 t)
section
variable {K : PySem.W.Frag} {P : Program} {w : World} {mg : Str → Option Value} {base : Heap}
local macro_rules | `(tactic| walk_at "len") => `(tactic| (intro h; (repeat (obtain ⟨_, h⟩ := h)); subst_vars; rfl))
theorem ok_is_from (T : Txt K mg) : FnOk P w K mg base CX0 1 T.a_is_from T.d_is_from ["thing", "low", "high"] (spW K P w W_is_from) :=
  fnW (k := 0) T.F_is_from sc_is_from (fun cs Po h => by
    unfold W_is_from at h
    revert h
    walk_at "len") fun cdv A outer s H E hr => ⟨rd_is_from K P w, (pss_one (ps_ret (pe_and (pe_callB call_isi (by rfl) T.n_isinstance (by decide +kernel) (pa_cons (pv 0) (pa_cons (pe_bltn (by rfl) T.n_int (by decide +kernel) rfl) pa_nil))) (pe_and (pe_not (pe_callB call_isi (by rfl) T.n_isinstance (by decide +kernel) (pa_cons (pv 0) (pa_cons (pe_bltn (by rfl) T.n_bool (by decide +kernel) rfl) pa_nil)))) (pe_one (pe_chain op_le op_le (pv 1) (pv 0) (pv 2))))))), ws_is_from⟩
theorem ok_is_tuple (T : Txt K mg) : FnOk P w K mg base CX0 1 T.a_is_tuple T.d_is_tuple ["thing", "least", "most"] (spW K P w W_is_tuple) :=
  fnW (k := 0) T.F_is_tuple sc_is_tuple (fun cs Po h => by
    unfold W_is_tuple at h
    revert h
    walk_at "len") fun cdv A outer s H E hr => ⟨rd_is_tuple K P w, (pss_one (ps_ret (pe_and (pe_callB call_isi (by rfl) T.n_isinstance (by decide +kernel) (pa_cons (pv 0) (pa_cons (pe_bltn (by rfl) T.n_tuple (by decide +kernel) rfl) pa_nil))) (pe_one (pe_chain op_le op_le (pv 1) (pe_callB call_len (by rfl) T.n_len (by decide +kernel) (pa_cons (pv 0) pa_nil)) (pv 2)))))), ws_is_tuple⟩
theorem ok_is_lore (T : Txt K mg) : FnOk P w K mg base CX0 2 T.a_is_lore T.d_is_lore ["thing", "at"] (spW K P w W_is_lore) :=
  fnW (k := 1) T.F_is_lore sc_is_lore (fun cs Po h => by
    unfold W_is_lore at h
    revert h
    walk_at "len") fun cdv A outer s H E hr => ⟨rd_is_lore K P w, (pss_cons (ps_if (PW.pt (pw_or (pt_not (pt_val (pe_call (ok_is_tuple T) (hr.mono (by decide)) (by rfl) T.m_is_tuple T.F_is_tuple.kp T.b_is_tuple .nil pass0 (pa_cons (pv 0) (pa_cons pe_int (pa_cons pe_int pa_nil)))))) (pw_or1 (pt_not (pt_val (pe_call (ok_is_tuple T) (hr.mono (by decide)) (by rfl) T.m_is_tuple T.F_is_tuple.kp T.b_is_tuple .nil pass0 (pa_cons (pe_ix (ix_U hr.units) (pv 0) pe_int (fun _ _ => rfl)) (pa_cons pe_int (pa_cons (pv 1) pa_nil))))))))) (pss_one (ps_ret pe_bl)) pss_nil)
    (pss_cons (ps_asg (pv 0) (pg_tup (by rfl) (pgs_cons (pg_name (i := 2) sc_is_lore.nd rfl (.inl rfl)) (pgs_cons (pg_name (i := 3) sc_is_lore.nd rfl (.inl rfl)) (pgs_cons (pg_name (i := 4) sc_is_lore.nd rfl (.inl rfl)) (pgs_cons (pg_name (i := 5) sc_is_lore.nd rfl (.inl rfl)) pgs_nil))))))
    (pss_cons (ps_if (pt_not (pt_val (pe_callB (cr_all rfl) (by rfl) T.n_all (by decide +kernel) (pa_cons (pe_lc (own := [("one", 6)]) (g := (gName 6)) (tt := tYes) (te := (tCall (spW K P w W_is_from) [] E0 (tCons (tVar 6) (tCons (tC (.int 0)) (tCons (tOp (rI0 fun i j => .int (i - j)) (tVar 1) (tC (.int 1))) tNil))))) (by rfl) sc_is_lore.nd (pi_seqU (pv 2)) (blkOk_by (own := [("one", 6)]) (N := nm_is_lore) (sc := defScope s_is_lore) (by decide +kernel)) (fun _ _ _ _ _ => (pg_name (i := 6) sc_is_lore.nd rfl (.inl rfl))) (fun _ _ _ _ _ => pts_nil) (fun _ _ _ _ _ => (pe_call (ok_is_from T) (hr.mono (by decide)) (by rfl) T.m_is_from T.F_is_from.kp T.b_is_from .nil pass0 (pa_cons (pv 6) (pa_cons pe_int (pa_cons (pe_op op_sub (pv 1) pe_int) pa_nil)))))) pa_nil)))) (pss_one (ps_ret pe_bl)) pss_nil)
    (pss_cons (ps_if (pt_not (pt_val (pe_callB (cr_all rfl) (by rfl) T.n_all (by decide +kernel) (pa_cons (pe_lc (own := [("one", 6), ("other", 7)]) (g := (gTup K 2 (gCons (gName 6) (gCons (gName 7) gNil)))) (tt := tYes) (te := (tOp (rI0 fun i j => .bl (decide (i < j))) (tVar 6) (tVar 7))) (by rfl) sc_is_lore.nd (RZ.pi_zipA (by rfl) T.n_zip (pa_cons (pv 2) (pa_cons (pe_slice sl_U (pv 2) (po_some pe_int) po_none) pa_nil))) (blkOk_by (own := [("one", 6), ("other", 7)]) (N := nm_is_lore) (sc := defScope s_is_lore) (by decide +kernel)) (fun _ _ _ _ _ => (pg_tup (by rfl) (pgs_cons (pg_name (i := 6) sc_is_lore.nd rfl (.inl rfl)) (pgs_cons (pg_name (i := 7) sc_is_lore.nd rfl (.inl rfl)) pgs_nil)))) (fun _ _ _ _ _ => pts_nil) (fun _ _ _ _ _ => (pe_cmpR op_lt (pv 6) (pv 7) (nomark _)))) pa_nil)))) (pss_one (ps_ret pe_bl)) pss_nil)
    (pss_one (ps_ret (pe_and (pe_call (ok_is_from T) (hr.mono (by decide)) (by rfl) T.m_is_from T.F_is_from.kp T.b_is_from .nil pass0 (pa_cons (pv 4) (pa_cons pe_int (pa_cons (pe_glob (by rfl) T.c_MOST_CAP.choose_spec ⟨_, rfl⟩) pa_nil)))) (pe_and (pe_call (ok_is_from T) (hr.mono (by decide)) (by rfl) T.m_is_from T.F_is_from.kp T.b_is_from .nil pass0 (pa_cons (pv 3) (pa_cons pe_int (pa_cons (pv 4) pa_nil)))) (pe_one (pe_call (ok_is_from T) (hr.mono (by decide)) (by rfl) T.m_is_from T.F_is_from.kp T.b_is_from .nil pass0 (pa_cons (pv 5) (pa_cons pe_int (pa_cons (pv 4) pa_nil))))))))))))), ws_is_lore⟩
theorem ok_is_hall (T : Txt K mg) : FnOk P w K mg base CX0 3 T.a_is_hall T.d_is_hall ["thing"] (spW K P w W_is_hall) :=
  fnW (k := 2) T.F_is_hall sc_is_hall (fun cs Po h => by
    unfold W_is_hall at h
    revert h
    walk_at "len") fun cdv A outer s H E hr => ⟨rd_is_hall K P w, (pss_cons (ps_if (PW.pt (pw_or (pt_not (pt_val (pe_call (ok_is_tuple T) (hr.mono (by decide)) (by rfl) T.m_is_tuple T.F_is_tuple.kp T.b_is_tuple .nil pass0 (pa_cons (pv 0) (pa_cons pe_int (pa_cons pe_int pa_nil)))))) (pw_or (pt_not (pt_val (pe_call (ok_is_from T) (hr.mono (by decide)) (by rfl) T.m_is_from T.F_is_from.kp T.b_is_from .nil pass0 (pa_cons (pe_ix (ix_U hr.units) (pv 0) pe_int (fun _ _ => rfl)) (pa_cons pe_int (pa_cons (pe_glob (by rfl) T.c_MOST_FOLK.choose_spec ⟨_, rfl⟩) pa_nil)))))) (pw_or1 (pt_not (pt_val (pe_call (ok_is_tuple T) (hr.mono (by decide)) (by rfl) T.m_is_tuple T.F_is_tuple.kp T.b_is_tuple .nil pass0 (pa_cons (pe_ix (ix_U hr.units) (pv 0) pe_int (fun _ _ => rfl)) (pa_cons pe_int (pa_cons (pe_glob (by rfl) T.c_MOST_THINGS.choose_spec ⟨_, rfl⟩) pa_nil)))))))))) (pss_one (ps_ret pe_bl)) pss_nil)
    (pss_one (ps_ret (pe_callB (cr_all rfl) (by rfl) T.n_all (by decide +kernel) (pa_cons (pe_lc (own := [("at", 1), ("one", 2)]) (g := (gTup K 2 (gCons (gName 1) (gCons (gName 2) gNil)))) (tt := tYes) (te := (tCall (spW K P w W_is_lore) [] E0 (tCons (tVar 2) (tCons (tVar 1) tNil)))) (by rfl) sc_is_hall.nd (pi_enumA (by rfl) T.n_enumerate (pa_cons (pe_ix (ix_U hr.units) (pv 0) pe_int (fun _ _ => rfl)) pa_nil)) (blkOk_by (own := [("at", 1), ("one", 2)]) (N := nm_is_hall) (sc := defScope s_is_hall) (by decide +kernel)) (fun _ _ _ _ _ => (pg_tup (by rfl) (pgs_cons (pg_name (i := 1) sc_is_hall.nd rfl (.inl rfl)) (pgs_cons (pg_name (i := 2) sc_is_hall.nd rfl (.inl rfl)) pgs_nil)))) (fun _ _ _ _ _ => pts_nil) (fun _ _ _ _ _ => (pe_call (ok_is_lore T) (hr.mono (by decide)) (by rfl) T.m_is_lore T.F_is_lore.kp T.b_is_lore .nil pass0 (pa_cons (pv 2) (pa_cons (pv 1) pa_nil))))) pa_nil))))), ws_is_hall⟩
theorem ok_need_hall (T : Txt K mg) : FnOk P w K mg base CX0 4 T.a_need_hall T.d_need_hall ["hall"] (spW K P w W_need_hall) :=
  fnW (k := 3) T.F_need_hall sc_need_hall (fun cs Po h => by
    unfold W_need_hall at h
    revert h
    walk_at "len") fun cdv A outer s H E hr => ⟨rd_need_hall K P w, (pss_one (ps_if (pt_not (pt_val (pe_call (ok_is_hall T) (hr.mono (by decide)) (by rfl) T.m_is_hall T.F_is_hall.kp T.b_is_hall .nil pass0 (pa_cons (pv 0) pa_nil)))) (pss_one ps_never) pss_nil)), ws_need_hall⟩
theorem ok_is_standing (T : Txt K mg) : FnOk P w K mg base CX0 2 T.a_is_standing T.d_is_standing ["hall", "thing"] (spW K P w W_is_standing) :=
  fnW (k := 1) T.F_is_standing sc_is_standing (fun cs Po h => by
    unfold W_is_standing at h
    revert h
    walk_at "len") fun cdv A outer s H E hr => ⟨rd_is_standing K P w, (pss_cons (ps_asg (pv 0) (pg_tup (by rfl) (pgs_cons (pg_name (i := 2) sc_is_standing.nd rfl (.inl rfl)) (pgs_cons (pg_name (i := 3) sc_is_standing.nd rfl (.inl rfl)) pgs_nil))))
    (pss_cons (ps_if (pt_not (pt_val (pe_call (ok_is_tuple T) (hr.mono (by decide)) (by rfl) T.m_is_tuple T.F_is_tuple.kp T.b_is_tuple .nil pass0 (pa_cons (pv 1) (pa_cons (pv 2) (pa_cons (pv 2) pa_nil)))))) (pss_one (ps_ret pe_bl)) pss_nil)
    (pss_cons (ps_for PassesOwn.never rfl (pi_seqU (pv 1)) (pg_name (i := 4) sc_is_standing.nd rfl (.inl rfl)) (pss_cons (ps_if (pt_not (pt_val (pe_call (ok_is_tuple T) (hr.mono (by decide)) (by rfl) T.m_is_tuple T.F_is_tuple.kp T.b_is_tuple .nil pass0 (pa_cons (pv 4) (pa_cons (pe_callB call_len (by rfl) T.n_len (by decide +kernel) (pa_cons (pv 3) pa_nil)) (pa_cons (pe_callB call_len (by rfl) T.n_len (by decide +kernel) (pa_cons (pv 3) pa_nil)) pa_nil)))))) (pss_one (ps_ret pe_bl)) pss_nil)
    (pss_one (ps_if (pt_not (pt_val (pe_callB (cr_all rfl) (by rfl) T.n_all (by decide +kernel) (pa_cons (pe_lc (own := [("level", 5), ("one", 6)]) (g := (gTup K 2 (gCons (gName 5) (gCons (gName 6) gNil)))) (tt := tYes) (te := (tCall (spW K P w W_is_from) [] E0 (tCons (tVar 5) (tCons (tC (.int 0)) (tCons (tOp (rIxU K P w) (tVar 6) (tC (.int 2))) tNil))))) (by rfl) sc_is_standing.nd (RZ.pi_zipA (by rfl) T.n_zip (pa_cons (pv 4) (pa_cons (pv 3) pa_nil))) (blkOk_by (own := [("level", 5), ("one", 6)]) (N := nm_is_standing) (sc := defScope s_is_standing) (by decide +kernel)) (fun _ _ _ _ _ => (pg_tup (by rfl) (pgs_cons (pg_name (i := 5) sc_is_standing.nd rfl (.inl rfl)) (pgs_cons (pg_name (i := 6) sc_is_standing.nd rfl (.inl rfl)) pgs_nil)))) (fun _ _ _ _ _ => pts_nil) (fun _ _ _ _ _ => (pe_call (ok_is_from T) (hr.mono (by decide)) (by rfl) T.m_is_from T.F_is_from.kp T.b_is_from .nil pass0 (pa_cons (pv 5) (pa_cons pe_int (pa_cons (pe_ix (ix_U hr.units) (pv 6) pe_int (fun _ _ => rfl)) pa_nil)))))) pa_nil)))) (pss_one (ps_ret pe_bl)) pss_nil))))
    (pss_one (ps_ret pe_bl))))), ws_is_standing⟩
theorem ok_is_meeting (T : Txt K mg) : FnOk P w K mg base CX0 2 T.a_is_meeting T.d_is_meeting ["hall", "thing"] (spW K P w W_is_meeting) :=
  fnW (k := 1) T.F_is_meeting sc_is_meeting (fun cs Po h => by
    unfold W_is_meeting at h
    revert h
    walk_at "len") fun cdv A outer s H E hr => ⟨rd_is_meeting K P w, (pss_cons (ps_if (PW.pt (pw_or (pt_not (pt_val (pe_call (ok_is_tuple T) (hr.mono (by decide)) (by rfl) T.m_is_tuple T.F_is_tuple.kp T.b_is_tuple .nil pass0 (pa_cons (pv 1) (pa_cons pe_int (pa_cons pe_int pa_nil)))))) (pw_or1 (pt_not (pt_val (pe_call (ok_is_from T) (hr.mono (by decide)) (by rfl) T.m_is_from T.F_is_from.kp T.b_is_from .nil pass0 (pa_cons (pe_ix (ix_U hr.units) (pv 1) pe_int (fun _ _ => rfl)) (pa_cons pe_int (pa_cons (pe_op op_sub (pe_callB call_len (by rfl) T.n_len (by decide +kernel) (pa_cons (pe_ix (ix_U hr.units) (pv 0) pe_int (fun _ _ => rfl)) pa_nil)) pe_int) pa_nil))))))))) (pss_one (ps_ret pe_bl)) pss_nil)
    (pss_one (ps_ret (pe_and (pe_call (ok_is_from T) (hr.mono (by decide)) (by rfl) T.m_is_from T.F_is_from.kp T.b_is_from .nil pass0 (pa_cons (pe_ix (ix_U hr.units) (pv 1) pe_int (fun _ _ => rfl)) (pa_cons pe_int (pa_cons (pe_op op_sub (pe_ix (ix_U hr.units) (pv 0) pe_int (fun _ _ => rfl)) pe_int) pa_nil)))) (pe_and (pe_call (ok_is_from T) (hr.mono (by decide)) (by rfl) T.m_is_from T.F_is_from.kp T.b_is_from .nil pass0 (pa_cons (pe_ix (ix_U hr.units) (pv 1) pe_int (fun _ _ => rfl)) (pa_cons pe_int (pa_cons (pe_op op_sub (pe_ix (ix_U hr.units) (pv 0) pe_int (fun _ _ => rfl)) pe_int) pa_nil)))) (pe_one (pe_cmpR (op_neD hr.units) (pe_ix (ix_U hr.units) (pv 1) pe_int (fun _ _ => rfl)) (pe_ix (ix_U hr.units) (pv 1) pe_int (fun _ _ => rfl)) (nomark _)))))))), ws_is_meeting⟩
theorem ok_is_beating (T : Txt K mg) : FnOk P w K mg base CX0 3 T.a_is_beating T.d_is_beating ["hall", "thing"] (spW K P w W_is_beating) :=
  fnW (k := 2) T.F_is_beating sc_is_beating (fun cs Po h => by
    unfold W_is_beating at h
    revert h
    walk_at "len") fun cdv A outer s H E hr => ⟨rd_is_beating K P w, (pss_one (ps_ret (pe_and (pe_call (ok_is_tuple T) (hr.mono (by decide)) (by rfl) T.m_is_tuple T.F_is_tuple.kp T.b_is_tuple .nil pass0 (pa_cons (pv 1) (pa_cons pe_int (pa_cons (pe_glob (by rfl) T.c_MOST_MEETINGS.choose_spec ⟨_, rfl⟩) pa_nil)))) (pe_one (pe_callB (cr_all rfl) (by rfl) T.n_all (by decide +kernel) (pa_cons (pe_lc (own := [("one", 2)]) (g := (gName 2)) (tt := tYes) (te := (tCall (spW K P w W_is_meeting) [] E0 (tCons (tVar 0) (tCons (tVar 2) tNil)))) (by rfl) sc_is_beating.nd (pi_seqU (pv 1)) (blkOk_by (own := [("one", 2)]) (N := nm_is_beating) (sc := defScope s_is_beating) (by decide +kernel)) (fun _ _ _ _ _ => (pg_name (i := 2) sc_is_beating.nd rfl (.inl rfl))) (fun _ _ _ _ _ => pts_nil) (fun _ _ _ _ _ => (pe_call (ok_is_meeting T) (hr.mono (by decide)) (by rfl) T.m_is_meeting T.F_is_meeting.kp T.b_is_meeting .nil pass0 (pa_cons (pv 0) (pa_cons (pv 2) pa_nil))))) pa_nil)))))), ws_is_beating⟩
theorem ok_need_stand (T : Txt K mg) : FnOk P w K mg base CX0 3 T.a_need_stand T.d_need_stand ["hall", "stand"] (spW K P w W_need_stand) :=
  fnW (k := 2) T.F_need_stand sc_need_stand (fun cs Po h => by
    unfold W_need_stand at h
    revert h
    walk_at "len") fun cdv A outer s H E hr => ⟨rd_need_stand K P w, (pss_one (ps_if (pt_not (pt_val (pe_call (ok_is_standing T) (hr.mono (by decide)) (by rfl) T.m_is_standing T.F_is_standing.kp T.b_is_standing .nil pass0 (pa_cons (pv 0) (pa_cons (pv 1) pa_nil))))) (pss_one ps_never) pss_nil)), ws_need_stand⟩
theorem ok_need_beat (T : Txt K mg) : FnOk P w K mg base CX0 4 T.a_need_beat T.d_need_beat ["hall", "beat"] (spW K P w W_need_beat) :=
  fnW (k := 3) T.F_need_beat sc_need_beat (fun cs Po h => by
    unfold W_need_beat at h
    revert h
    walk_at "len") fun cdv A outer s H E hr => ⟨rd_need_beat K P w, (pss_one (ps_if (pt_not (pt_val (pe_call (ok_is_beating T) (hr.mono (by decide)) (by rfl) T.m_is_beating T.F_is_beating.kp T.b_is_beating .nil pass0 (pa_cons (pv 0) (pa_cons (pv 1) pa_nil))))) (pss_one ps_never) pss_nil)), ws_need_beat⟩
theorem ok_need_meeting (T : Txt K mg) : FnOk P w K mg base CX0 3 T.a_need_meeting T.d_need_meeting ["hall", "meeting"] (spW K P w W_need_meeting) :=
  fnW (k := 2) T.F_need_meeting sc_need_meeting (fun cs Po h => by
    unfold W_need_meeting at h
    revert h
    walk_at "len") fun cdv A outer s H E hr => ⟨rd_need_meeting K P w, (pss_one (ps_if (pt_not (pt_val (pe_call (ok_is_meeting T) (hr.mono (by decide)) (by rfl) T.m_is_meeting T.F_is_meeting.kp T.b_is_meeting .nil pass0 (pa_cons (pv 0) (pa_cons (pv 1) pa_nil))))) (pss_one ps_never) pss_nil)), ws_need_meeting⟩
theorem ok_all_stands (T : Txt K mg) : FnOk P w K mg base CX0 1 T.a_all_stands T.d_all_stands ["hall"] (spW K P w W_all_stands) :=
  fnW (k := 0) T.F_all_stands sc_all_stands (fun cs Po h => by
    unfold W_all_stands at h
    revert h
    walk_at "len") fun cdv A outer s H E hr => ⟨rd_all_stands K P w, (pss_cons (ps_set (i := 1) sc_all_stands.nd rfl (Or.inl rfl) pe_int)
    (pss_cons (ps_for PassesOwn.never rfl (pi_seqU (pe_ix (ix_U hr.units) (pv 0) pe_int (fun _ _ => rfl))) (pg_name (i := 2) sc_all_stands.nd rfl (.inr rfl)) (pss_one (ps_for PassesOwn.never rfl (pi_range1 (by rfl) T.n_range (pa_cons (pe_ix (ix_U hr.units) (pv 0) pe_int (fun _ _ => rfl)) pa_nil)) (pg_name (i := 3) sc_all_stands.nd rfl (.inl rfl)) (pss_one (ps_aug (i := 1) sc_all_stands.nd rfl (Or.inl rfl) (pe_op op_addU (pe_ix (ix_U hr.units) (pv 2) pe_int (fun _ _ => rfl)) pe_int) iop_mul)))))
    (pss_cons (ps_if (pt_cmpR op_gt (pv 1) (pe_glob (by rfl) T.c_MOST_STANDS.choose_spec ⟨_, rfl⟩) (nomark _)) (pss_one ps_never) pss_nil)
    (pss_cons (ps_set (i := 4) sc_all_stands.nd rfl (Or.inr rfl) (pe_lst (pa_cons (pe_tup pa_nil) pa_nil)))
    (pss_cons (ps_for PassesOwn.never rfl (pi_seqU (pe_ix (ix_U hr.units) (pv 0) pe_int (fun _ _ => rfl))) (pg_name (i := 2) sc_all_stands.nd rfl (.inr rfl)) (pss_one (ps_set (i := 4) sc_all_stands.nd rfl (Or.inr rfl) (pe_lc2 (own := [("row", 5), ("level", 6)]) (g := (gName 5)) (tt := tYes) (wi1 := (iRng1 (tCons (tOp (rAddU K) (tOp (rIxU K P w) (tVar 2) (tC (.int 2))) (tC (.int 1))) tNil))) (g1 := (gName 6)) (tt1 := tYes) (te := (tOp (rAddU K) (tVar 5) (tTup (tCons (tVar 6) tNil)))) (vs1 := [6]) (by rfl) sc_all_stands.nd (pi_seqU (pv 4)) (blkOk_by (own := [("row", 5), ("level", 6)]) (N := nm_all_stands) (sc := defScope s_all_stands) (by decide +kernel)) (by decide) (fun _ _ _ _ _ => (pg_name (i := 5) sc_all_stands.nd rfl (.inl rfl))) (fun _ _ _ _ _ => pts_nil) (fun _ _ _ _ _ => (pi_range1 (by rfl) T.n_range (pa_cons (pe_op op_addU (pe_ix (ix_U hr.units) (pv 2) pe_int (fun _ _ => rfl)) pe_int) pa_nil))) (fun _ _ _ _ _ => (pg_name (i := 6) sc_all_stands.nd rfl (.inl rfl))) (fun _ _ _ _ _ => pts_nil) (fun _ _ _ _ _ => (pe_op op_addU (pv 5) (pe_tup (pa_cons (pv 6) pa_nil))))))))
    (pss_cons (ps_set (i := 7) sc_all_stands.nd rfl (Or.inl rfl) (pe_lst (pa_cons (pe_tup pa_nil) pa_nil)))
    (pss_cons (ps_for PassesOwn.never rfl (pi_range1 (by rfl) T.n_range (pa_cons (pe_ix (ix_U hr.units) (pv 0) pe_int (fun _ _ => rfl)) pa_nil)) (pg_name (i := 3) sc_all_stands.nd rfl (.inl rfl)) (pss_one (ps_setLc2 (i := 7) (own := [("stand", 8), ("row", 5)]) (g := (gName 8)) (tt := tYes) (wi1 := (iSeqU K (tVar 4))) (g1 := (gName 5)) (tt1 := tYes) (te := (tOp (rAddU K) (tVar 8) (tTup (tCons (tVar 5) tNil)))) (vs1 := [5]) (by rfl) sc_all_stands.nd rfl rfl (sw_true rfl rfl rfl (by decide +kernel)) (pi_seqU (pv 7)) (blkOk_by (own := [("stand", 8), ("row", 5)]) (N := nm_all_stands) (sc := defScope s_all_stands) (by decide +kernel)) (by decide) (fun _ _ _ _ _ => (pg_name (i := 8) sc_all_stands.nd rfl (.inl rfl))) (fun _ _ _ _ _ => pts_nil) (fun _ _ _ _ _ => (pi_seqU (pv 4))) (fun _ _ _ _ _ => (pg_name (i := 5) sc_all_stands.nd rfl (.inl rfl))) (fun _ _ _ _ _ => pts_nil) (fun _ _ _ _ _ => (pe_op op_addU (pv 8) (pe_tup (pa_cons (pv 5) pa_nil)))))))
    (pss_one (ps_ret (pv 7)))))))))), ws_all_stands⟩
theorem ok_is_lesson (T : Txt K mg) : FnOk P w K mg base CX0 1 T.a_is_lesson T.d_is_lesson ["hall", "stand", "meeting"] (spW K P w W_is_lesson) :=
  fnW (k := 0) T.F_is_lesson sc_is_lesson (fun cs Po h => by
    unfold W_is_lesson at h
    revert h
    walk_at "len") fun cdv A outer s H E hr => ⟨rd_is_lesson K P w, (pss_cons (ps_asg (pv 2) (pg_tup (by rfl) (pgs_cons (pg_name (i := 3) sc_is_lesson.nd rfl (.inl rfl)) (pgs_cons (pg_name (i := 4) sc_is_lesson.nd rfl (.inr rfl)) (pgs_cons (pg_name (i := 5) sc_is_lesson.nd rfl (.inl rfl)) pgs_nil)))))
    (pss_cons (ps_asg (pe_ix (ix_U hr.units) (pe_ix (ix_U hr.units) (pv 0) pe_int (fun _ _ => rfl)) (pv 5) (fun _ _ => rfl)) (pg_tup (by rfl) (pgs_cons (pg_name (i := 6) sc_is_lesson.nd rfl (.inl rfl)) (pgs_cons (pg_name (i := 7) sc_is_lesson.nd rfl (.inl rfl)) (pgs_cons (pg_name (i := 8) sc_is_lesson.nd rfl (.inl rfl)) (pgs_cons (pg_name (i := 9) sc_is_lesson.nd rfl (.inl rfl)) pgs_nil))))))
    (pss_one (ps_ret (pe_and (pe_cmpR op_ge (pe_ix (ix_U hr.units) (pe_ix (ix_U hr.units) (pv 1) (pv 3) (fun _ _ => rfl)) (pv 5) (fun _ _ => rfl)) (pv 7) (nomark _)) (pe_one (pe_callB (cr_all rfl) (by rfl) T.n_all (by decide +kernel) (pa_cons (pe_lc (own := [("need", 10)]) (g := (gName 10)) (tt := tYes) (te := (tOp (rI0 fun i j => .bl (decide (j < i))) (tOp (rIxU K P w) (tOp (rIxU K P w) (tVar 1) (tVar 4)) (tVar 10)) (tC (.int 0)))) (by rfl) sc_is_lesson.nd (pi_seqU (pv 6)) (blkOk_by (own := [("need", 10)]) (N := nm_is_lesson) (sc := defScope s_is_lesson) (by decide +kernel)) (fun _ _ _ _ _ => (pg_name (i := 10) sc_is_lesson.nd rfl (.inl rfl))) (fun _ _ _ _ _ => pts_nil) (fun _ _ _ _ _ => (pe_cmpR op_gt (pe_ix (ix_U hr.units) (pe_ix (ix_U hr.units) (pv 1) (pv 4) (fun _ _ => rfl)) (pv 10) (fun _ _ => rfl)) pe_int (nomark _)))) pa_nil)))))))), ws_is_lesson⟩
theorem ok_taught (T : Txt K mg) : FnOk P w K mg base CX0 1 T.a_taught T.d_taught ["hall", "stand", "meeting"] (spW K P w W_taught) :=
  fnW (k := 0) T.F_taught sc_taught (fun cs Po h => by
    unfold W_taught at h
    revert h
    walk_at "len") fun cdv A outer s H E hr => ⟨rd_taught K P w, (pss_cons (ps_asg (pe_slice sl_U (pv 2) (po_some pe_int) po_none) (pg_tup (by rfl) (pgs_cons (pg_name (i := 3) sc_taught.nd rfl (.inl rfl)) (pgs_cons (pg_name (i := 4) sc_taught.nd rfl (.inl rfl)) pgs_nil))))
    (pss_cons (ps_set (i := 5) sc_taught.nd rfl (Or.inl rfl) (pe_ix (ix_U hr.units) (pv 1) (pv 3) (fun _ _ => rfl)))
    (pss_cons (ps_set (i := 6) sc_taught.nd rfl (Or.inl rfl) (pe_callB (call_min2 rfl) (by rfl) T.n_min (by decide +kernel) (pa_cons (pe_ix (ix_U hr.units) (pe_ix (ix_U hr.units) (pe_ix (ix_U hr.units) (pv 0) pe_int (fun _ _ => rfl)) (pv 4) (fun _ _ => rfl)) pe_int (fun _ _ => rfl)) (pa_cons (pe_op op_addU (pe_ix (ix_U hr.units) (pv 5) (pv 4) (fun _ _ => rfl)) pe_int) pa_nil))))
    (pss_cons (ps_set (i := 7) sc_taught.nd rfl (Or.inl rfl) (pe_op op_addU (pe_op op_addU (pe_slice sl_U (pv 5) po_none (po_some (pv 4))) (pe_tup (pa_cons (pv 6) pa_nil))) (pe_slice sl_U (pv 5) (po_some (pe_op op_addU (pv 4) pe_int)) po_none)))
    (pss_one (ps_ret (pe_op op_addU (pe_op op_addU (pe_slice sl_U (pv 1) po_none (po_some (pv 3))) (pe_tup (pa_cons (pv 7) pa_nil))) (pe_slice sl_U (pv 1) (po_some (pe_op op_addU (pv 3) pe_int)) po_none)))))))), ws_taught⟩
theorem ok_behind (T : Txt K mg) : FnOk P w K mg base CX0 2 T.a_behind T.d_behind ["hall", "stand", "beat"] (spW K P w W_behind) :=
  fnW (k := 1) T.F_behind sc_behind (fun cs Po h => by
    unfold W_behind at h
    revert h
    walk_at "len") fun cdv A outer s H E hr => ⟨rd_behind K P w, (pss_cons (ps_set (i := 3) sc_behind.nd rfl (Or.inl rfl) pe_dnewN)
    (pss_cons (ps_for PassesOwn.never rfl (pi_seqU (pv 2)) (pg_name (i := 4) sc_behind.nd rfl (.inl rfl)) (pss_one (ps_if (pt_val (pe_call (ok_is_lesson T) (hr.mono (by decide)) (by rfl) T.m_is_lesson T.F_is_lesson.kp T.b_is_lesson .nil pass0 (pa_cons (pv 0) (pa_cons (pv 1) (pa_cons (pv 4) pa_nil))))) (pss_cons (ps_set (i := 1) sc_behind.nd rfl (Or.inl rfl) (pe_call (ok_taught T) (hr.mono (by decide)) (by rfl) T.m_taught T.F_taught.kp T.b_taught .nil pass0 (pa_cons (pv 0) (pa_cons (pv 1) (pa_cons (pv 4) pa_nil)))))
    (pss_cons (ps_asg pe_bl (pg_sub (pv 3) (pe_tup (pa_cons (pe_ix (ix_U hr.units) (pv 4) pe_int (fun _ _ => rfl)) (pa_cons (pe_ix (ix_U hr.units) (pv 4) pe_int (fun _ _ => rfl)) pa_nil))) (set_U hr.units)))
    (pss_one (ps_asg pe_bl (pg_sub (pv 3) (pe_tup (pa_cons (pe_ix (ix_U hr.units) (pv 4) pe_int (fun _ _ => rfl)) (pa_cons (pe_ix (ix_U hr.units) (pv 4) pe_int (fun _ _ => rfl)) pa_nil))) (set_U hr.units)))))) pss_nil)))
    (pss_cons (ps_set (i := 5) sc_behind.nd rfl (Or.inl rfl) (pe_lst pa_nil))
    (pss_cons (ps_for PassesOwn.never rfl (pi_enumA (by rfl) T.n_enumerate (pa_cons (pv 1) pa_nil)) (pg_tup (by rfl) (pgs_cons (pg_name (i := 6) sc_behind.nd rfl (.inl rfl)) (pgs_cons (pg_name (i := 7) sc_behind.nd rfl (.inl rfl)) pgs_nil))) (pss_cons (ps_set (i := 8) sc_behind.nd rfl (Or.inl rfl) (pe_lst pa_nil))
    (pss_cons (ps_for PassesOwn.never rfl (pi_enumA (by rfl) T.n_enumerate (pa_cons (pv 7) pa_nil)) (pg_tup (by rfl) (pgs_cons (pg_name (i := 9) sc_behind.nd rfl (.inl rfl)) (pgs_cons (pg_name (i := 10) sc_behind.nd rfl (.inl rfl)) pgs_nil))) (pss_one (ps_expr (pe_bm PySem.F.plainAttrs_list PySem.F.slot_list_append PySem.F.type_list_append mt_append (pv 8) (pa_cons (pe_ifExp (pt_cmpR (op_inU (room65 hr)) (pe_tup (pa_cons (pv 6) (pa_cons (pv 9) pa_nil))) (pv 3) (by rfl)) (pv 10) (pe_callB (call_max2 rfl) (by rfl) T.n_max (by decide +kernel) (pa_cons pe_int (pa_cons (pe_op op_sub (pv 10) (pe_ix (ix_U hr.units) (pe_ix (ix_U hr.units) (pe_ix (ix_U hr.units) (pv 0) pe_int (fun _ _ => rfl)) (pv 9) (fun _ _ => rfl)) pe_int (fun _ _ => rfl))) pa_nil)))) pa_nil)))))
    (pss_one (ps_expr (pe_bm PySem.F.plainAttrs_list PySem.F.slot_list_append PySem.F.type_list_append mt_append (pv 5) (pa_cons (pe_callTy call_tuple_of (by rfl) T.n_tuple (by decide +kernel) (pa_cons (pv 8) pa_nil)) pa_nil)))))))
    (pss_one (ps_ret (pe_callTy call_tuple_of (by rfl) T.n_tuple (by decide +kernel) (pa_cons (pv 5) pa_nil)))))))), ws_behind⟩
theorem ok_by_beat (T : Txt K mg) : FnOk P w K mg base CX0 5 T.a_by_beat T.d_by_beat ["hall", "stand", "beat"] (spW K P w W_by_beat) :=
  fnW (k := 4) T.F_by_beat sc_by_beat (fun cs Po h => by
    unfold W_by_beat at h
    revert h
    walk_at "len") fun cdv A outer s H E hr => ⟨rd_by_beat K P w, (pss_cons (ps_expr (pe_call (ok_need_hall T) (hr.mono (by decide)) (by rfl) T.m_need_hall T.F_need_hall.kp T.b_need_hall .nil pass0 (pa_cons (pv 0) pa_nil)))
    (pss_cons (ps_expr (pe_call (ok_need_stand T) (hr.mono (by decide)) (by rfl) T.m_need_stand T.F_need_stand.kp T.b_need_stand .nil pass0 (pa_cons (pv 0) (pa_cons (pv 1) pa_nil))))
    (pss_cons (ps_expr (pe_call (ok_need_beat T) (hr.mono (by decide)) (by rfl) T.m_need_beat T.F_need_beat.kp T.b_need_beat .nil pass0 (pa_cons (pv 0) (pa_cons (pv 2) pa_nil))))
    (pss_one (ps_ret (pe_call (ok_behind T) (hr.mono (by decide)) (by rfl) T.m_behind T.F_behind.kp T.b_behind .nil pass0 (pa_cons (pv 0) (pa_cons (pv 1) (pa_cons (pv 2) pa_nil))))))))), ws_by_beat⟩
theorem ok_orders_of (T : Txt K mg) : ∀ m, FnOk P w K mg base CX0 (m + 1) T.a_orders_of T.d_orders_of ["beat"] (spW K P w (recW W_orders_of m))
  | 0 => ⟨fun vs H Q E h => by
    obtain ⟨cs, G, Po, h, _⟩ := h
    exact h.elim, fun A outer s H args us vs Q E hr he hb hv hs => by
    obtain ⟨cs, G, Po, h, _⟩ := hs
    exact h.elim⟩
  | m + 1 => by
    have ih : FnOk P w K mg base CX0 (m + 1) T.a_orders_of T.d_orders_of ["beat"] (spW K P w (recW W_orders_of m)) := ok_orders_of T m
    exact fnW (k := m + 1) T.F_orders_of sc_orders_of (fun cs Po h => by
      unfold recW W_orders_of at h
      revert h
      walk_at "len") fun cdv A outer s H E hr => ⟨rd_orders_of K P w (recW W_orders_of m), (pss_cons (ps_if (pt_cmpR (op_eqD hr.units) (pv 0) (pe_tup pa_nil) (nomark _)) (pss_one (ps_ret (pe_lst (pa_cons (pe_tup pa_nil) pa_nil)))) pss_nil)
    (pss_cons (ps_set (i := 1) sc_orders_of.nd rfl (Or.inl rfl) (pe_lst pa_nil))
    (pss_cons (ps_for PassesOwn.never rfl (pi_enumA (by rfl) T.n_enumerate (pa_cons (pv 0) pa_nil)) (pg_tup (by rfl) (pgs_cons (pg_name (i := 2) sc_orders_of.nd rfl (.inl rfl)) (pgs_cons (pg_name (i := 3) sc_orders_of.nd rfl (.inr rfl)) pgs_nil))) (pss_one (ps_aug (i := 1) sc_orders_of.nd rfl (Or.inl rfl) (pe_lc (own := [("rest", 4)]) (g := (gName 4)) (tt := tYes) (te := (tOp (rAddU K) (tTup (tCons (tVar 3) tNil)) (tVar 4))) (by rfl) sc_orders_of.nd (pi_seqU (pe_call ih (hr.mono (by omega)) (by rfl) T.m_orders_of T.F_orders_of.kp T.b_orders_of .nil pass0 (pa_cons (pe_op op_addU (pe_slice sl_U (pv 0) po_none (po_some (pv 2))) (pe_slice sl_U (pv 0) (po_some (pe_op op_addU (pv 2) pe_int)) po_none)) pa_nil))) (blkOk_by (own := [("rest", 4)]) (N := nm_orders_of) (sc := defScope s_orders_of) (by decide +kernel)) (fun _ _ _ _ _ => (pg_name (i := 4) sc_orders_of.nd rfl (.inl rfl))) (fun _ _ _ _ _ => pts_nil) (fun _ _ _ _ _ => (pe_op op_addU (pe_tup (pa_cons (pv 3) pa_nil)) (pv 4)))) iop_ext)))
    (pss_one (ps_ret (pv 1)))))), ws_orders_of m⟩
theorem okN_orders_of (T : Txt K mg) : FnOk P w K mg base CX0 6 T.a_orders_of T.d_orders_of ["beat"] (spW K P w (W_orders_of 4)) := ok_orders_of T 5
theorem ok_ends (T : Txt K mg) : FnOk P w K mg base CX0 7 T.a_ends T.d_ends ["hall", "stand", "beat"] (spW K P w W_ends) :=
  fnW (k := 6) T.F_ends sc_ends (fun cs Po h => by
    unfold W_ends at h
    revert h
    walk_at "len") fun cdv A outer s H E hr => ⟨rd_ends K P w, (pss_cons (ps_expr (pe_call (ok_need_hall T) (hr.mono (by decide)) (by rfl) T.m_need_hall T.F_need_hall.kp T.b_need_hall .nil pass0 (pa_cons (pv 0) pa_nil)))
    (pss_cons (ps_expr (pe_call (ok_need_stand T) (hr.mono (by decide)) (by rfl) T.m_need_stand T.F_need_stand.kp T.b_need_stand .nil pass0 (pa_cons (pv 0) (pa_cons (pv 1) pa_nil))))
    (pss_cons (ps_expr (pe_call (ok_need_beat T) (hr.mono (by decide)) (by rfl) T.m_need_beat T.F_need_beat.kp T.b_need_beat .nil pass0 (pa_cons (pv 0) (pa_cons (pv 2) pa_nil))))
    (pss_one (ps_ret (pe_callB (cr_sortedU hr rfl) (by rfl) T.n_sorted (by decide +kernel) (pa_cons (pe_dcN (own := [("order", 3)]) (g := (gName 3)) (tk := (tCall (spW K P w W_behind) [] E0 (tCons (tVar 0) (tCons (tVar 1) (tCons (tVar 3) tNil))))) (tv := (tC (.bl true))) (by rfl) hr.units sc_ends.nd (pi_seqU (pe_call (okN_orders_of T) (hr.mono (by decide)) (by rfl) T.m_orders_of T.F_orders_of.kp T.b_orders_of .nil pass0 (pa_cons (pv 2) pa_nil))) (blkOk_by (N := nm_ends) (sc := defScope s_ends) (by decide +kernel)) (fun _ _ _ _ _ => (pg_name (i := 3) sc_ends.nd rfl (.inl rfl))) (fun _ _ _ _ _ => (pe_call (ok_behind T) (hr.mono (by decide)) (by rfl) T.m_behind T.F_behind.kp T.b_behind .nil pass0 (pa_cons (pv 0) (pa_cons (pv 1) (pa_cons (pv 3) pa_nil))))) (fun _ _ _ _ _ => pe_bl)) pa_nil))))))), ws_ends⟩
theorem ok_are_free (T : Txt K mg) : FnOk P w K mg base CX0 5 T.a_are_free T.d_are_free ["hall", "meeting", "second"] (spW K P w W_are_free) :=
  fnW (k := 4) T.F_are_free sc_are_free (fun cs Po h => by
    unfold W_are_free at h
    revert h
    walk_at "len") fun cdv A outer s H E hr => ⟨rd_are_free K P w, (pss_cons (ps_expr (pe_call (ok_need_hall T) (hr.mono (by decide)) (by rfl) T.m_need_hall T.F_need_hall.kp T.b_need_hall .nil pass0 (pa_cons (pv 0) pa_nil)))
    (pss_cons (ps_expr (pe_call (ok_need_meeting T) (hr.mono (by decide)) (by rfl) T.m_need_meeting T.F_need_meeting.kp T.b_need_meeting .nil pass0 (pa_cons (pv 0) (pa_cons (pv 1) pa_nil))))
    (pss_cons (ps_expr (pe_call (ok_need_meeting T) (hr.mono (by decide)) (by rfl) T.m_need_meeting T.F_need_meeting.kp T.b_need_meeting .nil pass0 (pa_cons (pv 0) (pa_cons (pv 2) pa_nil))))
    (pss_cons (ps_asg (pe_tup (pa_cons (pe_tup (pa_cons (pv 1) (pa_cons (pv 2) pa_nil))) (pa_cons (pe_tup (pa_cons (pv 2) (pa_cons (pv 1) pa_nil))) pa_nil))) (pg_tup (by rfl) (pgs_cons (pg_name (i := 3) sc_are_free.nd rfl (.inr rfl)) (pgs_cons (pg_name (i := 4) sc_are_free.nd rfl (.inr rfl)) pgs_nil))))
    (pss_one (ps_ret (pe_callB (cr_all rfl) (by rfl) T.n_all (by decide +kernel) (pa_cons (pe_lc (own := [("stand", 5)]) (g := (gName 5)) (tt := tYes) (te := (tOp (rEqD K) (tCall (spW K P w W_behind) [] E0 (tCons (tVar 0) (tCons (tVar 5) (tCons (tVar 3) tNil)))) (tCall (spW K P w W_behind) [] E0 (tCons (tVar 0) (tCons (tVar 5) (tCons (tVar 4) tNil)))))) (by rfl) sc_are_free.nd (pi_seqU (pe_call (ok_all_stands T) (hr.mono (by decide)) (by rfl) T.m_all_stands T.F_all_stands.kp T.b_all_stands .nil pass0 (pa_cons (pv 0) pa_nil))) (blkOk_by (own := [("stand", 5)]) (N := nm_are_free) (sc := defScope s_are_free) (by decide +kernel)) (fun _ _ _ _ _ => (pg_name (i := 5) sc_are_free.nd rfl (.inl rfl))) (fun _ _ _ _ _ => pts_nil) (fun _ _ _ _ _ => (pe_cmpR (op_eqD hr.units) (pe_call (ok_behind T) (hr.mono (by decide)) (by rfl) T.m_behind T.F_behind.kp T.b_behind .nil pass0 (pa_cons (pv 0) (pa_cons (pv 5) (pa_cons (pv 3) pa_nil)))) (pe_call (ok_behind T) (hr.mono (by decide)) (by rfl) T.m_behind T.F_behind.kp T.b_behind .nil pass0 (pa_cons (pv 0) (pa_cons (pv 5) (pa_cons (pv 4) pa_nil)))) (nomark _)))) pa_nil)))))))), ws_are_free⟩
theorem ok__law_deck (T : Txt K mg) : FnOk P w K mg base CX0 1 T.a__law_deck T.d__law_deck ["cell", "turn"] (spW K P w W__law_deck) :=
  fnW (k := 0) T.F__law_deck sc__law_deck (fun cs Po h => by
    unfold W__law_deck at h
    revert h
    walk_at "len") fun cdv A outer s H E hr => ⟨rd__law_deck K P w, (pss_cons (ps_if (pt_cmpR op_ge (pv 0) (pe_op op_pow pe_int pe_int) (nomark _)) (pss_one (ps_ret (pe_lst (pa_cons (pe_op op_sub (pv 0) (pe_op op_pow pe_int pe_int)) (pa_cons (pe_op op_mod (pv 0) pe_int) (pa_cons (pv 1) pa_nil)))))) pss_nil)
    (pss_one (ps_ret (pe_lst (pa_cons pe_int (pa_cons (pe_op op_mod (pv 0) pe_int) (pa_cons (pv 1) pa_nil))))))), ws__law_deck⟩
theorem ok__law_pick (T : Txt K mg) : FnOk P w K mg base CX0 1 T.a__law_pick T.d__law_pick ["deck", "size"] (spW K P w W__law_pick) :=
  fnW (k := 0) T.F__law_pick sc__law_pick (fun cs Po h => by
    unfold W__law_pick at h
    revert h
    walk_at "len") fun cdv A outer s H E hr => ⟨rd__law_pick K P w, (pss_cons (ps_if (pt_cmpR op_gt (pe_ix (ix_U hr.units) (pv 0) pe_int (fun _ _ => rfl)) pe_int (nomark _)) (pss_cons (ps_set (i := 2) sc__law_pick.nd rfl (Or.inl rfl) (pe_op op_mod (pe_ix (ix_U hr.units) (pv 0) pe_int (fun _ _ => rfl)) (pv 1)))
    (pss_cons (ps_asg (pe_op op_fdiv (pe_ix (ix_U hr.units) (pv 0) pe_int (fun _ _ => rfl)) (pv 1)) (pg_sub (pv 0) pe_int (set_U hr.units)))
    (pss_one (ps_ret (pv 2))))) pss_nil)
    (pss_cons (ps_asg (pe_op op_addU (pe_ix (ix_U hr.units) (pv 0) pe_int (fun _ _ => rfl)) pe_int) (pg_sub (pv 0) pe_int (set_U hr.units)))
    (pss_cons (ps_set (i := 3) sc__law_pick.nd rfl (Or.inl rfl) (pe_op op_mod (pe_op op_pow (pe_op op_addU (pe_ix (ix_U hr.units) (pv 0) pe_int (fun _ _ => rfl)) (pe_op op_mul pe_int (pe_ix (ix_U hr.units) (pv 0) pe_int (fun _ _ => rfl)))) pe_int) pe_int))
    (pss_cons (ps_set (i := 2) sc__law_pick.nd rfl (Or.inl rfl) (pe_op op_fdiv (pe_op op_mod (pe_op op_pow (pe_op op_addU (pv 3) (pe_op op_mul pe_int (pe_ix (ix_U hr.units) (pv 0) pe_int (fun _ _ => rfl)))) pe_int) pe_int) pe_int))
    (pss_one (ps_ret (pe_op op_mod (pv 2) (pv 1)))))))), ws__law_pick⟩
theorem ok__law_one (T : Txt K mg) : FnOk P w K mg base CX0 2 T.a__law_one T.d__law_one ["deck", "some"] (spW K P w W__law_one) :=
  fnW (k := 1) T.F__law_one sc__law_one (fun cs Po h => by
    unfold W__law_one at h
    revert h
    walk_at "len") fun cdv A outer s H E hr => ⟨rd__law_one K P w, (pss_one (ps_ret (pe_ix (ix_U hr.units) (pv 1) (pe_call (ok__law_pick T) (hr.mono (by decide)) (by rfl) T.m__law_pick T.F__law_pick.kp T.b__law_pick .nil pass0 (pa_cons (pv 0) (pa_cons (pe_callB call_len (by rfl) T.n_len (by decide +kernel) (pa_cons (pv 1) pa_nil)) pa_nil))) (fun _ _ => rfl)))), ws__law_one⟩
theorem ok__law_sort (T : Txt K mg) : FnOk P w K mg base CX0 1 T.a__law_sort T.d__law_sort ["thing"] (spW K P w W__law_sort) :=
  fnW (k := 0) T.F__law_sort sc__law_sort (fun cs Po h => by
    unfold W__law_sort at h
    revert h
    walk_at "len") fun cdv A outer s H E hr => ⟨rd__law_sort K P w, (pss_cons (ps_if (pt_val (pe_callB call_isi (by rfl) T.n_isinstance (by decide +kernel) (pa_cons (pv 0) (pa_cons (pe_bltn (by rfl) T.n_bool (by decide +kernel) rfl) pa_nil)))) (pss_one (ps_ret pe_int)) pss_nil)
    (pss_cons (ps_if (pt_val (pe_callB call_isi (by rfl) T.n_isinstance (by decide +kernel) (pa_cons (pv 0) (pa_cons (pe_bltn (by rfl) T.n_int (by decide +kernel) rfl) pa_nil)))) (pss_one (ps_ret pe_int)) pss_nil)
    (pss_cons (ps_if (pt_val (pe_callB call_isi (by rfl) T.n_isinstance (by decide +kernel) (pa_cons (pv 0) (pa_cons (pe_bltn (by rfl) T.n_str (by decide +kernel) rfl) pa_nil)))) (pss_one (ps_ret pe_int)) pss_nil)
    (pss_cons (ps_if (pt_val (pe_callB call_isi (by rfl) T.n_isinstance (by decide +kernel) (pa_cons (pv 0) (pa_cons (pe_bltn (by rfl) T.n_list (by decide +kernel) rfl) pa_nil)))) (pss_one (ps_ret pe_int)) pss_nil)
    (pss_one (ps_ret (pe_ifExp (pt_val (pe_callB call_isi (by rfl) T.n_isinstance (by decide +kernel) (pa_cons (pv 0) (pa_cons (pe_bltn (by rfl) T.n_tuple (by decide +kernel) rfl) pa_nil)))) pe_int pe_int))))))), ws__law_sort⟩
theorem ok__law_same (T : Txt K mg) : ∀ m, FnOk P w K mg base CX0 (m + 2) T.a__law_same T.d__law_same ["told", "due"] (spW K P w (recW W__law_same m))
  | 0 => ⟨fun vs H Q E h => by
    obtain ⟨cs, G, Po, h, _⟩ := h
    exact h.elim, fun A outer s H args us vs Q E hr he hb hv hs => by
    obtain ⟨cs, G, Po, h, _⟩ := hs
    exact h.elim⟩
  | m + 1 => by
    have ih : FnOk P w K mg base CX0 (m + 2) T.a__law_same T.d__law_same ["told", "due"] (spW K P w (recW W__law_same m)) := ok__law_same T m
    exact fnW (k := m + 2) T.F__law_same sc__law_same (fun cs Po h => by
      unfold recW W__law_same at h
      revert h
      walk_at "len") fun cdv A outer s H E hr => ⟨rd__law_same K P w (recW W__law_same m), (pss_cons (ps_if (pt_cmpR (op_neD hr.units) (pe_call (ok__law_sort T) (hr.mono (by omega)) (by rfl) T.m__law_sort T.F__law_sort.kp T.b__law_sort .nil pass0 (pa_cons (pv 0) pa_nil)) (pe_call (ok__law_sort T) (hr.mono (by omega)) (by rfl) T.m__law_sort T.F__law_sort.kp T.b__law_sort .nil pass0 (pa_cons (pv 1) pa_nil)) (nomark _)) (pss_one (ps_ret pe_bl)) pss_nil)
    (pss_cons (ps_if (PW.pt (pw_and (pt_cmpR op_gt (pe_call (ok__law_sort T) (hr.mono (by omega)) (by rfl) T.m__law_sort T.F__law_sort.kp T.b__law_sort .nil pass0 (pa_cons (pv 0) pa_nil)) pe_int (nomark _)) (pw_and1 (pt_cmpR op_lt (pe_call (ok__law_sort T) (hr.mono (by omega)) (by rfl) T.m__law_sort T.F__law_sort.kp T.b__law_sort .nil pass0 (pa_cons (pv 0) pa_nil)) pe_int (nomark _))))) (pss_cons (ps_if (pt_cmpR (op_neD hr.units) (pe_callB call_len (by rfl) T.n_len (by decide +kernel) (pa_cons (pv 0) pa_nil)) (pe_callB call_len (by rfl) T.n_len (by decide +kernel) (pa_cons (pv 1) pa_nil)) (nomark _)) (pss_one (ps_ret pe_bl)) pss_nil)
    (pss_one (ps_ret (pe_cmpR (op_eqD hr.units) (pe_lc (own := [("k", 2), ("part", 3)]) (g := (gTup K 2 (gCons (gName 2) (gCons (gName 3) gNil)))) (tt := (tNot (tB (tCall (spW K P w (recW W__law_same m)) [] E0 (tCons (tVar 3) (tCons (tOp (rIxU K P w) (tVar 1) (tVar 2)) tNil)))))) (te := (tVar 2)) (by rfl) sc__law_same.nd (pi_enumA (by rfl) T.n_enumerate (pa_cons (pv 0) pa_nil)) (blkOk_by (own := [("k", 2), ("part", 3)]) (N := nm__law_same) (sc := defScope s__law_same) (by decide +kernel)) (fun _ _ _ _ _ => (pg_tup (by rfl) (pgs_cons (pg_name (i := 2) sc__law_same.nd rfl (.inl rfl)) (pgs_cons (pg_name (i := 3) sc__law_same.nd rfl (.inl rfl)) pgs_nil)))) (fun _ _ _ _ _ => (pts_one (pt_not (pt_val (pe_call ih (hr.mono (by omega)) (by rfl) T.m__law_same T.F__law_same.kp T.b__law_same .nil pass0 (pa_cons (pv 3) (pa_cons (pe_ix (ix_U hr.units) (pv 1) (pv 2) (fun _ _ => rfl)) pa_nil))))))) (fun _ _ _ _ _ => (pv 2))) (pe_lst pa_nil) (nomark _))))) pss_nil)
    (pss_one (ps_ret (pe_cmpR (op_eqD hr.units) (pv 0) (pv 1) (nomark _)))))), ws__law_same m⟩
theorem okN__law_same (T : Txt K mg) : FnOk P w K mg base CX0 9 T.a__law_same T.d__law_same ["told", "due"] (spW K P w (W__law_same 6)) := ok__law_same T 7
theorem ok__law_hall (T : Txt K mg) : FnOk P w K mg base CX0 3 T.a__law_hall T.d__law_hall ["deck", "shapes"] (spW K P w W__law_hall) :=
  fnW (k := 2) T.F__law_hall sc__law_hall (fun cs Po h => by
    unfold W__law_hall at h
    revert h
    walk_at "len") fun cdv A outer s H E hr => ⟨rd__law_hall K P w, (pss_cons (ps_asg (pe_call (ok__law_one T) (hr.mono (by decide)) (by rfl) T.m__law_one T.F__law_one.kp T.b__law_one .nil pass0 (pa_cons (pv 0) (pa_cons (pv 1) pa_nil))) (pg_tup (by rfl) (pgs_cons (pg_name (i := 2) sc__law_hall.nd rfl (.inl rfl)) (pgs_cons (pg_name (i := 3) sc__law_hall.nd rfl (.inl rfl)) pgs_nil))))
    (pss_cons (ps_set (i := 4) sc__law_hall.nd rfl (Or.inl rfl) (pe_lst pa_nil))
    (pss_cons (ps_for PassesOwn.never rfl (pi_enumA (by rfl) T.n_enumerate (pa_cons (pv 3) pa_nil)) (pg_tup (by rfl) (pgs_cons (pg_name (i := 5) sc__law_hall.nd rfl (.inl rfl)) (pgs_cons (pg_name (i := 6) sc__law_hall.nd rfl (.inl rfl)) pgs_nil))) (pss_cons (ps_set (i := 7) sc__law_hall.nd rfl (Or.inl rfl) (pe_callTy call_tuple_of (by rfl) T.n_tuple (by decide +kernel) (pa_cons (pe_lc (own := [("one", 8)]) (g := (gName 8)) (tt := (tTest (tOp (rEqD K) (tCall (spW K P w W__law_pick) [] E0 (tCons (tVar 0) (tCons (tC (.int 2)) tNil))) (tC (.int 0))))) (te := (tVar 8)) (by rfl) sc__law_hall.nd (pi_range1 (by rfl) T.n_range (pa_cons (pv 5) pa_nil)) (blkOk_by (own := [("one", 8)]) (N := nm__law_hall) (sc := defScope s__law_hall) (by decide +kernel)) (fun _ _ _ _ _ => (pg_name (i := 8) sc__law_hall.nd rfl (.inl rfl))) (fun _ _ _ _ _ => (pts_one (pt_cmpR (op_eqD hr.units) (pe_call (ok__law_pick T) (hr.mono (by decide)) (by rfl) T.m__law_pick T.F__law_pick.kp T.b__law_pick .nil pass0 (pa_cons (pv 0) (pa_cons pe_int pa_nil))) pe_int (nomark _)))) (fun _ _ _ _ _ => (pv 8))) pa_nil)))
    (pss_cons (ps_set (i := 9) sc__law_hall.nd rfl (Or.inl rfl) (pe_call (ok__law_one T) (hr.mono (by decide)) (by rfl) T.m__law_one T.F__law_one.kp T.b__law_one .nil pass0 (pa_cons (pv 0) (pa_cons (pe_lst (pa_cons pe_int (pa_cons pe_int (pa_cons pe_int (pa_cons (pv 6) pa_nil))))) pa_nil))))
    (pss_one (ps_expr (pe_bm PySem.F.plainAttrs_list PySem.F.slot_list_append PySem.F.type_list_append mt_append (pv 4) (pa_cons (pe_tup (pa_cons (pv 7) (pa_cons (pe_op op_addU pe_int (pe_call (ok__law_pick T) (hr.mono (by decide)) (by rfl) T.m__law_pick T.F__law_pick.kp T.b__law_pick .nil pass0 (pa_cons (pv 0) (pa_cons (pv 6) pa_nil)))) (pa_cons (pv 6) (pa_cons (pv 9) pa_nil))))) pa_nil)))))))
    (pss_one (ps_ret (pe_tup (pa_cons (pv 2) (pa_cons (pe_callTy call_tuple_of (by rfl) T.n_tuple (by decide +kernel) (pa_cons (pv 4) pa_nil)) pa_nil)))))))), ws__law_hall⟩
theorem ok__law_small (T : Txt K mg) : FnOk P w K mg base CX0 1 T.a__law_small T.d__law_small [] (spW K P w W__law_small) :=
  fnW (k := 0) T.F__law_small sc__law_small (fun cs Po h => by
    unfold W__law_small at h
    revert h
    walk_at "len") fun cdv A outer s H E hr => ⟨rd__law_small K P w, (pss_one (ps_ret (pe_lst (pa_cons (pe_tup (pa_cons pe_int (pa_cons (pe_lst (pa_cons pe_int (pa_cons pe_int pa_nil))) pa_nil))) (pa_cons (pe_tup (pa_cons pe_int (pa_cons (pe_lst (pa_cons pe_int (pa_cons pe_int (pa_cons pe_int pa_nil)))) pa_nil))) (pa_cons (pe_tup (pa_cons pe_int (pa_cons (pe_lst (pa_cons pe_int pa_nil)) pa_nil))) (pa_cons (pe_tup (pa_cons pe_int (pa_cons (pe_lst (pa_cons pe_int (pa_cons pe_int pa_nil))) pa_nil))) (pa_cons (pe_tup (pa_cons pe_int (pa_cons (pe_lst (pa_cons pe_int (pa_cons pe_int pa_nil))) pa_nil))) (pa_cons (pe_tup (pa_cons pe_int (pa_cons (pe_lst (pa_cons pe_int pa_nil)) pa_nil))) (pa_cons (pe_tup (pa_cons pe_int (pa_cons (pe_lst (pa_cons pe_int pa_nil)) pa_nil))) (pa_cons (pe_tup (pa_cons pe_int (pa_cons (pe_lst (pa_cons pe_int pa_nil)) pa_nil))) pa_nil))))))))))), ws__law_small⟩
theorem ok__law_great (T : Txt K mg) : FnOk P w K mg base CX0 1 T.a__law_great T.d__law_great [] (spW K P w W__law_great) :=
  fnW (k := 0) T.F__law_great sc__law_great (fun cs Po h => by
    unfold W__law_great at h
    revert h
    walk_at "len") fun cdv A outer s H E hr => ⟨rd__law_great K P w, (pss_one (ps_ret (pe_lst (pa_cons (pe_tup (pa_cons pe_int (pa_cons (pe_lst (pa_cons pe_int (pa_cons pe_int (pa_cons pe_int pa_nil)))) pa_nil))) (pa_cons (pe_tup (pa_cons pe_int (pa_cons (pe_lst (pa_cons pe_int (pa_cons pe_int (pa_cons pe_int pa_nil)))) pa_nil))) (pa_cons (pe_tup (pa_cons pe_int (pa_cons (pe_lst (pa_cons pe_int (pa_cons pe_int pa_nil))) pa_nil))) (pa_cons (pe_tup (pa_cons pe_int (pa_cons (pe_lst (pa_cons pe_int (pa_cons pe_int (pa_cons pe_int pa_nil)))) pa_nil))) (pa_cons (pe_tup (pa_cons pe_int (pa_cons (pe_lst (pa_cons pe_int (pa_cons pe_int pa_nil))) pa_nil))) pa_nil)))))))), ws__law_great⟩
theorem ok__law_meeting (T : Txt K mg) : FnOk P w K mg base CX0 2 T.a__law_meeting T.d__law_meeting ["deck", "hall"] (spW K P w W__law_meeting) :=
  fnW (k := 1) T.F__law_meeting sc__law_meeting (fun cs Po h => by
    unfold W__law_meeting at h
    revert h
    walk_at "len") fun cdv A outer s H E hr => ⟨rd__law_meeting K P w, (pss_cons (ps_set (i := 2) sc__law_meeting.nd rfl (Or.inl rfl) (pe_call (ok__law_pick T) (hr.mono (by decide)) (by rfl) T.m__law_pick T.F__law_pick.kp T.b__law_pick .nil pass0 (pa_cons (pv 0) (pa_cons (pe_ix (ix_U hr.units) (pv 1) pe_int (fun _ _ => rfl)) pa_nil))))
    (pss_cons (ps_set (i := 3) sc__law_meeting.nd rfl (Or.inl rfl) (pe_op op_mod (pe_op op_addU (pe_op op_addU (pv 2) pe_int) (pe_call (ok__law_pick T) (hr.mono (by decide)) (by rfl) T.m__law_pick T.F__law_pick.kp T.b__law_pick .nil pass0 (pa_cons (pv 0) (pa_cons (pe_op op_sub (pe_ix (ix_U hr.units) (pv 1) pe_int (fun _ _ => rfl)) pe_int) pa_nil)))) (pe_ix (ix_U hr.units) (pv 1) pe_int (fun _ _ => rfl))))
    (pss_one (ps_ret (pe_tup (pa_cons (pv 2) (pa_cons (pv 3) (pa_cons (pe_call (ok__law_pick T) (hr.mono (by decide)) (by rfl) T.m__law_pick T.F__law_pick.kp T.b__law_pick .nil pass0 (pa_cons (pv 0) (pa_cons (pe_callB call_len (by rfl) T.n_len (by decide +kernel) (pa_cons (pe_ix (ix_U hr.units) (pv 1) pe_int (fun _ _ => rfl)) pa_nil)) pa_nil))) pa_nil)))))))), ws__law_meeting⟩
theorem ok__law_beat (T : Txt K mg) : FnOk P w K mg base CX0 3 T.a__law_beat T.d__law_beat ["deck", "hall"] (spW K P w W__law_beat) :=
  fnW (k := 2) T.F__law_beat sc__law_beat (fun cs Po h => by
    unfold W__law_beat at h
    revert h
    walk_at "len") fun cdv A outer s H E hr => ⟨rd__law_beat K P w, (pss_one (ps_ret (pe_callTy call_tuple_of (by rfl) T.n_tuple (by decide +kernel) (pa_cons (pe_lc (own := [("k", 2)]) (g := (gName 2)) (tt := tYes) (te := (tCall (spW K P w W__law_meeting) [] E0 (tCons (tVar 0) (tCons (tVar 1) tNil)))) (by rfl) sc__law_beat.nd (pi_range1 (by rfl) T.n_range (pa_cons (pe_call (ok__law_pick T) (hr.mono (by decide)) (by rfl) T.m__law_pick T.F__law_pick.kp T.b__law_pick .nil pass0 (pa_cons (pv 0) (pa_cons pe_int pa_nil))) pa_nil)) (blkOk_by (own := [("k", 2)]) (N := nm__law_beat) (sc := defScope s__law_beat) (by decide +kernel)) (fun _ _ _ _ _ => (pg_name (i := 2) sc__law_beat.nd rfl (.inl rfl))) (fun _ _ _ _ _ => pts_nil) (fun _ _ _ _ _ => (pe_call (ok__law_meeting T) (hr.mono (by decide)) (by rfl) T.m__law_meeting T.F__law_meeting.kp T.b__law_meeting .nil pass0 (pa_cons (pv 0) (pa_cons (pv 1) pa_nil))))) pa_nil)))), ws__law_beat⟩
theorem ok__law_stand (T : Txt K mg) : FnOk P w K mg base CX0 3 T.a__law_stand T.d__law_stand ["deck", "hall"] (spW K P w W__law_stand) :=
  fnW (k := 2) T.F__law_stand sc__law_stand (fun cs Po h => by
    unfold W__law_stand at h
    revert h
    walk_at "len") fun cdv A outer s H E hr => ⟨rd__law_stand K P w, (pss_cons (ps_set (i := 2) sc__law_stand.nd rfl (Or.inl rfl) (pe_lst pa_nil))
    (pss_cons (ps_for PassesOwn.never rfl (pi_range1 (by rfl) T.n_range (pa_cons (pe_ix (ix_U hr.units) (pv 1) pe_int (fun _ _ => rfl)) pa_nil)) (pg_name (i := 3) sc__law_stand.nd rfl (.inl rfl)) (pss_one (ps_expr (pe_bm PySem.F.plainAttrs_list PySem.F.slot_list_append PySem.F.type_list_append mt_append (pv 2) (pa_cons (pe_callTy call_tuple_of (by rfl) T.n_tuple (by decide +kernel) (pa_cons (pe_lc (own := [("lore", 4)]) (g := (gName 4)) (tt := tYes) (te := (tCall (spW K P w W__law_one) [] E0 (tCons (tVar 0) (tCons (tLst (tCons (tC (.int 0)) (tCons (tOp (rIxU K P w) (tVar 4) (tC (.int 2))) (tCons (tCall (spW K P w W__law_pick) [] E0 (tCons (tVar 0) (tCons (tOp (rAddU K) (tOp (rIxU K P w) (tVar 4) (tC (.int 2))) (tC (.int 1))) tNil))) tNil)))) tNil)))) (by rfl) sc__law_stand.nd (pi_seqU (pe_ix (ix_U hr.units) (pv 1) pe_int (fun _ _ => rfl))) (blkOk_by (own := [("lore", 4)]) (N := nm__law_stand) (sc := defScope s__law_stand) (by decide +kernel)) (fun _ _ _ _ _ => (pg_name (i := 4) sc__law_stand.nd rfl (.inl rfl))) (fun _ _ _ _ _ => pts_nil) (fun _ _ _ _ _ => (pe_call (ok__law_one T) (hr.mono (by decide)) (by rfl) T.m__law_one T.F__law_one.kp T.b__law_one .nil pass0 (pa_cons (pv 0) (pa_cons (pe_lst (pa_cons pe_int (pa_cons (pe_ix (ix_U hr.units) (pv 4) pe_int (fun _ _ => rfl)) (pa_cons (pe_call (ok__law_pick T) (hr.mono (by decide)) (by rfl) T.m__law_pick T.F__law_pick.kp T.b__law_pick .nil pass0 (pa_cons (pv 0) (pa_cons (pe_op op_addU (pe_ix (ix_U hr.units) (pv 4) pe_int (fun _ _ => rfl)) pe_int) pa_nil))) pa_nil)))) pa_nil))))) pa_nil)) pa_nil)))))
    (pss_one (ps_ret (pe_callTy call_tuple_of (by rfl) T.n_tuple (by decide +kernel) (pa_cons (pv 2) pa_nil)))))), ws__law_stand⟩
theorem ok__law_met (T : Txt K mg) : FnOk P w K mg base CX0 1 T.a__law_met T.d__law_met ["hall", "table", "meeting"] (spW K P w W__law_met) :=
  fnW (k := 0) T.F__law_met sc__law_met (fun cs Po h => by
    unfold W__law_met at h
    revert h
    walk_at "len") fun cdv A outer s H E hr => ⟨rd__law_met K P w, (pss_cons (ps_asg (pv 2) (pg_tup (by rfl) (pgs_cons (pg_name (i := 3) sc__law_met.nd rfl (.inl rfl)) (pgs_cons (pg_name (i := 4) sc__law_met.nd rfl (.inr rfl)) (pgs_cons (pg_name (i := 5) sc__law_met.nd rfl (.inl rfl)) pgs_nil)))))
    (pss_cons (ps_asg (pe_ix (ix_U hr.units) (pe_ix (ix_U hr.units) (pv 0) pe_int (fun _ _ => rfl)) (pv 5) (fun _ _ => rfl)) (pg_tup (by rfl) (pgs_cons (pg_name (i := 6) sc__law_met.nd rfl (.inl rfl)) (pgs_cons (pg_name (i := 7) sc__law_met.nd rfl (.inl rfl)) (pgs_cons (pg_name (i := 8) sc__law_met.nd rfl (.inl rfl)) (pgs_cons (pg_name (i := 9) sc__law_met.nd rfl (.inl rfl)) pgs_nil))))))
    (pss_cons (ps_if (PW.pt (pw_or (pt_cmpR op_lt (pe_ix (ix_U hr.units) (pv 1) (pe_tup (pa_cons (pv 3) (pa_cons (pv 5) pa_nil))) (fun _ _ => rfl)) (pv 7) (nomark _)) (pw_or1 (pt_cmpR (op_neD hr.units) (pe_lc (own := [("need", 10)]) (g := (gName 10)) (tt := (tTest (tOp (rEqD K) (tOp (rIxU K P w) (tVar 1) (tTup (tCons (tVar 4) (tCons (tVar 10) tNil)))) (tC (.int 0))))) (te := (tVar 10)) (by rfl) sc__law_met.nd (pi_seqU (pv 6)) (blkOk_by (own := [("need", 10)]) (N := nm__law_met) (sc := defScope s__law_met) (by decide +kernel)) (fun _ _ _ _ _ => (pg_name (i := 10) sc__law_met.nd rfl (.inl rfl))) (fun _ _ _ _ _ => (pts_one (pt_cmpR (op_eqD hr.units) (pe_ix (ix_U hr.units) (pv 1) (pe_tup (pa_cons (pv 4) (pa_cons (pv 10) pa_nil))) (fun _ _ => rfl)) pe_int (nomark _)))) (fun _ _ _ _ _ => (pv 10))) (pe_lst pa_nil) (nomark _))))) (pss_one (ps_ret pe_bl)) pss_nil)
    (pss_cons (ps_asg (pe_callB (call_min2 rfl) (by rfl) T.n_min (by decide +kernel) (pa_cons (pv 8) (pa_cons (pe_op op_addU (pe_ix (ix_U hr.units) (pv 1) (pe_tup (pa_cons (pv 4) (pa_cons (pv 5) pa_nil))) (fun _ _ => rfl)) pe_int) pa_nil))) (pg_sub (pv 1) (pe_tup (pa_cons (pv 4) (pa_cons (pv 5) pa_nil))) (set_U hr.units)))
    (pss_one (ps_ret pe_bl)))))), ws__law_met⟩
theorem ok__law_table (T : Txt K mg) : FnOk P w K mg base CX0 1 T.a__law_table T.d__law_table ["stand"] (spW K P w W__law_table) :=
  fnW (k := 0) T.F__law_table sc__law_table (fun cs Po h => by
    unfold W__law_table at h
    revert h
    walk_at "len") fun cdv A outer s H E hr => ⟨rd__law_table K P w, (pss_cons (ps_set (i := 1) sc__law_table.nd rfl (Or.inl rfl) pe_dnewN)
    (pss_cons (ps_for PassesOwn.never rfl (pi_enumA (by rfl) T.n_enumerate (pa_cons (pv 0) pa_nil)) (pg_tup (by rfl) (pgs_cons (pg_name (i := 2) sc__law_table.nd rfl (.inl rfl)) (pgs_cons (pg_name (i := 3) sc__law_table.nd rfl (.inl rfl)) pgs_nil))) (pss_one (ps_for PassesOwn.never rfl (pi_enumA (by rfl) T.n_enumerate (pa_cons (pv 3) pa_nil)) (pg_tup (by rfl) (pgs_cons (pg_name (i := 4) sc__law_table.nd rfl (.inl rfl)) (pgs_cons (pg_name (i := 5) sc__law_table.nd rfl (.inl rfl)) pgs_nil))) (pss_one (ps_asg (pv 5) (pg_sub (pv 1) (pe_tup (pa_cons (pv 2) (pa_cons (pv 4) pa_nil))) (set_U hr.units)))))))
    (pss_one (ps_ret (pv 1))))), ws__law_table⟩
theorem ok__law_stand_of (T : Txt K mg) : FnOk P w K mg base CX0 1 T.a__law_stand_of T.d__law_stand_of ["hall", "table"] (spW K P w W__law_stand_of) :=
  fnW (k := 0) T.F__law_stand_of sc__law_stand_of (fun cs Po h => by
    unfold W__law_stand_of at h
    revert h
    walk_at "len") fun cdv A outer s H E hr => ⟨rd__law_stand_of K P w, (pss_cons (ps_set (i := 2) sc__law_stand_of.nd rfl (Or.inl rfl) (pe_lst pa_nil))
    (pss_cons (ps_for PassesOwn.never rfl (pi_range1 (by rfl) T.n_range (pa_cons (pe_ix (ix_U hr.units) (pv 0) pe_int (fun _ _ => rfl)) pa_nil)) (pg_name (i := 3) sc__law_stand_of.nd rfl (.inr rfl)) (pss_one (ps_expr (pe_bm PySem.F.plainAttrs_list PySem.F.slot_list_append PySem.F.type_list_append mt_append (pv 2) (pa_cons (pe_callTy call_tuple_of (by rfl) T.n_tuple (by decide +kernel) (pa_cons (pe_lc (own := [("thing", 4)]) (g := (gName 4)) (tt := tYes) (te := (tOp (rIxU K P w) (tVar 1) (tTup (tCons (tVar 3) (tCons (tVar 4) tNil))))) (by rfl) sc__law_stand_of.nd (pi_range1 (by rfl) T.n_range (pa_cons (pe_callB call_len (by rfl) T.n_len (by decide +kernel) (pa_cons (pe_ix (ix_U hr.units) (pv 0) pe_int (fun _ _ => rfl)) pa_nil)) pa_nil)) (blkOk_by (own := [("thing", 4)]) (N := nm__law_stand_of) (sc := defScope s__law_stand_of) (by decide +kernel)) (fun _ _ _ _ _ => (pg_name (i := 4) sc__law_stand_of.nd rfl (.inl rfl))) (fun _ _ _ _ _ => pts_nil) (fun _ _ _ _ _ => (pe_ix (ix_U hr.units) (pv 1) (pe_tup (pa_cons (pv 3) (pa_cons (pv 4) pa_nil))) (fun _ _ => rfl)))) pa_nil)) pa_nil)))))
    (pss_one (ps_ret (pe_callTy call_tuple_of (by rfl) T.n_tuple (by decide +kernel) (pa_cons (pv 2) pa_nil)))))), ws__law_stand_of⟩
theorem ok__law_behind (T : Txt K mg) : FnOk P w K mg base CX0 2 T.a__law_behind T.d__law_behind ["hall", "stand", "beat"] (spW K P w W__law_behind) :=
  fnW (k := 1) T.F__law_behind sc__law_behind (fun cs Po h => by
    unfold W__law_behind at h
    revert h
    walk_at "len") fun cdv A outer s H E hr => ⟨rd__law_behind K P w, (pss_cons (ps_par (i := 3) (j := 4) (by rfl) sc__law_behind.nd rfl rfl (by decide) rfl rfl (pa_cons (pe_call (ok__law_table T) (hr.mono (by decide)) (by rfl) T.m__law_table T.F__law_table.kp T.b__law_table .nil pass0 (pa_cons (pv 1) pa_nil)) (pa_cons (pe_lst pa_nil) pa_nil)) (by rfl))
    (pss_cons (ps_for PassesOwn.never rfl (pi_seqU (pv 2)) (pg_name (i := 5) sc__law_behind.nd rfl (.inl rfl)) (pss_one (ps_if (pt_val (pe_call (ok__law_met T) (hr.mono (by decide)) (by rfl) T.m__law_met T.F__law_met.kp T.b__law_met .nil pass0 (pa_cons (pv 0) (pa_cons (pv 3) (pa_cons (pv 5) pa_nil))))) (pss_one (ps_set (i := 4) sc__law_behind.nd rfl (Or.inl rfl) (pe_op op_addU (pv 4) (pe_lst (pa_cons (pe_tup (pa_cons (pe_ix (ix_U hr.units) (pv 5) pe_int (fun _ _ => rfl)) (pa_cons (pe_ix (ix_U hr.units) (pv 5) pe_int (fun _ _ => rfl)) pa_nil))) (pa_cons (pe_tup (pa_cons (pe_ix (ix_U hr.units) (pv 5) pe_int (fun _ _ => rfl)) (pa_cons (pe_ix (ix_U hr.units) (pv 5) pe_int (fun _ _ => rfl)) pa_nil))) pa_nil)))))) pss_nil)))
    (pss_cons (ps_for PassesOwn.never rfl (pi_seqU (pe_callTy (cr_listU hr rfl) (by rfl) T.n_list (by decide +kernel) (pa_cons (pv 3) pa_nil))) (pg_name (i := 6) sc__law_behind.nd rfl (.inl rfl)) (pss_one (ps_if (pt_cmpR (op_notInU (room65 hr)) (pv 6) (pv 4) (by rfl)) (pss_one (ps_asg (pe_callB (call_max2 rfl) (by rfl) T.n_max (by decide +kernel) (pa_cons pe_int (pa_cons (pe_op op_sub (pe_ix (ix_U hr.units) (pv 3) (pv 6) (fun _ _ => rfl)) (pe_ix (ix_U hr.units) (pe_ix (ix_U hr.units) (pe_ix (ix_U hr.units) (pv 0) pe_int (fun _ _ => rfl)) (pe_ix (ix_U hr.units) (pv 6) pe_int (fun _ _ => rfl)) (fun _ _ => rfl)) pe_int (fun _ _ => rfl))) pa_nil))) (pg_sub (pv 3) (pv 6) (set_U hr.units)))) pss_nil)))
    (pss_one (ps_ret (pe_call (ok__law_stand_of T) (hr.mono (by decide)) (by rfl) T.m__law_stand_of T.F__law_stand_of.kp T.b__law_stand_of .nil pass0 (pa_cons (pv 0) (pa_cons (pv 3) pa_nil)))))))), ws__law_behind⟩
theorem ok__law_all (T : Txt K mg) : FnOk P w K mg base CX0 1 T.a__law_all T.d__law_all ["hall"] (spW K P w W__law_all) :=
  fnW (k := 0) T.F__law_all sc__law_all (fun cs Po h => by
    unfold W__law_all at h
    revert h
    walk_at "len") fun cdv A outer s H E hr => ⟨rd__law_all K P w, (pss_cons (ps_set (i := 1) sc__law_all.nd rfl (Or.inl rfl) (pe_lst (pa_cons (pe_tup pa_nil) pa_nil)))
    (pss_cons (ps_for PassesOwn.never rfl (pi_seqU (pe_ix (ix_U hr.units) (pv 0) pe_int (fun _ _ => rfl))) (pg_name (i := 2) sc__law_all.nd rfl (.inl rfl)) (pss_cons (ps_set (i := 3) sc__law_all.nd rfl (Or.inl rfl) (pe_lst pa_nil))
    (pss_cons (ps_for PassesOwn.never rfl (pi_seqU (pv 1)) (pg_name (i := 4) sc__law_all.nd rfl (.inr rfl)) (pss_one (ps_set (i := 3) sc__law_all.nd rfl (Or.inl rfl) (pe_op op_addU (pv 3) (pe_lc (own := [("level", 5)]) (g := (gName 5)) (tt := tYes) (te := (tOp (rAddU K) (tVar 4) (tTup (tCons (tVar 5) tNil)))) (by rfl) sc__law_all.nd (pi_range1 (by rfl) T.n_range (pa_cons (pe_op op_addU (pe_ix (ix_U hr.units) (pv 2) pe_int (fun _ _ => rfl)) pe_int) pa_nil)) (blkOk_by (own := [("level", 5)]) (N := nm__law_all) (sc := defScope s__law_all) (by decide +kernel)) (fun _ _ _ _ _ => (pg_name (i := 5) sc__law_all.nd rfl (.inl rfl))) (fun _ _ _ _ _ => pts_nil) (fun _ _ _ _ _ => (pe_op op_addU (pv 4) (pe_tup (pa_cons (pv 5) pa_nil)))))))))
    (pss_one (ps_set (i := 1) sc__law_all.nd rfl (Or.inl rfl) (pv 3))))))
    (pss_cons (ps_set (i := 6) sc__law_all.nd rfl (Or.inl rfl) (pe_lst (pa_cons (pe_tup pa_nil) pa_nil)))
    (pss_cons (ps_for PassesOwn.never rfl (pi_range1 (by rfl) T.n_range (pa_cons (pe_ix (ix_U hr.units) (pv 0) pe_int (fun _ _ => rfl)) pa_nil)) (pg_name (i := 7) sc__law_all.nd rfl (.inl rfl)) (pss_cons (ps_set (i := 3) sc__law_all.nd rfl (Or.inl rfl) (pe_lst pa_nil))
    (pss_cons (ps_for PassesOwn.never rfl (pi_seqU (pv 6)) (pg_name (i := 8) sc__law_all.nd rfl (.inr rfl)) (pss_one (ps_set (i := 3) sc__law_all.nd rfl (Or.inl rfl) (pe_op op_addU (pv 3) (pe_lc (own := [("row", 4)]) (g := (gName 4)) (tt := tYes) (te := (tOp (rAddU K) (tVar 8) (tTup (tCons (tVar 4) tNil)))) (by rfl) sc__law_all.nd (pi_seqU (pv 1)) (blkOk_by (own := [("row", 4)]) (N := nm__law_all) (sc := defScope s__law_all) (by decide +kernel)) (fun _ _ _ _ _ => (pg_name (i := 4) sc__law_all.nd rfl (.inl rfl))) (fun _ _ _ _ _ => pts_nil) (fun _ _ _ _ _ => (pe_op op_addU (pv 8) (pe_tup (pa_cons (pv 4) pa_nil)))))))))
    (pss_one (ps_set (i := 6) sc__law_all.nd rfl (Or.inl rfl) (pv 3))))))
    (pss_one (ps_ret (pv 6))))))), ws__law_all⟩
theorem ok__law_orders (T : Txt K mg) : FnOk P w K mg base CX0 1 T.a__law_orders T.d__law_orders ["beat"] (spW K P w W__law_orders) :=
  fnW (k := 0) T.F__law_orders sc__law_orders (fun cs Po h => by
    unfold W__law_orders at h
    revert h
    walk_at "len") fun cdv A outer s H E hr => ⟨rd__law_orders K P w, (pss_cons (ps_set (i := 1) sc__law_orders.nd rfl (Or.inl rfl) (pe_lst (pa_cons (pe_tup pa_nil) pa_nil)))
    (pss_cons (ps_for PassesOwn.never rfl (pi_seqU (pv 0)) (pg_name (i := 2) sc__law_orders.nd rfl (.inr rfl)) (pss_cons (ps_set (i := 3) sc__law_orders.nd rfl (Or.inl rfl) (pe_lst pa_nil))
    (pss_cons (ps_for PassesOwn.never rfl (pi_seqU (pv 1)) (pg_name (i := 4) sc__law_orders.nd rfl (.inr rfl)) (pss_one (ps_set (i := 3) sc__law_orders.nd rfl (Or.inl rfl) (pe_op op_addU (pv 3) (pe_lc (own := [("at", 5)]) (g := (gName 5)) (tt := tYes) (te := (tOp (rAddU K) (tOp (rAddU K) (tSl (rSlU K) (tVar 4) tNoPart (tPart (tVar 5))) (tTup (tCons (tVar 2) tNil))) (tSl (rSlU K) (tVar 4) (tPart (tVar 5)) tNoPart))) (by rfl) sc__law_orders.nd (pi_range1 (by rfl) T.n_range (pa_cons (pe_op op_addU (pe_callB call_len (by rfl) T.n_len (by decide +kernel) (pa_cons (pv 4) pa_nil)) pe_int) pa_nil)) (blkOk_by (own := [("at", 5)]) (N := nm__law_orders) (sc := defScope s__law_orders) (by decide +kernel)) (fun _ _ _ _ _ => (pg_name (i := 5) sc__law_orders.nd rfl (.inl rfl))) (fun _ _ _ _ _ => pts_nil) (fun _ _ _ _ _ => (pe_op op_addU (pe_op op_addU (pe_slice sl_U (pv 4) po_none (po_some (pv 5))) (pe_tup (pa_cons (pv 2) pa_nil))) (pe_slice sl_U (pv 4) (po_some (pv 5)) po_none))))))))
    (pss_one (ps_set (i := 1) sc__law_orders.nd rfl (Or.inl rfl) (pv 3))))))
    (pss_one (ps_ret (pv 1))))), ws__law_orders⟩
end
end PL

namespace PL
open PySem PySem.Spec PyProof.Rows L2 RZ MA
/-! ### the own error -/
def clsBody : Stmt → List Stmt
  | .ClassDef (body := b) .. => b
  | _ => []
def s_init : Stmt := (clsBody (top 9)).getD 0 (.Pass ⟨0, 0, 0, 0⟩)
theorem sc_init : FnScope ["self", "most"] ["self", "most"] (defScope s_init) := ⟨rfl, rfl, rfl, by decide +kernel, rfl, by decide +kernel, by decide +kernel⟩
structure Own (K : PySem.W.Frag) (mg : Str → Option Value) where
  cT : Addr
  aI : Addr
  dI : FuncData
  FI : Fun K "__init__" "TooMany.__init__" s_init aI dI
  bI : Binds K dI ["self", "most"] []
  gC : mg "TooMany" = some (.ref cT)
  ox : OexC K cT
  no : PySem.W.findIn K (.ref cT) "most" = some none
  iC : PySem.W.findIn K (.ref cT) "__init__" = some (some (.ref aI))
  tI : PySem.W.typeIn K (.ref aI) = some (.type "function")
  ex : ExcC K cT
  te : PySem.W.exmOne K (.ref cT) (.ref cT) = some true
  c_NoHall : Addr
  g_NoHall : mg "NoHall" = some (.ref c_NoHall)
  k_NoHall : PySem.W.kitOne K (.ref cT) (.ref c_NoHall) = some false
  c_NoStand : Addr
  g_NoStand : mg "NoStand" = some (.ref c_NoStand)
  k_NoStand : PySem.W.kitOne K (.ref cT) (.ref c_NoStand) = some false
  c_NoBeat : Addr
  g_NoBeat : mg "NoBeat" = some (.ref c_NoBeat)
  k_NoBeat : PySem.W.kitOne K (.ref cT) (.ref c_NoBeat) = some false
  c_NoPlan : Addr
  g_NoPlan : mg "NoPlan" = some (.ref c_NoPlan)
  k_NoPlan : PySem.W.kitOne K (.ref cT) (.ref c_NoPlan) = some false
  c_NoThing : Addr
  g_NoThing : mg "NoThing" = some (.ref c_NoThing)
  k_NoThing : PySem.W.kitOne K (.ref cT) (.ref c_NoThing) = some false
  c_NoCount : Addr
  g_NoCount : mg "NoCount" = some (.ref c_NoCount)
  k_NoCount : PySem.W.kitOne K (.ref cT) (.ref c_NoCount) = some false
  c_NoMeeting : Addr
  g_NoMeeting : mg "NoMeeting" = some (.ref c_NoMeeting)
  k_NoMeeting : PySem.W.kitOne K (.ref cT) (.ref c_NoMeeting) = some false
  kT : PySem.W.kitOne K (.ref cT) (.ref cT) = some true
  kV : PySem.W.kitOne K (.ref cT) (.type "ValueError") = some true
  n_VE : mg "ValueError" = none
local macro_rules | `(tactic| walk_at "len") => `(tactic| (intro h; (repeat (obtain ⟨_, h⟩ := h)); subst_vars; rfl))
section
variable {K : PySem.W.Frag} {P : Program} {w : World} {mg : Str → Option Value} {base : Heap}
theorem ok_init (M : Own K mg) : FnOk P w K mg base CX0 1 M.aI M.dI ["self", "most"] (spI M.cT "most") :=
  M.FI.ok sc_init (fun vs H Q E h => by
    obtain ⟨a, v, rfl, _⟩ := h
    rfl) fun cdv A outer s H vs Q E hr h => ⟨tInit K "most", pss_one (ps_ost (pv 0) (pv 1)), init_ok M.ox M.no h _ rfl⟩
theorem okX_all_stands (T : Txt K mg) (M : Own K mg) : FnOk P w K mg base (L2N.CX P w) 3 T.a_all_stands T.d_all_stands ["hall"] (spX K P w W_all_over M.cT "most" (.int 2000)) :=
  fnX (k := 2) T.F_all_stands sc_all_stands (fun cs h => by
    unfold W_all_over at h
    revert h
    walk_at "len") fun cdv A outer s H E hr => ⟨rx_all_stands K P w M.cT E, (pss_cons (ps_set (i := 1) sc_all_stands.nd rfl (Or.inl rfl) pe_int)
    (pss_cons (ps_for (L2.passes_of rfl) rfl (pi_seqU (pe_ix (ix_U hr.units) (pv 0) pe_int (fun _ _ => rfl))) (pg_name (i := 2) sc_all_stands.nd rfl (.inr rfl)) (pss_one (ps_for (L2.passes_of rfl) rfl (pi_range1 (by rfl) T.n_range (pa_cons (pe_ix (ix_U hr.units) (pv 0) pe_int (fun _ _ => rfl)) pa_nil)) (pg_name (i := 3) sc_all_stands.nd rfl (.inl rfl)) (pss_one (ps_aug (i := 1) sc_all_stands.nd rfl (Or.inl rfl) (pe_op op_addU (pe_ix (ix_U hr.units) (pv 2) pe_int (fun _ _ => rfl)) pe_int) iop_mul)))))
    (pss_cons (ps_if (pt_cmpR op_gt (pv 1) (pe_glob (by rfl) T.c_MOST_STANDS.choose_spec ⟨_, rfl⟩) (nomark _)) (pss_one (L2N.ps_raise rfl (L2N.takes_of rfl rfl rfl rfl) (pmkN M.ox M.iC M.tI (ok_init M) (hr.mono (by decide)) M.bI pass0 (by rfl) M.gC (pa_cons (pe_glob (by rfl) T.c_MOST_STANDS.choose_spec ⟨_, rfl⟩) pa_nil)))) pss_nil)
    (pss_cons (ps_set (i := 4) sc_all_stands.nd rfl (Or.inr rfl) (pe_lst (pa_cons (pe_tup pa_nil) pa_nil)))
    (pss_cons (ps_for (L2.passes_of rfl) rfl (pi_seqU (pe_ix (ix_U hr.units) (pv 0) pe_int (fun _ _ => rfl))) (pg_name (i := 2) sc_all_stands.nd rfl (.inr rfl)) (pss_one (ps_set (i := 4) sc_all_stands.nd rfl (Or.inr rfl) (pe_lc2 (own := [("row", 5), ("level", 6)]) (g := (gName 5)) (tt := tYes) (wi1 := (iRng1 (tCons (tOp (rAddU K) (tOp (rIxU K P w) (tVar 2) (tC (.int 2))) (tC (.int 1))) tNil))) (g1 := (gName 6)) (tt1 := tYes) (te := (tOp (rAddU K) (tVar 5) (tTup (tCons (tVar 6) tNil)))) (vs1 := [6]) (by rfl) sc_all_stands.nd (pi_seqU (pv 4)) (blkOk_by (own := [("row", 5), ("level", 6)]) (N := nm_all_stands) (sc := defScope s_all_stands) (by decide +kernel)) (by decide) (fun _ _ _ _ _ => (pg_name (i := 5) sc_all_stands.nd rfl (.inl rfl))) (fun _ _ _ _ _ => pts_nil) (fun _ _ _ _ _ => (pi_range1 (by rfl) T.n_range (pa_cons (pe_op op_addU (pe_ix (ix_U hr.units) (pv 2) pe_int (fun _ _ => rfl)) pe_int) pa_nil))) (fun _ _ _ _ _ => (pg_name (i := 6) sc_all_stands.nd rfl (.inl rfl))) (fun _ _ _ _ _ => pts_nil) (fun _ _ _ _ _ => (pe_op op_addU (pv 5) (pe_tup (pa_cons (pv 6) pa_nil))))))))
    (pss_cons (ps_set (i := 7) sc_all_stands.nd rfl (Or.inl rfl) (pe_lst (pa_cons (pe_tup pa_nil) pa_nil)))
    (pss_cons (ps_for (L2.passes_of rfl) rfl (pi_range1 (by rfl) T.n_range (pa_cons (pe_ix (ix_U hr.units) (pv 0) pe_int (fun _ _ => rfl)) pa_nil)) (pg_name (i := 3) sc_all_stands.nd rfl (.inl rfl)) (pss_one (ps_setLc2 (i := 7) (own := [("stand", 8), ("row", 5)]) (g := (gName 8)) (tt := tYes) (wi1 := (iSeqU K (tVar 4))) (g1 := (gName 5)) (tt1 := tYes) (te := (tOp (rAddU K) (tVar 8) (tTup (tCons (tVar 5) tNil)))) (vs1 := [5]) (by rfl) sc_all_stands.nd rfl rfl (sw_true rfl rfl rfl (by decide +kernel)) (pi_seqU (pv 7)) (blkOk_by (own := [("stand", 8), ("row", 5)]) (N := nm_all_stands) (sc := defScope s_all_stands) (by decide +kernel)) (by decide) (fun _ _ _ _ _ => (pg_name (i := 8) sc_all_stands.nd rfl (.inl rfl))) (fun _ _ _ _ _ => pts_nil) (fun _ _ _ _ _ => (pi_seqU (pv 4))) (fun _ _ _ _ _ => (pg_name (i := 5) sc_all_stands.nd rfl (.inl rfl))) (fun _ _ _ _ _ => pts_nil) (fun _ _ _ _ _ => (pe_op op_addU (pv 8) (pe_tup (pa_cons (pv 5) pa_nil)))))))
    (pss_one (ps_ret (pv 7)))))))))), wx_all_stands⟩
theorem okX_are_free (T : Txt K mg) (M : Own K mg) : FnOk P w K mg base (L2N.CX P w) 5 T.a_are_free T.d_are_free ["hall", "meeting", "second"] (spX K P w W_free_over M.cT "most" (.int 2000)) :=
  fnX (k := 4) T.F_are_free sc_are_free (fun cs h => by
    unfold W_free_over at h
    revert h
    walk_at "len") fun cdv A outer s H E hr => ⟨rx_are_free K P w M.cT E, (pss_cons (ps_expr (pe_call (ok_need_hall T) (hr.mono (by decide)) (by rfl) T.m_need_hall T.F_need_hall.kp T.b_need_hall .nil pass0 (pa_cons (pv 0) pa_nil)))
    (pss_cons (ps_expr (pe_call (ok_need_meeting T) (hr.mono (by decide)) (by rfl) T.m_need_meeting T.F_need_meeting.kp T.b_need_meeting .nil pass0 (pa_cons (pv 0) (pa_cons (pv 1) pa_nil))))
    (pss_cons (ps_expr (pe_call (ok_need_meeting T) (hr.mono (by decide)) (by rfl) T.m_need_meeting T.F_need_meeting.kp T.b_need_meeting .nil pass0 (pa_cons (pv 0) (pa_cons (pv 2) pa_nil))))
    (pss_cons (ps_asg (pe_tup (pa_cons (pe_tup (pa_cons (pv 1) (pa_cons (pv 2) pa_nil))) (pa_cons (pe_tup (pa_cons (pv 2) (pa_cons (pv 1) pa_nil))) pa_nil))) (pg_tup (by rfl) (pgs_cons (pg_name (i := 3) sc_are_free.nd rfl (.inr rfl)) (pgs_cons (pg_name (i := 4) sc_are_free.nd rfl (.inr rfl)) pgs_nil))))
    (pss_one (ps_ret (pe_callB (cr_all rfl) (by rfl) T.n_all (by decide +kernel) (pa_cons (pe_lc (own := [("stand", 5)]) (g := (gName 5)) (tt := tYes) (te := (tOp (rEqD K) (tCall (spW K P w W_behind) [] E0 (tCons (tVar 0) (tCons (tVar 5) (tCons (tVar 3) tNil)))) (tCall (spW K P w W_behind) [] E0 (tCons (tVar 0) (tCons (tVar 5) (tCons (tVar 4) tNil)))))) (by rfl) sc_are_free.nd (pi_seqU (pe_call (okX_all_stands T M) (hr.mono (by decide)) (by rfl) T.m_all_stands T.F_all_stands.kp T.b_all_stands .nil (L2N.passes_call (L2N.takes_of rfl rfl rfl rfl) fun _ _ _ _ h => h) (pa_cons (pv 0) pa_nil))) (blkOk_by (own := [("stand", 5)]) (N := nm_are_free) (sc := defScope s_are_free) (by decide +kernel)) (fun _ _ _ _ _ => (pg_name (i := 5) sc_are_free.nd rfl (.inl rfl))) (fun _ _ _ _ _ => pts_nil) (fun _ _ _ _ _ => (pe_cmpR (op_eqD hr.units) (pe_call (ok_behind T) (hr.mono (by decide)) (by rfl) T.m_behind T.F_behind.kp T.b_behind .nil pass0 (pa_cons (pv 0) (pa_cons (pv 5) (pa_cons (pv 3) pa_nil)))) (pe_call (ok_behind T) (hr.mono (by decide)) (by rfl) T.m_behind T.F_behind.kp T.b_behind .nil pass0 (pa_cons (pv 0) (pa_cons (pv 5) (pa_cons (pv 4) pa_nil)))) (nomark _)))) pa_nil)))))))), wx_are_free⟩
theorem kin_body (T : Txt K mg) (M : Own K mg) {cdv : Value} {A : Around} {outer : List Env} {s : Shared} {H : Hp} {p : Addr × Obj} {dd : Addr} (hot : L2H.Hot1 A p) (hc : p.2.cls = .ref M.cT) (hd : p.2.dict = some dd) (hf : ∃ vs, p.2.data = .fields vs) :
    PSs (cxK P w K mg base nm__law_kin "_law_kin" (defScope s__law_kin) T.a__law_kin cdv A outer s H p) (defBody s__law_kin) (tKin K M.cT p.1 dd [.ref M.c_NoHall, .ref M.c_NoStand, .ref M.c_NoBeat, .ref M.c_NoPlan] [.ref M.c_NoThing, .ref M.c_NoCount, .ref M.c_NoMeeting] [.ref M.cT, .ty "ValueError"]) :=
  pss_cons (ps_set (i := 1) sc__law_kin.nd rfl (Or.inl rfl) (pe_lst (pa_cons (pe_callB (call_isP M.ex hc hd hf (List.mem_singleton.mpr rfl)) (by rfl) T.n_isinstance (by decide +kernel) (pa_cons (pv 0) (pa_cons (pe_glob (by rfl) M.g_NoHall rfl) pa_nil))) (pa_cons (pe_callB (call_isP M.ex hc hd hf (List.mem_singleton.mpr rfl)) (by rfl) T.n_isinstance (by decide +kernel) (pa_cons (pv 0) (pa_cons (pe_glob (by rfl) M.g_NoStand rfl) pa_nil))) (pa_cons (pe_callB (call_isP M.ex hc hd hf (List.mem_singleton.mpr rfl)) (by rfl) T.n_isinstance (by decide +kernel) (pa_cons (pv 0) (pa_cons (pe_glob (by rfl) M.g_NoBeat rfl) pa_nil))) (pa_cons (pe_callB (call_isP M.ex hc hd hf (List.mem_singleton.mpr rfl)) (by rfl) T.n_isinstance (by decide +kernel) (pa_cons (pv 0) (pa_cons (pe_glob (by rfl) M.g_NoPlan rfl) pa_nil))) pa_nil))))))
  (pss_cons (ps_set (i := 1) sc__law_kin.nd rfl (Or.inl rfl) (pe_op op_addU (pv 1) (pe_lst (pa_cons (pe_callB (call_isP M.ex hc hd hf (List.mem_singleton.mpr rfl)) (by rfl) T.n_isinstance (by decide +kernel) (pa_cons (pv 0) (pa_cons (pe_glob (by rfl) M.g_NoThing rfl) pa_nil))) (pa_cons (pe_callB (call_isP M.ex hc hd hf (List.mem_singleton.mpr rfl)) (by rfl) T.n_isinstance (by decide +kernel) (pa_cons (pv 0) (pa_cons (pe_glob (by rfl) M.g_NoCount rfl) pa_nil))) (pa_cons (pe_callB (call_isP M.ex hc hd hf (List.mem_singleton.mpr rfl)) (by rfl) T.n_isinstance (by decide +kernel) (pa_cons (pv 0) (pa_cons (pe_glob (by rfl) M.g_NoMeeting rfl) pa_nil))) pa_nil))))))
  (pss_cons (ps_set (i := 1) sc__law_kin.nd rfl (Or.inl rfl) (pe_op op_addU (pv 1) (pe_lst (pa_cons (pe_callB (call_isP M.ex hc hd hf (List.mem_singleton.mpr rfl)) (by rfl) T.n_isinstance (by decide +kernel) (pa_cons (pv 0) (pa_cons (pe_glob (by rfl) M.gC rfl) pa_nil))) (pa_cons (pe_callB (call_isP M.ex hc hd hf (List.mem_singleton.mpr rfl)) (by rfl) T.n_isinstance (by decide +kernel) (pa_cons (pv 0) (pa_cons (pe_bltn (by rfl) M.n_VE (by decide +kernel) rfl) pa_nil))) pa_nil)))))
  (pss_cons (ps_set (i := 2) sc__law_kin.nd rfl (Or.inl rfl) (pe_lst (pa_cons pe_str (pa_cons pe_str (pa_cons pe_str (pa_cons pe_str (pa_cons pe_str (pa_cons pe_str (pa_cons pe_str (pa_cons pe_str (pa_cons pe_str pa_nil)))))))))))
  (pss_one (ps_ret (pe_join pe_str (pe_lcH (p := p) (own := [("name", 3), ("good", 4)]) (g := gTup K 2 (gCons (gName 3) (gCons (gName 4) gNil))) (tt := tB (tVar 4)) (te := tVar 3) hot (List.mem_singleton.mpr rfl) rfl sc__law_kin.nd (pi_zipH (by rfl) T.n_zip (pa_cons (pv 2) (pa_cons (pv 1) pa_nil)))
     (blkOk_by (own := [("name", 3), ("good", 4)]) (N := nm__law_kin) (sc := defScope s__law_kin) (by decide +kernel)) (fun _ _ _ _ _ => pg_tupH ⟨p, hot, List.mem_singleton.mpr rfl⟩ (pgs_cons (pg_name (i := 3) sc__law_kin.nd rfl (.inl rfl)) (pgs_cons (pg_name (i := 4) sc__law_kin.nd rfl (.inl rfl)) pgs_nil))) (fun _ _ _ _ _ => pts_one (pt_val (pv 4))) (fun _ _ _ _ _ => pv 3))))))))
end
end PL

namespace PL
open PySem PySem.Spec PyProof.Rows L2 RZ MA
section
variable {K : PySem.W.Frag} {P : Program} {w : World} {mg : Str → Option Value} {base : Heap}
def preKin (C : Addr) : Addr × Obj → Hp → VK → Prop := fun p H Q => p.2.cls = .ref C ∧ ∃ dd fs, p.2.dict = some dd ∧ H dd = some (.xd fs) ∧ ∀ H', Same H H' → Q (.str "TooMany+") H'
theorem ok_kin (T : Txt K mg) (M : Own K mg) : FnE P w K mg base 1 T.a__law_kin T.d__law_kin ["e"] (preKin M.cT) :=
  fnE_ok T.F__law_kin sc__law_kin rfl fun cdv A outer s H Q p hot hr ⟨hc, dd, fs, hd, hx, hq⟩ => ⟨_, kin_body T M hot hc hd ⟨_, hot.2.choose_spec.1⟩,
    kin_ok (PP := P) (ww := w) hx
      (.cons ⟨_, fun u h => h, M.k_NoHall⟩ (.cons ⟨_, fun u h => h, M.k_NoStand⟩ (.cons ⟨_, fun u h => h, M.k_NoBeat⟩ (.cons ⟨_, fun u h => h, M.k_NoPlan⟩ .nil))))
      (.cons ⟨_, fun u h => h, M.k_NoThing⟩ (.cons ⟨_, fun u h => h, M.k_NoCount⟩ (.cons ⟨_, fun u h => h, M.k_NoMeeting⟩ .nil)))
      (.cons ⟨_, fun u h => h, M.kT⟩ (.cons ⟨_, fun u h => h, M.kV⟩ .nil)) hq⟩
end
end PL

/-! A lambda whose body lets an own error of its own making out (L2N). -/
namespace PL
open PySem PySem.Spec PyProof.Rows L2 LamX
/-- the body's context -/
def lamN (X : Cx) (A : Around) (outer : List Env) (s : Shared) (H : Hp) (E : XK) (scope : Scope) (f c' : Addr) : Cx :=
  { lamCx X A outer s H E scope f c' with xe := fun e s' => wpAny (model X.prog X.w) (A.deeper (lamEnv X scope s.heap.objs.size f c')) (leaving (lamEnv X scope s.heap.objs.size f c') e) (fun _ s'' => L2N.CX X.prog X.w outer H s E e s'') (fun e' s'' => L2N.CX X.prog X.w outer H s E e' s'') s' }
section
variable {X : Cx} {pins : List (Addr × Obj)} {σ : L2.St} {H HZ : Hp} {s s1 : Shared}
theorem lamN_start {A : Around} {outer : List Env} {E : XK} {scope : Scope} {f c' : Addr} {h₁ : Heap} {tk : Nat} (I : Inv X pins σ H s) (L : LamS X.env.scope scope) (e0 : Env0 X.prog X.w X.K X.mg X.base A outer s1 HZ) (hd : A.handled = none)
    (un : Un (frs X.stack) [] H HZ s.heap s1.heap) (hns : h₁.Ns s1.heap.objs.size fun y => ([] : List (Str × Value)).reverse.lookup y) (kp : ∀ b o, s1.heap.get? b = some o → h₁.get? b = some o) :
    Inv (lamN X A outer s1 HZ E scope f c') [] σ HZ { s1 with heap := h₁, toks := tk } := by
  have J := lam_start2 (E := E) (f := f) (c' := c') (tk := tk) I L e0 hd un hns kp
  exact ⟨⟨J.ok.mod, J.ok.kind, J.ok.glob, J.ok.blt, J.ok.above, J.ok.inj, J.ok.has, J.ok.cab, J.ok.hd, J.ok.frames, J.ok.stk, J.ok.exf, J.ok.bs, J.ok.bsz, J.ok.noex, J.ok.exfs, J.ok.funs, J.ok.frf⟩, J.os, J.bare, J.base, J.loc, J.cell, J.free, J.freeC, J.pin, J.hok, J.len⟩
theorem pe_actN {CXg : CXT} {Eg : XK} {Ng : List Str} {qg : Str} {sg : Scope} {g f c' : Addr} {cdg pm ctv : Value} {params : Arguments} {body : Expr} {scope : Scope} {k i : Nat} {a : Str} {pn : List (Addr × Obj)} {xe : Value → Shared → Prop} {W : WX} {E : XK} {tb : TE} {p1 p2 : Pos}
    (I : Inv X pins σ H s) (L : LamS X.env.scope scope) (hf : s.heap.get? f = some (PySem.W.kla_obj "<lambda>" (X.env.qual ++ "<lambda>") params body scope (cloFrom X.env.cells scope.names []) pm c' ctv)) (hfn : H f = none) (hfr : f ∉ frs X.stack)
    (hbind : bindArgs (PySem.W.kla_fn "<lambda>" (X.env.qual ++ "<lambda>") params body scope (cloFrom X.env.cells scope.names []) pm (.ref c') ctv) ⟨[], []⟩ = pure [])
    (tk : L2N.Takes ((cxOf CXg X.prog X.w X.K X.mg X.base Ng qg sg g cdg X.A X.stack s H Eg).tr pn xe) W) (hr : Room (k + 1) (X.A.deeper (envOfC qg sg s.heap.objs.size g cdg)))
    (hbody : ∀ (A : Around) (outer : List Env) (s : Shared) (H : Hp), Room k (A.deeper (lamEnv X scope s.heap.objs.size f c')) → PE (lamN X A outer s H E scope f c') body tb)
    (hN : Ng[i]? = some a) (hv : Vis sg a) (hd : (a == ("__debug__" : Str)) = false := by decide) (hcd : (a == ("__classdict__" : Str)) = false := by decide) :
    PE ((cxOf CXg X.prog X.w X.K X.mg X.base Ng qg sg g cdg X.A X.stack s H Eg).tr pn xe) (.Call (.Name a p1) [] [] p2)
      (fun σZ HZ Q => σZ[i]? = some (some (.ref f)) ∧ HZ c' = some (CodeO c' (X.env.qual ++ "<lambda>")) ∧ (∀ cls d H', E cls d H' → W cls d σZ H') ∧ tb σ HZ Q) := by
  refine ⟨fun pinsZ sZ σZ HZ Q IZ h => ?_⟩
  obtain ⟨hs, hc, hW, ht⟩ := h
  refine wpAny_Call_Name_kw (thn ((pe_var (pos := p1) (i := i) hN hv hd hcd).run pinsZ sZ σZ HZ (fun v H1 => v = .ref f ∧ H1 = HZ) IZ ⟨.ref f, hs, rfl, rfl⟩) fun u s1 ⟨v, H1, I1, r1, q1⟩ => ?_)
  obtain ⟨ev, eH⟩ := q1
  subst ev
  rw [eH] at I1
  obtain rfl : u = Value.ref f := r1
  have of1 := I1.base.keep f _ hf hfn hfr (fun z => nomatch (show f ∈ ([] : List Addr) from z))
  refine PySem.W.callWith_F0 ⟨_, _, _, _, of1⟩ ?_
  have un : Un (frs X.stack) [] H HZ s.heap s1.heap := I1.base
  obtain ⟨⟨oc, vs, t, hoc, hdc, hvc⟩, _, _⟩ := I1.hok c' _ hc
  have rc : codeAny (model X.prog X.w) (X.A.deeper (envOfC qg sg s.heap.objs.size g cdg)) (.call (.ref f) ⟨[], []⟩) (CR (L2N.CX X.prog X.w) (envOfC qg sg s.heap.objs.size g cdg :: X.stack) X.prog X.w HZ s1 Q E) s1 := by
    refine PySem.W.kla_callFunE hr.depth of1 rfl L.co L.gen rfl ⟨c', oc, vs, t, rfl, hoc, hdc, hvc⟩ ?_
    rw [hbind]
    refine wpAny_pure (wpAny_newFunctionEnv (fun y hy => (L.own y hy).2) (fun y hy => absurd hy (by simp)) (fun h₁ hns hsb => ⟨I1.nolimit.fresh _ hsb, ?_⟩) L.kind)
    show codeAny _ _ (.expr body (lamEnv X scope s1.heap.objs.size f c')) _ _
    have kp : ∀ b o, s1.heap.get? b = some o → h₁.get? b = some o := fun b o e => hsb.extBut b o (Nat.ne_of_lt (Heap.lt_size e)) (Heap.get?_push_of_some _ e)
    have J := lamN_start (E := E) (f := f) (c' := c') (tk := s1.toks + ([] : List (Str × Value)).length) I L I1.env0 hr.hd un hns kp
    refine PySem.W.kla_codeExpr (wpAny_mono ((hbody _ _ s1 HZ (hr.deeper _)).run [] _ _ HZ Q J ht) (fun v s' hq => ?_) fun e s' hq => hq)
    obtain ⟨w', H', J', rv, q⟩ := hq
    exact ⟨w', H', J'.os, J'.bare, J'.base, J'.hok, rv, q⟩
  refine wpAny_call (codeAny_mono rc fun r s' hq => ?_)
  cases r with
  | error e => exact tk e s' (L2N.XE.of_call I1 (fun cls d H' h => hW cls d H' h) hq)
  | ok fl =>
    cases fl with
    | ret u => exact I1.after hq
    | next => exact False.elim hq
    | brk => exact False.elim hq
    | cont => exact False.elim hq
end
/-- the def that calls what it got -/
def GivesN (X : Cx) (Ng : List Str) (x : Str) (sg : Scope) (g : Addr) (cdg : Value) (bg : List Stmt) (a : Str) (q : Str) (k : Nat) (TT : (XK → Hp → VK → Prop) → Hp → VK → Prop) : Prop :=
  ∀ (f c' : Addr) (s : Shared) (H : Hp) (Q : VK) (tl : XK → Hp → VK → Prop), Room k (X.A.deeper (envOfC x sg s.heap.objs.size g cdg)) →
    (∀ (W : WX) (pn : List (Addr × Obj)) (xe : Value → Shared → Prop) (E : XK) (p1 p2 : Pos), L2N.Takes ((cxOf C8.CX0 X.prog X.w X.K X.mg X.base Ng x sg g cdg X.A X.stack s H C8.E0).tr pn xe) W →
      PE ((cxOf C8.CX0 X.prog X.w X.K X.mg X.base Ng x sg g cdg X.A X.stack s H C8.E0).tr pn xe) (.Call (.Name a p1) [] [] p2) (fun σZ HZ Q => σZ[0]? = some (some (.ref f)) ∧ HZ c' = some (CodeO c' q) ∧ (∀ cls d H', E cls d H' → W cls d σZ H') ∧ tl E HZ Q)) →
    H c' = some (CodeO c' q) → TT tl H Q →
    ∃ t, PSs (cxOf C8.CX0 X.prog X.w X.K X.mg X.base Ng x sg g cdg X.A X.stack s H C8.E0).nox bg t ∧ t { nx := fun _ H' => Q .non H', rt := Q } (L2.start Ng [.ref f]) H
theorem pe_lamcallN {X : Cx} {T : List (Addr × Str)} {TT : (XK → Hp → VK → Prop) → Hp → VK → Prop} {x a : Str} {g c P : Addr} {k : Nat} {pg : Arguments} {bg : List Stmt} {sg : Scope} {dV kV doc pm cdv ct oc : Value} {an od : Option Addr} {osl : Array (Option Value)} {Ng : List Str}
    {params : Arguments} {body : Expr} {scope : Scope} {t : XK → TE} {p lpos pos : Pos} (hg : Gl X x) (hm : X.mg x = some (.ref g)) (hk : PySem.W.keepIn X.K (.ref g) = true)
    (lk : X.K.lookup g = some ⟨oc, od, .func (PySem.W.fnOf x x pg bg sg dV kV doc pm an cdv ct), osl⟩) (hcg : PySem.W.codeIn X.K cdv x = true) (hb : L2.Binds X.K (PySem.W.fnOf x x pg bg sg dV kV doc pm an cdv ct) [a] []) (Sg : FnScope Ng [a] sg) (hNg : Ng[0]? = some a) (hva : Vis sg a)
    (hG : GivesN X Ng x sg g cdv bg a (X.env.qual ++ "<lambda>") (k + 1) TT)
    (TB : TabB X.base X.mg c P) (hcode : X.env.code = .ref c) (hmT : (P, X.env.qual ++ "<lambda>") ∈ T) (hu : ∀ p ∈ T, p.1 = P → p.2 = X.env.qual ++ "<lambda>") (hr : Room (k + 2) X.A) (L : LamS X.env.scope scope) (hdef : defaultsOf params X.env = ([], []))
    (hbind : ∀ (q : Str) (cl : List (Str × Addr)) (pm cv ctv : Value), bindArgs (PySem.W.kla_fn "<lambda>" q params body scope cl pm cv ctv) ⟨[], []⟩ = pure [])
    (hbody : ∀ (A : Around) (outer : List Env) (s : Shared) (H : Hp) (E : XK) (f c' : Addr), Room k (A.deeper (lamEnv X scope s.heap.objs.size f c')) → PE (lamN X A outer s H E scope f c') body (t E))
    (hdb : (x == ("__debug__" : Str)) = false := by decide) (hd : (a == ("__debug__" : Str)) = false := by decide) (hcd : (a == ("__classdict__" : Str)) = false := by decide) :
    PE X (.Call (.Name x p) [.Lambda params body scope lpos] [] pos) (tLam T TT t) := by
  refine ⟨fun pins s σ H Q I h => ?_⟩
  obtain ⟨hT, h⟩ := h
  refine wpAny_Call_Name_kw (ld_glob I hg hm ?_ hdb)
  refine PySem.W.callWith_K (h₀ := X.base) I.ok.mod.kin hk ?_ (by rfl) (by rfl)
  show wpAny _ _ (spliced ((false, eval (.Lambda params body scope lpos) X.env) :: backTo pos (starEach [] X.env))) _ _ s
  refine Calls.spliced_cons (lam_make2 I TB hcode hmT hu hT hdef (L.has I.ok) fun f c' pm' ctv H1 s' I1 eN T1 hf hfn hfr hco => ?_)
  refine Calls.spliced_nil ⟨I1.kIn, ?_⟩
  have rc : codeAny (model X.prog X.w) X.A (.call (.ref g) ⟨[.ref f], []⟩) (CR C8.CX0 X.stack X.prog X.w H1 s' Q C8.E0) s' := by
    refine run_ofS (N := Ng) (ps := [a]) (us := [.ref f]) (vs := [.ref f]) lk hcg Sg hr I1.env0 (hb s' [.ref f] I1.kIn rfl) (.cons rfl .nil) rfl fun hr' => ?_
    obtain ⟨t', ht', hq'⟩ := hG f c' s' H1 Q (fun E H' Q' => t E σ H' Q') hr' (fun W pn xe E p1 p2 tk => pe_actN (i := 0) I1 L hf hfn hfr (hbind _ _ _ _ _) tk hr' (fun A outer s H hr2 => hbody A outer s H E f c' hr2) hNg hva hd hcd) hco (h H1 eN T1)
    exact ⟨t', ht'.nox, hq'⟩
  refine wpAny_call (codeAny_mono rc fun r s2 hq => ?_)
  cases r with
  | error e => exact (show False from hq).elim
  | ok fl =>
    cases fl with
    | ret u => exact I1.after hq
    | next => exact False.elim hq
    | brk => exact False.elim hq
    | cont => exact False.elim hq
end PL

/-! `_law_try`. -/
namespace PL
open PySem PySem.Spec PyProof.Rows L2 RZ MA LamX
section
variable {X : Cx}
def tKc (cT a : Addr) (cls : Value) (d : Option Addr) (ta : TA) : TE := fun σ H Q => ta σ H fun vs H1 => vs = [.ref a] ∧ cls = .ref cT ∧ ∃ dd fs, d = some dd ∧ H1 dd = some (.xd fs) ∧ ∀ H', Same H1 H' → Q (.str "TooMany+") H'
theorem pe_kc (T : Txt X.K X.mg) (M : Own X.K X.mg) {a : Addr} {oe : Obj} {cls : Value} {d : Option Addr} {pn : List (Addr × Obj)} {e : Expr} {i : Nat} {q pos : Pos} (hr : L2H.RoomH 1 X.A) (hz : L2N.Zn cls d oe) (hn : ∃ vs : Array Value, oe.data = .fields vs ∧ vs[2]? = some .none)
    (hg : Gl (X.suite a ((a, oe) :: pn)) "_law_kin") (ha : PA (X.suite a ((a, oe) :: pn)) [e] (tCons (tVar i) tNil))
    (he : starEach [e] X.env = (false, eval e X.env) :: starEach [] X.env := by rfl) (hpl : (backTo pos (starEach [] X.env)).any (·.1) = false := by rfl) :
    PE (X.suite a ((a, oe) :: pn)) (.Call (.Name "_law_kin" q) [e] [] pos) (tKc M.cT a cls d (tCons (tVar i) tNil)) := by
  have h := pe_callE (q := q) (pos := pos) (ok_kin (P := X.prog) (w := X.w) (base := X.base) T M) hr hn hg T.m__law_kin T.F__law_kin.kp T.b__law_kin rfl ha (by decide) he hpl
  refine ⟨fun pins s σ H Q I hh => h.run pins s σ H Q I ?_⟩
  obtain ⟨v, e0, e1, e2, dd, fs, e3, e4, e5⟩ := hh
  exact ⟨v, e0, e1, hz.1.trans e2, dd, fs, hz.2.1.trans e3, e4, e5⟩
/-- what the lambda lets out -/
def Ech (cT : Addr) : XK := fun cls d H => cls = .ref cT ∧ ∃ dd, d = some dd ∧ H dd = some (.xd [("most", .int 2000)])
theorem ech_out {cT : Addr} : Out1 cT "most" (.int 2000) (Ech cT) := fun H d hd => ⟨rfl, d, rfl, upd_same⟩
def tSuite (cT : Addr) : Addr → Value → Option Addr → TS := fun a cls d => tAsg (tLst (tCons (tKc cT a cls d (tCons (tVar 2) tNil)) (tCons (tXf a cls d cT "most" (tVar 2)) tNil))) (gName 1)
def TTry (cT : Addr) : (XK → Hp → VK → Prop) → Hp → VK → Prop := fun tl H Q => (∀ Q' : VK, tl (Ech cT) H Q') ∧ ∀ (H' : Hp) (p : Addr), H' p = some (.lst [.str "TooMany+", .int 2000]) → Q (.ref p) H'
theorem try_gives (T : Txt X.K X.mg) (M : Own X.K X.mg) {cdg : Value} {q : Str} {k : Nat} (hk : 1 ≤ k) (xf : XfC X.K M.cT) :
    GivesN X nm__law_try "_law_try" (defScope s__law_try) T.a__law_try cdg (defBody s__law_try) "door" q k (TTry M.cT) := by
  intro f c' s H Q tl hr act hc h
  refine ⟨_, pss_cons (ps_set (i := 1) sc__law_try.nd rfl (Or.inl rfl) pe_non) (pss_cons (ps_try_hit (i := 2) (c := .ref M.cT) (ts := tSuite M.cT)
      (tb := fun W D σ H => tAsg (tTup (tCons (tC (.str "told")) (tCons (fun σZ HZ Q => σZ[0]? = some (some (.ref f)) ∧ HZ c' = some (CodeO c' q) ∧ (∀ cls d H', Ech M.cT cls d H' → W cls d σZ H') ∧ tl (Ech M.cT) HZ Q) tNil))) (gName 1) D σ H)
      rfl rfl sc__law_try.nd rfl rfl ⟨rfl, by decide, .inl M.gC⟩ (fun W pn xe tk _ => ?_) (fun a oe cls d pn hz hf => ?_)) (pss_one (ps_ret (pv 1)))), ?_⟩
  · exact pss_one (ps_set (i := 1) sc__law_try.nd rfl (Or.inl rfl) (pe_tup (pa_cons pe_str (pa_cons (act W pn xe (Ech M.cT) _ _ tk) pa_nil))))
  · exact pss_one (ps_set (i := 1) sc__law_try.nd rfl (Or.inl rfl) (pe_lst (pa_cons (pe_kc (X := (cxOf C8.CX0 X.prog X.w X.K X.mg X.base nm__law_try "_law_try" (defScope s__law_try) T.a__law_try cdg X.A X.stack s H C8.E0).nox) T M (L2H.RoomH.mono ⟨hr.dp, hr.un⟩ hk) hz hf rfl (pa_cons (pv 2) pa_nil)) (pa_cons (pe_xf (X := (cxOf C8.CX0 X.prog X.w X.K X.mg X.base nm__law_try "_law_try" (defScope s__law_try) T.a__law_try cdg X.A X.stack s H C8.E0).nox) xf M.no hz.zc ⟨_, hf.choose_spec.1⟩ (pv 2)) pa_nil))))
  · refine ⟨rfl, hc, fun cls d H' ⟨e1, dd, e2, e3⟩ => ?_, h.1 _⟩
    subst e1 e2
    refine ⟨M.te, fun a ha => ?_⟩
    refine ⟨_, rfl, rfl, rfl, dd, _, rfl, e3, fun H1 sH => ⟨_, rfl, rfl, rfl, dd, _, _, rfl, sH _ _ e3, rfl, by decide, fun p hp => ?_⟩⟩
    exact ⟨_, rfl, h.2 _ _ upd_same⟩
end
end PL

/-! k10's law. -/
namespace PL
open PySem PySem.Spec PyProof.Rows L2 RZ MA LamX
theorem dp_ext {K : PySem.W.Frag} {H H' : Hp} (e : ExtN H H') : ∀ (d : DD) (v : V), Dp K H v d → Dp K H' v d := by
  have seqT : ∀ {a : Addr} {xs : List V}, SqT K H a xs → SqT K H' a xs := fun {a xs} h => by
    rcases h with (h | ⟨o, h⟩) | h
    · exact .inl (.inl (e _ _ h fun ps z => by cases z))
    · exact .inl (.inr ⟨o, e _ _ h fun ps z => by cases z⟩)
    · exact .inr h
  have seqL : ∀ {a : Addr} {xs : List V}, SqL K H a xs → SqL K H' a xs := fun {a xs} h => by
    rcases h with (h | ⟨o, h⟩) | h
    · exact .inl (.inl (e _ _ h fun ps z => by cases z))
    · exact .inl (.inr ⟨o, e _ _ h fun ps z => by cases z⟩)
    · exact .inr h
  intro d
  apply PyData.rec (motive_1 := fun d => ∀ v, Dp K H v d → Dp K H' v d) (motive_2 := fun ds => ∀ vs, DpAll K H vs ds → DpAll K H' vs ds) (motive_3 := fun _ => True) (motive_4 := fun _ => True)
  · intro v h; cases h; exact .non
  · intro b v h; cases h; exact .bl b
  · intro i v h; cases h; exact .int i
  · intro x v h; cases h; exact .str x
  · intro ds ih v h
    cases h with
    | lst hs ha => exact .lst (seqL hs) (ih _ ha)
  · intro ds ih v h
    cases h with
    | tup hs ha => exact .tup (seqT hs) (ih _ ha)
  · intro kvs _ v h; cases h
  · intro vs h; cases h; exact .nil
  · intro d ds ih1 ih2 vs h
    cases h with
    | cons h1 h2 => exact .cons (ih1 _ h1) (ih2 _ h2)
  · trivial
  · intros; trivial
  · intros; trivial
theorem dps_of_ints {K : PySem.W.Frag} {H : Hp} : ∀ ns : List Int, DpAll K H (ns.map V.int) (ns.map .int)
  | [] => .nil
  | n :: ns => .cons (.int n) (dps_of_ints ns)
section
variable {K : PySem.W.Frag} {P : Program} {w : World} {mg : Str → Option Value} {base : Heap}
def lamArgs : TA := tCons (tVar 18) (tCons (tTup (tCons (tC (.int 0)) (tCons (tC (.int 1)) (tCons (tC (.int 0)) tNil)))) (tCons (tTup (tCons (tC (.int 1)) (tCons (tC (.int 2)) (tCons (tC (.int 0)) tNil)))) tNil))
def tLast (K : PySem.W.Frag) (P : Program) (w : World) (cT PL : Addr) (q : Str) : TS := tRet (tOp (rEqD K) (tLam [(PL, q)] (TTry cT) (fun E => tCall (spX K P w W_free_over cT "most" (.int 2000)) [] E lamArgs)) (tLst (tCons (tC (.str "TooMany+")) (tCons (tC (.int 2000)) tNil))))
def tLaw (K : PySem.W.Frag) (P : Program) (w : World) (cT PL : Addr) (q : Str) : TS := tSeq (tFor (iSeqU K (tSl (rSlU K) (tOp (rAddU K) (tLst (tCons (tC (.int 0)) tNil)) (tVar 0)) tNoPart (tPart (tC (.int 8))))) (gName 1)
    (tSeq (tAsg (tCall (spW K P w W__law_deck) [] E0 (tCons (tVar 1) (tCons (tC (.int 10)) tNil))) (gName 2))
    (tSeq (tAsg (tCall (spW K P w W__law_hall) [] E0 (tCons (tVar 2) (tCons (tCall (spW K P w W__law_great) [] E0 tNil) tNil))) (gName 3))
    (tSeq (tAsg (tTup (tCons (tCall (spW K P w W__law_stand) [] E0 (tCons (tVar 2) (tCons (tVar 3) tNil))) (tCons (tCall (spW K P w W__law_beat) [] E0 (tCons (tVar 2) (tCons (tVar 3) tNil))) tNil))) (gTup K 2 (gCons (gName 4) (gCons (gName 5) gNil))))
    (tSeq (tAsg (tCB (rSortedU K P w) (tCons (tCB (rSetN K P w) (tCons (tLc (iSeqU K (tCall (spW K P w W__law_orders) [] E0 (tCons (tVar 5) tNil))) (gName 7) tYes (tCall (spW K P w W__law_behind) [] E0 (tCons (tVar 3) (tCons (tVar 4) (tCons (tVar 7) tNil)))) [7]) tNil)) tNil)) (gName 6))
    (tSeq (tAsg (tCall (spW K P w W_ends) [] E0 (tCons (tVar 3) (tCons (tVar 4) (tCons (tVar 5) tNil)))) (gName 8))
    (tSeq (tIfS (tNot (tB (tCall (spW K P w (W__law_same 6)) [] E0 (tCons (tVar 8) (tCons (tVar 6) tNil))))) (tRet (tC (.bl false))) tNext)
    (tSeq (tDrop (tBM K "list" rAppend (tVar 8) (tCons (tC (.int 1)) tNil)))
    (tSeq (tIfS (tTest (tOp (rNeD K) (tCall (spW K P w W_ends) [] E0 (tCons (tVar 3) (tCons (tVar 4) (tCons (tTup tNil) tNil)))) (tLst (tCons (tCall (spW K P w W_by_beat) [] E0 (tCons (tVar 3) (tCons (tVar 4) (tCons (tTup tNil) tNil)))) tNil)))) (tRet (tC (.bl false))) tNext)
    (tSeq (tAsg (tCall (spW K P w W__law_hall) [] E0 (tCons (tVar 2) (tCons (tCall (spW K P w W__law_small) [] E0 tNil) tNil))) (gName 3))
    (tSeq (tAsg (tCall (spW K P w W__law_all) [] E0 (tCons (tVar 3) tNil)) (gName 9))
    (tFor (iRng1 (tCons (tC (.int 4)) tNil)) (gName 10)
    (tSeq (tAsg (tTup (tCons (tCall (spW K P w W__law_meeting) [] E0 (tCons (tVar 2) (tCons (tVar 3) tNil))) (tCons (tCall (spW K P w W__law_meeting) [] E0 (tCons (tVar 2) (tCons (tVar 3) tNil))) tNil))) (gTup K 2 (gCons (gName 11) (gCons (gName 12) gNil))))
    (tSeq (tAsg (tTup (tCons (tLc (iSeqU K (tVar 9)) (gName 15) tYes (tCall (spW K P w W__law_behind) [] E0 (tCons (tVar 3) (tCons (tVar 15) (tCons (tTup (tCons (tVar 11) (tCons (tVar 12) tNil))) tNil)))) [15]) (tCons (tLst tNil) tNil))) (gTup K 2 (gCons (gName 13) (gCons (gName 14) gNil))))
    (tSeq (tFor (iSeqU K (tVar 9)) (gName 15)
    (tDrop (tBM K "list" rAppend (tVar 14) (tCons (tCall (spW K P w W__law_behind) [] E0 (tCons (tVar 3) (tCons (tVar 15) (tCons (tTup (tCons (tVar 12) (tCons (tVar 11) tNil))) tNil)))) tNil))))
    (tSeq (tAsg (tLc (iEnumA K (tCons (tVar 13) tNil)) (gTup K 2 (gCons (gName 17) (gCons (gName 15) gNil))) (tTest (tOp (rNeD K) (tVar 15) (tOp (rIxU K P w) (tVar 14) (tVar 17)))) (tVar 17) [17, 15]) (gName 16))
    (tSeq (tIfS (tOr (tNot (tB (tCall (spW K P w (W__law_same 6)) [] E0 (tCons (tCall (spW K P w W_are_free) [] E0 (tCons (tVar 3) (tCons (tVar 11) (tCons (tVar 12) tNil)))) (tCons (tOp (rEqD K) (tVar 16) (tLst tNil)) tNil))))) (tTest (tOp rNotB (tCall (spW K P w W_are_free) [] E0 (tCons (tVar 3) (tCons (tVar 11) (tCons (tVar 11) tNil)))) (tC (.bl true))))) (tRet (tC (.bl false))) tNext)
    (tIfS (tAnd (tTest (tOp (rNeD K) (tVar 16) (tLst tNil))) (tTest (tOp (rEqD K) (tLenSetT K (tOp (rAddU K) (tSl (rSlU K) (tVar 11) tNoPart (tPart (tC (.int 2)))) (tSl (rSlU K) (tVar 12) tNoPart (tPart (tC (.int 2)))))) (tC (.int 4))))) (tRet (tC (.bl false))) tNext))))))))))))))))))
  (tSeq (tAsg (tTup (tCons (tC (.int 4)) (tCons (tTup (tCons (tTup (tCons (tTup tNil) (tCons (tC (.int 1)) (tCons (tC (.int 3)) (tCons (tC (.int 1)) tNil))))) (tCons (tTup (tCons (tTup (tCons (tC (.int 0)) tNil)) (tCons (tC (.int 1)) (tCons (tC (.int 3)) (tCons (tC (.int 1)) tNil))))) tNil))) tNil))) (gName 18))
  (tLast K P w cT PL q))
/-- the scope of the lambda in the last row -/
def lamScope : Stmt → Scope
  | .FunctionDef (body := b) .. => match b.getLast? with
    | some (.Return (some (.Compare (.Call _ [.Lambda _ _ sc _] _ _) _ _ _)) _) => sc
    | _ => defScope (.Pass ⟨0, 0, 0, 0⟩)
  | _ => defScope (.Pass ⟨0, 0, 0, 0⟩)
def spLaw (K : PySem.W.Frag) (PL : Addr) : Sp := fun vs H Q _ => ∃ (a : Addr) (ns : List Int), vs = [.ref a] ∧ ns.length ≤ 63 ∧ SqL K H a (ns.map V.int) ∧ H PL = some (.tbl #[]) ∧ ∀ H', Q (.bl true) H'
theorem read_law {cT PL : Addr} {q : Str} {vs : List V} {H : Hp} {Q : VK} {E : XK} (h : spLaw K PL vs H Q E) : tLaw K P w cT PL q { nx := fun _ H' => Q .non H', rt := Q } (L2.start nm_law vs) H := by
  obtain ⟨a, ns, rfl, hl, hs, hT, hq⟩ := h
  have rp0 : Rep K P w [C.d (.list (ns.map .int))] ([V.ref a].map some) H H := by
    refine ⟨rfl, fun _ _ h => h, fun i c hi => .inr ?_, fun i j ci cj b hi hj h1 h2 => ?_⟩
    · match i, hi with
      | 0, hi =>
        cases hi
        exact ⟨_, rfl, Dp.lst hs (dps_of_ints ns)⟩
      | i + 1, hi => simp at hi
    · match i, j, hi, hj with
      | 0, 0, _, _ => rfl
      | i + 1, _, hi, _ => simp at hi
      | _, j + 1, _, hj => simp at hj
  obtain ⟨rp1, st1⟩ := start_rep (N := nm_law) rfl rp0
  refine ws_front (c1 := .no) (c2 := .no) (c3 := .no) (c4 := .no) (c5 := .no) (c6 := .no) (c7 := .no) (c8 := .no) (c9 := .no) (c10 := .no) (c11 := .no) (c12 := .no) (c13 := .no) (c14 := .no) (c15 := .no) (c16 := .no) (c17 := .no) (c18 := .no) hl rfl rfl rfl
    (Po := { nx := fun e => ∃ e0, Loose ns e0 ∧ e = e0.set 18 (.d (encHall wideH)), rt := fun _ _ => False }) (fun e hL => ⟨e, hL, rfl⟩) (L2.start nm_law [.ref a]) H H rp1 { nx := fun σ H' => tLast K P w cT PL q { nx := fun _ H' => Q .non H', rt := Q } σ H', rt := Q }
    ⟨fun env' σ' G' H' ⟨e0, hL, he⟩ st rp => ?_, fun r v env' σ' G' H' z => z.elim, fun _ _ _ _ z => z.elim, fun _ _ _ _ z => z.elim⟩
  obtain ⟨c1, c2, c3, c4, c5, c6, c7, c8, c9, c10, c11, c12, c13, c14, c15, c16, c17, c18, rfl, _, _, _⟩ := hL
  subst he
  obtain ⟨v, hv, okv⟩ := rp.at (i := 18) (c := .d (encHall wideH)) rfl (by simp)
  have lenσ : σ'.length = 19 := rp.len
  have tP : H' PL = some (.tbl #[]) := rp.sub _ _ (st.g _ _ hT)
  refine ⟨fun p hp => ?_, fun H1 ext _ => ⟨fun Q' => ?_, fun H2 p hp => ?_⟩⟩
  · rw [List.mem_singleton.mp hp]
    exact TabS.nil tP
  · have okv' : Dp K G' v (encHall wideH) := okv
    have dv : Dp K H1 v (encHall wideH) := dp_ext ext _ _ (Dp.mono rp.sub _ _ okv')
    have rp2 : Rep K P w (List.replicate 18 C.no ++ [C.d (encHall wideH)]) σ' H1 H1 := by
      refine ⟨lenσ, fun _ _ h => h, fun i c hi => ?_, fun i j ci cj b hi hj h1 h2 => ?_⟩
      · by_cases q18 : i = 18
        · subst q18
          cases hi
          exact .inr ⟨v, hv, dv⟩
        · left
          have hm := List.mem_of_getElem? hi
          by_cases q19 : i < 18
          · rw [List.getElem?_append_left (by simpa using q19)] at hi
            exact (List.mem_replicate.mp (List.mem_of_getElem? hi)).2
          · rw [List.getElem?_eq_none (by simp; omega)] at hi
            cases hi
      · have hm := List.mem_of_getElem? hi
        rcases List.mem_append.mp hm with z | z
        · rw [(List.mem_replicate.mp z).2] at h1; cases h1
        · rw [List.mem_singleton.mp z] at h1; cases h1
    refine (we_callX (Po := fun _ _ => False) (ech_out (cT := cT)) (wa_cons (we_d (x := encHall wideH) rfl (wa_cons (we_tupU ?_))))) σ' H1 H1 rp2 Q' fun r v e G H z => z.elim
    refine wa_cons (we_int (wa_cons (we_int (wa_cons (we_int (wa_nil ⟨_, rfl, by simp, ?_⟩))))))
    refine wa_cons (we_tupU (wa_cons (we_int (wa_cons (we_int (wa_cons (we_int (wa_nil ⟨_, rfl, by simp, wa_nil ?_⟩))))))))
    exact ⟨_, rfl, wideH, ⟨0, 1, 0⟩, ⟨1, 2, 0⟩, wide_ok, wide_many, ⟨by decide, by decide, by decide, by decide⟩, ⟨by decide, by decide, by decide, by decide⟩, rfl⟩
  · refine ⟨by decide, fun p2 hp2 => ?_⟩
    refine ⟨.list [.str "TooMany+", .int 2000], .list [.str "TooMany+", .int 2000], .lst (.inl (.inl ?_)) (.cons (.str _) (.cons (.int _) .nil)), .lst (.inl (.inl upd_same)) (.cons (.str _) (.cons (.int _) .nil)), by decide +kernel, by decide +kernel, ?_⟩
    · rw [upd_ne (fun z => by rw [z, hp2] at hp; cases hp)]
      exact hp
    · have e : PyData.eqv (.list [.str "TooMany+", .int 2000]) (.list [.str "TooMany+", .int 2000]) = true := by decide +kernel
      rw [e]
      exact hq _
theorem lam_scope : LamS (defScope s_law) (lamScope s_law) := lamS_by (by decide +kernel)
theorem ok_law (T : Txt K mg) (M : Own K mg) (xf : XfC K M.cT) {cL PL : Addr} (hc : T.d_law.code = .ref cL) (TB : TabB base mg cL PL) : FnOk P w K mg base CX0 10 T.a_law T.d_law ["script"] (spLaw K PL) := by
  obtain ⟨oc, od, kV, doc, pm, an, cdv, ct, osl, e, lk, hcd⟩ := T.F_law.ex
  obtain ⟨oc2, od2, kV2, doc2, pm2, an2, cdv2, ct2, osl2, e2, lk2, hcd2⟩ := T.F__law_try.ex
  have ec : cdv = .ref cL := by rw [e] at hc; exact hc
  subst ec
  have bT := T.b__law_try
  rw [e]
  rw [e] at lk
  rw [e2] at lk2 bT
  refine fn_of lk hcd sc_law (fun vs H Q E h => ?_) fun A outer s H vs Q E hr h => ⟨_, PSs.nox (pss_cons (ps_for PassesOwn.never rfl (pi_seqU (pe_slice sl_U (pe_op op_addU (pe_lst (pa_cons pe_int pa_nil)) (pv 0)) po_none (po_some pe_int))) (pg_name (i := 1) sc_law.nd rfl (.inl rfl)) (pss_cons (ps_set (i := 2) sc_law.nd rfl (Or.inl rfl) (pe_call (ok__law_deck T) (hr.mono (by decide)) (by rfl) T.m__law_deck T.F__law_deck.kp T.b__law_deck .nil pass0 (pa_cons (pv 1) (pa_cons pe_int pa_nil))))
    (pss_cons (ps_set (i := 3) sc_law.nd rfl (Or.inr rfl) (pe_call (ok__law_hall T) (hr.mono (by decide)) (by rfl) T.m__law_hall T.F__law_hall.kp T.b__law_hall .nil pass0 (pa_cons (pv 2) (pa_cons (pe_call0 (ok__law_great T) (hr.mono (by decide)) (by rfl) T.m__law_great T.F__law_great.kp T.b__law_great .nil pass0 ) pa_nil))))
    (pss_cons (ps_asg (pe_tup (pa_cons (pe_call (ok__law_stand T) (hr.mono (by decide)) (by rfl) T.m__law_stand T.F__law_stand.kp T.b__law_stand .nil pass0 (pa_cons (pv 2) (pa_cons (pv 3) pa_nil))) (pa_cons (pe_call (ok__law_beat T) (hr.mono (by decide)) (by rfl) T.m__law_beat T.F__law_beat.kp T.b__law_beat .nil pass0 (pa_cons (pv 2) (pa_cons (pv 3) pa_nil))) pa_nil))) (pg_tup (by rfl) (pgs_cons (pg_name (i := 4) sc_law.nd rfl (.inr rfl)) (pgs_cons (pg_name (i := 5) sc_law.nd rfl (.inl rfl)) pgs_nil))))
    (pss_cons (ps_set (i := 6) sc_law.nd rfl (Or.inl rfl) (pe_callB (cr_sortedU hr rfl) (by rfl) T.n_sorted (by decide +kernel) (pa_cons (pe_callTy (cr_setN hr rfl) (by rfl) T.n_set (by decide +kernel) (pa_cons (pe_lc (own := [("order", 7)]) (g := (gName 7)) (tt := tYes) (te := (tCall (spW K P w W__law_behind) [] E0 (tCons (tVar 3) (tCons (tVar 4) (tCons (tVar 7) tNil))))) (by rfl) sc_law.nd (pi_seqU (pe_call (ok__law_orders T) (hr.mono (by decide)) (by rfl) T.m__law_orders T.F__law_orders.kp T.b__law_orders .nil pass0 (pa_cons (pv 5) pa_nil))) (blkOk_by (own := [("order", 7)]) (N := nm_law) (sc := defScope s_law) (by decide +kernel)) (fun _ _ _ _ _ => (pg_name (i := 7) sc_law.nd rfl (.inl rfl))) (fun _ _ _ _ _ => pts_nil) (fun _ _ _ _ _ => (pe_call (ok__law_behind T) (hr.mono (by decide)) (by rfl) T.m__law_behind T.F__law_behind.kp T.b__law_behind .nil pass0 (pa_cons (pv 3) (pa_cons (pv 4) (pa_cons (pv 7) pa_nil)))))) pa_nil)) pa_nil)))
    (pss_cons (ps_set (i := 8) sc_law.nd rfl (Or.inl rfl) (pe_call (ok_ends T) (hr.mono (by decide)) (by rfl) T.m_ends T.F_ends.kp T.b_ends .nil pass0 (pa_cons (pv 3) (pa_cons (pv 4) (pa_cons (pv 5) pa_nil)))))
    (pss_cons (ps_if (pt_not (pt_val (pe_call (okN__law_same T) (hr.mono (by decide)) (by rfl) T.m__law_same T.F__law_same.kp T.b__law_same .nil pass0 (pa_cons (pv 8) (pa_cons (pv 6) pa_nil))))) (pss_one (ps_ret pe_bl)) pss_nil)
    (pss_cons (ps_expr (pe_bm PySem.F.plainAttrs_list PySem.F.slot_list_append PySem.F.type_list_append mt_append (pv 8) (pa_cons pe_int pa_nil)))
    (pss_cons (ps_if (pt_cmpR (op_neD hr.units) (pe_call (ok_ends T) (hr.mono (by decide)) (by rfl) T.m_ends T.F_ends.kp T.b_ends .nil pass0 (pa_cons (pv 3) (pa_cons (pv 4) (pa_cons (pe_tup pa_nil) pa_nil)))) (pe_lst (pa_cons (pe_call (ok_by_beat T) (hr.mono (by decide)) (by rfl) T.m_by_beat T.F_by_beat.kp T.b_by_beat .nil pass0 (pa_cons (pv 3) (pa_cons (pv 4) (pa_cons (pe_tup pa_nil) pa_nil)))) pa_nil)) (nomark _)) (pss_one (ps_ret pe_bl)) pss_nil)
    (pss_cons (ps_set (i := 3) sc_law.nd rfl (Or.inr rfl) (pe_call (ok__law_hall T) (hr.mono (by decide)) (by rfl) T.m__law_hall T.F__law_hall.kp T.b__law_hall .nil pass0 (pa_cons (pv 2) (pa_cons (pe_call0 (ok__law_small T) (hr.mono (by decide)) (by rfl) T.m__law_small T.F__law_small.kp T.b__law_small .nil pass0 ) pa_nil))))
    (pss_cons (ps_set (i := 9) sc_law.nd rfl (Or.inl rfl) (pe_call (ok__law_all T) (hr.mono (by decide)) (by rfl) T.m__law_all T.F__law_all.kp T.b__law_all .nil pass0 (pa_cons (pv 3) pa_nil)))
    (pss_one (ps_for PassesOwn.never rfl (pi_range1 (by rfl) T.n_range (pa_cons pe_int pa_nil)) (pg_name (i := 10) sc_law.nd rfl (.inl rfl)) (pss_cons (ps_asg (pe_tup (pa_cons (pe_call (ok__law_meeting T) (hr.mono (by decide)) (by rfl) T.m__law_meeting T.F__law_meeting.kp T.b__law_meeting .nil pass0 (pa_cons (pv 2) (pa_cons (pv 3) pa_nil))) (pa_cons (pe_call (ok__law_meeting T) (hr.mono (by decide)) (by rfl) T.m__law_meeting T.F__law_meeting.kp T.b__law_meeting .nil pass0 (pa_cons (pv 2) (pa_cons (pv 3) pa_nil))) pa_nil))) (pg_tup (by rfl) (pgs_cons (pg_name (i := 11) sc_law.nd rfl (.inr rfl)) (pgs_cons (pg_name (i := 12) sc_law.nd rfl (.inr rfl)) pgs_nil))))
    (pss_cons (ps_asg (pe_tup (pa_cons (pe_lc (own := [("here", 15)]) (g := (gName 15)) (tt := tYes) (te := (tCall (spW K P w W__law_behind) [] E0 (tCons (tVar 3) (tCons (tVar 15) (tCons (tTup (tCons (tVar 11) (tCons (tVar 12) tNil))) tNil))))) (by rfl) sc_law.nd (pi_seqU (pv 9)) (blkOk_by (own := [("here", 15)]) (N := nm_law) (sc := defScope s_law) (by decide +kernel)) (fun _ _ _ _ _ => (pg_name (i := 15) sc_law.nd rfl (.inl rfl))) (fun _ _ _ _ _ => pts_nil) (fun _ _ _ _ _ => (pe_call (ok__law_behind T) (hr.mono (by decide)) (by rfl) T.m__law_behind T.F__law_behind.kp T.b__law_behind .nil pass0 (pa_cons (pv 3) (pa_cons (pv 15) (pa_cons (pe_tup (pa_cons (pv 11) (pa_cons (pv 12) pa_nil))) pa_nil)))))) (pa_cons (pe_lst pa_nil) pa_nil))) (pg_tup (by rfl) (pgs_cons (pg_name (i := 13) sc_law.nd rfl (.inl rfl)) (pgs_cons (pg_name (i := 14) sc_law.nd rfl (.inr rfl)) pgs_nil))))
    (pss_cons (ps_for PassesOwn.never rfl (pi_seqU (pv 9)) (pg_name (i := 15) sc_law.nd rfl (.inl rfl)) (pss_one (ps_expr (pe_bm PySem.F.plainAttrs_list PySem.F.slot_list_append PySem.F.type_list_append mt_append (pv 14) (pa_cons (pe_call (ok__law_behind T) (hr.mono (by decide)) (by rfl) T.m__law_behind T.F__law_behind.kp T.b__law_behind .nil pass0 (pa_cons (pv 3) (pa_cons (pv 15) (pa_cons (pe_tup (pa_cons (pv 12) (pa_cons (pv 11) pa_nil))) pa_nil)))) pa_nil)))))
    (pss_cons (ps_setLc (i := 16) (own := [("k", 17), ("here", 15)]) (g := (gTup K 2 (gCons (gName 17) (gCons (gName 15) gNil)))) (tt := (tTest (tOp (rNeD K) (tVar 15) (tOp (rIxU K P w) (tVar 14) (tVar 17))))) (te := (tVar 17)) (by rfl) sc_law.nd rfl rfl (sw_true rfl rfl rfl (by decide +kernel)) (pi_enumA (by rfl) T.n_enumerate (pa_cons (pv 13) pa_nil)) (blkOk_by (own := [("k", 17), ("here", 15)]) (N := nm_law) (sc := defScope s_law) (by decide +kernel)) (fun _ _ _ _ _ => (pg_tup (by rfl) (pgs_cons (pg_name (i := 17) sc_law.nd rfl (.inl rfl)) (pgs_cons (pg_name (i := 15) sc_law.nd rfl (.inl rfl)) pgs_nil)))) (fun _ _ _ _ _ => (pts_one (pt_cmpR (op_neD hr.units) (pv 15) (pe_ix (ix_U hr.units) (pv 14) (pv 17) (fun _ _ => rfl)) (nomark _)))) (fun _ _ _ _ _ => (pv 17)))
    (pss_cons (ps_if (PW.pt (pw_or (pt_not (pt_val (pe_call (okN__law_same T) (hr.mono (by decide)) (by rfl) T.m__law_same T.F__law_same.kp T.b__law_same .nil pass0 (pa_cons (pe_call (ok_are_free T) (hr.mono (by decide)) (by rfl) T.m_are_free T.F_are_free.kp T.b_are_free .nil pass0 (pa_cons (pv 3) (pa_cons (pv 11) (pa_cons (pv 12) pa_nil)))) (pa_cons (pe_cmpR (op_eqD hr.units) (pv 16) (pe_lst pa_nil) (nomark _)) pa_nil))))) (pw_or1 (pt_cmpR op_notBl (pe_call (ok_are_free T) (hr.mono (by decide)) (by rfl) T.m_are_free T.F_are_free.kp T.b_are_free .nil pass0 (pa_cons (pv 3) (pa_cons (pv 11) (pa_cons (pv 11) pa_nil)))) pe_bl (nomark _))))) (pss_one (ps_ret pe_bl)) pss_nil)
    (pss_one (ps_if (PW.pt (pw_and (pt_cmpR (op_neD hr.units) (pv 16) (pe_lst pa_nil) (nomark _)) (pw_and1 (pt_cmpR (op_eqD hr.units) (pe_lenSetT (by rfl) (by rfl) T.n_len (by rfl) T.n_set (pe_op op_addU (pe_slice sl_U (pv 11) po_none (po_some pe_int)) (pe_slice sl_U (pv 12) po_none (po_some pe_int)))) pe_int (nomark _))))) (pss_one (ps_ret pe_bl)) pss_nil))))))))))))))))))))
    (pss_cons (ps_set (i := 18) sc_law.nd rfl (Or.inr rfl) (pe_tup (pa_cons pe_int (pa_cons (pe_tup (pa_cons (pe_tup (pa_cons (pe_tup pa_nil) (pa_cons pe_int (pa_cons pe_int (pa_cons pe_int pa_nil))))) (pa_cons (pe_tup (pa_cons (pe_tup (pa_cons pe_int pa_nil)) (pa_cons pe_int (pa_cons pe_int (pa_cons pe_int pa_nil))))) pa_nil))) pa_nil))))
    (pss_one (ps_ret (pe_cmpR (op_eqD hr.units) (pe_lamcallN (T := [(PL, "law.<locals>.<lambda>")]) (TT := TTry M.cT) (t := fun E => tCall (spX K P w W_free_over M.cT "most" (.int 2000)) [] E lamArgs) (k := 7) (Ng := nm__law_try) (c := cL) (P := PL) (by rfl) T.m__law_try T.F__law_try.kp lk2 hcd2 bT sc__law_try rfl (Or.inl rfl)
      (try_gives (X := (cxOf CX0 P w K mg base nm_law "law" (defScope s_law) T.a_law (.ref cL) A outer s H E).nox) T M (by decide) xf) TB rfl (List.mem_singleton.mpr rfl) (fun p hp _ => by rw [List.mem_singleton.mp hp]; rfl) hr lam_scope rfl (fun _ _ _ _ _ => rfl)
      (fun A outer s H E f c' hr => pe_call (okX_are_free T M) (hr.mono (by decide)) (by rfl) T.m_are_free T.F_are_free.kp T.b_are_free .nil (L2N.passes_call (L2N.takes_of rfl rfl rfl rfl) fun _ _ _ _ h => h)
        (pa_cons (pv 18) (pa_cons (pe_tup (pa_cons pe_int (pa_cons pe_int (pa_cons pe_int pa_nil)))) (pa_cons (pe_tup (pa_cons pe_int (pa_cons pe_int (pa_cons pe_int pa_nil)))) pa_nil))))) (pe_lst (pa_cons pe_str (pa_cons pe_int pa_nil))) (nomark _)))))), read_law h⟩
  obtain ⟨a, ns, rfl, _⟩ := h
  rfl
end
end PL

/-! what the head tells. -/
namespace PL
open PySem PySem.Spec PyProof.Rows L2 RZ MA LamX
theorem kit_yes {K : PySem.W.Frag} {S : Addr} {T : String} (h1 : PySem.W.kitMeta T = true) (h2 : PySem.W.subIn K (.ref S) (.type T) = some true) : PySem.W.kitOne K (.ref S) (.type T) = some true := by
  unfold PySem.W.kitOne
  split
  · rfl
  · show (if PySem.W.kitMeta T = true then PySem.W.subIn K (.ref S) (.type T) else none) = some true
    rw [if_pos h1]
    exact h2
theorem kit_self {K : PySem.W.Frag} {S : Addr} : PySem.W.kitOne K (.ref S) (.ref S) = some true := by
  unfold PySem.W.kitOne
  rw [if_pos (by simp)]
theorem kit_no {K : PySem.W.Frag} {S D : Addr} (h2 : PySem.W.isClsIn K D = true) (h3 : PySem.W.typeIn K (.ref D) = some (.type "type")) (h4 : PySem.W.subIn K (.ref S) (.ref D) = some false) (ne : (S == D) = false) : PySem.W.kitOne K (.ref S) (.ref D) = some false := by
  have e2 : ((PySem.W.clsIn K D).isSome && PySem.W.typeIn K (.ref D) == some (.type "type")) = true := by
    have h2' : (PySem.W.clsIn K D).isSome = true := h2
    rw [h2', h3] <;> rfl
  unfold PySem.W.kitOne
  rw [if_neg (fun z => by
    have z' : Value.ref S = Value.ref D := eq_of_beq z
    cases z'
    rw [beq_self_eq_true] at ne
    cases ne)]
  show (if ((PySem.W.clsIn K D).isSome && PySem.W.typeIn K (.ref D) == some (.type "type")) = true then PySem.W.subIn K (.ref S) (.ref D) else none) = some false
  rw [if_pos e2]
  exact h4
theorem exm_same {K : PySem.W.Frag} {S : Addr} (h1 : PySem.W.subIn K (.ref S) (.type "BaseException") = some true) (h2 : PySem.W.isClsIn K S = true) (h3 : PySem.W.typeIn K (.ref S) = some (.type "type")) (h4 : PySem.W.subIn K (.ref S) (.ref S) = some true) :
    PySem.W.exmOne K (.ref S) (.ref S) = some true := by
  have e1 : (PySem.W.subIn K (.ref S) (.type "BaseException") == some true) = true := by rw [h1] <;> rfl
  have e2 : ((PySem.W.clsIn K S).isSome && PySem.W.typeIn K (.ref S) == some (.type "type")) = true := by
    have h2' : (PySem.W.clsIn K S).isSome = true := h2
    rw [h2', h3] <;> rfl
  show (if (PySem.W.subIn K (.ref S) (.type "BaseException") == some true) = true then (if ((PySem.W.clsIn K S).isSome && PySem.W.typeIn K (.ref S) == some (.type "type")) = true then PySem.W.subIn K (.ref S) (.ref S) else none) else none) = some true
  rw [if_pos e1, if_pos e2]
  exact h4
theorem law_at {l : PySem.W.OpenLaw} {w : World} {K : PySem.W.Frag} {h : Heap} {mg : Str → Option Value} {fa : Addr} (X : K.In h) (hfa : mg "law" = some (.ref fa)) (T : Txt K mg) (M : Own K mg) (xf : XfC K M.cT) {cL PL : Addr} (hc : T.d_law.code = .ref cL)
    (hcd : PySem.W.codeHdIn K cL PL = true) (hnt : PySem.W.noTabs K = true) (hP : h.get? PL = some (PySem.W.tabObj #[])) : LawAtS l w K CX0 10 63 "script" mg fa h := by
  have e := hfa.symm.trans T.m_law
  cases e
  refine ⟨T.d_law, [(cL, PL)], spLaw K PL, fun p hp => ?_, fun p hp => ?_, fun p hp => ?_, fun s u => ?_, fun H a ns hl _ hT hS => ⟨a, ns, rfl, hl, hS, hT _ (List.mem_singleton.mpr rfl), fun _ => rfl⟩, fun base _ _ hTB => ok_law T M xf hc (hTB _ (List.mem_singleton.mpr rfl))⟩
  · rw [List.mem_singleton.mp hp]
    exact hP
  · rw [List.mem_singleton.mp hp]
    cases q : K.lookup PL with
    | none => rfl
    | some o =>
      have e := X _ _ q
      rw [hP] at e
      cases e
      have h2 := List.all_eq_true.mp hnt (PL, _) (PySem.W.mem_of_lookupK q)
      exact absurd (show false = true from h2) Bool.false_ne_true
  · rw [List.mem_singleton.mp hp]
    exact PySem.W.codeHd_of_K X hcd
  · obtain ⟨oc, od, kV, doc, pm, an, cdv, ct, osl, e, lk, hcd⟩ := T.F_law.ex
    rw [e]
    exact .of_eq rfl
theorem all_mk {l : PySem.W.OpenLaw} {w : World} {K : PySem.W.Frag} {h : Heap} {mg : Str → Option Value} {fa PL : Addr} (X : K.In h) (G : h.Ns mainGlobals mg) (hfa : mg "law" = some (.ref fa)) (hP : h.get? PL = some (PySem.W.tabObj #[]))
    {f_is_from : Addr} {od_is_from an_is_from : Option Addr} {sl_is_from : Array (Option Value)} {oc_is_from kV_is_from dc_is_from pm_is_from ct_is_from cd_is_from : Value} {f_is_tuple : Addr} {od_is_tuple an_is_tuple : Option Addr} {sl_is_tuple : Array (Option Value)} {oc_is_tuple kV_is_tuple dc_is_tuple pm_is_tuple ct_is_tuple cd_is_tuple : Value} {f_is_lore : Addr} {od_is_lore an_is_lore : Option Addr} {sl_is_lore : Array (Option Value)} {oc_is_lore kV_is_lore dc_is_lore pm_is_lore ct_is_lore cd_is_lore : Value} {f_is_hall : Addr} {od_is_hall an_is_hall : Option Addr} {sl_is_hall : Array (Option Value)} {oc_is_hall kV_is_hall dc_is_hall pm_is_hall ct_is_hall cd_is_hall : Value} {f_need_hall : Addr} {od_need_hall an_need_hall : Option Addr} {sl_need_hall : Array (Option Value)} {oc_need_hall kV_need_hall dc_need_hall pm_need_hall ct_need_hall cd_need_hall : Value} {f_is_standing : Addr} {od_is_standing an_is_standing : Option Addr} {sl_is_standing : Array (Option Value)} {oc_is_standing kV_is_standing dc_is_standing pm_is_standing ct_is_standing cd_is_standing : Value} {f_is_meeting : Addr} {od_is_meeting an_is_meeting : Option Addr} {sl_is_meeting : Array (Option Value)} {oc_is_meeting kV_is_meeting dc_is_meeting pm_is_meeting ct_is_meeting cd_is_meeting : Value} {f_is_beating : Addr} {od_is_beating an_is_beating : Option Addr} {sl_is_beating : Array (Option Value)} {oc_is_beating kV_is_beating dc_is_beating pm_is_beating ct_is_beating cd_is_beating : Value} {f_need_stand : Addr} {od_need_stand an_need_stand : Option Addr} {sl_need_stand : Array (Option Value)} {oc_need_stand kV_need_stand dc_need_stand pm_need_stand ct_need_stand cd_need_stand : Value} {f_need_beat : Addr} {od_need_beat an_need_beat : Option Addr} {sl_need_beat : Array (Option Value)} {oc_need_beat kV_need_beat dc_need_beat pm_need_beat ct_need_beat cd_need_beat : Value} {f_need_meeting : Addr} {od_need_meeting an_need_meeting : Option Addr} {sl_need_meeting : Array (Option Value)} {oc_need_meeting kV_need_meeting dc_need_meeting pm_need_meeting ct_need_meeting cd_need_meeting : Value} {f_all_stands : Addr} {od_all_stands an_all_stands : Option Addr} {sl_all_stands : Array (Option Value)} {oc_all_stands kV_all_stands dc_all_stands pm_all_stands ct_all_stands cd_all_stands : Value} {f_is_lesson : Addr} {od_is_lesson an_is_lesson : Option Addr} {sl_is_lesson : Array (Option Value)} {oc_is_lesson kV_is_lesson dc_is_lesson pm_is_lesson ct_is_lesson cd_is_lesson : Value} {f_taught : Addr} {od_taught an_taught : Option Addr} {sl_taught : Array (Option Value)} {oc_taught kV_taught dc_taught pm_taught ct_taught cd_taught : Value} {f_behind : Addr} {od_behind an_behind : Option Addr} {sl_behind : Array (Option Value)} {oc_behind kV_behind dc_behind pm_behind ct_behind cd_behind : Value} {f_by_beat : Addr} {od_by_beat an_by_beat : Option Addr} {sl_by_beat : Array (Option Value)} {oc_by_beat kV_by_beat dc_by_beat pm_by_beat ct_by_beat cd_by_beat : Value} {f_orders_of : Addr} {od_orders_of an_orders_of : Option Addr} {sl_orders_of : Array (Option Value)} {oc_orders_of kV_orders_of dc_orders_of pm_orders_of ct_orders_of cd_orders_of : Value} {f_ends : Addr} {od_ends an_ends : Option Addr} {sl_ends : Array (Option Value)} {oc_ends kV_ends dc_ends pm_ends ct_ends cd_ends : Value} {f_are_free : Addr} {od_are_free an_are_free : Option Addr} {sl_are_free : Array (Option Value)} {oc_are_free kV_are_free dc_are_free pm_are_free ct_are_free cd_are_free : Value} {f__law_deck : Addr} {od__law_deck an__law_deck : Option Addr} {sl__law_deck : Array (Option Value)} {oc__law_deck kV__law_deck dc__law_deck pm__law_deck ct__law_deck cd__law_deck : Value} {f__law_pick : Addr} {od__law_pick an__law_pick : Option Addr} {sl__law_pick : Array (Option Value)} {oc__law_pick kV__law_pick dc__law_pick pm__law_pick ct__law_pick cd__law_pick : Value} {f__law_one : Addr} {od__law_one an__law_one : Option Addr} {sl__law_one : Array (Option Value)} {oc__law_one kV__law_one dc__law_one pm__law_one ct__law_one cd__law_one : Value} {f__law_kin : Addr} {od__law_kin an__law_kin : Option Addr} {sl__law_kin : Array (Option Value)} {oc__law_kin kV__law_kin dc__law_kin pm__law_kin ct__law_kin cd__law_kin : Value} {f__law_try : Addr} {od__law_try an__law_try : Option Addr} {sl__law_try : Array (Option Value)} {oc__law_try kV__law_try dc__law_try pm__law_try ct__law_try cd__law_try : Value} {f__law_sort : Addr} {od__law_sort an__law_sort : Option Addr} {sl__law_sort : Array (Option Value)} {oc__law_sort kV__law_sort dc__law_sort pm__law_sort ct__law_sort cd__law_sort : Value} {f__law_same : Addr} {od__law_same an__law_same : Option Addr} {sl__law_same : Array (Option Value)} {oc__law_same kV__law_same dc__law_same pm__law_same ct__law_same cd__law_same : Value} {f__law_hall : Addr} {od__law_hall an__law_hall : Option Addr} {sl__law_hall : Array (Option Value)} {oc__law_hall kV__law_hall dc__law_hall pm__law_hall ct__law_hall cd__law_hall : Value} {f__law_small : Addr} {od__law_small an__law_small : Option Addr} {sl__law_small : Array (Option Value)} {oc__law_small kV__law_small dc__law_small pm__law_small ct__law_small cd__law_small : Value} {f__law_great : Addr} {od__law_great an__law_great : Option Addr} {sl__law_great : Array (Option Value)} {oc__law_great kV__law_great dc__law_great pm__law_great ct__law_great cd__law_great : Value} {f__law_meeting : Addr} {od__law_meeting an__law_meeting : Option Addr} {sl__law_meeting : Array (Option Value)} {oc__law_meeting kV__law_meeting dc__law_meeting pm__law_meeting ct__law_meeting cd__law_meeting : Value} {f__law_beat : Addr} {od__law_beat an__law_beat : Option Addr} {sl__law_beat : Array (Option Value)} {oc__law_beat kV__law_beat dc__law_beat pm__law_beat ct__law_beat cd__law_beat : Value} {f__law_stand : Addr} {od__law_stand an__law_stand : Option Addr} {sl__law_stand : Array (Option Value)} {oc__law_stand kV__law_stand dc__law_stand pm__law_stand ct__law_stand cd__law_stand : Value} {f__law_met : Addr} {od__law_met an__law_met : Option Addr} {sl__law_met : Array (Option Value)} {oc__law_met kV__law_met dc__law_met pm__law_met ct__law_met cd__law_met : Value} {f__law_table : Addr} {od__law_table an__law_table : Option Addr} {sl__law_table : Array (Option Value)} {oc__law_table kV__law_table dc__law_table pm__law_table ct__law_table cd__law_table : Value} {f__law_stand_of : Addr} {od__law_stand_of an__law_stand_of : Option Addr} {sl__law_stand_of : Array (Option Value)} {oc__law_stand_of kV__law_stand_of dc__law_stand_of pm__law_stand_of ct__law_stand_of cd__law_stand_of : Value} {f__law_behind : Addr} {od__law_behind an__law_behind : Option Addr} {sl__law_behind : Array (Option Value)} {oc__law_behind kV__law_behind dc__law_behind pm__law_behind ct__law_behind cd__law_behind : Value} {f__law_all : Addr} {od__law_all an__law_all : Option Addr} {sl__law_all : Array (Option Value)} {oc__law_all kV__law_all dc__law_all pm__law_all ct__law_all cd__law_all : Value} {f__law_orders : Addr} {od__law_orders an__law_orders : Option Addr} {sl__law_orders : Array (Option Value)} {oc__law_orders kV__law_orders dc__law_orders pm__law_orders ct__law_orders cd__law_orders : Value} {f_law : Addr} {od_law an_law : Option Addr} {sl_law : Array (Option Value)} {oc_law kV_law dc_law pm_law ct_law : Value} {t_MOST_FOLK : Tok} {t_MOST_THINGS : Tok} {t_MOST_CAP : Tok} {t_MOST_MEETINGS : Tok} {t_MOST_STANDS : Tok} {cT f_init cL : Addr} {od_init an_init : Option Addr} {sl_init : Array (Option Value)} {oc_init kV_init dc_init pm_init ct_init cd_init : Value} {nmE qE : Str} {NE : Addr} {bsE bmE : List Value} {snE : List Str} {subE : List Value} {abE : Bool} {colE : Option Bool} {ddE : Option Addr} {e0 e1 e2 e3 e5 : Option Value} {c_NoHall : Addr} {c_NoStand : Addr} {c_NoBeat : Addr} {c_NoPlan : Addr} {c_NoThing : Addr} {c_NoCount : Addr} {c_NoMeeting : Addr}
    (a_is_from : PySem.W.nsIn K mainGlobals "is_from" = some (some (.ref f_is_from)))
    (l_is_from : K.lookup f_is_from = some ⟨oc_is_from, od_is_from, .func (PySem.W.fnOf "is_from" "is_from" (defArgs s_is_from) (defBody s_is_from) (defScope s_is_from) .none kV_is_from dc_is_from pm_is_from an_is_from cd_is_from ct_is_from), sl_is_from⟩)
    (c_is_from : PySem.W.codeIn K cd_is_from "is_from" = true)
    (k_is_from : PySem.W.keepIn K (.ref f_is_from) = true)
    (a_is_tuple : PySem.W.nsIn K mainGlobals "is_tuple" = some (some (.ref f_is_tuple)))
    (l_is_tuple : K.lookup f_is_tuple = some ⟨oc_is_tuple, od_is_tuple, .func (PySem.W.fnOf "is_tuple" "is_tuple" (defArgs s_is_tuple) (defBody s_is_tuple) (defScope s_is_tuple) .none kV_is_tuple dc_is_tuple pm_is_tuple an_is_tuple cd_is_tuple ct_is_tuple), sl_is_tuple⟩)
    (c_is_tuple : PySem.W.codeIn K cd_is_tuple "is_tuple" = true)
    (k_is_tuple : PySem.W.keepIn K (.ref f_is_tuple) = true)
    (a_is_lore : PySem.W.nsIn K mainGlobals "is_lore" = some (some (.ref f_is_lore)))
    (l_is_lore : K.lookup f_is_lore = some ⟨oc_is_lore, od_is_lore, .func (PySem.W.fnOf "is_lore" "is_lore" (defArgs s_is_lore) (defBody s_is_lore) (defScope s_is_lore) .none kV_is_lore dc_is_lore pm_is_lore an_is_lore cd_is_lore ct_is_lore), sl_is_lore⟩)
    (c_is_lore : PySem.W.codeIn K cd_is_lore "is_lore" = true)
    (k_is_lore : PySem.W.keepIn K (.ref f_is_lore) = true)
    (a_is_hall : PySem.W.nsIn K mainGlobals "is_hall" = some (some (.ref f_is_hall)))
    (l_is_hall : K.lookup f_is_hall = some ⟨oc_is_hall, od_is_hall, .func (PySem.W.fnOf "is_hall" "is_hall" (defArgs s_is_hall) (defBody s_is_hall) (defScope s_is_hall) .none kV_is_hall dc_is_hall pm_is_hall an_is_hall cd_is_hall ct_is_hall), sl_is_hall⟩)
    (c_is_hall : PySem.W.codeIn K cd_is_hall "is_hall" = true)
    (k_is_hall : PySem.W.keepIn K (.ref f_is_hall) = true)
    (a_need_hall : PySem.W.nsIn K mainGlobals "need_hall" = some (some (.ref f_need_hall)))
    (l_need_hall : K.lookup f_need_hall = some ⟨oc_need_hall, od_need_hall, .func (PySem.W.fnOf "need_hall" "need_hall" (defArgs s_need_hall) (defBody s_need_hall) (defScope s_need_hall) .none kV_need_hall dc_need_hall pm_need_hall an_need_hall cd_need_hall ct_need_hall), sl_need_hall⟩)
    (c_need_hall : PySem.W.codeIn K cd_need_hall "need_hall" = true)
    (k_need_hall : PySem.W.keepIn K (.ref f_need_hall) = true)
    (a_is_standing : PySem.W.nsIn K mainGlobals "is_standing" = some (some (.ref f_is_standing)))
    (l_is_standing : K.lookup f_is_standing = some ⟨oc_is_standing, od_is_standing, .func (PySem.W.fnOf "is_standing" "is_standing" (defArgs s_is_standing) (defBody s_is_standing) (defScope s_is_standing) .none kV_is_standing dc_is_standing pm_is_standing an_is_standing cd_is_standing ct_is_standing), sl_is_standing⟩)
    (c_is_standing : PySem.W.codeIn K cd_is_standing "is_standing" = true)
    (k_is_standing : PySem.W.keepIn K (.ref f_is_standing) = true)
    (a_is_meeting : PySem.W.nsIn K mainGlobals "is_meeting" = some (some (.ref f_is_meeting)))
    (l_is_meeting : K.lookup f_is_meeting = some ⟨oc_is_meeting, od_is_meeting, .func (PySem.W.fnOf "is_meeting" "is_meeting" (defArgs s_is_meeting) (defBody s_is_meeting) (defScope s_is_meeting) .none kV_is_meeting dc_is_meeting pm_is_meeting an_is_meeting cd_is_meeting ct_is_meeting), sl_is_meeting⟩)
    (c_is_meeting : PySem.W.codeIn K cd_is_meeting "is_meeting" = true)
    (k_is_meeting : PySem.W.keepIn K (.ref f_is_meeting) = true)
    (a_is_beating : PySem.W.nsIn K mainGlobals "is_beating" = some (some (.ref f_is_beating)))
    (l_is_beating : K.lookup f_is_beating = some ⟨oc_is_beating, od_is_beating, .func (PySem.W.fnOf "is_beating" "is_beating" (defArgs s_is_beating) (defBody s_is_beating) (defScope s_is_beating) .none kV_is_beating dc_is_beating pm_is_beating an_is_beating cd_is_beating ct_is_beating), sl_is_beating⟩)
    (c_is_beating : PySem.W.codeIn K cd_is_beating "is_beating" = true)
    (k_is_beating : PySem.W.keepIn K (.ref f_is_beating) = true)
    (a_need_stand : PySem.W.nsIn K mainGlobals "need_stand" = some (some (.ref f_need_stand)))
    (l_need_stand : K.lookup f_need_stand = some ⟨oc_need_stand, od_need_stand, .func (PySem.W.fnOf "need_stand" "need_stand" (defArgs s_need_stand) (defBody s_need_stand) (defScope s_need_stand) .none kV_need_stand dc_need_stand pm_need_stand an_need_stand cd_need_stand ct_need_stand), sl_need_stand⟩)
    (c_need_stand : PySem.W.codeIn K cd_need_stand "need_stand" = true)
    (k_need_stand : PySem.W.keepIn K (.ref f_need_stand) = true)
    (a_need_beat : PySem.W.nsIn K mainGlobals "need_beat" = some (some (.ref f_need_beat)))
    (l_need_beat : K.lookup f_need_beat = some ⟨oc_need_beat, od_need_beat, .func (PySem.W.fnOf "need_beat" "need_beat" (defArgs s_need_beat) (defBody s_need_beat) (defScope s_need_beat) .none kV_need_beat dc_need_beat pm_need_beat an_need_beat cd_need_beat ct_need_beat), sl_need_beat⟩)
    (c_need_beat : PySem.W.codeIn K cd_need_beat "need_beat" = true)
    (k_need_beat : PySem.W.keepIn K (.ref f_need_beat) = true)
    (a_need_meeting : PySem.W.nsIn K mainGlobals "need_meeting" = some (some (.ref f_need_meeting)))
    (l_need_meeting : K.lookup f_need_meeting = some ⟨oc_need_meeting, od_need_meeting, .func (PySem.W.fnOf "need_meeting" "need_meeting" (defArgs s_need_meeting) (defBody s_need_meeting) (defScope s_need_meeting) .none kV_need_meeting dc_need_meeting pm_need_meeting an_need_meeting cd_need_meeting ct_need_meeting), sl_need_meeting⟩)
    (c_need_meeting : PySem.W.codeIn K cd_need_meeting "need_meeting" = true)
    (k_need_meeting : PySem.W.keepIn K (.ref f_need_meeting) = true)
    (a_all_stands : PySem.W.nsIn K mainGlobals "all_stands" = some (some (.ref f_all_stands)))
    (l_all_stands : K.lookup f_all_stands = some ⟨oc_all_stands, od_all_stands, .func (PySem.W.fnOf "all_stands" "all_stands" (defArgs s_all_stands) (defBody s_all_stands) (defScope s_all_stands) .none kV_all_stands dc_all_stands pm_all_stands an_all_stands cd_all_stands ct_all_stands), sl_all_stands⟩)
    (c_all_stands : PySem.W.codeIn K cd_all_stands "all_stands" = true)
    (k_all_stands : PySem.W.keepIn K (.ref f_all_stands) = true)
    (a_is_lesson : PySem.W.nsIn K mainGlobals "is_lesson" = some (some (.ref f_is_lesson)))
    (l_is_lesson : K.lookup f_is_lesson = some ⟨oc_is_lesson, od_is_lesson, .func (PySem.W.fnOf "is_lesson" "is_lesson" (defArgs s_is_lesson) (defBody s_is_lesson) (defScope s_is_lesson) .none kV_is_lesson dc_is_lesson pm_is_lesson an_is_lesson cd_is_lesson ct_is_lesson), sl_is_lesson⟩)
    (c_is_lesson : PySem.W.codeIn K cd_is_lesson "is_lesson" = true)
    (k_is_lesson : PySem.W.keepIn K (.ref f_is_lesson) = true)
    (a_taught : PySem.W.nsIn K mainGlobals "taught" = some (some (.ref f_taught)))
    (l_taught : K.lookup f_taught = some ⟨oc_taught, od_taught, .func (PySem.W.fnOf "taught" "taught" (defArgs s_taught) (defBody s_taught) (defScope s_taught) .none kV_taught dc_taught pm_taught an_taught cd_taught ct_taught), sl_taught⟩)
    (c_taught : PySem.W.codeIn K cd_taught "taught" = true)
    (k_taught : PySem.W.keepIn K (.ref f_taught) = true)
    (a_behind : PySem.W.nsIn K mainGlobals "behind" = some (some (.ref f_behind)))
    (l_behind : K.lookup f_behind = some ⟨oc_behind, od_behind, .func (PySem.W.fnOf "behind" "behind" (defArgs s_behind) (defBody s_behind) (defScope s_behind) .none kV_behind dc_behind pm_behind an_behind cd_behind ct_behind), sl_behind⟩)
    (c_behind : PySem.W.codeIn K cd_behind "behind" = true)
    (k_behind : PySem.W.keepIn K (.ref f_behind) = true)
    (a_by_beat : PySem.W.nsIn K mainGlobals "by_beat" = some (some (.ref f_by_beat)))
    (l_by_beat : K.lookup f_by_beat = some ⟨oc_by_beat, od_by_beat, .func (PySem.W.fnOf "by_beat" "by_beat" (defArgs s_by_beat) (defBody s_by_beat) (defScope s_by_beat) .none kV_by_beat dc_by_beat pm_by_beat an_by_beat cd_by_beat ct_by_beat), sl_by_beat⟩)
    (c_by_beat : PySem.W.codeIn K cd_by_beat "by_beat" = true)
    (k_by_beat : PySem.W.keepIn K (.ref f_by_beat) = true)
    (a_orders_of : PySem.W.nsIn K mainGlobals "orders_of" = some (some (.ref f_orders_of)))
    (l_orders_of : K.lookup f_orders_of = some ⟨oc_orders_of, od_orders_of, .func (PySem.W.fnOf "orders_of" "orders_of" (defArgs s_orders_of) (defBody s_orders_of) (defScope s_orders_of) .none kV_orders_of dc_orders_of pm_orders_of an_orders_of cd_orders_of ct_orders_of), sl_orders_of⟩)
    (c_orders_of : PySem.W.codeIn K cd_orders_of "orders_of" = true)
    (k_orders_of : PySem.W.keepIn K (.ref f_orders_of) = true)
    (a_ends : PySem.W.nsIn K mainGlobals "ends" = some (some (.ref f_ends)))
    (l_ends : K.lookup f_ends = some ⟨oc_ends, od_ends, .func (PySem.W.fnOf "ends" "ends" (defArgs s_ends) (defBody s_ends) (defScope s_ends) .none kV_ends dc_ends pm_ends an_ends cd_ends ct_ends), sl_ends⟩)
    (c_ends : PySem.W.codeIn K cd_ends "ends" = true)
    (k_ends : PySem.W.keepIn K (.ref f_ends) = true)
    (a_are_free : PySem.W.nsIn K mainGlobals "are_free" = some (some (.ref f_are_free)))
    (l_are_free : K.lookup f_are_free = some ⟨oc_are_free, od_are_free, .func (PySem.W.fnOf "are_free" "are_free" (defArgs s_are_free) (defBody s_are_free) (defScope s_are_free) .none kV_are_free dc_are_free pm_are_free an_are_free cd_are_free ct_are_free), sl_are_free⟩)
    (c_are_free : PySem.W.codeIn K cd_are_free "are_free" = true)
    (k_are_free : PySem.W.keepIn K (.ref f_are_free) = true)
    (a__law_deck : PySem.W.nsIn K mainGlobals "_law_deck" = some (some (.ref f__law_deck)))
    (l__law_deck : K.lookup f__law_deck = some ⟨oc__law_deck, od__law_deck, .func (PySem.W.fnOf "_law_deck" "_law_deck" (defArgs s__law_deck) (defBody s__law_deck) (defScope s__law_deck) .none kV__law_deck dc__law_deck pm__law_deck an__law_deck cd__law_deck ct__law_deck), sl__law_deck⟩)
    (c__law_deck : PySem.W.codeIn K cd__law_deck "_law_deck" = true)
    (k__law_deck : PySem.W.keepIn K (.ref f__law_deck) = true)
    (a__law_pick : PySem.W.nsIn K mainGlobals "_law_pick" = some (some (.ref f__law_pick)))
    (l__law_pick : K.lookup f__law_pick = some ⟨oc__law_pick, od__law_pick, .func (PySem.W.fnOf "_law_pick" "_law_pick" (defArgs s__law_pick) (defBody s__law_pick) (defScope s__law_pick) .none kV__law_pick dc__law_pick pm__law_pick an__law_pick cd__law_pick ct__law_pick), sl__law_pick⟩)
    (c__law_pick : PySem.W.codeIn K cd__law_pick "_law_pick" = true)
    (k__law_pick : PySem.W.keepIn K (.ref f__law_pick) = true)
    (a__law_one : PySem.W.nsIn K mainGlobals "_law_one" = some (some (.ref f__law_one)))
    (l__law_one : K.lookup f__law_one = some ⟨oc__law_one, od__law_one, .func (PySem.W.fnOf "_law_one" "_law_one" (defArgs s__law_one) (defBody s__law_one) (defScope s__law_one) .none kV__law_one dc__law_one pm__law_one an__law_one cd__law_one ct__law_one), sl__law_one⟩)
    (c__law_one : PySem.W.codeIn K cd__law_one "_law_one" = true)
    (k__law_one : PySem.W.keepIn K (.ref f__law_one) = true)
    (a__law_kin : PySem.W.nsIn K mainGlobals "_law_kin" = some (some (.ref f__law_kin)))
    (l__law_kin : K.lookup f__law_kin = some ⟨oc__law_kin, od__law_kin, .func (PySem.W.fnOf "_law_kin" "_law_kin" (defArgs s__law_kin) (defBody s__law_kin) (defScope s__law_kin) .none kV__law_kin dc__law_kin pm__law_kin an__law_kin cd__law_kin ct__law_kin), sl__law_kin⟩)
    (c__law_kin : PySem.W.codeIn K cd__law_kin "_law_kin" = true)
    (k__law_kin : PySem.W.keepIn K (.ref f__law_kin) = true)
    (a__law_try : PySem.W.nsIn K mainGlobals "_law_try" = some (some (.ref f__law_try)))
    (l__law_try : K.lookup f__law_try = some ⟨oc__law_try, od__law_try, .func (PySem.W.fnOf "_law_try" "_law_try" (defArgs s__law_try) (defBody s__law_try) (defScope s__law_try) .none kV__law_try dc__law_try pm__law_try an__law_try cd__law_try ct__law_try), sl__law_try⟩)
    (c__law_try : PySem.W.codeIn K cd__law_try "_law_try" = true)
    (k__law_try : PySem.W.keepIn K (.ref f__law_try) = true)
    (a__law_sort : PySem.W.nsIn K mainGlobals "_law_sort" = some (some (.ref f__law_sort)))
    (l__law_sort : K.lookup f__law_sort = some ⟨oc__law_sort, od__law_sort, .func (PySem.W.fnOf "_law_sort" "_law_sort" (defArgs s__law_sort) (defBody s__law_sort) (defScope s__law_sort) .none kV__law_sort dc__law_sort pm__law_sort an__law_sort cd__law_sort ct__law_sort), sl__law_sort⟩)
    (c__law_sort : PySem.W.codeIn K cd__law_sort "_law_sort" = true)
    (k__law_sort : PySem.W.keepIn K (.ref f__law_sort) = true)
    (a__law_same : PySem.W.nsIn K mainGlobals "_law_same" = some (some (.ref f__law_same)))
    (l__law_same : K.lookup f__law_same = some ⟨oc__law_same, od__law_same, .func (PySem.W.fnOf "_law_same" "_law_same" (defArgs s__law_same) (defBody s__law_same) (defScope s__law_same) .none kV__law_same dc__law_same pm__law_same an__law_same cd__law_same ct__law_same), sl__law_same⟩)
    (c__law_same : PySem.W.codeIn K cd__law_same "_law_same" = true)
    (k__law_same : PySem.W.keepIn K (.ref f__law_same) = true)
    (a__law_hall : PySem.W.nsIn K mainGlobals "_law_hall" = some (some (.ref f__law_hall)))
    (l__law_hall : K.lookup f__law_hall = some ⟨oc__law_hall, od__law_hall, .func (PySem.W.fnOf "_law_hall" "_law_hall" (defArgs s__law_hall) (defBody s__law_hall) (defScope s__law_hall) .none kV__law_hall dc__law_hall pm__law_hall an__law_hall cd__law_hall ct__law_hall), sl__law_hall⟩)
    (c__law_hall : PySem.W.codeIn K cd__law_hall "_law_hall" = true)
    (k__law_hall : PySem.W.keepIn K (.ref f__law_hall) = true)
    (a__law_small : PySem.W.nsIn K mainGlobals "_law_small" = some (some (.ref f__law_small)))
    (l__law_small : K.lookup f__law_small = some ⟨oc__law_small, od__law_small, .func (PySem.W.fnOf "_law_small" "_law_small" (defArgs s__law_small) (defBody s__law_small) (defScope s__law_small) .none kV__law_small dc__law_small pm__law_small an__law_small cd__law_small ct__law_small), sl__law_small⟩)
    (c__law_small : PySem.W.codeIn K cd__law_small "_law_small" = true)
    (k__law_small : PySem.W.keepIn K (.ref f__law_small) = true)
    (a__law_great : PySem.W.nsIn K mainGlobals "_law_great" = some (some (.ref f__law_great)))
    (l__law_great : K.lookup f__law_great = some ⟨oc__law_great, od__law_great, .func (PySem.W.fnOf "_law_great" "_law_great" (defArgs s__law_great) (defBody s__law_great) (defScope s__law_great) .none kV__law_great dc__law_great pm__law_great an__law_great cd__law_great ct__law_great), sl__law_great⟩)
    (c__law_great : PySem.W.codeIn K cd__law_great "_law_great" = true)
    (k__law_great : PySem.W.keepIn K (.ref f__law_great) = true)
    (a__law_meeting : PySem.W.nsIn K mainGlobals "_law_meeting" = some (some (.ref f__law_meeting)))
    (l__law_meeting : K.lookup f__law_meeting = some ⟨oc__law_meeting, od__law_meeting, .func (PySem.W.fnOf "_law_meeting" "_law_meeting" (defArgs s__law_meeting) (defBody s__law_meeting) (defScope s__law_meeting) .none kV__law_meeting dc__law_meeting pm__law_meeting an__law_meeting cd__law_meeting ct__law_meeting), sl__law_meeting⟩)
    (c__law_meeting : PySem.W.codeIn K cd__law_meeting "_law_meeting" = true)
    (k__law_meeting : PySem.W.keepIn K (.ref f__law_meeting) = true)
    (a__law_beat : PySem.W.nsIn K mainGlobals "_law_beat" = some (some (.ref f__law_beat)))
    (l__law_beat : K.lookup f__law_beat = some ⟨oc__law_beat, od__law_beat, .func (PySem.W.fnOf "_law_beat" "_law_beat" (defArgs s__law_beat) (defBody s__law_beat) (defScope s__law_beat) .none kV__law_beat dc__law_beat pm__law_beat an__law_beat cd__law_beat ct__law_beat), sl__law_beat⟩)
    (c__law_beat : PySem.W.codeIn K cd__law_beat "_law_beat" = true)
    (k__law_beat : PySem.W.keepIn K (.ref f__law_beat) = true)
    (a__law_stand : PySem.W.nsIn K mainGlobals "_law_stand" = some (some (.ref f__law_stand)))
    (l__law_stand : K.lookup f__law_stand = some ⟨oc__law_stand, od__law_stand, .func (PySem.W.fnOf "_law_stand" "_law_stand" (defArgs s__law_stand) (defBody s__law_stand) (defScope s__law_stand) .none kV__law_stand dc__law_stand pm__law_stand an__law_stand cd__law_stand ct__law_stand), sl__law_stand⟩)
    (c__law_stand : PySem.W.codeIn K cd__law_stand "_law_stand" = true)
    (k__law_stand : PySem.W.keepIn K (.ref f__law_stand) = true)
    (a__law_met : PySem.W.nsIn K mainGlobals "_law_met" = some (some (.ref f__law_met)))
    (l__law_met : K.lookup f__law_met = some ⟨oc__law_met, od__law_met, .func (PySem.W.fnOf "_law_met" "_law_met" (defArgs s__law_met) (defBody s__law_met) (defScope s__law_met) .none kV__law_met dc__law_met pm__law_met an__law_met cd__law_met ct__law_met), sl__law_met⟩)
    (c__law_met : PySem.W.codeIn K cd__law_met "_law_met" = true)
    (k__law_met : PySem.W.keepIn K (.ref f__law_met) = true)
    (a__law_table : PySem.W.nsIn K mainGlobals "_law_table" = some (some (.ref f__law_table)))
    (l__law_table : K.lookup f__law_table = some ⟨oc__law_table, od__law_table, .func (PySem.W.fnOf "_law_table" "_law_table" (defArgs s__law_table) (defBody s__law_table) (defScope s__law_table) .none kV__law_table dc__law_table pm__law_table an__law_table cd__law_table ct__law_table), sl__law_table⟩)
    (c__law_table : PySem.W.codeIn K cd__law_table "_law_table" = true)
    (k__law_table : PySem.W.keepIn K (.ref f__law_table) = true)
    (a__law_stand_of : PySem.W.nsIn K mainGlobals "_law_stand_of" = some (some (.ref f__law_stand_of)))
    (l__law_stand_of : K.lookup f__law_stand_of = some ⟨oc__law_stand_of, od__law_stand_of, .func (PySem.W.fnOf "_law_stand_of" "_law_stand_of" (defArgs s__law_stand_of) (defBody s__law_stand_of) (defScope s__law_stand_of) .none kV__law_stand_of dc__law_stand_of pm__law_stand_of an__law_stand_of cd__law_stand_of ct__law_stand_of), sl__law_stand_of⟩)
    (c__law_stand_of : PySem.W.codeIn K cd__law_stand_of "_law_stand_of" = true)
    (k__law_stand_of : PySem.W.keepIn K (.ref f__law_stand_of) = true)
    (a__law_behind : PySem.W.nsIn K mainGlobals "_law_behind" = some (some (.ref f__law_behind)))
    (l__law_behind : K.lookup f__law_behind = some ⟨oc__law_behind, od__law_behind, .func (PySem.W.fnOf "_law_behind" "_law_behind" (defArgs s__law_behind) (defBody s__law_behind) (defScope s__law_behind) .none kV__law_behind dc__law_behind pm__law_behind an__law_behind cd__law_behind ct__law_behind), sl__law_behind⟩)
    (c__law_behind : PySem.W.codeIn K cd__law_behind "_law_behind" = true)
    (k__law_behind : PySem.W.keepIn K (.ref f__law_behind) = true)
    (a__law_all : PySem.W.nsIn K mainGlobals "_law_all" = some (some (.ref f__law_all)))
    (l__law_all : K.lookup f__law_all = some ⟨oc__law_all, od__law_all, .func (PySem.W.fnOf "_law_all" "_law_all" (defArgs s__law_all) (defBody s__law_all) (defScope s__law_all) .none kV__law_all dc__law_all pm__law_all an__law_all cd__law_all ct__law_all), sl__law_all⟩)
    (c__law_all : PySem.W.codeIn K cd__law_all "_law_all" = true)
    (k__law_all : PySem.W.keepIn K (.ref f__law_all) = true)
    (a__law_orders : PySem.W.nsIn K mainGlobals "_law_orders" = some (some (.ref f__law_orders)))
    (l__law_orders : K.lookup f__law_orders = some ⟨oc__law_orders, od__law_orders, .func (PySem.W.fnOf "_law_orders" "_law_orders" (defArgs s__law_orders) (defBody s__law_orders) (defScope s__law_orders) .none kV__law_orders dc__law_orders pm__law_orders an__law_orders cd__law_orders ct__law_orders), sl__law_orders⟩)
    (c__law_orders : PySem.W.codeIn K cd__law_orders "_law_orders" = true)
    (k__law_orders : PySem.W.keepIn K (.ref f__law_orders) = true)
    (a_law : PySem.W.nsIn K mainGlobals "law" = some (some (.ref f_law)))
    (l_law : K.lookup f_law = some ⟨oc_law, od_law, .func (PySem.W.fnOf "law" "law" (defArgs s_law) (defBody s_law) (defScope s_law) .none kV_law dc_law pm_law an_law (.ref cL) ct_law), sl_law⟩)
    (c_law : PySem.W.codeIn K (.ref cL) "law" = true)
    (k_law : PySem.W.keepIn K (.ref f_law) = true)
    (z_ValueError : PySem.W.nsIn K mainGlobals "ValueError" = some none)
    (z_all : PySem.W.nsIn K mainGlobals "all" = some none)
    (z_bool : PySem.W.nsIn K mainGlobals "bool" = some none)
    (z_enumerate : PySem.W.nsIn K mainGlobals "enumerate" = some none)
    (z_int : PySem.W.nsIn K mainGlobals "int" = some none)
    (z_isinstance : PySem.W.nsIn K mainGlobals "isinstance" = some none)
    (z_len : PySem.W.nsIn K mainGlobals "len" = some none)
    (z_list : PySem.W.nsIn K mainGlobals "list" = some none)
    (z_max : PySem.W.nsIn K mainGlobals "max" = some none)
    (z_min : PySem.W.nsIn K mainGlobals "min" = some none)
    (z_range : PySem.W.nsIn K mainGlobals "range" = some none)
    (z_set : PySem.W.nsIn K mainGlobals "set" = some none)
    (z_sorted : PySem.W.nsIn K mainGlobals "sorted" = some none)
    (z_str : PySem.W.nsIn K mainGlobals "str" = some none)
    (z_tuple : PySem.W.nsIn K mainGlobals "tuple" = some none)
    (z_zip : PySem.W.nsIn K mainGlobals "zip" = some none)
    (n_MOST_FOLK : PySem.W.nsIn K mainGlobals "MOST_FOLK" = some (some (.int 4 t_MOST_FOLK)))
    (n_MOST_THINGS : PySem.W.nsIn K mainGlobals "MOST_THINGS" = some (some (.int 3 t_MOST_THINGS)))
    (n_MOST_CAP : PySem.W.nsIn K mainGlobals "MOST_CAP" = some (some (.int 3 t_MOST_CAP)))
    (n_MOST_MEETINGS : PySem.W.nsIn K mainGlobals "MOST_MEETINGS" = some (some (.int 4 t_MOST_MEETINGS)))
    (n_MOST_STANDS : PySem.W.nsIn K mainGlobals "MOST_STANDS" = some (some (.int 2000 t_MOST_STANDS)))
    (codeT : PySem.W.codeHdIn K cL PL = true)
    (noT : PySem.W.noTabs K = true)
    (aT : PySem.W.nsIn K mainGlobals "TooMany" = some (some (.ref cT)))
    (iC : PySem.W.findIn K (.ref cT) "__init__" = some (some (.ref f_init)))
    (tI : PySem.W.typeIn K (.ref f_init) = some (.type "function"))
    (l_init : K.lookup f_init = some ⟨oc_init, od_init, .func (PySem.W.fnOf "__init__" "TooMany.__init__" (defArgs s_init) (defBody s_init) (defScope s_init) .none kV_init dc_init pm_init an_init cd_init ct_init), sl_init⟩)
    (c_init : PySem.W.codeIn K cd_init "TooMany.__init__" = true)
    (k_init : PySem.W.keepIn K (.ref f_init) = true)
    (xL : K.lookup cT = some (excClassObj nmE qE cT NE bsE bmE true snE subE abE colE ddE e0 e1 e2 e3 e5 "ValueError.__new__"))
    (xR : PySem.HandSPX.refsVE bmE = true)
    (sa : PySem.W.findIn K (.ref cT) "__setattr__" = some (some (.builtin "object.__setattr__")))
    (exC : PySem.W.subIn K (.ref cT) (.type "BaseException") = some true)
    (tyC : PySem.W.typeIn K (.ref cT) = some (.type "type"))
    (kC : PySem.W.keepIn K (.ref cT) = true)
    (noM : PySem.W.findIn K (.ref cT) "most" = some none)
    (hg : PySem.W.findIn K (.ref cT) "__getattribute__" = some (some (.builtin "BaseException.__getattribute__")))
    (hk : PySem.W.findIn K (.ref cT) "__getattr__" = some none)
    (hd : PySem.W.hasDictIn K cT = true)
    (ha : PySem.W.findIn K (.ref cT) "__class__" = some (some (.builtin "object.__class__")))
    (hn : PySem.W.specialIn K (.builtin "object.__class__") "__get__" = some (some (.builtin "getset_descriptor.__get__")))
    (ht : PySem.W.takesIn K (.builtin "object.__class__") = some true)
    (hm : PySem.W.mroIn K cT (.type "object") = some true)
    (isT : PySem.W.isClsIn K cT = true)
    (sT : PySem.W.subIn K (.ref cT) (.ref cT) = some true)
    (sV : PySem.W.subIn K (.ref cT) (.type "ValueError") = some true)
    (b_NoHall : PySem.W.nsIn K mainGlobals "NoHall" = some (some (.ref c_NoHall)))
    (i_NoHall : PySem.W.isClsIn K c_NoHall = true)
    (y_NoHall : PySem.W.typeIn K (.ref c_NoHall) = some (.type "type"))
    (s_s_NoHall : PySem.W.subIn K (.ref cT) (.ref c_NoHall) = some false)
    (ne_NoHall : (cT == c_NoHall) = false)
    (b_NoStand : PySem.W.nsIn K mainGlobals "NoStand" = some (some (.ref c_NoStand)))
    (i_NoStand : PySem.W.isClsIn K c_NoStand = true)
    (y_NoStand : PySem.W.typeIn K (.ref c_NoStand) = some (.type "type"))
    (s_s_NoStand : PySem.W.subIn K (.ref cT) (.ref c_NoStand) = some false)
    (ne_NoStand : (cT == c_NoStand) = false)
    (b_NoBeat : PySem.W.nsIn K mainGlobals "NoBeat" = some (some (.ref c_NoBeat)))
    (i_NoBeat : PySem.W.isClsIn K c_NoBeat = true)
    (y_NoBeat : PySem.W.typeIn K (.ref c_NoBeat) = some (.type "type"))
    (s_s_NoBeat : PySem.W.subIn K (.ref cT) (.ref c_NoBeat) = some false)
    (ne_NoBeat : (cT == c_NoBeat) = false)
    (b_NoPlan : PySem.W.nsIn K mainGlobals "NoPlan" = some (some (.ref c_NoPlan)))
    (i_NoPlan : PySem.W.isClsIn K c_NoPlan = true)
    (y_NoPlan : PySem.W.typeIn K (.ref c_NoPlan) = some (.type "type"))
    (s_s_NoPlan : PySem.W.subIn K (.ref cT) (.ref c_NoPlan) = some false)
    (ne_NoPlan : (cT == c_NoPlan) = false)
    (b_NoThing : PySem.W.nsIn K mainGlobals "NoThing" = some (some (.ref c_NoThing)))
    (i_NoThing : PySem.W.isClsIn K c_NoThing = true)
    (y_NoThing : PySem.W.typeIn K (.ref c_NoThing) = some (.type "type"))
    (s_s_NoThing : PySem.W.subIn K (.ref cT) (.ref c_NoThing) = some false)
    (ne_NoThing : (cT == c_NoThing) = false)
    (b_NoCount : PySem.W.nsIn K mainGlobals "NoCount" = some (some (.ref c_NoCount)))
    (i_NoCount : PySem.W.isClsIn K c_NoCount = true)
    (y_NoCount : PySem.W.typeIn K (.ref c_NoCount) = some (.type "type"))
    (s_s_NoCount : PySem.W.subIn K (.ref cT) (.ref c_NoCount) = some false)
    (ne_NoCount : (cT == c_NoCount) = false)
    (b_NoMeeting : PySem.W.nsIn K mainGlobals "NoMeeting" = some (some (.ref c_NoMeeting)))
    (i_NoMeeting : PySem.W.isClsIn K c_NoMeeting = true)
    (y_NoMeeting : PySem.W.typeIn K (.ref c_NoMeeting) = some (.type "type"))
    (s_s_NoMeeting : PySem.W.subIn K (.ref cT) (.ref c_NoMeeting) = some false)
    (ne_NoMeeting : (cT == c_NoMeeting) = false) : LawAtS l w K CX0 10 63 "script" mg fa h := by
  exact law_at (T := ⟨f_is_from, _, fun_mk (st := s_is_from) l_is_from c_is_from k_is_from, PySem.W.mg_of X G a_is_from, (fun_mk (st := s_is_from) l_is_from c_is_from k_is_from).binds (ps := ["thing", "low", "high"]) fun _ _ _ _ _ _ us hl => match us, hl with | [_, _, _], _ => rfl,
    f_is_tuple, _, fun_mk (st := s_is_tuple) l_is_tuple c_is_tuple k_is_tuple, PySem.W.mg_of X G a_is_tuple, (fun_mk (st := s_is_tuple) l_is_tuple c_is_tuple k_is_tuple).binds (ps := ["thing", "least", "most"]) fun _ _ _ _ _ _ us hl => match us, hl with | [_, _, _], _ => rfl,
    f_is_lore, _, fun_mk (st := s_is_lore) l_is_lore c_is_lore k_is_lore, PySem.W.mg_of X G a_is_lore, (fun_mk (st := s_is_lore) l_is_lore c_is_lore k_is_lore).binds (ps := ["thing", "at"]) fun _ _ _ _ _ _ us hl => match us, hl with | [_, _], _ => rfl,
    f_is_hall, _, fun_mk (st := s_is_hall) l_is_hall c_is_hall k_is_hall, PySem.W.mg_of X G a_is_hall, (fun_mk (st := s_is_hall) l_is_hall c_is_hall k_is_hall).binds (ps := ["thing"]) fun _ _ _ _ _ _ us hl => match us, hl with | [_], _ => rfl,
    f_need_hall, _, fun_mk (st := s_need_hall) l_need_hall c_need_hall k_need_hall, PySem.W.mg_of X G a_need_hall, (fun_mk (st := s_need_hall) l_need_hall c_need_hall k_need_hall).binds (ps := ["hall"]) fun _ _ _ _ _ _ us hl => match us, hl with | [_], _ => rfl,
    f_is_standing, _, fun_mk (st := s_is_standing) l_is_standing c_is_standing k_is_standing, PySem.W.mg_of X G a_is_standing, (fun_mk (st := s_is_standing) l_is_standing c_is_standing k_is_standing).binds (ps := ["hall", "thing"]) fun _ _ _ _ _ _ us hl => match us, hl with | [_, _], _ => rfl,
    f_is_meeting, _, fun_mk (st := s_is_meeting) l_is_meeting c_is_meeting k_is_meeting, PySem.W.mg_of X G a_is_meeting, (fun_mk (st := s_is_meeting) l_is_meeting c_is_meeting k_is_meeting).binds (ps := ["hall", "thing"]) fun _ _ _ _ _ _ us hl => match us, hl with | [_, _], _ => rfl,
    f_is_beating, _, fun_mk (st := s_is_beating) l_is_beating c_is_beating k_is_beating, PySem.W.mg_of X G a_is_beating, (fun_mk (st := s_is_beating) l_is_beating c_is_beating k_is_beating).binds (ps := ["hall", "thing"]) fun _ _ _ _ _ _ us hl => match us, hl with | [_, _], _ => rfl,
    f_need_stand, _, fun_mk (st := s_need_stand) l_need_stand c_need_stand k_need_stand, PySem.W.mg_of X G a_need_stand, (fun_mk (st := s_need_stand) l_need_stand c_need_stand k_need_stand).binds (ps := ["hall", "stand"]) fun _ _ _ _ _ _ us hl => match us, hl with | [_, _], _ => rfl,
    f_need_beat, _, fun_mk (st := s_need_beat) l_need_beat c_need_beat k_need_beat, PySem.W.mg_of X G a_need_beat, (fun_mk (st := s_need_beat) l_need_beat c_need_beat k_need_beat).binds (ps := ["hall", "beat"]) fun _ _ _ _ _ _ us hl => match us, hl with | [_, _], _ => rfl,
    f_need_meeting, _, fun_mk (st := s_need_meeting) l_need_meeting c_need_meeting k_need_meeting, PySem.W.mg_of X G a_need_meeting, (fun_mk (st := s_need_meeting) l_need_meeting c_need_meeting k_need_meeting).binds (ps := ["hall", "meeting"]) fun _ _ _ _ _ _ us hl => match us, hl with | [_, _], _ => rfl,
    f_all_stands, _, fun_mk (st := s_all_stands) l_all_stands c_all_stands k_all_stands, PySem.W.mg_of X G a_all_stands, (fun_mk (st := s_all_stands) l_all_stands c_all_stands k_all_stands).binds (ps := ["hall"]) fun _ _ _ _ _ _ us hl => match us, hl with | [_], _ => rfl,
    f_is_lesson, _, fun_mk (st := s_is_lesson) l_is_lesson c_is_lesson k_is_lesson, PySem.W.mg_of X G a_is_lesson, (fun_mk (st := s_is_lesson) l_is_lesson c_is_lesson k_is_lesson).binds (ps := ["hall", "stand", "meeting"]) fun _ _ _ _ _ _ us hl => match us, hl with | [_, _, _], _ => rfl,
    f_taught, _, fun_mk (st := s_taught) l_taught c_taught k_taught, PySem.W.mg_of X G a_taught, (fun_mk (st := s_taught) l_taught c_taught k_taught).binds (ps := ["hall", "stand", "meeting"]) fun _ _ _ _ _ _ us hl => match us, hl with | [_, _, _], _ => rfl,
    f_behind, _, fun_mk (st := s_behind) l_behind c_behind k_behind, PySem.W.mg_of X G a_behind, (fun_mk (st := s_behind) l_behind c_behind k_behind).binds (ps := ["hall", "stand", "beat"]) fun _ _ _ _ _ _ us hl => match us, hl with | [_, _, _], _ => rfl,
    f_by_beat, _, fun_mk (st := s_by_beat) l_by_beat c_by_beat k_by_beat, PySem.W.mg_of X G a_by_beat, (fun_mk (st := s_by_beat) l_by_beat c_by_beat k_by_beat).binds (ps := ["hall", "stand", "beat"]) fun _ _ _ _ _ _ us hl => match us, hl with | [_, _, _], _ => rfl,
    f_orders_of, _, fun_mk (st := s_orders_of) l_orders_of c_orders_of k_orders_of, PySem.W.mg_of X G a_orders_of, (fun_mk (st := s_orders_of) l_orders_of c_orders_of k_orders_of).binds (ps := ["beat"]) fun _ _ _ _ _ _ us hl => match us, hl with | [_], _ => rfl,
    f_ends, _, fun_mk (st := s_ends) l_ends c_ends k_ends, PySem.W.mg_of X G a_ends, (fun_mk (st := s_ends) l_ends c_ends k_ends).binds (ps := ["hall", "stand", "beat"]) fun _ _ _ _ _ _ us hl => match us, hl with | [_, _, _], _ => rfl,
    f_are_free, _, fun_mk (st := s_are_free) l_are_free c_are_free k_are_free, PySem.W.mg_of X G a_are_free, (fun_mk (st := s_are_free) l_are_free c_are_free k_are_free).binds (ps := ["hall", "meeting", "second"]) fun _ _ _ _ _ _ us hl => match us, hl with | [_, _, _], _ => rfl,
    f__law_deck, _, fun_mk (st := s__law_deck) l__law_deck c__law_deck k__law_deck, PySem.W.mg_of X G a__law_deck, (fun_mk (st := s__law_deck) l__law_deck c__law_deck k__law_deck).binds (ps := ["cell", "turn"]) fun _ _ _ _ _ _ us hl => match us, hl with | [_, _], _ => rfl,
    f__law_pick, _, fun_mk (st := s__law_pick) l__law_pick c__law_pick k__law_pick, PySem.W.mg_of X G a__law_pick, (fun_mk (st := s__law_pick) l__law_pick c__law_pick k__law_pick).binds (ps := ["deck", "size"]) fun _ _ _ _ _ _ us hl => match us, hl with | [_, _], _ => rfl,
    f__law_one, _, fun_mk (st := s__law_one) l__law_one c__law_one k__law_one, PySem.W.mg_of X G a__law_one, (fun_mk (st := s__law_one) l__law_one c__law_one k__law_one).binds (ps := ["deck", "some"]) fun _ _ _ _ _ _ us hl => match us, hl with | [_, _], _ => rfl,
    f__law_kin, _, fun_mk (st := s__law_kin) l__law_kin c__law_kin k__law_kin, PySem.W.mg_of X G a__law_kin, (fun_mk (st := s__law_kin) l__law_kin c__law_kin k__law_kin).binds (ps := ["e"]) fun _ _ _ _ _ _ us hl => match us, hl with | [_], _ => rfl,
    f__law_try, _, fun_mk (st := s__law_try) l__law_try c__law_try k__law_try, PySem.W.mg_of X G a__law_try, (fun_mk (st := s__law_try) l__law_try c__law_try k__law_try).binds (ps := ["door"]) fun _ _ _ _ _ _ us hl => match us, hl with | [_], _ => rfl,
    f__law_sort, _, fun_mk (st := s__law_sort) l__law_sort c__law_sort k__law_sort, PySem.W.mg_of X G a__law_sort, (fun_mk (st := s__law_sort) l__law_sort c__law_sort k__law_sort).binds (ps := ["thing"]) fun _ _ _ _ _ _ us hl => match us, hl with | [_], _ => rfl,
    f__law_same, _, fun_mk (st := s__law_same) l__law_same c__law_same k__law_same, PySem.W.mg_of X G a__law_same, (fun_mk (st := s__law_same) l__law_same c__law_same k__law_same).binds (ps := ["told", "due"]) fun _ _ _ _ _ _ us hl => match us, hl with | [_, _], _ => rfl,
    f__law_hall, _, fun_mk (st := s__law_hall) l__law_hall c__law_hall k__law_hall, PySem.W.mg_of X G a__law_hall, (fun_mk (st := s__law_hall) l__law_hall c__law_hall k__law_hall).binds (ps := ["deck", "shapes"]) fun _ _ _ _ _ _ us hl => match us, hl with | [_, _], _ => rfl,
    f__law_small, _, fun_mk (st := s__law_small) l__law_small c__law_small k__law_small, PySem.W.mg_of X G a__law_small, (fun_mk (st := s__law_small) l__law_small c__law_small k__law_small).binds (ps := []) fun _ _ _ _ _ _ us hl => match us, hl with | [], _ => rfl,
    f__law_great, _, fun_mk (st := s__law_great) l__law_great c__law_great k__law_great, PySem.W.mg_of X G a__law_great, (fun_mk (st := s__law_great) l__law_great c__law_great k__law_great).binds (ps := []) fun _ _ _ _ _ _ us hl => match us, hl with | [], _ => rfl,
    f__law_meeting, _, fun_mk (st := s__law_meeting) l__law_meeting c__law_meeting k__law_meeting, PySem.W.mg_of X G a__law_meeting, (fun_mk (st := s__law_meeting) l__law_meeting c__law_meeting k__law_meeting).binds (ps := ["deck", "hall"]) fun _ _ _ _ _ _ us hl => match us, hl with | [_, _], _ => rfl,
    f__law_beat, _, fun_mk (st := s__law_beat) l__law_beat c__law_beat k__law_beat, PySem.W.mg_of X G a__law_beat, (fun_mk (st := s__law_beat) l__law_beat c__law_beat k__law_beat).binds (ps := ["deck", "hall"]) fun _ _ _ _ _ _ us hl => match us, hl with | [_, _], _ => rfl,
    f__law_stand, _, fun_mk (st := s__law_stand) l__law_stand c__law_stand k__law_stand, PySem.W.mg_of X G a__law_stand, (fun_mk (st := s__law_stand) l__law_stand c__law_stand k__law_stand).binds (ps := ["deck", "hall"]) fun _ _ _ _ _ _ us hl => match us, hl with | [_, _], _ => rfl,
    f__law_met, _, fun_mk (st := s__law_met) l__law_met c__law_met k__law_met, PySem.W.mg_of X G a__law_met, (fun_mk (st := s__law_met) l__law_met c__law_met k__law_met).binds (ps := ["hall", "table", "meeting"]) fun _ _ _ _ _ _ us hl => match us, hl with | [_, _, _], _ => rfl,
    f__law_table, _, fun_mk (st := s__law_table) l__law_table c__law_table k__law_table, PySem.W.mg_of X G a__law_table, (fun_mk (st := s__law_table) l__law_table c__law_table k__law_table).binds (ps := ["stand"]) fun _ _ _ _ _ _ us hl => match us, hl with | [_], _ => rfl,
    f__law_stand_of, _, fun_mk (st := s__law_stand_of) l__law_stand_of c__law_stand_of k__law_stand_of, PySem.W.mg_of X G a__law_stand_of, (fun_mk (st := s__law_stand_of) l__law_stand_of c__law_stand_of k__law_stand_of).binds (ps := ["hall", "table"]) fun _ _ _ _ _ _ us hl => match us, hl with | [_, _], _ => rfl,
    f__law_behind, _, fun_mk (st := s__law_behind) l__law_behind c__law_behind k__law_behind, PySem.W.mg_of X G a__law_behind, (fun_mk (st := s__law_behind) l__law_behind c__law_behind k__law_behind).binds (ps := ["hall", "stand", "beat"]) fun _ _ _ _ _ _ us hl => match us, hl with | [_, _, _], _ => rfl,
    f__law_all, _, fun_mk (st := s__law_all) l__law_all c__law_all k__law_all, PySem.W.mg_of X G a__law_all, (fun_mk (st := s__law_all) l__law_all c__law_all k__law_all).binds (ps := ["hall"]) fun _ _ _ _ _ _ us hl => match us, hl with | [_], _ => rfl,
    f__law_orders, _, fun_mk (st := s__law_orders) l__law_orders c__law_orders k__law_orders, PySem.W.mg_of X G a__law_orders, (fun_mk (st := s__law_orders) l__law_orders c__law_orders k__law_orders).binds (ps := ["beat"]) fun _ _ _ _ _ _ us hl => match us, hl with | [_], _ => rfl,
    f_law, _, fun_mk (st := s_law) l_law c_law k_law, PySem.W.mg_of X G a_law, (fun_mk (st := s_law) l_law c_law k_law).binds (ps := ["script"]) fun _ _ _ _ _ _ us hl => match us, hl with | [_], _ => rfl,
    PySem.W.mg_none_of X G z_ValueError,
    PySem.W.mg_none_of X G z_all,
    PySem.W.mg_none_of X G z_bool,
    PySem.W.mg_none_of X G z_enumerate,
    PySem.W.mg_none_of X G z_int,
    PySem.W.mg_none_of X G z_isinstance,
    PySem.W.mg_none_of X G z_len,
    PySem.W.mg_none_of X G z_list,
    PySem.W.mg_none_of X G z_max,
    PySem.W.mg_none_of X G z_min,
    PySem.W.mg_none_of X G z_range,
    PySem.W.mg_none_of X G z_set,
    PySem.W.mg_none_of X G z_sorted,
    PySem.W.mg_none_of X G z_str,
    PySem.W.mg_none_of X G z_tuple,
    PySem.W.mg_none_of X G z_zip,
    ⟨_, PySem.W.mg_of X G n_MOST_FOLK⟩,
    ⟨_, PySem.W.mg_of X G n_MOST_THINGS⟩,
    ⟨_, PySem.W.mg_of X G n_MOST_CAP⟩,
    ⟨_, PySem.W.mg_of X G n_MOST_MEETINGS⟩,
    ⟨_, PySem.W.mg_of X G n_MOST_STANDS⟩⟩)
   (M := ⟨cT, f_init, _, fun_mk (st := s_init) l_init c_init k_init,
    (fun_mk (st := s_init) l_init c_init k_init).binds (ps := ["self", "most"]) fun _ _ _ _ _ _ us hl => match us, hl with | [_, _], _ => rfl,
    PySem.W.mg_of X G aT,
    ⟨⟨_, _, _, _, _, _, _, _, _, _, _, _, _, _, _, xL, xR⟩, sa, exC, tyC, kC⟩,
    noM,
    iC,
    tI,
    ⟨hg, hk, exC, hd, ha, hn, ht, hm⟩,
    exm_same exC isT tyC sT,
    c_NoHall, PySem.W.mg_of X G b_NoHall, kit_no i_NoHall y_NoHall s_s_NoHall ne_NoHall,
    c_NoStand, PySem.W.mg_of X G b_NoStand, kit_no i_NoStand y_NoStand s_s_NoStand ne_NoStand,
    c_NoBeat, PySem.W.mg_of X G b_NoBeat, kit_no i_NoBeat y_NoBeat s_s_NoBeat ne_NoBeat,
    c_NoPlan, PySem.W.mg_of X G b_NoPlan, kit_no i_NoPlan y_NoPlan s_s_NoPlan ne_NoPlan,
    c_NoThing, PySem.W.mg_of X G b_NoThing, kit_no i_NoThing y_NoThing s_s_NoThing ne_NoThing,
    c_NoCount, PySem.W.mg_of X G b_NoCount, kit_no i_NoCount y_NoCount s_s_NoCount ne_NoCount,
    c_NoMeeting, PySem.W.mg_of X G b_NoMeeting, kit_no i_NoMeeting y_NoMeeting s_s_NoMeeting ne_NoMeeting,
    kit_self,
    kit_yes (by decide +kernel) sV,
    PySem.W.mg_none_of X G z_ValueError⟩) X hfa ⟨hg, hk, exC, hd⟩ rfl codeT noT hP
end PL

set_option maxHeartbeats 0
open PySem PySem.W PyProof.Rows
open_top head for PySem.Challenge.rw_lorehall_k10_whole_orders_of_meetings

open PySem PySem.W PyProof.Rows
set_option maxRecDepth 100000 in
set_option maxHeartbeats 0 in
theorem PySem.Challenge.cw_lorehall_k10_whole_orders_of_meetings_holds : PySem.Challenge.rw_lorehall_k10_whole_orders_of_meetings.Holds :=
  head (by
  k_fill
  refine LamX.walk_ofTs (l := PySem.Challenge.rw_lorehall_k10_whole_orders_of_meetings) (n := 63) (k := 10) (x := "script") (CX := fun _ => L2.CX0) rfl (by decide) rfl ⟨rfl, by decide, by decide⟩ (fun w h Y => PySem.W.km_in_of Y) ?F (fun _ _ _ _ _ z => z)
  intro w mg fa h Y KX G hmg
  have hP := PySem.W.km_tabs_of Y
  refine' PL.all_mk KX G hmg (hP _ (List.mem_singleton.mpr rfl)) ?a_is_from ?l_is_from ?c_is_from ?k_is_from ?a_is_tuple ?l_is_tuple ?c_is_tuple ?k_is_tuple ?a_is_lore ?l_is_lore ?c_is_lore ?k_is_lore ?a_is_hall ?l_is_hall ?c_is_hall ?k_is_hall ?a_need_hall ?l_need_hall ?c_need_hall ?k_need_hall ?a_is_standing ?l_is_standing ?c_is_standing ?k_is_standing ?a_is_meeting ?l_is_meeting ?c_is_meeting ?k_is_meeting ?a_is_beating ?l_is_beating ?c_is_beating ?k_is_beating ?a_need_stand ?l_need_stand ?c_need_stand ?k_need_stand ?a_need_beat ?l_need_beat ?c_need_beat ?k_need_beat ?a_need_meeting ?l_need_meeting ?c_need_meeting ?k_need_meeting ?a_all_stands ?l_all_stands ?c_all_stands ?k_all_stands ?a_is_lesson ?l_is_lesson ?c_is_lesson ?k_is_lesson ?a_taught ?l_taught ?c_taught ?k_taught ?a_behind ?l_behind ?c_behind ?k_behind ?a_by_beat ?l_by_beat ?c_by_beat ?k_by_beat ?a_orders_of ?l_orders_of ?c_orders_of ?k_orders_of ?a_ends ?l_ends ?c_ends ?k_ends ?a_are_free ?l_are_free ?c_are_free ?k_are_free ?a__law_deck ?l__law_deck ?c__law_deck ?k__law_deck ?a__law_pick ?l__law_pick ?c__law_pick ?k__law_pick ?a__law_one ?l__law_one ?c__law_one ?k__law_one ?a__law_kin ?l__law_kin ?c__law_kin ?k__law_kin ?a__law_try ?l__law_try ?c__law_try ?k__law_try ?a__law_sort ?l__law_sort ?c__law_sort ?k__law_sort ?a__law_same ?l__law_same ?c__law_same ?k__law_same ?a__law_hall ?l__law_hall ?c__law_hall ?k__law_hall ?a__law_small ?l__law_small ?c__law_small ?k__law_small ?a__law_great ?l__law_great ?c__law_great ?k__law_great ?a__law_meeting ?l__law_meeting ?c__law_meeting ?k__law_meeting ?a__law_beat ?l__law_beat ?c__law_beat ?k__law_beat ?a__law_stand ?l__law_stand ?c__law_stand ?k__law_stand ?a__law_met ?l__law_met ?c__law_met ?k__law_met ?a__law_table ?l__law_table ?c__law_table ?k__law_table ?a__law_stand_of ?l__law_stand_of ?c__law_stand_of ?k__law_stand_of ?a__law_behind ?l__law_behind ?c__law_behind ?k__law_behind ?a__law_all ?l__law_all ?c__law_all ?k__law_all ?a__law_orders ?l__law_orders ?c__law_orders ?k__law_orders ?a_law ?l_law ?c_law ?k_law ?z_ValueError ?z_all ?z_bool ?z_enumerate ?z_int ?z_isinstance ?z_len ?z_list ?z_max ?z_min ?z_range ?z_set ?z_sorted ?z_str ?z_tuple ?z_zip ?n_MOST_FOLK ?n_MOST_THINGS ?n_MOST_CAP ?n_MOST_MEETINGS ?n_MOST_STANDS ?codeT ?noT ?aT ?iC ?tI ?l_init ?c_init ?k_init ?xL ?xR ?sa ?exC ?tyC ?kC ?noM ?hg ?hk ?hd ?ha ?hn ?ht ?hm ?isT ?sT ?sV ?b_NoHall ?i_NoHall ?y_NoHall ?s_s_NoHall ?ne_NoHall ?b_NoStand ?i_NoStand ?y_NoStand ?s_s_NoStand ?ne_NoStand ?b_NoBeat ?i_NoBeat ?y_NoBeat ?s_s_NoBeat ?ne_NoBeat ?b_NoPlan ?i_NoPlan ?y_NoPlan ?s_s_NoPlan ?ne_NoPlan ?b_NoThing ?i_NoThing ?y_NoThing ?s_s_NoThing ?ne_NoThing ?b_NoCount ?i_NoCount ?y_NoCount ?s_s_NoCount ?ne_NoCount ?b_NoMeeting ?i_NoMeeting ?y_NoMeeting ?s_s_NoMeeting ?ne_NoMeeting
  (case a_is_from => k_is)
  (case a_is_tuple => k_is)
  (case a_is_lore => k_is)
  (case a_is_hall => k_is)
  (case a_need_hall => k_is)
  (case a_is_standing => k_is)
  (case a_is_meeting => k_is)
  (case a_is_beating => k_is)
  (case a_need_stand => k_is)
  (case a_need_beat => k_is)
  (case a_need_meeting => k_is)
  (case a_all_stands => k_is)
  (case a_is_lesson => k_is)
  (case a_taught => k_is)
  (case a_behind => k_is)
  (case a_by_beat => k_is)
  (case a_orders_of => k_is)
  (case a_ends => k_is)
  (case a_are_free => k_is)
  (case a__law_deck => k_is)
  (case a__law_pick => k_is)
  (case a__law_one => k_is)
  (case a__law_kin => k_is)
  (case a__law_try => k_is)
  (case a__law_sort => k_is)
  (case a__law_same => k_is)
  (case a__law_hall => k_is)
  (case a__law_small => k_is)
  (case a__law_great => k_is)
  (case a__law_meeting => k_is)
  (case a__law_beat => k_is)
  (case a__law_stand => k_is)
  (case a__law_met => k_is)
  (case a__law_table => k_is)
  (case a__law_stand_of => k_is)
  (case a__law_behind => k_is)
  (case a__law_all => k_is)
  (case a__law_orders => k_is)
  (case a_law => k_is)
  (case aT => k_is)
  (case iC => k_is)
  (case xL => k_is)
  (case b_NoHall => k_is)
  (case b_NoStand => k_is)
  (case b_NoBeat => k_is)
  (case b_NoPlan => k_is)
  (case b_NoThing => k_is)
  (case b_NoCount => k_is)
  (case b_NoMeeting => k_is)
  (case l_is_from => k_is)
  (case c_is_from => k_is)
  (case k_is_from => k_is)
  (case l_is_tuple => k_is)
  (case c_is_tuple => k_is)
  (case k_is_tuple => k_is)
  (case l_is_lore => k_is)
  (case c_is_lore => k_is)
  (case k_is_lore => k_is)
  (case l_is_hall => k_is)
  (case c_is_hall => k_is)
  (case k_is_hall => k_is)
  (case l_need_hall => k_is)
  (case c_need_hall => k_is)
  (case k_need_hall => k_is)
  (case l_is_standing => k_is)
  (case c_is_standing => k_is)
  (case k_is_standing => k_is)
  (case l_is_meeting => k_is)
  (case c_is_meeting => k_is)
  (case k_is_meeting => k_is)
  (case l_is_beating => k_is)
  (case c_is_beating => k_is)
  (case k_is_beating => k_is)
  (case l_need_stand => k_is)
  (case c_need_stand => k_is)
  (case k_need_stand => k_is)
  (case l_need_beat => k_is)
  (case c_need_beat => k_is)
  (case k_need_beat => k_is)
  (case l_need_meeting => k_is)
  (case c_need_meeting => k_is)
  (case k_need_meeting => k_is)
  (case l_all_stands => k_is)
  (case c_all_stands => k_is)
  (case k_all_stands => k_is)
  (case l_is_lesson => k_is)
  (case c_is_lesson => k_is)
  (case k_is_lesson => k_is)
  (case l_taught => k_is)
  (case c_taught => k_is)
  (case k_taught => k_is)
  (case l_behind => k_is)
  (case c_behind => k_is)
  (case k_behind => k_is)
  (case l_by_beat => k_is)
  (case c_by_beat => k_is)
  (case k_by_beat => k_is)
  (case l_orders_of => k_is)
  (case c_orders_of => k_is)
  (case k_orders_of => k_is)
  (case l_ends => k_is)
  (case c_ends => k_is)
  (case k_ends => k_is)
  (case l_are_free => k_is)
  (case c_are_free => k_is)
  (case k_are_free => k_is)
  (case l__law_deck => k_is)
  (case c__law_deck => k_is)
  (case k__law_deck => k_is)
  (case l__law_pick => k_is)
  (case c__law_pick => k_is)
  (case k__law_pick => k_is)
  (case l__law_one => k_is)
  (case c__law_one => k_is)
  (case k__law_one => k_is)
  (case l__law_kin => k_is)
  (case c__law_kin => k_is)
  (case k__law_kin => k_is)
  (case l__law_try => k_is)
  (case c__law_try => k_is)
  (case k__law_try => k_is)
  (case l__law_sort => k_is)
  (case c__law_sort => k_is)
  (case k__law_sort => k_is)
  (case l__law_same => k_is)
  (case c__law_same => k_is)
  (case k__law_same => k_is)
  (case l__law_hall => k_is)
  (case c__law_hall => k_is)
  (case k__law_hall => k_is)
  (case l__law_small => k_is)
  (case c__law_small => k_is)
  (case k__law_small => k_is)
  (case l__law_great => k_is)
  (case c__law_great => k_is)
  (case k__law_great => k_is)
  (case l__law_meeting => k_is)
  (case c__law_meeting => k_is)
  (case k__law_meeting => k_is)
  (case l__law_beat => k_is)
  (case c__law_beat => k_is)
  (case k__law_beat => k_is)
  (case l__law_stand => k_is)
  (case c__law_stand => k_is)
  (case k__law_stand => k_is)
  (case l__law_met => k_is)
  (case c__law_met => k_is)
  (case k__law_met => k_is)
  (case l__law_table => k_is)
  (case c__law_table => k_is)
  (case k__law_table => k_is)
  (case l__law_stand_of => k_is)
  (case c__law_stand_of => k_is)
  (case k__law_stand_of => k_is)
  (case l__law_behind => k_is)
  (case c__law_behind => k_is)
  (case k__law_behind => k_is)
  (case l__law_all => k_is)
  (case c__law_all => k_is)
  (case k__law_all => k_is)
  (case l__law_orders => k_is)
  (case c__law_orders => k_is)
  (case k__law_orders => k_is)
  (case l_law => k_is)
  (case c_law => k_is)
  (case k_law => k_is)
  (case z_ValueError => k_is)
  (case z_all => k_is)
  (case z_bool => k_is)
  (case z_enumerate => k_is)
  (case z_int => k_is)
  (case z_isinstance => k_is)
  (case z_len => k_is)
  (case z_list => k_is)
  (case z_max => k_is)
  (case z_min => k_is)
  (case z_range => k_is)
  (case z_set => k_is)
  (case z_sorted => k_is)
  (case z_str => k_is)
  (case z_tuple => k_is)
  (case z_zip => k_is)
  (case n_MOST_FOLK => k_is)
  (case n_MOST_THINGS => k_is)
  (case n_MOST_CAP => k_is)
  (case n_MOST_MEETINGS => k_is)
  (case n_MOST_STANDS => k_is)
  (case codeT => first | rfl | decide +kernel | k_is)
  (case noT => first | rfl | decide +kernel | k_is)
  (case tI => k_is)
  (case l_init => k_is)
  (case c_init => k_is)
  (case k_init => k_is)
  (case xR => first | rfl | decide +kernel)
  (case sa => k_is)
  (case exC => k_is)
  (case tyC => k_is)
  (case kC => k_is)
  (case noM => k_is)
  (case hg => k_is)
  (case hk => k_is)
  (case hd => k_is)
  (case ha => k_is)
  (case hn => k_is)
  (case ht => k_is)
  (case hm => k_is)
  (case isT => k_is)
  (case sT => first | rfl | k_is)
  (case sV => k_is)
  (case i_NoHall => k_is)
  (case y_NoHall => k_is)
  (case s_s_NoHall => k_is)
  (case ne_NoHall => first | rfl | decide)
  (case i_NoStand => k_is)
  (case y_NoStand => k_is)
  (case s_s_NoStand => k_is)
  (case ne_NoStand => first | rfl | decide)
  (case i_NoBeat => k_is)
  (case y_NoBeat => k_is)
  (case s_s_NoBeat => k_is)
  (case ne_NoBeat => first | rfl | decide)
  (case i_NoPlan => k_is)
  (case y_NoPlan => k_is)
  (case s_s_NoPlan => k_is)
  (case ne_NoPlan => first | rfl | decide)
  (case i_NoThing => k_is)
  (case y_NoThing => k_is)
  (case s_s_NoThing => k_is)
  (case ne_NoThing => first | rfl | decide)
  (case i_NoCount => k_is)
  (case y_NoCount => k_is)
  (case s_s_NoCount => k_is)
  (case ne_NoCount => first | rfl | decide)
  (case i_NoMeeting => k_is)
  (case y_NoMeeting => k_is)
  (case s_s_NoMeeting => k_is)
  (case ne_NoMeeting => first | rfl | decide))

