import PyProof.Rows.All
import Wide.All
import OpenK.AllK
import Wide.FinOn
import HandS.ForMost
import HandS.Exc
import HandS.ExcOwn
import HandS.WordsExc
import HandS.TryOnly
import HandS.Flow
import HandS.Conv
import HandS.TupAny
import HandS.TupMul
import HandS.Wide
import HandS.Style
import HandS.Zip
import HandS.IsInst
import HandS.Lambda
import KE.GoesNew
import KE.GoesMore
import KE.GoesEnum
import HandS.SortInts
import HandS.Remove
import HandS.Deep
import HandS.ExcIs
import HandS.Defaults
import HandS.HeadHook2
import HandS.EndTab
import HandS.HeadWalk
import HandS.Head0
import HandS.Head1
import HandS.Head2
import HandS.HeadHook1
import PyProof.P3Eq
import PySem.Challenge.RW_swapsagree_k03_whole_great_numbers_of_tu
set_option Elab.async false
set_option linter.all false
set_option maxRecDepth 100000
set_option maxHeartbeats 4000000
/-! Z1: pure data, slots, what an expression or a statement computes as a plain function. -/
namespace Z
open PySem PySem.Spec PyProof.Rows L2
/-- the tables of code objects that the text's lambdas write -/
class LT where
  T : List (Addr × Str)
variable [LT]

abbrev St := L2.St
/-! ### data, slots, results -/
inductive D where
  | non | bl (b : Bool) | int (i : Int) | str (x : Str) | tup (xs : List D) | lst (xs : List D) | frz (xs : List D)
/-- a slot: unbound; shared data; a list of the frame's own; a list handed in to be changed -/
inductive Sl where
  | un | sh (d : D) | ow (xs : List D) | io (xs : List D)
abbrev Fr := List Sl
/-- a value in hand: data; the list of a slot -/
inductive Vx where
  | val (d : D) | own (i : Nat)
structure Xc where
  cls : Str
  fld : Option (Str × Int)
inductive Res (α : Type) where
  | ok (a : α) (S : Fr) | exc (x : Xc) (S : Fr) | stuck
abbrev M (α : Type) := Fr → Res α
def Res.bind {α β : Type} (r : Res α) (f : α → M β) : Res β := match r with
  | .ok a S => f a S
  | .exc x S => .exc x S
  | .stuck => .stuck
def bnd {α β : Type} (m : M α) (f : α → M β) : M β := fun S => (m S).bind f
def ret {α : Type} (a : α) : M α := fun S => .ok a S
def Sl.owned : Sl → Option (List D)
  | .ow xs => some xs
  | .io xs => some xs
  | _ => none

/-- a list that nobody changes -/
def SqF (K : PySem.W.Frag) (H : Hp) (a : Addr) (xs : List V) : Prop :=
  (∃ o, H a = some (.frz o (.lst xs))) ∨ ∃ (o : Obj) (its : Array Value) (n : Nat), K.lookup a = some o ∧ o.cls = .type "list" ∧ o.dict = none ∧ o.data = .seq its n ∧ its.size ≤ sizeLine ∧ Vals xs its.toList
theorem SqF.l {K : PySem.W.Frag} {H : Hp} {a : Addr} {xs : List V} (h : SqF K H a xs) : SqL K H a xs := h.imp .inr id

/-! ### what stands for what -/
section
variable (K : PySem.W.Frag) (Sh : Addr → Prop) (H : Hp)
mutual
inductive Rep : V → D → Prop where
  | frz {a : Addr} {vs : List V} {ds : List D} : SqF K H a vs → RepA vs ds → Rep (.ref a) (.frz ds)
  | non : Rep .non .non
  | bl {b : Bool} : Rep (.bl b) (.bl b)
  | int {i : Int} : Rep (.int i) (.int i)
  | str {x : Str} : Rep (.str x) (.str x)
  | tup {a : Addr} {vs : List V} {ds : List D} : SqT K H a vs → RepA vs ds → Rep (.ref a) (.tup ds)
  | lst {a : Addr} {vs : List V} {ds : List D} : H a = some (.lst vs) → Sh a → RepA vs ds → Rep (.ref a) (.lst ds)
inductive RepA : List V → List D → Prop where
  | nil : RepA [] []
  | cons {v : V} {vs : List V} {d : D} {ds : List D} : Rep v d → RepA vs ds → RepA (v :: vs) (d :: ds)
end
end
/-- what is shared, and what cannot change, is kept -/
def Kp (Sh : Addr → Prop) (H H' : Hp) : Prop := ∀ b o, H b = some o → (Sh b ∨ ¬ Mut (some o)) → (∀ ps, o ≠ .tbl ps) → H' b = some o
theorem Kp.refl {Sh : Addr → Prop} {H : Hp} : Kp Sh H H := fun _ _ h _ _ => h
section
variable {K : PySem.W.Frag} {Sh Sh' : Addr → Prop} {H H' : Hp}
theorem SqT.kp {a : Addr} {vs : List V} (k : Kp Sh H H') (h : SqT K H a vs) : SqT K H' a vs := by
  rcases h with (h | ⟨o, h⟩) | h
  · exact .inl (.inl (k _ _ h (.inr fun z => z) fun _ z => by cases z))
  · exact .inl (.inr ⟨o, k _ _ h (.inr fun z => z) fun _ z => by cases z⟩)
  · exact .inr h
mutual
theorem Rep.mono (k : Kp Sh H H') (hs : ∀ b, Sh b → Sh' b) : ∀ (d : D) (v : V), Rep K Sh H v d → Rep K Sh' H' v d
  | .non, _, h => by cases h; exact .non
  | .bl _, _, h => by cases h; exact .bl
  | .int _, _, h => by cases h; exact .int
  | .str _, _, h => by cases h; exact .str
  | .tup ds, _, h => by
    cases h with
    | tup h1 h2 => exact .tup (SqT.kp k h1) (RepA.mono k hs ds _ h2)
  | .frz ds, _, h => by
    cases h with
    | frz h1 h2 =>
      refine .frz ?_ (RepA.mono k hs ds _ h2)
      rcases h1 with ⟨o, h1⟩ | h1
      · exact .inl ⟨o, k _ _ h1 (.inr fun z => z) fun _ z => by cases z⟩
      · exact .inr h1
  | .lst ds, _, h => by
    cases h with
    | lst h1 h2 h3 => exact .lst (k _ _ h1 (.inl h2) fun _ z => by cases z) (hs _ h2) (RepA.mono k hs ds _ h3)
theorem RepA.mono (k : Kp Sh H H') (hs : ∀ b, Sh b → Sh' b) : ∀ (ds : List D) (vs : List V), RepA K Sh H vs ds → RepA K Sh' H' vs ds
  | [], _, h => by cases h; exact .nil
  | d :: ds, _, h => by
    cases h with
    | cons h1 h2 => exact .cons (Rep.mono k hs d _ h1) (RepA.mono k hs ds _ h2)
end
theorem RepA.length : ∀ {vs : List V} {ds : List D}, RepA K Sh H vs ds → vs.length = ds.length
  | _, [], h => by cases h; rfl
  | _, d :: ds, h => by
    cases h with
    | cons _ h2 => rw [List.length_cons, List.length_cons, RepA.length h2]
theorem RepA.get : ∀ {ds : List D} {vs : List V} {i : Nat} {d : D}, RepA K Sh H vs ds → ds[i]? = some d → ∃ v, vs[i]? = some v ∧ Rep K Sh H v d
  | [], _, i, d, _, e => by simp at e
  | d :: ds, _, i, d', h, e => by
    cases h with
    | cons h1 h2 =>
      cases i with
      | zero =>
        have e' : d = d' := by simpa using e
        subst e'
        exact ⟨_, by simp, h1⟩
      | succ i =>
        obtain ⟨v, e1, r⟩ := RepA.get h2 (i := i) (d := d') (by simpa using e)
        exact ⟨v, by simpa using e1, r⟩
theorem RepA.get' : ∀ {ds : List D} {vs : List V} {i : Nat} {v : V}, RepA K Sh H vs ds → vs[i]? = some v → ∃ d, ds[i]? = some d ∧ Rep K Sh H v d
  | [], _, i, d, h, e => by cases h; simp at e
  | d :: ds, _, i, v', h, e => by
    cases h with
    | cons h1 h2 =>
      cases i with
      | zero =>
        simp at e
        subst e
        exact ⟨_, by simp, h1⟩
      | succ i =>
        obtain ⟨v, e1, r⟩ := RepA.get' h2 (i := i) (v := v') (by simpa using e)
        exact ⟨v, by simpa using e1, r⟩
theorem RepA.append : ∀ {ds es : List D} {vs us : List V}, RepA K Sh H vs ds → RepA K Sh H us es → RepA K Sh H (vs ++ us) (ds ++ es)
  | [], _, _, _, h, h' => by cases h; exact h'
  | d :: ds, es, _, _, h, h' => by
    cases h with
    | cons h1 h2 => exact .cons h1 (RepA.append h2 h')
theorem RepA.take : ∀ {ds : List D} {vs : List V} (n : Nat), RepA K Sh H vs ds → RepA K Sh H (vs.take n) (ds.take n)
  | _, _, 0, _ => by simp; exact .nil
  | [], _, n + 1, h => by cases h; exact .nil
  | d :: ds, _, n + 1, h => by
    cases h with
    | cons h1 h2 => simpa using RepA.cons h1 (RepA.take n h2)
theorem RepA.drop : ∀ {ds : List D} {vs : List V} (n : Nat), RepA K Sh H vs ds → RepA K Sh H (vs.drop n) (ds.drop n)
  | _, _, 0, h => by simpa using h
  | [], _, n + 1, h => by cases h; exact .nil
  | d :: ds, _, n + 1, h => by
    cases h with
    | cons h1 h2 => simpa using RepA.drop n h2
theorem RepA.set : ∀ {ds : List D} {vs : List V} {v : V} {d : D} (n : Nat), RepA K Sh H vs ds → Rep K Sh H v d → RepA K Sh H (vs.set n v) (ds.set n d)
  | [], _, _, _, n, h, _ => by cases h; simp; exact .nil
  | d :: ds, _, _, _, 0, h, r => by
    cases h with
    | cons h1 h2 => simpa using RepA.cons r h2
  | d :: ds, _, _, _, n + 1, h, r => by
    cases h with
    | cons h1 h2 => simpa using RepA.cons h1 (RepA.set n h2 r)
theorem RepA.eraseIdx : ∀ {ds : List D} {vs : List V} (n : Nat), RepA K Sh H vs ds → RepA K Sh H (vs.eraseIdx n) (ds.eraseIdx n)
  | [], _, n, h => by cases h; simp; exact .nil
  | d :: ds, _, 0, h => by
    cases h with
    | cons h1 h2 => simpa using h2
  | d :: ds, _, n + 1, h => by
    cases h with
    | cons h1 h2 => simpa using RepA.cons h1 (RepA.eraseIdx n h2)
theorem RepA.reverse {ds : List D} : ∀ {vs : List V}, RepA K Sh H vs ds → RepA K Sh H vs.reverse ds.reverse := by
  induction ds with
  | nil => intro vs h; cases h; exact .nil
  | cons d ds ih =>
    intro vs h
    cases h with
    | cons h1 h2 =>
      rw [List.reverse_cons, List.reverse_cons]
      exact (ih h2).append (.cons h1 .nil)
theorem RepA.rep {ds : List D} {vs : List V} (h : RepA K Sh H vs ds) : ∀ n : Nat, RepA K Sh H (List.replicate n vs).flatten (List.replicate n ds).flatten
  | 0 => by simp; exact .nil
  | n + 1 => by
    rw [List.replicate_succ, List.replicate_succ, List.flatten_cons, List.flatten_cons]
    exact h.append (RepA.rep h n)
theorem RepA.ints : ∀ {ns : List Int} {vs : List V}, RepA K Sh H vs (ns.map D.int) → vs = ns.map V.int
  | [], _, h => by cases h; rfl
  | n :: ns, _, h => by
    cases h with
    | cons h1 h2 => cases h1; rw [RepA.ints h2]; rfl
theorem RepA.ofInts : ∀ (ns : List Int), RepA K Sh H (ns.map V.int) (ns.map D.int)
  | [] => .nil
  | _ :: ns => .cons .int (RepA.ofInts ns)
theorem RepA.bls : ∀ {ns : List Bool} {vs : List V}, RepA K Sh H vs (ns.map D.bl) → vs = ns.map V.bl
  | [], _, h => by cases h; rfl
  | n :: ns, _, h => by
    cases h with
    | cons h1 h2 => cases h1; rw [RepA.bls h2]; rfl
theorem RepA.strs : ∀ {ns : List Str} {vs : List V}, RepA K Sh H vs (ns.map D.str) → vs = ns.map V.str
  | [], _, h => by cases h; rfl
  | n :: ns, _, h => by
    cases h with
    | cons h1 h2 => cases h1; rw [RepA.strs h2]; rfl
end

/-! ### the state -/
/-- nothing that is looked at stands there -/
def Nn (H : Hp) (b : Addr) : Prop := ∀ o, H b = some o → ∃ ps, o = .tbl ps
theorem Nn.of {H : Hp} {b : Addr} (h : H b = none) : Nn H b := fun o e => by rw [h] at e; cases e
theorem Nn.lst {H : Hp} {b : Addr} {vs : List V} (n : Nn H b) (e : H b = some (.lst vs)) : False := by
  obtain ⟨ps, z⟩ := n _ e
  cases z
theorem Nn.updN {H : Hp} {p b : Addr} {o : HO} (hp : H p = none) (n : Nn (upd H p o) b) : Nn H b := by
  by_cases e : b = p
  · rw [e]; exact .of hp
  · intro u q
    exact n u (by rw [upd_ne e]; exact q)
theorem Nn.updL {H : Hp} {p b : Addr} {vs : List V} (n : Nn (upd H p (.lst vs)) b) : Nn H b := by
  by_cases e : b = p
  · rw [e] at n
    exact (n.lst upd_same).elim
  · intro u q
    exact n u (by rw [upd_ne e]; exact q)
def Ow (S : Fr) (σ : St) (b : Addr) : Prop := ∃ (i : Nat) (sl : Sl) (ds : List D), S[i]? = some sl ∧ sl.owned = some ds ∧ σ[i]? = some (some (.ref b))
structure Abs (K : PySem.W.Frag) (S : Fr) (σ : St) (H : Hp) (Sh : Addr → Prop) : Prop where
  len : S.length = σ.length
  sh : ∀ (i : Nat) (d : D), S[i]? = some (.sh d) → ∃ v, σ[i]? = some (some v) ∧ Rep K Sh H v d
  ow : ∀ (i : Nat) (sl : Sl) (ds : List D), S[i]? = some sl → sl.owned = some ds → ∃ a vs, σ[i]? = some (some (.ref a)) ∧ H a = some (.lst vs) ∧ RepA K Sh H vs ds ∧ ¬ Sh a
  inj : ∀ (i j : Nat) (sl sl' : Sl) (ds ds' : List D) (a : Addr), S[i]? = some sl → sl.owned = some ds → S[j]? = some sl' → sl'.owned = some ds' → σ[i]? = some (some (.ref a)) → σ[j]? = some (some (.ref a)) → i = j
  fresh : ∀ b, Sh b → ¬ Nn H b
  tab : LamX.Tabs LT.T H
structure Ext (S : Fr) (σ : St) (Sh : Addr → Prop) (H : Hp) (S' : Fr) (σ' : St) (Sh' : Addr → Prop) (H' : Hp) : Prop where
  keep : ∀ b o, H b = some o → ¬ Ow S σ b → (∀ ps, o ≠ .tbl ps) → H' b = some o
  sub : ∀ b, Sh b → Sh' b
  new : ∀ b, Sh' b → Sh b ∨ Nn H b ∨ Ow S σ b
  own : ∀ b, Ow S' σ' b → Ow S σ b ∨ Nn H b
  io : ∀ (i : Nat) (xs : List D), S[i]? = some (.io xs) → σ'[i]? = σ[i]? ∧ ∃ ys, S'[i]? = some (.io ys)
  live : ∀ b, Nn H' b → Nn H b
section
variable {K : PySem.W.Frag} {S S1 S2 : Fr} {σ σ1 σ2 : St} {H H1 H2 : Hp} {Sh Sh1 Sh2 : Addr → Prop}
theorem Abs.owLst (A : Abs K S σ H Sh) {b : Addr} (o : Ow S σ b) : (∃ vs, H b = some (.lst vs)) ∧ ¬ Sh b := by
  obtain ⟨i, sl, ds, e1, e2, e3⟩ := o
  obtain ⟨a, vs, e4, e5, _, e6⟩ := A.ow i sl ds e1 e2
  rw [e3] at e4
  cases e4
  exact ⟨⟨vs, e5⟩, e6⟩
theorem Abs.nOw (A : Abs K S σ H Sh) {b : Addr} {o : HO} (e : H b = some o) (h : Sh b ∨ ¬ Mut (some o)) : ¬ Ow S σ b := fun w => by
  obtain ⟨⟨vs, e2⟩, e3⟩ := A.owLst w
  rcases h with h | h
  · exact e3 h
  · rw [e] at e2
    cases e2
    exact h trivial
theorem Ext.kp (E : Ext S σ Sh H S1 σ1 Sh1 H1) (A : Abs K S σ H Sh) : Kp Sh H H1 := fun b o e h nt => E.keep b o e (A.nOw e h) nt
theorem Ext.refl (A : Abs K S σ H Sh) : Ext S σ Sh H S σ Sh H :=
  ⟨fun _ _ h _ _ => h, fun _ h => h, fun _ h => .inl h, fun _ h => .inl h, fun _ xs h => ⟨rfl, xs, h⟩, fun _ h => h⟩
theorem Ext.trans (E : Ext S σ Sh H S1 σ1 Sh1 H1) (E' : Ext S1 σ1 Sh1 H1 S2 σ2 Sh2 H2) : Ext S σ Sh H S2 σ2 Sh2 H2 where
  keep := fun b o e n nt => by
    have e1 := E.keep b o e n nt
    refine E'.keep b o e1 (fun w => ?_) nt
    rcases E.own b w with z | z
    · exact n z
    · obtain ⟨ps, q⟩ := z _ e
      exact nt ps q
  sub := fun b h => E'.sub b (E.sub b h)
  new := fun b h => by
    rcases E'.new b h with h | h | h
    · exact E.new b h
    · exact .inr (.inl (E.live b h))
    · rcases E.own b h with z | z
      · exact .inr (.inr z)
      · exact .inr (.inl z)
  own := fun b h => by
    rcases E'.own b h with h | h
    · exact E.own b h
    · exact .inr (E.live b h)
  io := fun i xs h => by
    obtain ⟨e1, ys, e2⟩ := E.io i xs h
    obtain ⟨e3, zs, e4⟩ := E'.io i ys e2
    exact ⟨e3.trans e1, zs, e4⟩
  live := fun b h => E.live b (E'.live b h)
theorem Abs.newObj {p : Addr} {o : HO} (A : Abs K S σ H Sh) (hp : H p = none) : Abs K S σ (upd H p o) Sh := by
  have k : ∀ b u, H b = some u → upd H p o b = some u := fun b u e => by rw [upd_ne (ne_of_none e hp)]; exact e
  have kp : Kp Sh H (upd H p o) := fun b u e _ _ => k b u e
  refine ⟨A.len, fun i d e => ?_, fun i sl ds e1 e2 => ?_, A.inj, fun b h z => ?_, A.tab.ext k⟩
  · obtain ⟨v, e1, r⟩ := A.sh i d e
    exact ⟨v, e1, Rep.mono kp (fun _ h => h) _ _ r⟩
  · obtain ⟨a, vs, e3, e4, r, n⟩ := A.ow i sl ds e1 e2
    exact ⟨a, vs, e3, k _ _ e4, RepA.mono kp (fun _ h => h) _ _ r, n⟩
  · exact A.fresh b h (z.updN hp)
theorem Ext.newObj {p : Addr} {o : HO} (A : Abs K S σ H Sh) (hp : H p = none) : Ext S σ Sh H S σ Sh (upd H p o) :=
  ⟨fun b u e _ _ => by rw [upd_ne (ne_of_none e hp)]; exact e, fun _ h => h, fun _ h => .inl h, fun _ h => .inl h, fun _ xs h => ⟨rfl, xs, h⟩, fun b h => h.updN hp⟩
end

/-- a list is written: the tables stay -/
theorem tabs_upd {T : List (Addr × Str)} {H : Hp} {l : Addr} {us vs : List V} (t : LamX.Tabs T H) (h : H l = some (.lst us)) : LamX.Tabs T (upd H l (.lst vs)) := fun p hp => by
  obtain ⟨ps, h1, h2, h3⟩ := t p hp
  have ne : ∀ b o, H b = some o → (∀ xs, o ≠ .lst xs) → upd H l (.lst vs) b = some o := fun b o e n => by
    have nb : b ≠ l := fun z => by
      subst z
      rw [h] at e
      exact n us (Option.some.inj e).symm
    rw [upd_ne nb]
    exact e
  refine ⟨ps, ne _ _ h1 (fun _ z => by cases z), h2, fun pos cv hc => ?_⟩
  obtain ⟨c, e1, e2⟩ := h3 pos cv hc
  refine ⟨c, e1, ne _ _ e2 fun _ z => ?_⟩
  unfold LamX.CodeO at z
  cases z

/-! ### a value in hand -/
def RepX (K : PySem.W.Frag) (Sh : Addr → Prop) (S : Fr) (σ : St) (H : Hp) (v : V) : Vx → Prop
  | .val d => Rep K Sh H v d
  | .own i => σ[i]? = some (some v)
def deref (S : Fr) : Vx → Option D
  | .val d => some d
  | .own i => match S[i]? with
    | some (.sh d) => some d
    | some (.ow xs) => some (.lst xs)
    | some (.io xs) => some (.lst xs)
    | _ => none
/-- as Rep, a list at the top wherever it stands -/
def RepL (K : PySem.W.Frag) (Sh : Addr → Prop) (H : Hp) (v : V) : D → Prop
  | .lst ds => ∃ a vs, v = .ref a ∧ H a = some (.lst vs) ∧ RepA K Sh H vs ds
  | d => Rep K Sh H v d
section
variable {K : PySem.W.Frag} {S S1 : Fr} {σ : St} {H H1 : Hp} {Sh Sh1 : Addr → Prop} {v : V} {x : Vx} {d : D}
theorem Rep.toL (h : Rep K Sh H v d) : RepL K Sh H v d := by
  cases d with
  | lst ds =>
    cases h with
    | lst h1 h2 h3 => exact ⟨_, _, rfl, h1, h3⟩
  | _ => exact h
theorem RepX.ext (h : RepX K Sh S σ H v x) (A : Abs K S σ H Sh) (E : Ext S σ Sh H S1 σ Sh1 H1) : RepX K Sh1 S1 σ H1 v x := by
  cases x with
  | val d => exact Rep.mono (E.kp A) E.sub _ _ h
  | own i => exact h
theorem RepX.deref (h : RepX K Sh S σ H v x) (A : Abs K S σ H Sh) (e : deref S x = some d) : RepL K Sh H v d := by
  cases x with
  | val d' =>
    have e' : d' = d := Option.some.inj e
    subst e'
    exact Rep.toL h
  | own i =>
    unfold Z.deref at e
    simp only at e
    have h : σ[i]? = some (some v) := h
    cases q : S[i]? with
    | none => rw [q] at e; cases e
    | some sl =>
      rw [q] at e
      cases sl with
      | un => cases e
      | sh d' =>
        cases e
        obtain ⟨v', e1, r⟩ := A.sh i d q
        rw [h] at e1
        cases e1
        exact r.toL
      | ow xs =>
        cases e
        obtain ⟨a, vs, e3, e4, r, n⟩ := A.ow i _ xs q rfl
        rw [h] at e3
        cases e3
        exact ⟨a, vs, rfl, e4, r⟩
      | io xs =>
        cases e
        obtain ⟨a, vs, e3, e4, r, n⟩ := A.ow i _ xs q rfl
        rw [h] at e3
        cases e3
        exact ⟨a, vs, rfl, e4, r⟩
end

/-! ### what a computation is worth -/
/-- an exception of a class of the text -/
def XRep (mg : Str → Option Value) (H : Hp) (cls : Value) (d : Option Addr) (x : Xc) : Prop :=
  ∃ C, mg x.cls = some (.ref C) ∧ cls = .ref C ∧ match x.fld with
    | none => d = none
    | some (f, i) => ∃ a, d = some a ∧ H a = some (.xd [(f, .int i)])
def Go {α : Type} (K : PySem.W.Frag) (mg : Str → Option Value) (W : WX) (σ : St) (S : Fr) (Sh : Addr → Prop) (H : Hp) (r : Res α) (P : α → Fr → (Addr → Prop) → Hp → Prop) : Prop :=
  match r with
  | .ok a S' => ∀ Sh' H', Abs K S' σ H' Sh' → Ext S σ Sh H S' σ Sh' H' → P a S' Sh' H'
  | .exc x S' => ∀ cls d Sh' H', Abs K S' σ H' Sh' → Ext S σ Sh H S' σ Sh' H' → XRep mg H' cls d x → W cls d σ H'
  | .stuck => False
section
variable {K : PySem.W.Frag} {mg : Str → Option Value} {W : WX} {σ : St} {S : Fr} {Sh : Addr → Prop} {H : Hp} {α β : Type}
theorem Go.mono {r : Res α} {P P' : α → Fr → (Addr → Prop) → Hp → Prop} (h : Go K mg W σ S Sh H r P) (k : ∀ a S' Sh' H', Abs K S' σ H' Sh' → Ext S σ Sh H S' σ Sh' H' → P a S' Sh' H' → P' a S' Sh' H') : Go K mg W σ S Sh H r P' := by
  cases r with
  | ok a S' => exact fun Sh' H' A E => k a S' Sh' H' A E (h Sh' H' A E)
  | exc x S' => exact h
  | stuck => exact h
theorem Go.bind {r : Res α} {f : α → M β} {P : β → Fr → (Addr → Prop) → Hp → Prop} (h : Go K mg W σ S Sh H (r.bind f) P) :
    Go K mg W σ S Sh H r fun a S1 Sh1 H1 => Go K mg W σ S1 Sh1 H1 (f a S1) P := by
  cases r with
  | ok a S1 =>
    intro Sh1 H1 A1 E1
    have h : Go K mg W σ S Sh H (f a S1) P := h
    show Go K mg W σ S1 Sh1 H1 (f a S1) P
    cases q : f a S1 with
    | ok b S2 => rw [q] at h; exact fun Sh' H' A E => h Sh' H' A (E1.trans E)
    | exc x S2 => rw [q] at h; exact fun cls d Sh' H' A E => h cls d Sh' H' A (E1.trans E)
    | stuck => rw [q] at h; exact h
  | exc x S1 => exact h
  | stuck => exact h
theorem Go.here {a : α} {P : α → Fr → (Addr → Prop) → Hp → Prop} (A : Abs K S σ H Sh) (h : Go K mg W σ S Sh H (.ok a S) P) : P a S Sh H := h Sh H A (Ext.refl A)
theorem Go.fresh {a : α} {P : α → Fr → (Addr → Prop) → Hp → Prop} {p : Addr} {o : HO} (A : Abs K S σ H Sh) (hp : H p = none) (h : Go K mg W σ S Sh H (.ok a S) P) : P a S Sh (upd H p o) := h Sh _ (A.newObj hp) (Ext.newObj A hp)
end

/-! ### the judgements -/
section
variable (K : PySem.W.Frag) (mg : Str → Option Value) (W : WX)
def tE (m : M Vx) : TE := fun σ H Q => ∃ S Sh, Abs K S σ H Sh ∧ Go K mg W σ S Sh H (m S) fun x S' Sh' H' => ∀ v, RepX K Sh' S' σ H' v x → Q v H'
def tT (m : M Bool) : TT := fun σ H Q => ∃ S Sh, Abs K S σ H Sh ∧ Go K mg W σ S Sh H (m S) fun x S' Sh' H' => Q x H'
inductive RepXs (Sh : Addr → Prop) (S : Fr) (σ : St) (H : Hp) : List V → List Vx → Prop where
  | nil : RepXs Sh S σ H [] []
  | cons {v : V} {x : Vx} {vs : List V} {xs : List Vx} : RepX K Sh S σ H v x → RepXs Sh S σ H vs xs → RepXs Sh S σ H (v :: vs) (x :: xs)
def tA (m : M (List Vx)) : TA := fun σ H Q => ∃ S Sh, Abs K S σ H Sh ∧ Go K mg W σ S Sh H (m S) fun xs S' Sh' H' => ∀ vs, RepXs K Sh' S' σ H' vs xs → Q vs H'
end
def ME (X : Cx) (W : WX) (e : Expr) (m : M Vx) : Prop := PE X e (tE X.K X.mg W m)
def MT (X : Cx) (W : WX) (e : Expr) (m : M Bool) : Prop := PT X e (tT X.K X.mg W m)
def MW (X : Cx) (W : WX) (e : Expr) (m : M Bool) : Prop := PW X e (tT X.K X.mg W m)
def MA (X : Cx) (W : WX) (es : List Expr) (m : M (List Vx)) : Prop := PA X es (tA X.K X.mg W m)
theorem PE.imp {X : Cx} {e : Expr} {t t' : TE} (h : PE X e t) (k : ∀ σ H Q, t' σ H Q → t σ H Q) : PE X e t' := ⟨fun pins s σ H Q I q => h.run pins s σ H Q I (k σ H Q q)⟩
theorem PT.imp {X : Cx} {e : Expr} {t t' : TT} (h : PT X e t) (k : ∀ σ H Q, t' σ H Q → t σ H Q) : PT X e t' := ⟨fun pins s σ H Q I q => h.run pins s σ H Q I (k σ H Q q)⟩
theorem PW.imp {X : Cx} {e : Expr} {t t' : TT} (h : PW X e t) (k : ∀ σ H Q, t' σ H Q → t σ H Q) : PW X e t' := ⟨fun wh pins s σ H Q I q => h.run wh pins s σ H Q I (k σ H Q q)⟩
theorem PA.imp {X : Cx} {e : List Expr} {t t' : TA} (h : PA X e t) (k : ∀ σ H Q, t' σ H Q → t σ H Q) : PA X e t' := ⟨fun p pins s σ H Q I q => h.run p pins s σ H Q I (k σ H Q q)⟩
theorem RepXs.ext {K : PySem.W.Frag} {S S1 : Fr} {σ : St} {H H1 : Hp} {Sh Sh1 : Addr → Prop} (A : Abs K S σ H Sh) (E : Ext S σ Sh H S1 σ Sh1 H1) : ∀ {vs : List V} {xs : List Vx}, RepXs K Sh S σ H vs xs → RepXs K Sh1 S1 σ H1 vs xs
  | _, _, .nil => .nil
  | _, _, .cons r rs => .cons (r.ext A E) (rs.ext A E)

/-! ### names, constants -/
def mVar (i : Nat) : M Vx := fun S => match S[i]? with
  | some (.sh d) => .ok (.val d) S
  | some (.ow _) => .ok (.own i) S
  | some (.io _) => .ok (.own i) S
  | _ => .stuck
def mC (d : D) : M Vx := fun S => .ok (.val d) S
section
variable {X : Cx} {W : WX} {pos : Pos} {a b c : Expr} {ma mb mc : M Vx}
theorem e_var {i : Nat} {x : Str} (hN : X.N[i]? = some x) (hv : Vis X.env.scope x) (hd : (x == ("__debug__" : Str)) = false := by decide) (hcd : (x == ("__classdict__" : Str)) = false := by decide) : ME X W (.Name x pos) (mVar i) := by
  refine PE.imp (pe_var hN hv hd hcd) fun σ H Q ⟨S, Sh, A, g⟩ => ?_
  unfold mVar at g
  cases q : S[i]? with
  | none => rw [q] at g; exact g.elim
  | some sl =>
    rw [q] at g
    cases sl with
    | un => exact g.elim
    | sh d =>
      obtain ⟨v, e, r⟩ := A.sh i d q
      exact ⟨v, e, g.here A v r⟩
    | ow xs =>
      obtain ⟨a, vs, e3, e4, r, n⟩ := A.ow i _ xs q rfl
      exact ⟨_, e3, g.here A _ e3⟩
    | io xs =>
      obtain ⟨a, vs, e3, e4, r, n⟩ := A.ow i _ xs q rfl
      exact ⟨_, e3, g.here A _ e3⟩
theorem e_int {i j} : ME X W (.Constant (.int i) j pos) (mC (.int i)) := PE.imp pe_int fun σ H Q ⟨S, Sh, A, g⟩ => g.here A _ .int
theorem e_bl {i j} : ME X W (.Constant (.bool i) j pos) (mC (.bl i)) := PE.imp pe_bl fun σ H Q ⟨S, Sh, A, g⟩ => g.here A _ .bl
theorem e_non {j} : ME X W (.Constant .none j pos) (mC .non) := PE.imp pe_non fun σ H Q ⟨S, Sh, A, g⟩ => g.here A _ .non
theorem e_str {i j} : ME X W (.Constant (.str i) j pos) (mC (.str i)) := PE.imp pe_str fun σ H Q ⟨S, Sh, A, g⟩ => g.here A _ .str
theorem e_globI {x : Str} {i : Int} (hg : Gl X x) (hm : ∃ t, X.mg x = some (.int i t)) (hd : (x == ("__debug__" : Str)) = false := by decide) : ME X W (.Name x pos) (mC (.int i)) := by
  obtain ⟨t, hm⟩ := hm
  exact PE.imp (pe_glob (v := .int i) hg hm ⟨t, rfl⟩ hd) fun σ H Q ⟨S, Sh, A, g⟩ => g.here A _ .int
theorem e_globS {x : Str} {i : Str} (hg : Gl X x) (hm : ∃ t, X.mg x = some (.str i t)) (hd : (x == ("__debug__" : Str)) = false := by decide) : ME X W (.Name x pos) (mC (.str i)) := by
  obtain ⟨t, hm⟩ := hm
  exact PE.imp (pe_glob (v := .str i) hg hm ⟨t, rfl⟩ hd) fun σ H Q ⟨S, Sh, A, g⟩ => g.here A _ .str

/-! ### operators -/
/-- a rule by values serves an operation on values in hand -/
def Op2 (X : Cx) (r : R2) (op : Vx → Vx → M Vx) : Prop := ∀ (W : WX) (S : Fr) (Sh : Addr → Prop) (σ : St) (H : Hp) (v u : V) (x y : Vx) (Q : VK), Abs X.K S σ H Sh → RepX X.K Sh S σ H v x → RepX X.K Sh S σ H u y →
  Go X.K X.mg W σ S Sh H (op x y S) (fun z S' Sh' H' => ∀ w, RepX X.K Sh' S' σ H' w z → Q w H') → r v u H Q
def m2 (op : Vx → Vx → M Vx) (ma mb : M Vx) : M Vx := bnd ma fun x => bnd mb fun y => op x y
theorem e_op {op : Operator} {r : R2} {f : Vx → Vx → M Vx} (ho : OpR X (binaryOp op) r) (h : Op2 X r f) (ha : ME X W a ma) (hb : ME X W b mb) : ME X W (.BinOp a op b pos) (m2 f ma mb) := by
  refine PE.imp (pe_op ho ha hb) fun σ H Q ⟨S, Sh, A, g⟩ => ?_
  exact ⟨S, Sh, A, g.bind.mono fun x S1 Sh1 H1 A1 E1 g1 v rv => ⟨S1, Sh1, A1, g1.bind.mono fun y S2 Sh2 H2 A2 E2 g2 u ru => h W S2 Sh2 σ H2 v u x y Q A2 (rv.ext A1 E2) ru g2⟩⟩
theorem e_cmp {op : CmpOp} {r : R2} {f : Vx → Vx → M Vx} (ho : OpR X (compareOp op) r) (h : Op2 X r f) (ha : ME X W a ma) (hb : ME X W b mb) (hm : behindInMarks op b = false := by first | exact nomark _ | rfl) : ME X W (.Compare a [op] [b] pos) (m2 f ma mb) := by
  refine PE.imp (pe_cmpR ho ha hb hm) fun σ H Q ⟨S, Sh, A, g⟩ => ?_
  exact ⟨S, Sh, A, g.bind.mono fun x S1 Sh1 H1 A1 E1 g1 v rv => ⟨S1, Sh1, A1, g1.bind.mono fun y S2 Sh2 H2 A2 E2 g2 u ru => h W S2 Sh2 σ H2 v u x y Q A2 (rv.ext A1 E2) ru g2⟩⟩
/-- a test by a value that is a bool -/
def toB (m : M Vx) : M Bool := bnd m fun x S => match deref S x with
  | some (.bl b) => .ok b S
  | _ => .stuck
theorem go_toB {σ : St} {S : Fr} {Sh : Addr → Prop} {H : Hp} {x : Vx} {v : V} {P : Bool → Fr → (Addr → Prop) → Hp → Prop} {mg : Str → Option Value} {K : PySem.W.Frag} (A : Abs K S σ H Sh) (r : RepX K Sh S σ H v x)
    (g : Go K mg W σ S Sh H ((fun S => match deref S x with | some (.bl b) => .ok b S | _ => .stuck : M Bool) S) P) : ∃ k, v = .bl k ∧ P k S Sh H := by
  simp only at g
  cases q : deref S x with
  | none => rw [q] at g; exact g.elim
  | some d =>
    have rl := r.deref A q
    rw [q] at g
    cases d with
    | bl k =>
      cases rl
      exact ⟨k, rfl, g.here A⟩
    | _ => exact g.elim
theorem t_val (h : ME X W a ma) (he : ∀ whole, isTrue a X.env whole = (do let v ← whole; standAt a.pos; holding [v] (truthy v)) := by intro _; rfl) : MT X W a (toB ma) := by
  refine PT.imp (pt_val h he) fun σ H Q ⟨S, Sh, A, g⟩ => ?_
  exact ⟨S, Sh, A, g.bind.mono fun x S1 Sh1 H1 A1 E1 g1 v rv => go_toB A1 rv g1⟩
theorem t_cmp {op : CmpOp} {r : R2} {f : Vx → Vx → M Vx} (ho : OpR X (compareOp op) r) (h : Op2 X r f) (ha : ME X W a ma) (hb : ME X W b mb) (hm : behindInMarks op b = false := by first | exact nomark _ | rfl) : MT X W (.Compare a [op] [b] pos) (toB (m2 f ma mb)) := by
  refine PT.imp (pt_cmpR ho ha hb hm) fun σ H Q ⟨S, Sh, A, g⟩ => ?_
  refine ⟨S, Sh, A, g.bind.bind.mono fun x S1 Sh1 H1 A1 E1 g1 v rv => ⟨S1, Sh1, A1, g1.bind.mono fun y S2 Sh2 H2 A2 E2 g2 u ru => ?_⟩⟩
  refine h W S2 Sh2 σ H2 v u x y _ A2 (rv.ext A1 E2) ru (g2.mono fun z S3 Sh3 H3 A3 E3 g3 w rw => ?_)
  exact go_toB A3 rw g3
end
end Z
set_option maxHeartbeats 4000000
/-! Z2: operators, comparisons, subscripts, slices, tests, displays. -/
namespace Z
open PySem PySem.Spec PyProof.Rows L2
variable [LT]

/-! ### operations on data -/
def d2 (f : D → D → Option D) : Vx → Vx → M Vx := fun x y S => match deref S x, deref S y with
  | some a, some b => (match f a b with
    | some z => .ok (.val z) S
    | none => .stuck)
  | _, _ => .stuck
/-- what may be handed back: data that stands, or that stands behind one new object -/
structure Fin (K : PySem.W.Frag) (Sh : Addr → Prop) (H : Hp) (z : D) (Q : VK) : Prop where
  old : ∀ w, Rep K Sh H w z → Q w H
  new : ∀ p o w, H p = none → (∀ ps, o ≠ .tbl ps) → Rep K (fun b => Sh b ∨ b = p) (upd H p o) w z → Q w (upd H p o)
section
variable {K : PySem.W.Frag} {mg : Str → Option Value} {W : WX} {σ : St} {S : Fr} {Sh : Addr → Prop} {H : Hp}
theorem Abs.share {p : Addr} {o : HO} (A : Abs K S σ H Sh) (hp : H p = none) (no : ∀ ps, o ≠ .tbl ps) : Abs K S σ (upd H p o) (fun b => Sh b ∨ b = p) := by
  have A' := A.newObj (o := o) hp
  refine ⟨A'.len, fun i d e => ?_, fun i sl ds e1 e2 => ?_, A'.inj, fun b h => ?_, A'.tab⟩
  · obtain ⟨v, e1, r⟩ := A'.sh i d e
    exact ⟨v, e1, Rep.mono Kp.refl (fun _ h => .inl h) _ _ r⟩
  · obtain ⟨a, vs, e3, e4, r, n⟩ := A'.ow i sl ds e1 e2
    refine ⟨a, vs, e3, e4, RepA.mono Kp.refl (fun _ h => .inl h) _ _ r, fun z => ?_⟩
    rcases z with z | z
    · exact n z
    · obtain ⟨a2, vs2, e5, e6, _⟩ := A.ow i sl ds e1 e2
      rw [e3] at e5
      cases e5
      rw [z, hp] at e6
      cases e6
  · rcases h with h | h
    · exact A'.fresh b h
    · intro z
      rw [h] at z
      obtain ⟨ps, e⟩ := z o upd_same
      exact no ps e
theorem Ext.share {p : Addr} {o : HO} (A : Abs K S σ H Sh) (hp : H p = none) : Ext S σ Sh H S σ (fun b => Sh b ∨ b = p) (upd H p o) :=
  ⟨fun b u e _ _ => by rw [upd_ne (ne_of_none e hp)]; exact e, fun _ h => .inl h, fun b h => by
    rcases h with h | h
    · exact .inl h
    · rw [h]; exact .inr (.inl (.of hp)), fun _ h => .inl h, fun _ xs h => ⟨rfl, xs, h⟩, fun b h => h.updN hp⟩
theorem Go.fin {z : D} {Q : VK} (A : Abs K S σ H Sh) (g : Go K mg W σ S Sh H (.ok (.val z) S) fun x S' Sh' H' => ∀ w, RepX K Sh' S' σ H' w x → Q w H') : Fin K Sh H z Q :=
  ⟨fun w r => g.here A w r, fun p o w hp no r => g _ _ (A.share hp no) (Ext.share A hp) w r⟩
theorem go_d2 {f : D → D → Option D} {x y : Vx} {v u : V} {P : Vx → Fr → (Addr → Prop) → Hp → Prop} (A : Abs K S σ H Sh) (rx : RepX K Sh S σ H v x) (ry : RepX K Sh S σ H u y) (g : Go K mg W σ S Sh H (d2 f x y S) P) :
    ∃ a b z, RepL K Sh H v a ∧ RepL K Sh H u b ∧ f a b = some z ∧ Go K mg W σ S Sh H (.ok (.val z) S) P := by
  unfold d2 at g
  cases q : deref S x with
  | none => rw [q] at g; exact g.elim
  | some a =>
    rw [q] at g
    cases q2 : deref S y with
    | none => rw [q2] at g; exact g.elim
    | some b =>
      rw [q2] at g
      cases q3 : f a b with
      | none => simp only [q3] at g; exact g.elim
      | some z =>
        simp only [q3] at g
        exact ⟨a, b, z, rx.deref A q, ry.deref A q2, q3, g⟩
theorem op2_of {X : Cx} {r : R2} {f : D → D → Option D} (h : ∀ (Sh : Addr → Prop) (H : Hp) (v u : V) (a b z : D) (Q : VK), RepL X.K Sh H v a → RepL X.K Sh H u b → f a b = some z → Fin X.K Sh H z Q → r v u H Q) : Op2 X r (d2 f) :=
  fun W S Sh σ H v u x y Q A rx ry g => by
    obtain ⟨a, b, z, h1, h2, h3, g'⟩ := go_d2 A rx ry g
    exact h Sh H v u a b z Q h1 h2 h3 (g'.fin A)
end
section
variable {K : PySem.W.Frag} {Sh : Addr → Prop} {H : Hp} {v : V}
theorem RepL.int {i : Int} (h : RepL K Sh H v (.int i)) : v = .int i := by cases h; rfl
theorem RepL.bl {i : Bool} (h : RepL K Sh H v (.bl i)) : v = .bl i := by cases h; rfl
theorem RepL.str {i : Str} (h : RepL K Sh H v (.str i)) : v = .str i := by cases h; rfl
theorem RepL.non (h : RepL K Sh H v .non) : v = .non := by cases h; rfl
theorem RepL.tup {ds : List D} (h : RepL K Sh H v (.tup ds)) : ∃ a vs, v = .ref a ∧ SqT K H a vs ∧ RepA K Sh H vs ds := by
  cases h with
  | tup h1 h2 => exact ⟨_, _, rfl, h1, h2⟩
theorem RepL.lst {ds : List D} (h : RepL K Sh H v (.lst ds)) : ∃ a vs, v = .ref a ∧ H a = some (.lst vs) ∧ RepA K Sh H vs ds := h
end

/-! #### + - * // % ** -/
def fAdd : D → D → Option D
  | .int i, .int j => some (.int (i + j))
  | .tup xs, .tup ys => if xs.length + ys.length ≤ sizeLine then some (.tup (xs ++ ys)) else none
  | .lst xs, .lst ys => if xs.length + ys.length ≤ sizeLine then some (.lst (xs ++ ys)) else none
  | .str x, .str y => if x.length + y.length ≤ sizeLine then some (.str (x ++ y)) else none
  | _, _ => none
def fSub : D → D → Option D
  | .int i, .int j => some (.int (i - j))
  | _, _ => none
def fMul : D → D → Option D
  | .int i, .int j => if i.natAbs.log2 + j.natAbs.log2 < 130000000 then some (.int (i * j)) else none
  | .lst xs, .int k => if 0 ≤ k ∧ k ≤ 100000 ∧ xs.length ≤ 100 then some (.lst (List.replicate k.toNat xs).flatten) else none
  | .tup xs, .int k => if 2 ≤ k ∧ k ≤ 1000 ∧ xs.length ≤ 1000 ∧ xs.isEmpty = false then some (.tup (List.replicate k.toNat xs).flatten) else none
  | _, _ => none
def fDiv : D → D → Option D
  | .int i, .int j => if 0 < j ∧ j.natAbs.log2 < 9000 then some (.int (i / j)) else none
  | _, _ => none
def fMod : D → D → Option D
  | .int i, .int j => if 0 < j then some (.int (i % j)) else none
  | _, _ => none
def fPow : D → D → Option D
  | .int i, .int j => if 0 ≤ j ∧ j ≤ 1000000 ∧ i.natAbs < 2 ^ 64 then some (.int (i ^ j.toNat)) else none
  | _, _ => none
def rAddA (K : PySem.W.Frag) : R2 := fun x y H Q => rI0 (fun i j => .int (i + j)) x y H Q ∨ (rCatA K x y H Q ∨ (rCat x y H Q ∨ ∃ i j, x = .str i ∧ y = .str j ∧ i.length + j.length ≤ sizeLine ∧ Q (.str (i ++ j)) H))
theorem or_add {X : Cx} : OpR X (binaryOp .Add) (rAddA X.K) := op_add.or (op_catA.or (op_cat.or op_add_str))
theorem o2_add {X : Cx} : Op2 X (rAddA X.K) (d2 fAdd) := op2_of fun Sh H v u a b z Q ha hb e q => by
  cases a <;> cases b <;> try (cases e; done)
  · rename_i i j
    have e' : D.int (i + j) = z := Option.some.inj e
    subst e'
    exact .inl ⟨i, j, ha.int, hb.int, q.old _ .int⟩
  · rename_i i j
    unfold fAdd at e
    simp only at e
    split at e
    · rename_i hl
      cases e
      refine .inr (.inr (.inr ⟨i, j, ha.str, hb.str, hl, q.old _ .str⟩))
    · cases e
  · rename_i xs ys
    unfold fAdd at e
    simp only at e
    split at e
    · rename_i hl
      cases e
      obtain ⟨p1, vs, rfl, s1, r1⟩ := ha.tup
      obtain ⟨p2, us, rfl, s2, r2⟩ := hb.tup
      refine .inr (.inl ⟨p1, p2, vs, us, rfl, rfl, s1, s2, by rw [r1.length, r2.length]; exact hl, fun z => ?_, fun _ z => ?_, fun _ _ p hp => ?_⟩)
      · subst z
        cases xs with
        | nil => exact q.old _ (.tup s2 (by simpa using r2))
        | cons x xs => cases r1
      · subst z
        cases ys with
        | nil => exact q.old _ (.tup s1 (by simpa using r1))
        | cons x xs => cases r2
      · have k : Kp Sh H (upd H p (.tup (vs ++ us))) := fun b u e _ _ => by rw [upd_ne (ne_of_none e hp)]; exact e
        exact q.new p _ _ hp (fun _ z => by cases z) (.tup (.inl (.inl upd_same)) ((r1.append r2).mono k (fun _ h => .inl h)))
    · cases e
  · rename_i xs ys
    unfold fAdd at e
    simp only at e
    split at e
    · rename_i hl
      cases e
      obtain ⟨p1, vs, rfl, s1, r1⟩ := ha.lst
      obtain ⟨p2, us, rfl, s2, r2⟩ := hb.lst
      refine .inr (.inr (.inl ⟨p1, p2, vs, us, rfl, rfl, s1, s2, by rw [r1.length, r2.length]; exact hl, fun p hp => ?_⟩))
      have k : Kp Sh H (upd H p (.lst (vs ++ us))) := fun b u e _ _ => by rw [upd_ne (ne_of_none e hp)]; exact e
      exact q.new p _ _ hp (fun _ z => by cases z) (.lst upd_same (.inr rfl) ((r1.append r2).mono k (fun _ h => .inl h)))
    · cases e
theorem o2_sub {X : Cx} : Op2 X (rI0 fun i j => .int (i - j)) (d2 fSub) := op2_of fun Sh H v u a b z Q ha hb e q => by
  cases a <;> cases b <;> try (cases e; done)
  cases e
  exact ⟨_, _, ha.int, hb.int, q.old _ .int⟩
def CMulZ (i j : Int) : Prop := i.natAbs.log2 + j.natAbs.log2 < 130000000
theorem CMulZ.ok {i j : Int} (h : CMulZ i j) : IntMulOk i j := by
  have b : ∀ x : Int, Builtin.Int.intBits x ≤ x.natAbs.log2 + 1 := fun x => by
    unfold Builtin.Int.intBits
    split <;> omega
  have h1 := b i
  have h2 := b j
  have h3 : i.natAbs.log2 + j.natAbs.log2 < 130000000 := h
  have e : bitsLine = 134217728 := by decide
  unfold IntMulOk
  intro z
  rw [Bool.and_eq_true] at z
  have z2 := z.2
  unfold Builtin.Int.intTooBig at z2
  have z3 := of_decide_eq_true z2
  rw [e] at z3
  omega
def rMulA (K : PySem.W.Frag) : R2 := fun x y H Q => rI CMulZ (fun i j => .int (i * j)) x y H Q ∨ (rRep x y H Q ∨ rRepT K x y H Q)
theorem or_mul {X : Cx} : OpR X (binaryOp .Mult) (rMulA X.K) := (opI fun _ _ _ _ _ _ _ hc q => mul_int q hc.ok).or (op_rep.or op_repT)
theorem mul_pt {K : PySem.W.Frag} (Sh : Addr → Prop) (H : Hp) (v u : V) (a b z : D) (Q : VK) (ha : RepL K Sh H v a) (hb : RepL K Sh H u b) (e : fMul a b = some z) (q : Fin K Sh H z Q) : rMulA K v u H Q := by
  cases a <;> cases b <;> try (cases e; done)
  · rename_i i j
    unfold fMul at e
    simp only at e
    split at e
    · rename_i hl
      cases e
      exact .inl ⟨i, j, ha.int, hb.int, hl, q.old _ .int⟩
    · cases e
  · rename_i xs k
    unfold fMul at e
    simp only at e
    split at e
    · rename_i hl
      cases e
      obtain ⟨p1, vs, rfl, s1, r1⟩ := ha.tup
      have hv : vs ≠ [] := fun z => by
        subst z
        cases xs with
        | nil => exact absurd hl.2.2.2 (by simp)
        | cons x xs => cases r1
      refine .inr (.inr ⟨p1, k, vs, rfl, hb.int, s1, hv, hl.1, hl.2.1, by rw [r1.length]; exact hl.2.2.1, fun p hp => ?_⟩)
      have kk : Kp Sh H (upd H p (.tup (List.replicate k.toNat vs).flatten)) := fun b u e _ _ => by rw [upd_ne (ne_of_none e hp)]; exact e
      exact q.new p _ _ hp (fun _ z => by cases z) (.tup (.inl (.inl upd_same)) ((r1.rep k.toNat).mono kk (fun _ h => .inl h)))
    · cases e
  · rename_i xs k
    unfold fMul at e
    simp only at e
    split at e
    · rename_i hl
      cases e
      obtain ⟨p1, vs, rfl, s1, r1⟩ := ha.lst
      refine .inr (.inl ⟨p1, k, vs, rfl, hb.int, s1, by omega, by omega, ?_, fun p hp => ?_⟩)
      · rw [r1.length]
        have h1 : xs.length * k.toNat ≤ 100 * 100000 := Nat.mul_le_mul hl.2.2 (by omega)
        exact Nat.le_trans h1 (by decide)
      have kk : Kp Sh H (upd H p (.lst (List.replicate k.toNat vs).flatten)) := fun b u e _ _ => by rw [upd_ne (ne_of_none e hp)]; exact e
      exact q.new p _ _ hp (fun _ z => by cases z) (.lst upd_same (.inr rfl) ((r1.rep k.toNat).mono kk (fun _ h => .inl h)))
    · cases e
theorem o2_mul {X : Cx} : Op2 X (rMulA X.K) (d2 fMul) := op2_of mul_pt
theorem o2_div {X : Cx} : Op2 X (rI CDivW fun i j => .int (i / j)) (d2 fDiv) := op2_of fun Sh H v u a b z Q ha hb e q => by
  cases a <;> cases b <;> try (cases e; done)
  unfold fDiv at e
  simp only at e
  split at e
  · rename_i hl
    cases e
    exact ⟨_, _, ha.int, hb.int, hl, q.old _ .int⟩
  · cases e
theorem o2_mod {X : Cx} : Op2 X (rI (fun _ j => 0 < j) fun i j => .int (i % j)) (d2 fMod) := op2_of fun Sh H v u a b z Q ha hb e q => by
  cases a <;> cases b <;> try (cases e; done)
  unfold fMod at e
  simp only at e
  split at e
  · rename_i hl
    cases e
    exact ⟨_, _, ha.int, hb.int, hl, q.old _ .int⟩
  · cases e
theorem o2_pow {X : Cx} : Op2 X (rI CPow fun i j => .int (i ^ j.toNat)) (d2 fPow) := op2_of fun Sh H v u a b z Q ha hb e q => by
  cases a <;> cases b <;> try (cases e; done)
  unfold fPow at e
  simp only at e
  split at e
  · rename_i hl
    cases e
    exact ⟨_, _, ha.int, hb.int, hl, q.old _ .int⟩
  · cases e

/-! #### comparisons -/
mutual
def D.toPy : D → PyData
  | .non => .none
  | .bl b => .bool b
  | .int i => .int i
  | .str x => .str x
  | .tup xs => .tuple (D.toPyA xs)
  | .lst xs => .list (D.toPyA xs)
  | .frz xs => .list (D.toPyA xs)
def D.toPyA : List D → List PyData
  | [] => []
  | x :: xs => D.toPy x :: D.toPyA xs
end
def deq (a b : D) : Bool := PyData.eqv a.toPy b.toPy
def shp (a : D) : Bool := SeqAt.shaped a.toPy
section
variable {K : PySem.W.Frag} {Sh : Addr → Prop} {H : Hp}
mutual
theorem Rep.dp : ∀ (d : D) (v : V), Rep K Sh H v d → Dp K H v d.toPy
  | .non, _, h => by cases h; exact .non
  | .bl _, _, h => by cases h; exact .bl _
  | .int _, _, h => by cases h; exact .int _
  | .str _, _, h => by cases h; exact .str _
  | .tup ds, _, h => by
    cases h with
    | tup h1 h2 => exact .tup h1 (RepA.dp ds _ h2)
  | .frz ds, _, h => by
    cases h with
    | frz h1 h2 => exact .lst h1.l (RepA.dp ds _ h2)
  | .lst ds, _, h => by
    cases h with
    | lst h1 h2 h3 => exact .lst (.inl (.inl h1)) (RepA.dp ds _ h3)
theorem RepA.dp : ∀ (ds : List D) (vs : List V), RepA K Sh H vs ds → DpAll K H vs (D.toPyA ds)
  | [], _, h => by cases h; exact .nil
  | d :: ds, _, h => by
    cases h with
    | cons h1 h2 => exact .cons (Rep.dp d _ h1) (RepA.dp ds _ h2)
end
theorem RepL.dp {d : D} {v : V} (h : RepL K Sh H v d) : Dp K H v d.toPy := by
  cases d with
  | lst ds =>
    obtain ⟨a, vs, rfl, e, r⟩ := h
    exact .lst (.inl (.inl e)) (RepA.dp ds _ r)
  | _ => exact Rep.dp _ _ h
end
def fEq (a b : D) : Option D := if shp a = true ∧ shp b = true then some (.bl (deq a b)) else none
def fNe (a b : D) : Option D := if shp a = true ∧ shp b = true then some (.bl (!deq a b)) else none
theorem o2_eq {X : Cx} : Op2 X (rEqD X.K) (d2 fEq) := op2_of fun Sh H v u a b z Q ha hb e q => by
  unfold fEq at e
  split at e
  · rename_i hs
    cases e
    exact ⟨_, _, ha.dp, hb.dp, hs.1, hs.2, q.old _ .bl⟩
  · cases e
theorem o2_ne {X : Cx} : Op2 X (rNeD X.K) (d2 fNe) := op2_of fun Sh H v u a b z Q ha hb e q => by
  unfold fNe at e
  split at e
  · rename_i hs
    cases e
    exact ⟨_, _, ha.dp, hb.dp, hs.1, hs.2, q.old _ .bl⟩
  · cases e
def fLt : D → D → Option D
  | .int i, .int j => some (.bl (decide (i < j)))
  | _, _ => none
def fLe : D → D → Option D
  | .int i, .int j => some (.bl (decide (i ≤ j)))
  | _, _ => none
def fGt : D → D → Option D
  | .int i, .int j => some (.bl (decide (j < i)))
  | _, _ => none
def fGe : D → D → Option D
  | .int i, .int j => some (.bl (decide (j ≤ i)))
  | _, _ => none
theorem o2_lt {X : Cx} : Op2 X (rI0 fun i j => .bl (decide (i < j))) (d2 fLt) := op2_of fun Sh H v u a b z Q ha hb e q => by
  cases a <;> cases b <;> try (cases e; done)
  cases e
  exact ⟨_, _, ha.int, hb.int, q.old _ .bl⟩
theorem o2_le {X : Cx} : Op2 X (rI0 fun i j => .bl (decide (i ≤ j))) (d2 fLe) := op2_of fun Sh H v u a b z Q ha hb e q => by
  cases a <;> cases b <;> try (cases e; done)
  cases e
  exact ⟨_, _, ha.int, hb.int, q.old _ .bl⟩
theorem o2_gt {X : Cx} : Op2 X (rI0 fun i j => .bl (decide (j < i))) (d2 fGt) := op2_of fun Sh H v u a b z Q ha hb e q => by
  cases a <;> cases b <;> try (cases e; done)
  cases e
  exact ⟨_, _, ha.int, hb.int, q.old _ .bl⟩
theorem o2_ge {X : Cx} : Op2 X (rI0 fun i j => .bl (decide (j ≤ i))) (d2 fGe) := op2_of fun Sh H v u a b z Q ha hb e q => by
  cases a <;> cases b <;> try (cases e; done)
  cases e
  exact ⟨_, _, ha.int, hb.int, q.old _ .bl⟩
def D.isNon : D → Bool
  | .non => true
  | _ => false
def fIs : D → D → Option D
  | a, .non => some (.bl a.isNon)
  | _, _ => none
def fIsNot : D → D → Option D
  | a, .non => some (.bl (!a.isNon))
  | _, _ => none
theorem RepL.isNon {K : PySem.W.Frag} {Sh : Addr → Prop} {H : Hp} {v : V} {a : D} (h : RepL K Sh H v a) : decide (v = .non) = a.isNon := by
  cases a with
  | non => cases h; rfl
  | bl b => cases h; rfl
  | int b => cases h; rfl
  | str b => cases h; rfl
  | tup b => obtain ⟨a, vs, rfl, _⟩ := h.tup; rfl
  | lst b => obtain ⟨a, vs, rfl, _⟩ := h.lst; rfl
  | frz b => cases h; rfl
theorem o2_is {X : Cx} : Op2 X (fun x y H Q => y = .non ∧ Q (.bl (decide (x = .non))) H) (d2 fIs) := op2_of fun Sh H v u a b z Q ha hb e q => by
  cases b <;> try (cases a <;> cases e; done)
  have e' : z = .bl a.isNon := by cases a <;> cases e <;> rfl
  subst e'
  exact ⟨hb.non, by rw [ha.isNon]; exact q.old _ .bl⟩
theorem o2_isnot {X : Cx} : Op2 X (fun x y H Q => y = .non ∧ Q (.bl (!decide (x = .non))) H) (d2 fIsNot) := op2_of fun Sh H v u a b z Q ha hb e q => by
  cases b <;> try (cases a <;> cases e; done)
  have e' : z = .bl (!a.isNon) := by cases a <;> cases e <;> rfl
  subst e'
  exact ⟨hb.non, by rw [ha.isNon]; exact q.old _ .bl⟩
/-- x in (..), flat items -/
def D.flat : D → Bool
  | .non => true
  | .bl _ => true
  | .int _ => true
  | .str _ => true
  | _ => false
def D.feq : D → D → Bool
  | .non, .non => true
  | .bl a, .bl b => a == b
  | .bl a, .int b => (if a then 1 else 0) == b
  | .int a, .bl b => a == (if b then 1 else 0)
  | .int a, .int b => a == b
  | .str a, .str b => a == b
  | _, _ => false
def D.items : D → Option (List D)
  | .tup xs => some xs
  | .lst xs => some xs
  | _ => none
def fIn (a b : D) : Option D := match b.items with
  | some ds => if a.flat = true ∧ ds.all D.flat = true then some (.bl (ds.any fun d => d.feq a)) else none
  | none => none
def fNotIn (a b : D) : Option D := match b.items with
  | some ds => if a.flat = true ∧ ds.all D.flat = true then some (.bl (!ds.any fun d => d.feq a)) else none
  | none => none
section
variable {K : PySem.W.Frag} {Sh : Addr → Prop} {H : Hp}
theorem Rep.flatV {v : V} {a : D} (h : Rep K Sh H v a) : flatV v = a.flat := by cases h <;> rfl
theorem Rep.eqV {v u : V} {a b : D} (h : Rep K Sh H v a) (h' : Rep K Sh H u b) : eqV v u = a.feq b := by cases h <;> cases h' <;> rfl
theorem RepA.flatV : ∀ {ds : List D} {vs : List V}, RepA K Sh H vs ds → vs.all L2.flatV = ds.all D.flat
  | [], _, h => by cases h; rfl
  | d :: ds, _, h => by
    cases h with
    | cons h1 h2 => rw [List.all_cons, List.all_cons, Rep.flatV h1, RepA.flatV h2]
theorem RepA.inV {v : V} {a : D} (h : Rep K Sh H v a) : ∀ {ds : List D} {vs : List V}, RepA K Sh H vs ds → inV v vs = ds.any fun d => d.feq a
  | [], _, h => by cases h; rfl
  | d :: ds, _, h' => by
    cases h' with
    | cons h1 h2 =>
      rw [List.any_cons, ← RepA.inV h h2, ← Rep.eqV h1 h]
      rfl
theorem RepL.items {v : V} {b : D} {ds : List D} (h : RepL K Sh H v b) (e : b.items = some ds) : ∃ p vs, v = .ref p ∧ (SqL K H p vs ∨ SqT K H p vs) ∧ RepA K Sh H vs ds := by
  cases b with
  | tup xs =>
    cases e
    obtain ⟨a, vs, rfl, h1, h2⟩ := h.tup
    exact ⟨a, vs, rfl, .inr h1, h2⟩
  | lst xs =>
    cases e
    obtain ⟨a, vs, rfl, h1, h2⟩ := h.lst
    exact ⟨a, vs, rfl, .inl (.inl (.inl h1)), h2⟩
  | _ => cases e
end
theorem RepL.ofFlat {K : PySem.W.Frag} {Sh : Addr → Prop} {H : Hp} {v : V} {a : D} (h : RepL K Sh H v a) (f : a.flat = true) : Rep K Sh H v a := by
  cases a <;> first | exact h | cases f
theorem o2_in {X : Cx} : Op2 X (rIn X.K false) (d2 fIn) := op2_of fun Sh H v u a b z Q ha hb e q => by
  unfold fIn at e
  cases q1 : b.items with
  | none => rw [q1] at e; cases e
  | some ds =>
    rw [q1] at e
    simp only at e
    split at e
    · rename_i hs
      cases e
      obtain ⟨p, vs, rfl, h1, h2⟩ := hb.items q1
      have ra := ha.ofFlat hs.1
      refine ⟨p, vs, rfl, h1, by rw [ra.flatV]; exact hs.1, by rw [h2.flatV]; exact hs.2, ?_⟩
      rw [if_neg (by simp), RepA.inV ra h2]
      exact q.old _ .bl
    · cases e
theorem o2_notin {X : Cx} : Op2 X (rIn X.K true) (d2 fNotIn) := op2_of fun Sh H v u a b z Q ha hb e q => by
  unfold fNotIn at e
  cases q1 : b.items with
  | none => rw [q1] at e; cases e
  | some ds =>
    rw [q1] at e
    simp only at e
    split at e
    · rename_i hs
      cases e
      obtain ⟨p, vs, rfl, h1, h2⟩ := hb.items q1
      have ra := ha.ofFlat hs.1
      refine ⟨p, vs, rfl, h1, by rw [ra.flatV]; exact hs.1, by rw [h2.flatV]; exact hs.2, ?_⟩
      rw [if_pos rfl, RepA.inV ra h2]
      exact q.old _ .bl
    · cases e

/-! #### items, slices -/
def fIx (a b : D) : Option D := match a, b with
  | .tup xs, .int i => atI xs i
  | .lst xs, .int i => atI xs i
  | .str x, .int i => if x.length ≤ sizeLine then (atI x.cps.toList i).map fun c => .str ⟨#[c]⟩ else none
  | _, _ => none
theorem RepA.atI {K : PySem.W.Frag} {Sh : Addr → Prop} {H : Hp} {vs : List V} {ds : List D} {i : Int} {d : D} (h : RepA K Sh H vs ds) (e : L2.atI ds i = some d) : ∃ v, L2.atI vs i = some v ∧ Rep K Sh H v d := by
  unfold L2.atI at e ⊢
  rw [h.length]
  cases q : ixN ds.length i with
  | none => rw [q] at e; cases e
  | some j =>
    rw [q] at e
    exact h.get (i := j) e
theorem o2_ix {X : Cx} : Op2 X (rIx X.K) (d2 fIx) := op2_of fun Sh H v u a b z Q ha hb e q => by
  cases a <;> cases b <;> try (cases e; done)
  · rename_i x i
    unfold fIx at e
    simp only at e
    split at e
    · rename_i hl
      cases q1 : L2.atI x.cps.toList i with
      | none => rw [q1] at e; cases e
      | some c =>
        rw [q1] at e
        cases e
        exact .inr (.inr ⟨x, i, c, ha.str, hb.int, hl, q1, q.old _ .str⟩)
    · cases e
  · rename_i xs i
    obtain ⟨p, vs, rfl, h1, h2⟩ := ha.tup
    obtain ⟨w, e1, r⟩ := h2.atI e
    exact .inr (.inl ⟨p, vs, i, w, rfl, hb.int, h1, e1, q.old _ r⟩)
  · rename_i xs i
    obtain ⟨p, vs, rfl, h1, h2⟩ := ha.lst
    obtain ⟨w, e1, r⟩ := h2.atI e
    exact .inl ⟨p, vs, i, w, rfl, hb.int, .inl (.inl h1), e1, q.old _ r⟩
def cutD (xs : List D) (lo hi : Option Int) : List D := (xs.drop (HT.sIx xs.length 0 lo)).take (HT.sIx xs.length xs.length hi - HT.sIx xs.length 0 lo)
theorem RepA.cut {K : PySem.W.Frag} {Sh : Addr → Prop} {H : Hp} {vs : List V} {ds : List D} {lo hi : Option Int} (h : RepA K Sh H vs ds) : RepA K Sh H (cutV vs lo hi) (cutD ds lo hi) := by
  unfold cutV cutD
  rw [h.length]
  exact (h.drop _).take _
def fSl (a : D) (lo hi : Option Int) : Option D := match a with
  | .tup xs => some (.tup (cutD xs lo hi))
  | .lst xs => some (.lst (cutD xs lo hi))
  | .str x => if x.length ≤ sizeLine then some (.str (cutS x lo hi)) else none
  | _ => none
def rSlX (K : PySem.W.Frag) : V → Option Int → Option Int → Hp → VK → Prop := fun x lo hi H Q => rSlA K x lo hi H Q ∨ (rSlL K x lo hi H Q ∨ rSlS x lo hi H Q)
theorem sl_any {X : Cx} : SlR X (rSlX X.K) := sl_tupA.or (sl_list.or sl_str)
theorem fin_sl {K : PySem.W.Frag} {Sh : Addr → Prop} {H : Hp} {v : V} {a z : D} {lo hi : Option Int} {Q : VK} (ha : RepL K Sh H v a) (e : fSl a lo hi = some z) (q : Fin K Sh H z Q) : rSlX K v lo hi H Q := by
  cases a <;> try (cases e; done)
  · rename_i x
    unfold fSl at e
    simp only at e
    split at e
    · rename_i hl
      cases e
      exact .inr (.inr ⟨x, ha.str, hl, q.old _ .str⟩)
    · cases e
  · rename_i xs
    cases e
    obtain ⟨p1, vs, rfl, s1, r1⟩ := ha.tup
    refine .inl ⟨p1, vs, rfl, s1, fun hw => ?_, fun _ p hp => ?_⟩
    · refine q.old _ (.tup s1 ?_)
      have r2 := r1.cut (lo := lo) (hi := hi)
      have e : cutV vs lo hi = vs := by
        unfold cutV
        rw [hw.1, hw.2]
        simp
      rw [e] at r2
      exact r2
    · have k : Kp Sh H (upd H p (.tup (cutV vs lo hi))) := fun b u e _ _ => by rw [upd_ne (ne_of_none e hp)]; exact e
      exact q.new p _ _ hp (fun _ z => by cases z) (.tup (.inl (.inl upd_same)) (RepA.mono k (fun _ h => .inl h) _ _ r1.cut))
  · rename_i xs
    cases e
    obtain ⟨p1, vs, rfl, s1, r1⟩ := ha.lst
    refine .inr (.inl ⟨p1, vs, rfl, .inl (.inl s1), fun p hp => ?_⟩)
    have k : Kp Sh H (upd H p (.lst (cutV vs lo hi))) := fun b u e _ _ => by rw [upd_ne (ne_of_none e hp)]; exact e
    exact q.new p _ _ hp (fun _ z => by cases z) (.lst upd_same (.inr rfl) (RepA.mono k (fun _ h => .inl h) _ _ r1.cut))
def tO (K : PySem.W.Frag) (mg : Str → Option Value) (W : WX) (m : M (Option Int)) : TO := fun σ H Q => ∃ S Sh, Abs K S σ H Sh ∧ Go K mg W σ S Sh H (m S) fun x S' Sh' H' => Q x H'
def MO (X : Cx) (W : WX) (e : Option Expr) (m : M (Option Int)) : Prop := PO X e (tO X.K X.mg W m)
theorem PO.imp {X : Cx} {e : Option Expr} {t t' : TO} (h : PO X e t) (k : ∀ σ H Q, t' σ H Q → t σ H Q) : PO X e t' := ⟨fun pins s σ H Q I q => h.run pins s σ H Q I (k σ H Q q)⟩
def mPart (m : M Vx) : M (Option Int) := bnd m fun x S => match deref S x with
  | some (.int i) => .ok (some i) S
  | _ => .stuck
section
variable {X : Cx} {W : WX} {pos : Pos} {a b c : Expr} {ma mb mc : M Vx}
theorem e_ix (ha : ME X W a ma) (hb : ME X W b mb) (hs : PlainIx b := by intro _ _; rfl) : ME X W (.Subscript a b pos) (m2 (d2 fIx) ma mb) := by
  refine PE.imp (pe_ix ix_seq ha hb hs) fun σ H Q ⟨S, Sh, A, g⟩ => ?_
  exact ⟨S, Sh, A, g.bind.mono fun x S1 Sh1 H1 A1 E1 g1 v rv => ⟨S1, Sh1, A1, g1.bind.mono fun y S2 Sh2 H2 A2 E2 g2 u ru => o2_ix W S2 Sh2 σ H2 v u x y Q A2 (rv.ext A1 E2) ru g2⟩⟩
theorem o_none : MO X W none (ret none) := PO.imp po_none fun σ H Q ⟨S, Sh, A, g⟩ => g.here A
theorem o_some (ha : ME X W a ma) : MO X W (some a) (mPart ma) := PO.imp (po_some ha) fun σ H Q ⟨S, Sh, A, g⟩ => by
  refine ⟨S, Sh, A, g.bind.mono fun x S1 Sh1 H1 A1 E1 g1 v rv => ?_⟩
  try simp only at g1
  cases q : deref S1 x with
  | none => rw [q] at g1; exact g1.elim
  | some d =>
    have rl := rv.deref A1 q
    rw [q] at g1
    cases d with
    | int k =>
      cases rl
      exact ⟨k, rfl, g1.here A1⟩
    | _ => exact g1.elim
def mSl (m : M Vx) (ml mh : M (Option Int)) : M Vx := bnd m fun x => bnd ml fun lo => bnd mh fun hi S => match deref S x with
  | some a => (match fSl a lo hi with
    | some z => .ok (.val z) S
    | none => .stuck)
  | none => .stuck
theorem e_sl {lo hi : Option Expr} {ml mh : M (Option Int)} {p2 : Pos} (ha : ME X W a ma) (hl : MO X W lo ml) (hh : MO X W hi mh) : ME X W (.Subscript a (.Slice lo hi none p2) pos) (mSl ma ml mh) := by
  refine PE.imp (pe_slice sl_any ha hl hh) fun σ H Q ⟨S, Sh, A, g⟩ => ?_
  refine ⟨S, Sh, A, g.bind.mono fun x S1 Sh1 H1 A1 E1 g1 v rv => ⟨S1, Sh1, A1, g1.bind.mono fun l S2 Sh2 H2 A2 E2 g2 => ⟨S2, Sh2, A2, g2.bind.mono fun u S3 Sh3 H3 A3 E3 g3 => ?_⟩⟩⟩
  have rx := (rv.ext A1 E2).ext A2 E3
  try simp only at g3
  cases q : deref S3 x with
  | none => rw [q] at g3; exact g3.elim
  | some d =>
    rw [q] at g3
    cases q3 : fSl d l u with
    | none => simp only [q3] at g3; exact g3.elim
    | some z =>
      simp only [q3] at g3
      exact fin_sl (rx.deref A3 q) q3 (g3.fin A3)
/-- xs[::-1] of a list -/
def d1 (f : D → Option D) : Vx → M Vx := fun x S => match deref S x with
  | some a => (match f a with
    | some z => .ok (.val z) S
    | none => .stuck)
  | none => .stuck
def m1 (f : D → Option D) (m : M Vx) : M Vx := bnd m (d1 f)
theorem go_d1 {K : PySem.W.Frag} {mg : Str → Option Value} {σ : St} {S : Fr} {Sh : Addr → Prop} {H : Hp} {f : D → Option D} {x : Vx} {v : V} {P : Vx → Fr → (Addr → Prop) → Hp → Prop} (A : Abs K S σ H Sh) (rx : RepX K Sh S σ H v x) (g : Go K mg W σ S Sh H (d1 f x S) P) :
    ∃ a z, RepL K Sh H v a ∧ f a = some z ∧ Go K mg W σ S Sh H (.ok (.val z) S) P := by
  unfold d1 at g
  cases q : deref S x with
  | none => rw [q] at g; exact g.elim
  | some a =>
    rw [q] at g
    cases q3 : f a with
    | none => simp only [q3] at g; exact g.elim
    | some z =>
      simp only [q3] at g
      exact ⟨a, z, rx.deref A q, q3, g⟩
def fRev : D → Option D
  | .lst xs => some (.lst xs.reverse)
  | _ => none
theorem e_rev {k : Nat} {p1 p2 p3 : Pos} (ha : ME X W a ma) : ME X W (.Subscript a (.Slice none none (some (.UnaryOp .USub (.Constant (.int 1) k p1) p2)) p3) pos) (m1 fRev ma) := by
  refine PE.imp (pe_revL ha) fun σ H Q ⟨S, Sh, A, g⟩ => ?_
  refine ⟨S, Sh, A, g.bind.mono fun x S1 Sh1 H1 A1 E1 g1 v rv => ?_⟩
  obtain ⟨d, z, r, e, g2⟩ := go_d1 A1 rv g1
  cases d <;> try (cases e; done)
  cases e
  obtain ⟨p1, vs, rfl, s1, r1⟩ := r.lst
  refine ⟨p1, vs, rfl, .inl (.inl s1), fun p hp => ?_⟩
  have k : Kp Sh1 H1 (upd H1 p (.lst vs.reverse)) := fun b u e _ _ => by rw [upd_ne (ne_of_none e hp)]; exact e
  exact (g2.fin A1).new p _ _ hp (fun _ z => by cases z) (.lst upd_same (.inr rfl) (RepA.mono k (fun _ h => .inl h) _ _ r1.reverse))
/-- -a -/
def fNeg : D → Option D
  | .int i => some (.int (-i))
  | _ => none
theorem e_neg (ha : ME X W a ma) : ME X W (.UnaryOp .USub a pos) (m1 fNeg ma) := by
  refine PE.imp (pe_un un_neg ha) fun σ H Q ⟨S, Sh, A, g⟩ => ?_
  refine ⟨S, Sh, A, g.bind.mono fun x S1 Sh1 H1 A1 E1 g1 v rv => ?_⟩
  obtain ⟨d, z, r, e, g2⟩ := go_d1 A1 rv g1
  cases d <;> try (cases e; done)
  cases e
  exact ⟨_, r.int, (g2.fin A1).old _ .int⟩

/-! ### tests -/
variable {t u : M Bool} {rest : List Expr}
def mAnd (t u : M Bool) : M Bool := bnd t fun c => if c = true then u else ret false
def mOr (t u : M Bool) : M Bool := bnd t fun c => if c = true then ret true else u
def mNot (t : M Bool) : M Bool := bnd t fun c => ret (!c)
theorem w_and1 (ha : MT X W a t) : MW X W (.BoolOp .And [a] pos) t := pw_and1 ha
theorem w_or1 (ha : MT X W a t) : MW X W (.BoolOp .Or [a] pos) t := pw_or1 ha
theorem w_and (ha : MT X W a t) (hb : MW X W (.BoolOp .And (b :: rest) pos) u) : MW X W (.BoolOp .And (a :: b :: rest) pos) (mAnd t u) := by
  refine PW.imp (pw_and ha hb) fun σ H Q ⟨S, Sh, A, g⟩ => ?_
  refine ⟨S, Sh, A, g.bind.mono fun c S1 Sh1 H1 A1 E1 g1 => ?_⟩
  cases c with
  | true => exact ⟨S1, Sh1, A1, g1⟩
  | false => exact g1.here A1
theorem w_or (ha : MT X W a t) (hb : MW X W (.BoolOp .Or (b :: rest) pos) u) : MW X W (.BoolOp .Or (a :: b :: rest) pos) (mOr t u) := by
  refine PW.imp (pw_or ha hb) fun σ H Q ⟨S, Sh, A, g⟩ => ?_
  refine ⟨S, Sh, A, g.bind.mono fun c S1 Sh1 H1 A1 E1 g1 => ?_⟩
  cases c with
  | false => exact ⟨S1, Sh1, A1, g1⟩
  | true => exact g1.here A1
theorem t_w (h : MW X W a t) : MT X W a t := PW.pt h
theorem t_not (ha : MT X W a t) : MT X W (.UnaryOp .Not a pos) (mNot t) := by
  refine PT.imp (pt_not ha) fun σ H Q ⟨S, Sh, A, g⟩ => ?_
  exact ⟨S, Sh, A, g.bind.mono fun c S1 Sh1 H1 A1 E1 g1 => g1.here A1⟩
/-- as values -/
def mAndV (ma mb : M Vx) : M Vx := bnd (toB ma) fun c => if c = true then mb else mC (.bl false)
def mOrV (ma mb : M Vx) : M Vx := bnd (toB ma) fun c => if c = true then mC (.bl true) else mb
def mNotV (ma : M Vx) : M Vx := bnd (toB ma) fun c => mC (.bl (!c))
theorem e_one {op} (ha : ME X W a ma) : ME X W (.BoolOp op [a] pos) ma := pe_one ha
theorem e_and (ha : ME X W a ma) (hb : ME X W (.BoolOp .And (b :: rest) pos) mb) : ME X W (.BoolOp .And (a :: b :: rest) pos) (mAndV ma mb) := by
  refine PE.imp (pe_and ha hb) fun σ H Q ⟨S, Sh, A, g⟩ => ?_
  refine ⟨S, Sh, A, g.bind.bind.mono fun x S1 Sh1 H1 A1 E1 g1 v rv => ?_⟩
  obtain ⟨k, rfl, g2⟩ := go_toB A1 rv g1
  refine ⟨k, rfl, ?_⟩
  cases k with
  | true => exact ⟨S1, Sh1, A1, g2⟩
  | false => exact g2.here A1 _ .bl
theorem e_or (ha : ME X W a ma) (hb : ME X W (.BoolOp .Or (b :: rest) pos) mb) : ME X W (.BoolOp .Or (a :: b :: rest) pos) (mOrV ma mb) := by
  refine PE.imp (pe_or ha hb) fun σ H Q ⟨S, Sh, A, g⟩ => ?_
  refine ⟨S, Sh, A, g.bind.bind.mono fun x S1 Sh1 H1 A1 E1 g1 v rv => ?_⟩
  obtain ⟨k, rfl, g2⟩ := go_toB A1 rv g1
  refine ⟨k, rfl, ?_⟩
  cases k with
  | false => exact ⟨S1, Sh1, A1, g2⟩
  | true => exact g2.here A1 _ .bl
theorem e_not (ha : ME X W a ma) : ME X W (.UnaryOp .Not a pos) (mNotV ma) := by
  refine PE.imp (pe_not ha) fun σ H Q ⟨S, Sh, A, g⟩ => ?_
  refine ⟨S, Sh, A, g.bind.bind.mono fun x S1 Sh1 H1 A1 E1 g1 v rv => ?_⟩
  obtain ⟨k, rfl, g2⟩ := go_toB A1 rv g1
  exact ⟨k, rfl, g2.here A1 _ .bl⟩
def mIf (t : M Bool) (ma mb : M Vx) : M Vx := bnd t fun c => if c = true then ma else mb
theorem e_if (ht : MT X W c t) (ha : ME X W a ma) (hb : ME X W b mb) : ME X W (.IfExp c a b pos) (mIf t ma mb) := by
  refine PE.imp (pe_ifExp ht ha hb) fun σ H Q ⟨S, Sh, A, g⟩ => ?_
  refine ⟨S, Sh, A, g.bind.mono fun c S1 Sh1 H1 A1 E1 g1 => ?_⟩
  cases c with
  | true => exact ⟨S1, Sh1, A1, g1⟩
  | false => exact ⟨S1, Sh1, A1, g1⟩
/-- low <= x <= high -/
def mChain (f g : Vx → Vx → M Vx) (ma mb mc : M Vx) : M Vx := bnd ma fun x => bnd mb fun y => bnd (toB (f x y)) fun k => if k = true then bnd mc fun z => g y z else mC (.bl false)
theorem e_chain {op op' : CmpOp} {r r' : R2} {f f' : Vx → Vx → M Vx} (ho : OpR X (compareOp op) r) (h : Op2 X r f) (ho' : OpR X (compareOp op') r') (h' : Op2 X r' f') (ha : ME X W a ma) (hb : ME X W b mb) (hc : ME X W c mc) (hm : lastMarks [op, op'] [b, c] = false := by rfl) :
    ME X W (.Compare a [op, op'] [b, c] pos) (mChain f f' ma mb mc) := by
  refine PE.imp (pe_chain ho ho' ha hb hc hm) fun σ H Q ⟨S, Sh, A, g⟩ => ?_
  refine ⟨S, Sh, A, g.bind.mono fun x S1 Sh1 H1 A1 E1 g1 v rv => ⟨S1, Sh1, A1, g1.bind.mono fun y S2 Sh2 H2 A2 E2 g2 u ru => ?_⟩⟩
  refine h W S2 Sh2 σ H2 v u x y _ A2 (rv.ext A1 E2) ru (g2.bind.bind.mono fun z S3 Sh3 H3 A3 E3 g3 w rw => ?_)
  obtain ⟨k, rfl, g4⟩ := go_toB A3 rw g3
  refine ⟨k, rfl, ?_⟩
  cases k with
  | true =>
    exact ⟨S3, Sh3, A3, Go.mono (Go.bind g4) fun z4 S4 Sh4 H4 A4 E4 g5 w4 rw4 => h' W S4 Sh4 σ H4 u w4 y z4 Q A4 ((ru.ext A2 E3).ext A3 E4) rw4 g5⟩
  | false => exact g4.here A3 _ .bl
end
end Z
set_option maxHeartbeats 4000000
/-! Z3: what is handed on (escapes), displays, built-ins, methods, calls of the text's defs. -/
namespace Z
open PySem PySem.Spec PyProof.Rows L2
variable [LT]

/-! ### a slot's list is handed on: it is shared from now on -/
def esc (x : Vx) : M D := fun S => match x with
  | .val d => .ok d S
  | .own i => match S[i]? with
    | some (.sh d) => .ok d S
    | some (.ow xs) => .ok (.lst xs) (S.set i (.sh (.lst xs)))
    | _ => .stuck
def escs : List Vx → M (List D)
  | [] => ret []
  | x :: xs => bnd (esc x) fun d => bnd (escs xs) fun ds => ret (d :: ds)
theorem set_get {α : Type} {l : List α} {i j : Nat} {x y : α} (h : (l.set i x)[j]? = some y) : (j = i ∧ x = y ∧ i < l.length) ∨ (j ≠ i ∧ l[j]? = some y) := by
  by_cases e : i = j
  · subst e
    rw [List.getElem?_set] at h
    simp only [if_true] at h
    split at h
    · cases h; exact .inl ⟨rfl, rfl, by assumption⟩
    · cases h
  · rw [List.getElem?_set_ne e] at h
    exact .inr ⟨fun z => e z.symm, h⟩
section
variable {K : PySem.W.Frag} {mg : Str → Option Value} {W : WX} {σ : St} {S : Fr} {Sh : Addr → Prop} {H : Hp}
theorem Abs.unown {i : Nat} {ds : List D} {v : V} (A : Abs K S σ H Sh) (q : S[i]? = some (.ow ds)) (hv : σ[i]? = some (some v)) :
    ∃ Sh', Abs K (S.set i (.sh (.lst ds))) σ H Sh' ∧ Ext S σ Sh H (S.set i (.sh (.lst ds))) σ Sh' H ∧ Rep K Sh' H v (.lst ds) := by
  obtain ⟨a, vs, e3, e4, r, n⟩ := A.ow i _ ds q rfl
  rw [hv] at e3
  cases e3
  have rl : Rep K (fun b => Sh b ∨ b = a) H (.ref a) (.lst ds) := .lst e4 (.inr rfl) (RepA.mono Kp.refl (fun _ h => .inl h) _ _ r)
  refine ⟨fun b => Sh b ∨ b = a, ⟨by rw [List.length_set]; exact A.len, fun j d e => ?_, fun j sl ds' e1 e2 => ?_, fun j k sl sl' ds1 ds2 b e1 e2 e3 e4 e5 e6 => ?_, fun b h => ?_, A.tab⟩, ⟨fun b o e _ _ => e, fun _ h => .inl h, fun b h => ?_, fun b h => ?_, fun j xs e => ?_, fun _ h => h⟩, rl⟩
  · rcases set_get e with ⟨rfl, e, _⟩ | ⟨_, e⟩
    · cases e; exact ⟨_, hv, rl⟩
    · obtain ⟨v, e1, r⟩ := A.sh j d e
      exact ⟨v, e1, Rep.mono Kp.refl (fun _ h => .inl h) _ _ r⟩
  · rcases set_get e1 with ⟨rfl, e, _⟩ | ⟨ne, e⟩
    · subst e; cases e2
    · obtain ⟨a', vs', e3, e4', r', n'⟩ := A.ow j sl ds' e e2
      refine ⟨a', vs', e3, e4', RepA.mono Kp.refl (fun _ h => .inl h) _ _ r', fun z => ?_⟩
      rcases z with z | z
      · exact n' z
      · subst z
        exact ne (A.inj j i sl _ ds' ds _ e e2 q rfl e3 hv)
  · rcases set_get e1 with ⟨rfl, e, _⟩ | ⟨ne, e⟩
    · subst e; cases e2
    · rcases set_get e3 with ⟨rfl, e', _⟩ | ⟨ne', e'⟩
      · subst e'; cases e4
      · exact A.inj j k sl sl' ds1 ds2 b e e2 e' e4 e5 e6
  · rcases h with h | h
    · exact A.fresh b h
    · rw [h]; intro z; exact z.lst e4
  · rcases h with h | h
    · exact .inl h
    · rw [h]; exact .inr (.inr ⟨i, _, ds, q, rfl, hv⟩)
  · obtain ⟨j, sl, ds', e1, e2, e3⟩ := h
    rcases set_get e1 with ⟨rfl, e, _⟩ | ⟨ne, e⟩
    · subst e; cases e2
    · exact .inl ⟨j, sl, ds', e, e2, e3⟩
  · refine ⟨rfl, xs, ?_⟩
    rw [List.getElem?_set_ne, e]
    intro z; subst z; rw [q] at e; cases e
theorem go_esc {α : Type} {x : Vx} {v : V} {f : D → M α} {P : α → Fr → (Addr → Prop) → Hp → Prop} (A : Abs K S σ H Sh) (r : RepX K Sh S σ H v x) (g : Go K mg W σ S Sh H ((esc x S).bind f) P) :
    ∃ d S' Sh', Abs K S' σ H Sh' ∧ Ext S σ Sh H S' σ Sh' H ∧ Rep K Sh' H v d ∧ Go K mg W σ S' Sh' H (f d S') P := by
  have step : ∀ d S' Sh', esc x S = .ok d S' → Abs K S' σ H Sh' → Ext S σ Sh H S' σ Sh' H → Rep K Sh' H v d → ∃ d S' Sh', Abs K S' σ H Sh' ∧ Ext S σ Sh H S' σ Sh' H ∧ Rep K Sh' H v d ∧ Go K mg W σ S' Sh' H (f d S') P := fun d S' Sh' e A' E' r' => by
    rw [e] at g
    exact ⟨d, S', Sh', A', E', r', (Go.bind (r := .ok d S') g) Sh' H A' E'⟩
  cases x with
  | val d => exact step d S Sh rfl A (Ext.refl A) r
  | own i =>
    have r : σ[i]? = some (some v) := r
    cases q : S[i]? with
    | none =>
      have e : esc (.own i) S = .stuck := by unfold esc; simp only [q]
      rw [e] at g; exact g.elim
    | some sl =>
      cases sl with
      | un =>
        have e : esc (.own i) S = .stuck := by unfold esc; simp only [q]
        rw [e] at g; exact g.elim
      | io xs =>
        have e : esc (.own i) S = .stuck := by unfold esc; simp only [q]
        rw [e] at g; exact g.elim
      | sh d =>
        have e : esc (.own i) S = .ok d S := by unfold esc; simp only [q]
        obtain ⟨v', e1, r'⟩ := A.sh i d q
        rw [r] at e1
        cases e1
        exact step d S Sh e A (Ext.refl A) r'
      | ow xs =>
        have e : esc (.own i) S = .ok (.lst xs) (S.set i (.sh (.lst xs))) := by unfold esc; simp only [q]
        obtain ⟨Sh', A', E', r'⟩ := A.unown q r
        exact step _ _ Sh' e A' E' r'
theorem go_escs {α : Type} {P : α → Fr → (Addr → Prop) → Hp → Prop} : ∀ {xs : List Vx} {vs : List V} {f : List D → M α} {S : Fr} {Sh : Addr → Prop}, Abs K S σ H Sh → RepXs K Sh S σ H vs xs → Go K mg W σ S Sh H ((escs xs S).bind f) P →
    ∃ ds S' Sh', Abs K S' σ H Sh' ∧ Ext S σ Sh H S' σ Sh' H ∧ RepA K Sh' H vs ds ∧ Go K mg W σ S' Sh' H (f ds S') P
  | [], _, f, S, Sh, A, .nil, g => ⟨[], S, Sh, A, Ext.refl A, .nil, g⟩
  | x :: xs, _, f, S, Sh, A, .cons r rs, g => by
    have e : (escs (x :: xs) S).bind f = (esc x S).bind fun d S1 => (escs xs S1).bind fun ds => f (d :: ds) := by
      show ((esc x S).bind _).bind f = _
      cases esc x S with
      | ok d S1 =>
        show ((escs xs S1).bind _).bind f = (escs xs S1).bind _
        cases escs xs S1 <;> rfl
      | exc _ _ => rfl
      | stuck => rfl
    rw [e] at g
    obtain ⟨d, S1, Sh1, A1, E1, r1, g1⟩ := go_esc A r g
    obtain ⟨ds, S2, Sh2, A2, E2, r2, g2⟩ := go_escs (f := fun ds => f (d :: ds)) A1 (rs.ext A E1) g1
    exact ⟨d :: ds, S2, Sh2, A2, E1.trans E2, .cons (Rep.mono (E2.kp A1) E2.sub _ _ r1) r2, g2⟩
end

/-! ### argument lists, displays -/
def aNil : M (List Vx) := ret []
def aCons (m : M Vx) (ms : M (List Vx)) : M (List Vx) := bnd m fun x => bnd ms fun xs => ret (x :: xs)
section
variable {X : Cx} {W : WX} {pos : Pos} {a b c e : Expr} {es : List Expr} {m ma mb mc : M Vx} {ms : M (List Vx)}
theorem a_nil : MA X W [] aNil := PA.imp pa_nil fun σ H Q ⟨S, Sh, A, g⟩ => g.here A _ .nil
theorem a_cons (ha : ME X W e m) (hr : MA X W es ms) (hs : starEach (e :: es) X.env = (false, eval e X.env) :: starEach es X.env := by rfl) : MA X W (e :: es) (aCons m ms) := by
  refine PA.imp (pa_cons ha hr hs) fun σ H Q ⟨S, Sh, A, g⟩ => ?_
  exact ⟨S, Sh, A, g.bind.mono fun x S1 Sh1 H1 A1 E1 g1 v rv => ⟨S1, Sh1, A1, g1.bind.mono fun xs S2 Sh2 H2 A2 E2 g2 vs rs => g2.here A2 _ (.cons (rv.ext A1 E2) rs)⟩⟩
def mTup (ms : M (List Vx)) : M Vx := bnd ms fun xs => bnd (escs xs) fun ds S => if ds.length ≤ sizeLine then .ok (.val (.tup ds)) S else .stuck
def mLst (ms : M (List Vx)) : M Vx := bnd ms fun xs => bnd (escs xs) fun ds S => if ds.length ≤ sizeLine then .ok (.val (.lst ds)) S else .stuck
theorem e_tup {x1} (h : MA X W es ms) : ME X W (.Tuple es x1 pos) (mTup ms) := by
  refine PE.imp (pe_tup h) fun σ H Q ⟨S, Sh, A, g⟩ => ?_
  refine ⟨S, Sh, A, g.bind.mono fun xs S1 Sh1 H1 A1 E1 g1 vs rs => ?_⟩
  obtain ⟨ds, S2, Sh2, A2, E2, r2, g2⟩ := go_escs A1 rs g1
  try simp only at g2
  split at g2
  · rename_i hl
    refine ⟨by rw [r2.length]; exact hl, fun p hp => ?_⟩
    have k : Kp Sh2 H1 (upd H1 p (.tup vs)) := fun b u e _ _ => by rw [upd_ne (ne_of_none e hp)]; exact e
    exact (g2.fin A2).new p _ _ hp (fun _ z => by cases z) (.tup (.inl (.inl upd_same)) (r2.mono k (fun _ h => .inl h)))
  · exact g2.elim
theorem e_lst (h : MA X W es ms) : ME X W (.List es pos) (mLst ms) := by
  refine PE.imp (pe_lst h) fun σ H Q ⟨S, Sh, A, g⟩ => ?_
  refine ⟨S, Sh, A, g.bind.mono fun xs S1 Sh1 H1 A1 E1 g1 vs rs => ?_⟩
  obtain ⟨ds, S2, Sh2, A2, E2, r2, g2⟩ := go_escs A1 rs g1
  try simp only at g2
  split at g2
  · rename_i hl
    refine ⟨by rw [r2.length]; exact hl, fun p hp => ?_⟩
    have k : Kp Sh2 H1 (upd H1 p (.lst vs)) := fun b u e _ _ => by rw [upd_ne (ne_of_none e hp)]; exact e
    exact (g2.fin A2).new p _ _ hp (fun _ z => by cases z) (.lst upd_same (.inr rfl) (r2.mono k (fun _ h => .inl h)))
  · exact g2.elim

/-! ### built-ins by name -/
def derefs (S : Fr) : List Vx → Option (List D)
  | [] => some []
  | x :: xs => match deref S x, derefs S xs with
    | some d, some ds => some (d :: ds)
    | _, _ => none
inductive RepLs (K : PySem.W.Frag) (Sh : Addr → Prop) (H : Hp) : List V → List D → Prop where
  | nil : RepLs K Sh H [] []
  | cons {v : V} {d : D} {vs : List V} {ds : List D} : RepL K Sh H v d → RepLs K Sh H vs ds → RepLs K Sh H (v :: vs) (d :: ds)
theorem RepXs.derefs {K : PySem.W.Frag} {S : Fr} {σ : St} {H : Hp} {Sh : Addr → Prop} (A : Abs K S σ H Sh) : ∀ {vs : List V} {xs : List Vx} {ds : List D}, RepXs K Sh S σ H vs xs → Z.derefs S xs = some ds → RepLs K Sh H vs ds
  | _, _, ds, .nil, e => by cases e; exact .nil
  | _, x :: xs, ds, .cons r rs, e => by
    unfold Z.derefs at e
    cases q : deref S x with
    | none => rw [q] at e; cases e
    | some d =>
      rw [q] at e
      cases q2 : Z.derefs S xs with
      | none => rw [q2] at e; cases e
      | some ds' =>
        rw [q2] at e
        cases e
        exact .cons (r.deref A q) (rs.derefs A q2)
/-- a built-in's rule serves a function on data -/
def OpB (X : Cx) (r : List V → Hp → VK → Prop) (f : List D → Option D) : Prop := ∀ (Sh : Addr → Prop) (H : Hp) (vs : List V) (ds : List D) (z : D) (Q : VK), RepLs X.K Sh H vs ds → f ds = some z → Fin X.K Sh H z Q → r vs H Q
def mB (f : List D → Option D) (ms : M (List Vx)) : M Vx := bnd ms fun xs S => match derefs S xs with
  | some ds => (match f ds with
    | some z => .ok (.val z) S
    | none => .stuck)
  | none => .stuck
theorem go_B {K : PySem.W.Frag} {mg : Str → Option Value} {σ : St} {S : Fr} {Sh : Addr → Prop} {H : Hp} {f : List D → Option D} {xs : List Vx} {vs : List V} {P : Vx → Fr → (Addr → Prop) → Hp → Prop} (A : Abs K S σ H Sh) (rs : RepXs K Sh S σ H vs xs)
    (g : Go K mg W σ S Sh H (match derefs S xs with | some ds => (match f ds with | some z => .ok (.val z) S | none => .stuck) | none => .stuck) P) : ∃ ds z, RepLs K Sh H vs ds ∧ f ds = some z ∧ Go K mg W σ S Sh H (.ok (.val z) S) P := by
  cases q : derefs S xs with
  | none => rw [q] at g; exact g.elim
  | some ds =>
    rw [q] at g
    cases q2 : f ds with
    | none => simp only [q2] at g; exact g.elim
    | some z =>
      simp only [q2] at g
      exact ⟨ds, z, rs.derefs A q, q2, g⟩
theorem e_B {x : Str} {id : String} {p : Pos} {r : List V → Hp → VK → Prop} {f : List D → Option D} (hc : CallR X (.builtin id) r) (h : OpB X r f) (hg : Gl X x) (hm : X.mg x = none) (hv : bootBuiltins x = some (.builtin id)) (ha : MA X W (e :: es) ms)
    (hn : x ≠ "__name__" := by decide) (hdb : (x == ("__debug__" : Str)) = false := by decide) (he : starEach (e :: es) X.env = (false, eval e X.env) :: starEach es X.env := by rfl) (hpl : (backTo pos (starEach es X.env)).any (·.1) = false := by rfl) :
    ME X W (.Call (.Name x p) (e :: es) [] pos) (mB f ms) := by
  refine PE.imp (pe_callB hc hg hm hv ha hn hdb he hpl) fun σ H Q ⟨S, Sh, A, g⟩ => ?_
  refine ⟨S, Sh, A, g.bind.mono fun xs S1 Sh1 H1 A1 E1 g1 vs rs => ?_⟩
  obtain ⟨ds, z, r1, e1, g2⟩ := go_B A1 rs g1
  exact h Sh1 H1 vs ds z Q r1 e1 (g2.fin A1)
theorem e_Ty {x : Str} {T : String} {p : Pos} {r : List V → Hp → VK → Prop} {f : List D → Option D} (hc : CallR X (.type T) r) (h : OpB X r f) (hg : Gl X x) (hm : X.mg x = none) (hv : bootBuiltins x = some (.type T)) (ha : MA X W (e :: es) ms)
    (hn : x ≠ "__name__" := by decide) (hdb : (x == ("__debug__" : Str)) = false := by decide) (he : starEach (e :: es) X.env = (false, eval e X.env) :: starEach es X.env := by rfl) (hpl : (backTo pos (starEach es X.env)).any (·.1) = false := by rfl) :
    ME X W (.Call (.Name x p) (e :: es) [] pos) (mB f ms) := by
  refine PE.imp (pe_callTy hc hg hm hv ha hn hdb he hpl) fun σ H Q ⟨S, Sh, A, g⟩ => ?_
  refine ⟨S, Sh, A, g.bind.mono fun xs S1 Sh1 H1 A1 E1 g1 vs rs => ?_⟩
  obtain ⟨ds, z, r1, e1, g2⟩ := go_B A1 rs g1
  exact h Sh1 H1 vs ds z Q r1 e1 (g2.fin A1)
end
section
variable {X : Cx}
theorem RepLs.one {K : PySem.W.Frag} {Sh : Addr → Prop} {H : Hp} {vs : List V} {d : D} (h : RepLs K Sh H vs [d]) : ∃ v, vs = [v] ∧ RepL K Sh H v d := by
  cases h with
  | cons h1 h2 => cases h2; exact ⟨_, rfl, h1⟩
/-- len -/
def bLen : List D → Option D
  | [.lst xs] => some (.int xs.length)
  | [.tup xs] => some (.int xs.length)
  | [.str x] => if x.length ≤ sizeLine then some (.int x.length) else none
  | _ => none
theorem b_len : OpB X (fun xs H Q => ∃ x n, xs = [x] ∧ LenV X.K x H n ∧ Q (.int n) H) bLen := fun Sh H vs ds z Q r e q => by
  match ds, e with
  | [.lst xs], e =>
    cases e
    obtain ⟨v, rfl, r1⟩ := r.one
    obtain ⟨a, us, rfl, h1, h2⟩ := r1.lst
    exact ⟨_, _, rfl, .inl ⟨us, .inl (.inl h1), h2.length.symm⟩, q.old _ .int⟩
  | [.tup xs], e =>
    cases e
    obtain ⟨v, rfl, r1⟩ := r.one
    obtain ⟨a, us, rfl, h1, h2⟩ := r1.tup
    exact ⟨_, _, rfl, .inr ⟨us, h1, h2.length.symm⟩, q.old _ .int⟩
  | [.str x], e =>
    unfold bLen at e
    simp only at e
    split at e
    · rename_i hl
      cases e
      obtain ⟨v, rfl, r1⟩ := r.one
      cases r1
      exact ⟨.str x, x.length, rfl, ⟨hl, rfl⟩, q.old _ .int⟩
    · cases e
/-- sum, min, max of whole numbers; all, any of bools -/
def D.ints : List D → Option (List Int)
  | [] => some []
  | .int i :: ds => (D.ints ds).map (i :: ·)
  | _ :: _ => none
theorem D.ints_eq : ∀ {ds : List D} {ns : List Int}, D.ints ds = some ns → ds = ns.map D.int
  | [], _, e => by cases e; rfl
  | .int i :: ds, _, e => by
    unfold D.ints at e
    cases q : D.ints ds with
    | none => rw [q] at e; cases e
    | some ms =>
      rw [q] at e
      cases e
      rw [D.ints_eq q]
      rfl
def D.bls : List D → Option (List Bool)
  | [] => some []
  | .bl i :: ds => (D.bls ds).map (i :: ·)
  | _ :: _ => none
theorem D.bls_eq : ∀ {ds : List D} {ns : List Bool}, D.bls ds = some ns → ds = ns.map D.bl
  | [], _, e => by cases e; rfl
  | .bl i :: ds, _, e => by
    unfold D.bls at e
    cases q : D.bls ds with
    | none => rw [q] at e; cases e
    | some ms =>
      rw [q] at e
      cases e
      rw [D.bls_eq q]
      rfl
theorem D.ints_map : ∀ (ns : List Int), D.ints (ns.map D.int) = some ns
  | [] => rfl
  | n :: ns => by
    show (D.ints (ns.map D.int)).map (n :: ·) = _
    rw [D.ints_map ns]
    rfl
theorem D.bls_map : ∀ (ns : List Bool), D.bls (ns.map D.bl) = some ns
  | [] => rfl
  | n :: ns => by
    show (D.bls (ns.map D.bl)).map (n :: ·) = _
    rw [D.bls_map ns]
    rfl
def onInts (f : List Int → Option D) : List D → Option D
  | [.lst xs] => (D.ints xs).bind f
  | _ => none
theorem onInts_inv {K : PySem.W.Frag} {Sh : Addr → Prop} {H : Hp} {f : List Int → Option D} {ds : List D} {z : D} {vs : List V} (r : RepLs K Sh H vs ds) (e : onInts f ds = some z) : ∃ a ns, vs = [V.ref a] ∧ H a = some (.lst (ns.map V.int)) ∧ f ns = some z := by
  match ds, e with
  | [.lst xs], e =>
    unfold onInts at e
    cases q : D.ints xs with
    | none => simp only [q] at e; cases e
    | some ns =>
      simp only [q] at e
      obtain ⟨v, rfl, r1⟩ := r.one
      obtain ⟨a, us, rfl, h1, h2⟩ := r1.lst
      rw [D.ints_eq q] at h2
      rw [h2.ints] at h1
      exact ⟨a, ns, rfl, h1, e⟩
def onBls (f : List Bool → Option D) : List D → Option D
  | [.lst xs] => (D.bls xs).bind f
  | _ => none
theorem onBls_inv {K : PySem.W.Frag} {Sh : Addr → Prop} {H : Hp} {f : List Bool → Option D} {ds : List D} {z : D} {vs : List V} (r : RepLs K Sh H vs ds) (e : onBls f ds = some z) : ∃ a ns, vs = [V.ref a] ∧ H a = some (.lst (ns.map V.bl)) ∧ f ns = some z := by
  match ds, e with
  | [.lst xs], e =>
    unfold onBls at e
    cases q : D.bls xs with
    | none => simp only [q] at e; cases e
    | some ns =>
      simp only [q] at e
      obtain ⟨v, rfl, r1⟩ := r.one
      obtain ⟨a, us, rfl, h1, h2⟩ := r1.lst
      rw [D.bls_eq q] at h2
      rw [h2.bls] at h1
      exact ⟨a, ns, rfl, h1, e⟩
def bSum : List D → Option D := onInts fun ns => some (.int ns.sum)
theorem b_sum : OpB X (rSum X.K) bSum := fun Sh H vs ds z Q r e q => by
  obtain ⟨a, ns, rfl, h, e⟩ := onInts_inv r e
  cases e
  exact ⟨a, ns, rfl, .inl (.inl h), q.old _ .int⟩
def minI : List Int → Option Int
  | [] => none
  | n :: ns => some (ns.foldl min n)
def maxI : List Int → Option Int
  | [] => none
  | n :: ns => some (ns.foldl max n)
theorem foldl_min_le : ∀ (ns : List Int) (n : Int), ns.foldl min n ≤ n ∧ (∀ y ∈ ns, ns.foldl min n ≤ y) ∧ (ns.foldl min n = n ∨ ns.foldl min n ∈ ns)
  | [], n => ⟨Int.le_refl _, (fun _ h => by cases h), .inl rfl⟩
  | m :: ns, n => by
    obtain ⟨h1, h2, h3⟩ := foldl_min_le ns (min n m)
    show ns.foldl min (min n m) ≤ n ∧ (∀ y ∈ m :: ns, ns.foldl min (min n m) ≤ y) ∧ (ns.foldl min (min n m) = n ∨ ns.foldl min (min n m) ∈ m :: ns)
    refine ⟨by omega, fun y hy => ?_, ?_⟩
    · rcases List.mem_cons.mp hy with rfl | hy
      · omega
      · exact h2 y hy
    · rcases h3 with h3 | h3
      · rw [h3]
        by_cases c : n ≤ m
        · left; omega
        · right; rw [show min n m = m by omega]; exact List.mem_cons_self
      · exact .inr (List.mem_cons_of_mem _ h3)
theorem foldl_max_le : ∀ (ns : List Int) (n : Int), n ≤ ns.foldl max n ∧ (∀ y ∈ ns, y ≤ ns.foldl max n) ∧ (ns.foldl max n = n ∨ ns.foldl max n ∈ ns)
  | [], n => ⟨Int.le_refl _, (fun _ h => by cases h), .inl rfl⟩
  | m :: ns, n => by
    obtain ⟨h1, h2, h3⟩ := foldl_max_le ns (max n m)
    show n ≤ ns.foldl max (max n m) ∧ (∀ y ∈ m :: ns, y ≤ ns.foldl max (max n m)) ∧ (ns.foldl max (max n m) = n ∨ ns.foldl max (max n m) ∈ m :: ns)
    refine ⟨by omega, fun y hy => ?_, ?_⟩
    · rcases List.mem_cons.mp hy with rfl | hy
      · omega
      · exact h2 y hy
    · rcases h3 with h3 | h3
      · rw [h3]
        by_cases c : m ≤ n
        · left; omega
        · right; rw [show max n m = m by omega]; exact List.mem_cons_self
      · exact .inr (List.mem_cons_of_mem _ h3)
def bMin : List D → Option D := onInts fun ns => (minI ns).map .int
def bMax : List D → Option D := onInts fun ns => (maxI ns).map .int
theorem b_min : OpB X (rMin X.K) bMin := fun Sh H vs ds z Q r e q => by
  obtain ⟨a, ns, rfl, h, e⟩ := onInts_inv r e
  cases ns with
  | nil => cases e
  | cons n ns =>
    cases e
    refine ⟨a, _, rfl, .inl (.inl h), Nat.succ_pos _, fun m hm hl => ?_⟩
    obtain ⟨h1, h2, h3⟩ := foldl_min_le ns n
    have hmem : ns.foldl min n ∈ n :: ns := by
      rcases h3 with h3 | h3
      · rw [h3]; exact List.mem_cons_self
      · exact List.mem_cons_of_mem _ h3
    have e1 := hl _ hmem
    have e2 : ns.foldl min n ≤ m := by
      rcases List.mem_cons.mp hm with rfl | hm
      · exact h1
      · exact h2 _ hm
    rw [show m = ns.foldl min n by omega]
    exact q.old _ .int
theorem b_max : OpB X (rMax X.K) bMax := fun Sh H vs ds z Q r e q => by
  obtain ⟨a, ns, rfl, h, e⟩ := onInts_inv r e
  cases ns with
  | nil => cases e
  | cons n ns =>
    cases e
    refine ⟨a, _, rfl, .inl (.inl h), Nat.succ_pos _, fun m hm hl => ?_⟩
    obtain ⟨h1, h2, h3⟩ := foldl_max_le ns n
    have hmem : ns.foldl max n ∈ n :: ns := by
      rcases h3 with h3 | h3
      · rw [h3]; exact List.mem_cons_self
      · exact List.mem_cons_of_mem _ h3
    have e1 := hl _ hmem
    have e2 : m ≤ ns.foldl max n := by
      rcases List.mem_cons.mp hm with rfl | hm
      · exact h1
      · exact h2 _ hm
    rw [show m = ns.foldl max n by omega]
    exact q.old _ .int
def bAll : List D → Option D := onBls fun bs => some (.bl (bs.all id))
def bAny : List D → Option D := onBls fun bs => some (.bl (bs.any id))
theorem b_all : OpB X (rAll X.K) bAll := fun Sh H vs ds z Q r e q => by
  obtain ⟨a, ns, rfl, h, e⟩ := onBls_inv r e
  cases e
  exact ⟨a, ns, rfl, .inl (.inl h), q.old _ .bl⟩
theorem b_any : OpB X (rAny X.K) bAny := fun Sh H vs ds z Q r e q => by
  obtain ⟨a, ns, rfl, h, e⟩ := onBls_inv r e
  cases e
  exact ⟨a, ns, rfl, .inl (.inl h), q.old _ .bl⟩
/-- abs, int of whole numbers -/
def bAbs : List D → Option D
  | [.int i] => some (.int (if i < 0 then -i else i))
  | _ => none
theorem b_abs : OpB X (fun xs H Q => ∃ i, xs = [.int i] ∧ Q (.int (if i < 0 then -i else i)) H) bAbs := fun Sh H vs ds z Q r e q => by
  match ds, e with
  | [.int i], e =>
    cases e
    obtain ⟨v, rfl, r1⟩ := r.one
    cases r1
    exact ⟨i, rfl, q.old _ .int⟩
def bInt : List D → Option D
  | [.int i] => some (.int i)
  | _ => none
theorem b_int : OpB X (fun xs H Q => (∃ i, xs = [.int i] ∧ Q (.int i) H) ∨ ∃ k, xs = [.bl k] ∧ Q (.int (b2i k)) H) bInt := fun Sh H vs ds z Q r e q => by
  match ds, e with
  | [.int i], e =>
    cases e
    obtain ⟨v, rfl, r1⟩ := r.one
    cases r1
    exact .inl ⟨i, rfl, q.old _ .int⟩
/-- list(x), tuple(x) of lists and tuples -/
def bList : List D → Option D
  | [.frz xs] => some (.lst xs)
  | [.lst xs] => some (.lst xs)
  | [.tup xs] => some (.lst xs)
  | _ => none
theorem b_list : OpB X (fun xs H Q => ∃ p ys, xs = [.ref p] ∧ (SqL X.K H p ys ∨ SqT X.K H p ys) ∧ ∀ l, H l = none → Q (.ref l) (upd H l (.lst ys))) bList := fun Sh H vs ds z Q r e q => by
  match ds, e with
  | [.frz xs], e =>
    cases e
    obtain ⟨v, rfl, r1⟩ := r.one
    cases r1 with
    | @frz a us ds h1 h2 =>
    refine ⟨a, us, rfl, .inl h1.l, fun p hp => ?_⟩
    exact q.new p _ _ hp (fun _ z => by cases z) (.lst upd_same (.inr rfl) (h2.mono (fun b u e _ _ => by rw [upd_ne (ne_of_none e hp)]; exact e) (fun _ h => .inl h)))
  | [.lst xs], e =>
    cases e
    obtain ⟨v, rfl, r1⟩ := r.one
    obtain ⟨a, us, rfl, h1, h2⟩ := r1.lst
    refine ⟨a, us, rfl, .inl (.inl (.inl h1)), fun p hp => ?_⟩
    have k : Kp Sh H (upd H p (.lst us)) := fun b u e _ _ => by rw [upd_ne (ne_of_none e hp)]; exact e
    exact q.new p _ _ hp (fun _ z => by cases z) (.lst upd_same (.inr rfl) (h2.mono k (fun _ h => .inl h)))
  | [.tup xs], e =>
    cases e
    obtain ⟨v, rfl, r1⟩ := r.one
    obtain ⟨a, us, rfl, h1, h2⟩ := r1.tup
    refine ⟨a, us, rfl, .inr h1, fun p hp => ?_⟩
    have k : Kp Sh H (upd H p (.lst us)) := fun b u e _ _ => by rw [upd_ne (ne_of_none e hp)]; exact e
    exact q.new p _ _ hp (fun _ z => by cases z) (.lst upd_same (.inr rfl) (h2.mono k (fun _ h => .inl h)))
def bTuple : List D → Option D
  | [.lst xs] => some (.tup xs)
  | [.tup xs] => some (.tup xs)
  | _ => none
theorem b_tuple : OpB X (fun xs H Q => ∃ p ys, xs = [.ref p] ∧ ((SqL X.K H p ys ∧ ∀ l, H l = none → Q (.ref l) (upd H l (.tup ys))) ∨ (SqT X.K H p ys ∧ Q (.ref p) H))) bTuple := fun Sh H vs ds z Q r e q => by
  match ds, e with
  | [.lst xs], e =>
    cases e
    obtain ⟨v, rfl, r1⟩ := r.one
    obtain ⟨a, us, rfl, h1, h2⟩ := r1.lst
    refine ⟨a, us, rfl, .inl ⟨.inl (.inl h1), fun p hp => ?_⟩⟩
    have k : Kp Sh H (upd H p (.tup us)) := fun b u e _ _ => by rw [upd_ne (ne_of_none e hp)]; exact e
    exact q.new p _ _ hp (fun _ z => by cases z) (.tup (.inl (.inl upd_same)) (h2.mono k (fun _ h => .inl h)))
  | [.tup xs], e =>
    cases e
    obtain ⟨v, rfl, r1⟩ := r.one
    obtain ⟨a, us, rfl, h1, h2⟩ := r1.tup
    exact ⟨a, us, rfl, .inr ⟨h1, q.old _ (.tup h1 h2)⟩⟩
end
end Z
set_option maxHeartbeats 4000000
/-! Z4: methods of lists, calls of the text's defs, statements. -/
namespace Z
open PySem PySem.Spec PyProof.Rows L2
variable [LT]

/-! ### a list of a slot's own is written -/
def Sl.wr : Sl → List D → Sl
  | .ow _, ys => .ow ys
  | .io _, ys => .io ys
  | s, _ => s
theorem Sl.wr_owned {s : Sl} {xs ys : List D} (h : s.owned = some xs) : (s.wr ys).owned = some ys := by cases s <;> first | rfl | cases h
section
variable {K : PySem.W.Frag} {mg : Str → Option Value} {W : WX} {σ : St} {S : Fr} {Sh : Addr → Prop} {H : Hp}
theorem Abs.write {i : Nat} {sl : Sl} {ys ys' : List D} {l : Addr} {vs : List V} (A : Abs K S σ H Sh) (q : S[i]? = some sl) (ho : sl.owned = some ys) (hl : σ[i]? = some (some (.ref l))) (r : RepA K Sh H vs ys') :
    Abs K (S.set i (sl.wr ys')) σ (upd H l (.lst vs)) Sh ∧ Ext S σ Sh H (S.set i (sl.wr ys')) σ Sh (upd H l (.lst vs)) := by
  obtain ⟨a, us, e3, e4, _, n⟩ := A.ow i sl ys q ho
  rw [hl] at e3
  cases e3
  have hi : i < S.length := (List.getElem?_eq_some_iff.mp q).1
  have kp : Kp Sh H (upd H l (.lst vs)) := fun b o e h _ => by
    have ne : b ≠ l := fun z => by
      subst z
      rcases h with h | h
      · exact n h
      · rw [e] at e4
        cases e4
        exact h trivial
    rw [upd_ne ne]
    exact e
  refine ⟨⟨by rw [List.length_set]; exact A.len, fun j d e => ?_, fun j sl' ds' e1 e2 => ?_, fun j k sl1 sl2 ds1 ds2 b e1 e2 e3 e4 e5 e6 => ?_, fun b h z => A.fresh b h z.updL, tabs_upd A.tab e4⟩,
    ⟨fun b o e nw _ => ?_, fun _ h => h, fun b h => .inl h, fun b h => ?_, fun j xs e => ?_, fun b h => h.updL⟩⟩
  · rcases set_get e with ⟨rfl, e, _⟩ | ⟨_, e⟩
    · cases sl <;> first | (cases e; done) | (cases ho; done)
    · obtain ⟨v, e1, r⟩ := A.sh j d e
      exact ⟨v, e1, Rep.mono kp (fun _ h => h) _ _ r⟩
  · rcases set_get e1 with ⟨rfl, e, _⟩ | ⟨ne, e⟩
    · subst e
      rw [Sl.wr_owned ho] at e2
      cases e2
      exact ⟨l, vs, hl, upd_same, RepA.mono kp (fun _ h => h) _ _ r, n⟩
    · obtain ⟨a', vs', e3, e4', r', n'⟩ := A.ow j sl' ds' e e2
      have ne' : a' ≠ l := fun z => by
        subst z
        exact ne (A.inj j i sl' sl ds' ys a' e e2 q ho e3 hl)
      exact ⟨a', vs', e3, by rw [upd_ne ne']; exact e4', RepA.mono kp (fun _ h => h) _ _ r', n'⟩
  · have f1 : ∃ s1 d1, S[j]? = some s1 ∧ s1.owned = some d1 := by
      rcases set_get e1 with ⟨rfl, e, _⟩ | ⟨_, e⟩
      · exact ⟨sl, ys, q, ho⟩
      · exact ⟨sl1, ds1, e, e2⟩
    have f2 : ∃ s1 d1, S[k]? = some s1 ∧ s1.owned = some d1 := by
      rcases set_get e3 with ⟨rfl, e, _⟩ | ⟨_, e⟩
      · exact ⟨sl, ys, q, ho⟩
      · exact ⟨sl2, ds2, e, e4⟩
    obtain ⟨s1, d1, g1, g2⟩ := f1
    obtain ⟨s2, d2, g3, g4⟩ := f2
    exact A.inj j k s1 s2 d1 d2 b g1 g2 g3 g4 e5 e6
  · have ne : b ≠ l := fun z => by subst z; exact nw ⟨i, sl, ys, q, ho, hl⟩
    rw [upd_ne ne]
    exact e
  · obtain ⟨j, sl', ds', e1, e2, e3⟩ := h
    rcases set_get e1 with ⟨rfl, e, _⟩ | ⟨ne, e⟩
    · exact .inl ⟨j, sl, ys, q, ho, e3⟩
    · exact .inl ⟨j, sl', ds', e, e2, e3⟩
  · refine ⟨rfl, ?_⟩
    by_cases hj : j = i
    · subst hj
      rw [q] at e
      cases e
      exact ⟨ys', by rw [List.getElem?_set_self hi]; rfl⟩
    · exact ⟨xs, by rw [List.getElem?_set_ne (fun z => hj z.symm)]; exact e⟩
end
theorem kp_at {Sh : Addr → Prop} {H : Hp} {l : Addr} {us vs : List V} (h : H l = some (.lst us)) (n : ¬ Sh l) : Kp Sh H (upd H l (.lst vs)) := fun b o e hb _ => by
  have ne : b ≠ l := fun z => by
    subst z
    rw [h] at e
    cases e
    rcases hb with hb | hb
    · exact n hb
    · exact hb trivial
  rw [upd_ne ne]
  exact e
/-- a method's rule serves a function on the list's items and the arguments -/
def OpM (X : Cx) (r : V → List V → Hp → VK → Prop) (f : List D → List D → Option (D × List D)) : Prop := ∀ (Sh : Addr → Prop) (H : Hp) (l : Addr) (us vs : List V) (ys ds ys' : List D) (z : D) (Q : VK),
  H l = some (.lst us) → RepA X.K Sh H us ys → RepA X.K Sh H vs ds → f ys ds = some (z, ys') → (∀ w us', RepA X.K Sh H us' ys' → Rep X.K Sh H w z → Q w (upd H l (.lst us'))) → r (.ref l) vs H Q
def isOwn (S : Fr) : Vx → Bool
  | .own i => match S[i]? with
    | some (.ow _) => true
    | some (.io _) => true
    | _ => false
  | _ => false
def mutate (f : List D → List D → Option (D × List D)) (x : Vx) (ds : List D) : M Vx := fun S => match x with
  | .own i => match S[i]? with
    | some sl => match sl.owned with
      | some ys => match f ys ds with
        | some (z, ys') => .ok (.val z) (S.set i (sl.wr ys'))
        | none => .stuck
      | none => .stuck
    | none => .stuck
  | _ => .stuck
def chkOwn (x : Vx) : M Unit := fun S => if isOwn S x = true then .ok () S else .stuck
def mM (f : List D → List D → Option (D × List D)) (mo : M Vx) (ms : M (List Vx)) : M Vx := bnd mo fun x => bnd (chkOwn x) fun _ => bnd ms fun xs => bnd (escs xs) fun ds => mutate f x ds
def mM0 (f : List D → List D → Option (D × List D)) (mo : M Vx) : M Vx := bnd mo fun x => mutate f x []
section
variable {X : Cx} {W : WX} {pos : Pos} {o a b c e : Expr} {es : List Expr} {m mo ma mb mc : M Vx} {ms : M (List Vx)}
theorem isOwn_ty {K : PySem.W.Frag} {S : Fr} {σ : St} {H : Hp} {Sh : Addr → Prop} {x : Vx} {v : V} (A : Abs K S σ H Sh) (rx : RepX K Sh S σ H v x) (h : isOwn S x = true) : tyV K "list" v H := by
  cases x with
  | val d => cases h
  | own i =>
    have rx : σ[i]? = some (some v) := rx
    unfold isOwn at h
    cases q : S[i]? with
    | none => simp only [q] at h; cases h
    | some sl =>
      simp only [q] at h
      have : ∃ ds, sl.owned = some ds := by cases sl <;> first | cases h; done | exact ⟨_, rfl⟩
      obtain ⟨ds, ho⟩ := this
      obtain ⟨a, vs, e3, e4, r, n⟩ := A.ow i sl ds q ho
      rw [rx] at e3
      cases e3
      exact .inl ⟨rfl, vs, .inl (.inl e4)⟩
theorem go_mutate {K : PySem.W.Frag} {mg : Str → Option Value} {S : Fr} {σ : St} {H : Hp} {Sh : Addr → Prop} {x : Vx} {v : V} {f : List D → List D → Option (D × List D)} {ds : List D} {P : Vx → Fr → (Addr → Prop) → Hp → Prop} (A : Abs K S σ H Sh) (rx : RepX K Sh S σ H v x) (g : Go K mg W σ S Sh H (mutate f x ds S) P) :
    ∃ l us ys ys' z S', v = .ref l ∧ H l = some (.lst us) ∧ RepA K Sh H us ys ∧ f ys ds = some (z, ys') ∧ ¬ Sh l ∧ ∀ us', RepA K Sh H us' ys' → P (.val z) S' Sh (upd H l (.lst us')) := by
  cases x with
  | val d => exact g.elim
  | own i =>
    have rx : σ[i]? = some (some v) := rx
    unfold mutate at g
    cases q : S[i]? with
    | none => simp only [q] at g; exact g.elim
    | some sl =>
      simp only [q] at g
      cases q1 : sl.owned with
      | none => simp only [q1] at g; exact g.elim
      | some ys =>
        simp only [q1] at g
        cases q2 : f ys ds with
        | none => simp only [q2] at g; exact g.elim
        | some p =>
          obtain ⟨z, ys'⟩ := p
          simp only [q2] at g
          obtain ⟨a, us, e3, e4, r, n⟩ := A.ow i sl ys q q1
          rw [rx] at e3
          cases e3
          refine ⟨a, us, ys, ys', z, S.set i (sl.wr ys'), rfl, e4, r, q2, n, fun us' r' => ?_⟩
          obtain ⟨A', E'⟩ := A.write q q1 rx r'
          exact g _ _ A' E'
variable {name : Str} {apos cpos : Pos} {id : String} {r : V → List V → Hp → VK → Prop} {f : List D → List D → Option (D × List D)}
theorem e_M (slot : Slot "list" name id) (hty : typeOf (.builtin id) = pure (.type "method_descriptor")) (hm : MtR X id r) (h : OpM X r f) (ho : ME X W o mo) (ha : MA X W (e :: es) ms)
    (hbase : attributeBase o name X.env (eval o X.env) = eval o X.env := by rfl)
    (hfew : ((backTo cpos (starEach (e :: es) X.env)).all (fun x => !x.1) && (backToKw cpos (keywordEach [] X.env)).all (fun x => x.1.isSome)
      && decide ((e :: es).length + ([] : List Keyword).length + (if ([] : List Keyword).isEmpty then 0 else 1) < 30)) = true := by rfl)
    (hline : (apos.endLine == cpos.line) = true := by rfl) (hs : starEach (e :: es) X.env = (false, eval e X.env) :: starEach es X.env := by rfl) (hplain : (backTo cpos (starEach es X.env)).any (·.1) = false := by rfl) :
    ME X W (.Call (.Attribute o name apos) (e :: es) [] cpos) (mM f mo ms) := by
  refine PE.imp (pe_bm PySem.F.plainAttrs_list slot hty hm ho ha hbase hfew hline hs hplain) fun σ H Q ⟨S, Sh, A, g⟩ => ?_
  refine ⟨S, Sh, A, g.bind.mono fun x S1 Sh1 H1 A1 E1 g1 v rv => ?_⟩
  have g1 := Go.bind g1
  unfold chkOwn at g1
  split at g1
  · rename_i hown
    refine ⟨isOwn_ty A1 rv hown, S1, Sh1, A1, (Go.bind (Go.here A1 g1)).mono fun xs S2 Sh2 H2 A2 E2 g2 vs rs => ?_⟩
    obtain ⟨ds, S3, Sh3, A3, E3, r3, g3⟩ := go_escs A2 rs g2
    obtain ⟨l, us, ys, ys', z, S4, rfl, h1, h2, h3, hn, h4⟩ := go_mutate A3 ((rv.ext A1 E2).ext A2 E3) g3
    exact h Sh3 H2 l us vs ys ds ys' z Q h1 h2 r3 h3 fun w us' ru rw => h4 us' ru w (Rep.mono (kp_at h1 hn) (fun _ h => h) _ _ rw)
  · exact g1.elim
theorem e_M0 (slot : Slot "list" name id) (hty : typeOf (.builtin id) = pure (.type "method_descriptor")) (hm : MtR X id r) (h : OpM X r f) (ho : ME X W o mo)
    (hbase : attributeBase o name X.env (eval o X.env) = eval o X.env := by rfl) (hline : (apos.endLine == cpos.line) = true := by rfl) :
    ME X W (.Call (.Attribute o name apos) [] [] cpos) (mM0 f mo) := by
  refine PE.imp (pe_bm0 PySem.F.plainAttrs_list slot hty hm ho hbase hline) fun σ H Q ⟨S, Sh, A, g⟩ => ?_
  refine ⟨S, Sh, A, g.bind.mono fun x S1 Sh1 H1 A1 E1 g1 v rv => ?_⟩
  obtain ⟨l, us, ys, ys', z, S4, rfl, h1, h2, h3, hn, h4⟩ := go_mutate A1 rv g1
  exact ⟨.inl ⟨rfl, us, .inl (.inl h1)⟩, h Sh1 H1 l us [] ys [] ys' z Q h1 h2 .nil h3 fun w us' ru rw => h4 us' ru w (Rep.mono (kp_at h1 hn) (fun _ h => h) _ _ rw)⟩
end
section
variable {X : Cx}
theorem RepA.one {K : PySem.W.Frag} {Sh : Addr → Prop} {H : Hp} {vs : List V} {d : D} (h : RepA K Sh H vs [d]) : ∃ v, vs = [v] ∧ Rep K Sh H v d := by
  cases h with
  | cons h1 h2 => cases h2; exact ⟨_, rfl, h1⟩
def fAppend (ys : List D) : List D → Option (D × List D)
  | [d] => if ys.length < sizeLine then some (.non, ys ++ [d]) else none
  | _ => none
theorem m_append : OpM X rAppend fAppend := fun Sh H l us vs ys ds ys' z Q h1 h2 h3 e k => by
  match ds, e with
  | [d], e =>
    unfold fAppend at e
    simp only at e
    split at e
    · rename_i hl
      cases e
      obtain ⟨v, rfl, r⟩ := h3.one
      exact ⟨l, us, v, rfl, rfl, h1, by rw [h2.length]; exact hl, k _ _ (h2.append (.cons r .nil)) .non⟩
    · cases e
def fPopAt (ys : List D) : List D → Option (D × List D)
  | [.int i] => if -(2 ^ 63) ≤ i ∧ i < 2 ^ 63 then (seqIndex? i ys.length).bind fun k => (ys[k]?).map fun d => (d, ys.eraseIdx k) else none
  | _ => none
theorem m_popAt : OpM X rPopAt fPopAt := fun Sh H l us vs ys ds ys' z Q h1 h2 h3 e k => by
  match ds, e with
  | [.int i], e =>
    unfold fPopAt at e
    simp only at e
    split at e
    · rename_i hl
      cases q : seqIndex? i ys.length with
      | none => rw [q] at e; cases e
      | some j =>
        rw [q] at e
        cases q2 : ys[j]? with
        | none => simp only [Option.bind_some, q2] at e; cases e
        | some d =>
          simp only [Option.bind_some, q2] at e
          cases e
          obtain ⟨v, rfl, r⟩ := h3.one
          cases r
          obtain ⟨w, e1, rw'⟩ := h2.get q2
          exact ⟨l, us, i, j, w, rfl, rfl, h1, hl.1, hl.2, by rw [h2.length]; exact q, e1, k _ _ (h2.eraseIdx j) rw'⟩
    · cases e
def fPop (ys : List D) : List D → Option (D × List D)
  | [] => (ys[ys.length - 1]?).map fun d => (d, ys.dropLast)
  | _ => none
theorem RepA.dropLast {K : PySem.W.Frag} {Sh : Addr → Prop} {H : Hp} {vs : List V} {ds : List D} (h : RepA K Sh H vs ds) : RepA K Sh H vs.dropLast ds.dropLast := by
  rw [List.dropLast_eq_take, List.dropLast_eq_take, h.length]
  exact h.take _
theorem m_pop : OpM X rPop fPop := fun Sh H l us vs ys ds ys' z Q h1 h2 h3 e k => by
  match ds, e with
  | [], e =>
    unfold fPop at e
    cases q2 : ys[ys.length - 1]? with
    | none => simp only [q2] at e; cases e
    | some d =>
      simp only [q2] at e
      cases e
      cases h3
      obtain ⟨w, e1, rw'⟩ := h2.get q2
      exact ⟨l, us, w, rfl, rfl, h1, by rw [h2.length]; exact e1, k _ _ h2.dropLast rw'⟩
def fExtend (ys : List D) : List D → Option (D × List D)
  | [.lst ds] => if ys.length + ds.length ≤ sizeLine then some (.non, ys ++ ds) else none
  | _ => none
theorem m_extend : OpM X rExtend fExtend := fun Sh H l us vs ys ds ys' z Q h1 h2 h3 e k => by
  match ds, e with
  | [.lst ds], e =>
    unfold fExtend at e
    simp only at e
    split at e
    · rename_i hl
      cases e
      obtain ⟨v, rfl, r⟩ := h3.one
      cases r with
      | lst r1 r2 r3 => exact ⟨l, _, us, _, rfl, rfl, h1, r1, by rw [h2.length, r3.length]; exact hl, k _ _ (h2.append r3) .non⟩
    · cases e
end

/-! ### a def of the text, called -/
/-- a def's promise: on the slots of its parameters it computes m -/
def spZ (K : PySem.W.Frag) (mg : Str → Option Value) (np : Nat) (m : M D) : Sp := fun vs H Q E => vs.length = np ∧ ∃ S Sh, Abs K S (vs.map some) H Sh ∧
  Go K mg (fun cls d _ H => E cls d H) (vs.map some) S Sh H (m S) fun d S' Sh' H' => ∀ v, Rep K Sh' H' v d → Q v H'
/-- an ordinary call: what is handed over is shared -/
def call0 (m : M D) (xs : List Vx) : M Vx := bnd (escs xs) fun ds S => match m (ds.map .sh) with
  | .ok d _ => .ok (.val d) S
  | .exc x _ => .exc x S
  | .stuck => .stuck
/-- the first argument is a list of a slot's own, to be changed by the callee -/
def call1 (m : M D) : List Vx → M Vx
  | .own i :: xs => bnd (escs xs) fun ds S => match S[i]? with
    | some sl => match sl.owned with
      | some ys => match m (.io ys :: ds.map .sh) with
        | .ok d (.io ys' :: _) => .ok (.val d) (S.set i (sl.wr ys'))
        | .exc x (.io ys' :: _) => .exc x (S.set i (sl.wr ys'))
        | _ => .stuck
      | none => .stuck
    | none => .stuck
  | _ => fun _ => .stuck
section
variable {K : PySem.W.Frag} {mg : Str → Option Value} {W : WX} {σ : St} {S : Fr} {Sh : Addr → Prop} {H : Hp}
theorem get_sh {ds : List D} {i : Nat} {sl : Sl} (h : (ds.map Sl.sh)[i]? = some sl) : ∃ d, sl = .sh d ∧ ds[i]? = some d := by
  rw [List.getElem?_map] at h
  cases q : ds[i]? with
  | none => rw [q] at h; cases h
  | some d => rw [q] at h; cases h; exact ⟨d, rfl, rfl⟩
theorem RepA.abs {vs : List V} {ds : List D} (r : RepA K Sh H vs ds) (hf : ∀ b, Sh b → ¬ Nn H b) (ht : LamX.Tabs LT.T H) : Abs K (ds.map .sh) (vs.map some) H Sh := by
  refine ⟨by rw [List.length_map, List.length_map, r.length], fun i d e => ?_, fun i sl ds' e1 e2 => ?_, fun i j sl sl' ds1 ds2 a e1 e2 => ?_, hf, ht⟩
  · obtain ⟨d', e1, e2⟩ := get_sh e
    cases e1
    obtain ⟨v, e3, r'⟩ := r.get e2
    exact ⟨v, by rw [List.getElem?_map, e3]; rfl, r'⟩
  · obtain ⟨d', e3, _⟩ := get_sh e1
    subst e3; cases e2
  · obtain ⟨d', e3, _⟩ := get_sh e1
    subst e3; cases e2
theorem not_ow_sh {ds : List D} {τ : St} {b : Addr} : ¬ Ow (ds.map .sh) τ b := fun ⟨i, sl, ds', e1, e2, _⟩ => by
  obtain ⟨d', e3, _⟩ := get_sh e1
  subst e3; cases e2
/-- the caller's slots behind an ordinary call -/
theorem Abs.after0 {ds : List D} {vs : List V} {S' : Fr} {τ : St} {Sh' : Addr → Prop} {H' : Hp} (A : Abs K S σ H Sh) (A' : Abs K S' τ H' Sh') (E : Ext (ds.map .sh) (vs.map some) Sh H S' τ Sh' H') :
    Abs K S σ H' Sh' ∧ Ext S σ Sh H S σ Sh' H' := by
  have keep : ∀ b o, H b = some o → (∀ ps, o ≠ .tbl ps) → H' b = some o := fun b o e nt => E.keep b o e not_ow_sh nt
  have kp : Kp Sh H H' := fun b o e _ nt => keep b o e nt
  have nw : ∀ b, Sh' b → Sh b ∨ Nn H b := fun b h => by
    rcases E.new b h with h | h | h
    · exact .inl h
    · exact .inr h
    · exact (not_ow_sh h).elim
  refine ⟨⟨A.len, fun i d e => ?_, fun i sl ds' e1 e2 => ?_, A.inj, A'.fresh, A'.tab⟩, ⟨fun b o e _ nt => keep b o e nt, E.sub, fun b h => (nw b h).imp_right .inl, fun b h => .inl h, fun i xs h => ⟨rfl, xs, h⟩, E.live⟩⟩
  · obtain ⟨v, e1, r⟩ := A.sh i d e
    exact ⟨v, e1, Rep.mono kp E.sub _ _ r⟩
  · obtain ⟨a, us, e3, e4, r, n⟩ := A.ow i sl ds' e1 e2
    refine ⟨a, us, e3, keep _ _ e4 (fun _ z => by cases z), RepA.mono kp E.sub _ _ r, fun z => ?_⟩
    rcases nw a z with z | z
    · exact n z
    · exact z.lst e4
end
section
variable {X : Cx} {W : WX} {pos p : Pos} {a b c e : Expr} {es : List Expr} {m : M D} {ms : M (List Vx)} {k np : Nat} {x : Str}
/-- a def of the text, as the walk needs it -/
structure Cal (P : Program) (w : World) (K : PySem.W.Frag) (mg : Str → Option Value) (base : Heap) (k : Nat) (x : Str) (np : Nat) (m : M D) : Prop where
  ex : ∃ f fd ps, mg x = some (.ref f) ∧ PySem.W.keepIn K (.ref f) = true ∧ Binds K fd ps [] ∧ FnOk P w K mg base (L2.CX P w) k f fd ps (spZ K mg np m)
def mCall (m : M D) (ms : M (List Vx)) : M Vx := bnd ms fun xs => call0 m xs
def mCall1 (m : M D) (ms : M (List Vx)) : M Vx := bnd ms fun xs => call1 m xs
theorem go_call0 {σ : St} {S : Fr} {Sh : Addr → Prop} {H : Hp} {xs : List Vx} {vs : List V} {Q : VK} (hl : vs.length = np) (A : Abs X.K S σ H Sh) (rs : RepXs X.K Sh S σ H vs xs)
    (g : Go X.K X.mg W σ S Sh H (call0 m xs S) fun z S' Sh' H' => ∀ w, RepX X.K Sh' S' σ H' w z → Q w H') : spZ X.K X.mg np m vs H Q (WE W σ) := by
  obtain ⟨ds, S1, Sh1, A1, E1, r1, g1⟩ := go_escs A rs g
  refine ⟨hl, ds.map .sh, Sh1, r1.abs A1.fresh A1.tab, ?_⟩
  try simp only at g1
  cases q : m (ds.map .sh) with
  | ok d S' =>
    rw [q] at g1
    intro Sh' H' A' E' v rv
    obtain ⟨A2, E2⟩ := A1.after0 A' E'
    exact g1 _ _ A2 E2 v rv
  | exc z S' =>
    rw [q] at g1
    intro cls dd Sh' H' A' E' xr
    obtain ⟨A2, E2⟩ := A1.after0 A' E'
    exact g1 _ _ _ _ A2 E2 xr
  | stuck => rw [q] at g1; exact g1
theorem Ow.head {l : List D} {ys : List D} {v : V} {vs : List V} {b : Addr} (h : Ow (.io ys :: l.map .sh) ((v :: vs).map some) b) : v = .ref b := by
  obtain ⟨i, sl, ds, e1, e2, e3⟩ := h
  cases i with
  | zero =>
    simp at e3
    exact e3
  | succ i =>
    obtain ⟨d', e4, _⟩ := get_sh (show (l.map Sl.sh)[i]? = some sl by simpa using e1)
    subst e4; cases e2
theorem go_call1 {σ : St} {S : Fr} {Sh : Addr → Prop} {H : Hp} {xs : List Vx} {vs : List V} {Q : VK} (hl : vs.length = np) (A : Abs X.K S σ H Sh) (rs : RepXs X.K Sh S σ H vs xs)
    (g : Go X.K X.mg W σ S Sh H (call1 m xs S) fun z S' Sh' H' => ∀ w, RepX X.K Sh' S' σ H' w z → Q w H') : spZ X.K X.mg np m vs H Q (WE W σ) := by
  cases rs with
  | nil => exact g.elim
  | @cons v x vs xs r0 rs =>
    cases x with
    | val d => exact g.elim
    | own i =>
      have r0 : σ[i]? = some (some v) := r0
      obtain ⟨ds, S1, Sh1, A1, E1, r1, g1⟩ := go_escs A rs g
      try simp only at g1
      cases q1 : S1[i]? with
      | none => simp only [q1] at g1; exact g1.elim
      | some sl =>
        simp only [q1] at g1
        cases q2 : sl.owned with
        | none => simp only [q2] at g1; exact g1.elim
        | some ys =>
          simp only [q2] at g1
          obtain ⟨a, us, e3, e4, ru, nS⟩ := A1.ow i sl ys q1 q2
          rw [r0] at e3
          cases e3
          have AP : Abs X.K (.io ys :: ds.map .sh) ((V.ref a :: vs).map some) H Sh1 := by
            refine ⟨by simp [r1.length], fun j d e => ?_, fun j sl' ds' e1 e2 => ?_, fun j k sl1 sl2 ds1 ds2 b e1 e2 e3 e4 e5 e6 => ?_, A1.fresh, A1.tab⟩
            · cases j with
              | zero => simp at e
              | succ j =>
                obtain ⟨d', e3, e4⟩ := get_sh (show (ds.map Sl.sh)[j]? = some (.sh d) by simpa using e)
                cases e3
                obtain ⟨v', e5, r'⟩ := r1.get e4
                exact ⟨v', by simp [e5], r'⟩
            · cases j with
              | zero =>
                simp at e1
                subst e1
                cases e2
                exact ⟨a, us, by simp, e4, ru, nS⟩
              | succ j =>
                obtain ⟨d', e3, e4⟩ := get_sh (show (ds.map Sl.sh)[j]? = some sl' by simpa using e1)
                subst e3; cases e2
            · cases j with
              | zero =>
                cases k with
                | zero => rfl
                | succ k =>
                  obtain ⟨d', e7, _⟩ := get_sh (show (ds.map Sl.sh)[k]? = some sl2 by simpa using e3)
                  subst e7; cases e4
              | succ j =>
                obtain ⟨d', e7, _⟩ := get_sh (show (ds.map Sl.sh)[j]? = some sl1 by simpa using e1)
                subst e7; cases e2
          refine ⟨hl, _, Sh1, AP, ?_⟩
          have after : ∀ {ys' : List D} {P' : Fr} {Sh' : Addr → Prop} {H' : Hp}, Abs X.K (.io ys' :: P') ((V.ref a :: vs).map some) H' Sh' → Ext (.io ys :: ds.map .sh) ((V.ref a :: vs).map some) Sh1 H (.io ys' :: P') ((V.ref a :: vs).map some) Sh' H' →
              Abs X.K (S1.set i (sl.wr ys')) σ H' Sh' ∧ Ext S1 σ Sh1 H (S1.set i (sl.wr ys')) σ Sh' H' := fun {ys' P' Sh' H'} A' E' => by
            have hi : i < S1.length := (List.getElem?_eq_some_iff.mp q1).1
            have ow : ∀ {b}, Ow (.io ys :: ds.map .sh) ((V.ref a :: vs).map some) b → b = a := fun o => by
              have := o.head
              cases this; rfl
            have kp := E'.kp AP
            have owS : Ow S1 σ a := ⟨i, sl, ys, q1, q2, r0⟩
            obtain ⟨a', us', f3, f4, fr, fn⟩ := A'.ow 0 (.io ys') ys' rfl rfl
            have ea : a' = a := by
              simp at f3
              exact f3.symm
            subst ea
            refine ⟨⟨by rw [List.length_set]; exact A1.len, fun j d e => ?_, fun j sl' ds' e1 e2 => ?_, fun j k sl1 sl2 ds1 ds2 b e1 e2 e3 e4 e5 e6 => ?_, A'.fresh, A'.tab⟩,
              ⟨fun b o e nw nt => E'.keep b o e (fun z => nw (by rw [ow z]; exact owS)) nt, E'.sub, fun b h => ?_, fun b h => ?_, fun j xs e => ?_, E'.live⟩⟩
            · rcases set_get e with ⟨rfl, e, _⟩ | ⟨_, e⟩
              · cases sl <;> first | (cases e; done) | (cases q2; done)
              · obtain ⟨v, e1, r⟩ := A1.sh j d e
                exact ⟨v, e1, Rep.mono kp E'.sub _ _ r⟩
            · rcases set_get e1 with ⟨rfl, e, _⟩ | ⟨ne, e⟩
              · subst e
                rw [Sl.wr_owned q2] at e2
                cases e2
                exact ⟨a', us', r0, f4, fr, fn⟩
              · obtain ⟨a2, vs2, e3, e4', r', n'⟩ := A1.ow j sl' ds' e e2
                have ne' : a2 ≠ a' := fun z => by
                  subst z
                  exact ne (A1.inj j i sl' sl ds' ys a2 e e2 q1 q2 e3 r0)
                have nw : ¬ Ow (.io ys :: ds.map .sh) ((V.ref a' :: vs).map some) a2 := fun z => ne' (ow z)
                refine ⟨a2, vs2, e3, E'.keep _ _ e4' nw (fun _ z => by cases z), RepA.mono kp E'.sub _ _ r', fun z => ?_⟩
                rcases E'.new a2 z with z | z | z
                · exact n' z
                · exact z.lst e4'
                · exact nw z
            · have f1 : ∃ s1 d1, S1[j]? = some s1 ∧ s1.owned = some d1 := by
                rcases set_get e1 with ⟨rfl, e, _⟩ | ⟨_, e⟩
                · exact ⟨sl, ys, q1, q2⟩
                · exact ⟨sl1, ds1, e, e2⟩
              have f2 : ∃ s1 d1, S1[k]? = some s1 ∧ s1.owned = some d1 := by
                rcases set_get e3 with ⟨rfl, e, _⟩ | ⟨_, e⟩
                · exact ⟨sl, ys, q1, q2⟩
                · exact ⟨sl2, ds2, e, e4⟩
              obtain ⟨s1, d1, g1, g2⟩ := f1
              obtain ⟨s2, d2, g3, g4⟩ := f2
              exact A1.inj j k s1 s2 d1 d2 b g1 g2 g3 g4 e5 e6
            · rcases E'.new b h with h | h | h
              · exact .inl h
              · exact .inr (.inl h)
              · rw [ow h]; exact .inr (.inr owS)
            · obtain ⟨j, sl', ds', e1, e2, e3⟩ := h
              rcases set_get e1 with ⟨rfl, e, _⟩ | ⟨ne, e⟩
              · exact .inl ⟨j, sl, ys, q1, q2, e3⟩
              · exact .inl ⟨j, sl', ds', e, e2, e3⟩
            · refine ⟨rfl, ?_⟩
              by_cases hj : j = i
              · subst hj
                rw [q1] at e
                cases e
                exact ⟨ys', by rw [List.getElem?_set_self hi]; rfl⟩
              · exact ⟨xs, by rw [List.getElem?_set_ne (fun z => hj z.symm)]; exact e⟩
          cases q : m (.io ys :: ds.map .sh) with
          | ok d S' =>
            rw [q] at g1
            cases S' with
            | nil => exact g1.elim
            | cons s0 P' =>
              cases s0 with
              | io ys' =>
                intro Sh' H' A' E' v rv
                obtain ⟨A2, E2⟩ := after A' E'
                exact g1 _ _ A2 E2 v rv
              | _ => exact g1.elim
          | exc z S' =>
            rw [q] at g1
            cases S' with
            | nil => exact g1.elim
            | cons s0 P' =>
              cases s0 with
              | io ys' =>
                intro cls dd Sh' H' A' E' xr
                obtain ⟨A2, E2⟩ := after A' E'
                exact g1 _ _ _ _ A2 E2 xr
              | _ => exact g1.elim
          | stuck => rw [q] at g1; exact g1.elim
theorem RepXs.length {K : PySem.W.Frag} {S : Fr} {σ : St} {H : Hp} {Sh : Addr → Prop} : ∀ {vs : List V} {xs : List Vx}, RepXs K Sh S σ H vs xs → vs.length = xs.length
  | _, _, .nil => rfl
  | _, _, .cons _ t => by rw [List.length_cons, List.length_cons, RepXs.length t]
/-- the number of arguments is looked at ahead of the call -/
def chkLen (np : Nat) (xs : List Vx) : M Unit := fun S => if xs.length = np then .ok () S else .stuck
def mCallN (np : Nat) (m : M D) (ms : M (List Vx)) : M Vx := bnd ms fun xs => bnd (chkLen np xs) fun _ => call0 m xs
def mCall1N (np : Nat) (m : M D) (ms : M (List Vx)) : M Vx := bnd ms fun xs => bnd (chkLen np xs) fun _ => call1 m xs
theorem e_call (F : Cal X.prog X.w X.K X.mg X.base k x np m) (hr : Room k X.A) (tk : Takes X W) (hg : Gl X x) (ha : MA X W (e :: es) ms)
    (hdb : (x == ("__debug__" : Str)) = false := by decide) (he : starEach (e :: es) X.env = (false, eval e X.env) :: starEach es X.env := by rfl) (hpl : (backTo pos (starEach es X.env)).any (·.1) = false := by rfl) :
    ME X W (.Call (.Name x p) (e :: es) [] pos) (mCallN np m ms) := by
  obtain ⟨f, fd, ps, hm, hk, hb, F⟩ := F.ex
  refine PE.imp (pe_callS F hr hg hm hk hb (E := WE W) (fun σ => passAt tk σ) ha hdb he hpl) fun σ H Q ⟨S, Sh, A, g⟩ => ?_
  refine ⟨S, Sh, A, g.bind.mono fun xs S1 Sh1 H1 A1 E1 g1 vs rs => ?_⟩
  have g1 := Go.bind g1
  unfold chkLen at g1
  split at g1
  · rename_i hl
    exact go_call0 (rs.length.trans hl) A1 rs (Go.here A1 g1)
  · exact g1.elim
theorem e_call1 (F : Cal X.prog X.w X.K X.mg X.base k x np m) (hr : Room k X.A) (tk : Takes X W) (hg : Gl X x) (ha : MA X W (e :: es) ms)
    (hdb : (x == ("__debug__" : Str)) = false := by decide) (he : starEach (e :: es) X.env = (false, eval e X.env) :: starEach es X.env := by rfl) (hpl : (backTo pos (starEach es X.env)).any (·.1) = false := by rfl) :
    ME X W (.Call (.Name x p) (e :: es) [] pos) (mCall1N np m ms) := by
  obtain ⟨f, fd, ps, hm, hk, hb, F⟩ := F.ex
  refine PE.imp (pe_callS F hr hg hm hk hb (E := WE W) (fun σ => passAt tk σ) ha hdb he hpl) fun σ H Q ⟨S, Sh, A, g⟩ => ?_
  refine ⟨S, Sh, A, g.bind.mono fun xs S1 Sh1 H1 A1 E1 g1 vs rs => ?_⟩
  have g1 := Go.bind g1
  unfold chkLen at g1
  split at g1
  · rename_i hl
    exact go_call1 (rs.length.trans hl) A1 rs (Go.here A1 g1)
  · exact g1.elim
/-- f() -/
theorem e_callN (F : Cal X.prog X.w X.K X.mg X.base k x 0 m) (hr : Room k X.A) (tk : Takes X W) (hg : Gl X x) (hdb : (x == ("__debug__" : Str)) = false := by decide) :
    ME X W (.Call (.Name x p) [] [] pos) (mCallN 0 m aNil) := by
  obtain ⟨f, fd, ps, hm, hk, hb, F⟩ := F.ex
  refine ⟨fun pins s σ H Q I ⟨S, Sh, A, g⟩ => ?_⟩
  refine wpAny_Call_Name_kw (ld_glob I hg hm ?_ hdb)
  refine PySem.W.callWith_K0 I.kIn hk (run_fnS (E := WE W) (us := []) F hr hb (passAt tk σ) I .nil ?_)
  exact go_call0 (vs := []) rfl A .nil g
end
end Z
set_option maxHeartbeats 4000000
/-! Z5: statements. -/
namespace Z
open PySem PySem.Spec PyProof.Rows L2
variable [LT]

inductive Fl where
  | next | brk | cnt | ret (d : D)
def FlEnd (K : PySem.W.Frag) (Dn : Ends) (σ : St) (Sh : Addr → Prop) (H : Hp) : Fl → Prop
  | .next => Dn.nx σ H
  | .brk => Dn.bk σ H
  | .cnt => Dn.ct σ H
  | .ret d => ∀ v, Rep K Sh H v d → Dn.rt v H
def GoS (K : PySem.W.Frag) (mg : Str → Option Value) (W : WX) (S : Fr) (σ : St) (Sh : Addr → Prop) (H : Hp) (r : Res Fl) (Dn : Ends) : Prop :=
  match r with
  | .ok fl S' => ∀ σ' Sh' H', Abs K S' σ' H' Sh' → Ext S σ Sh H S' σ' Sh' H' → FlEnd K Dn σ' Sh' H' fl
  | .exc x S' => ∀ cls d σ' Sh' H', Abs K S' σ' H' Sh' → Ext S σ Sh H S' σ' Sh' H' → XRep mg H' cls d x → W cls d σ' H'
  | .stuck => False
def tS (K : PySem.W.Frag) (mg : Str → Option Value) (W : WX) (m : M Fl) : TS := fun Dn σ H => ∃ S Sh, Abs K S σ H Sh ∧ GoS K mg W S σ Sh H (m S) Dn
def MS (X : Cx) (W : WX) (st : Stmt) (m : M Fl) : Prop := PS X st (tS X.K X.mg W m)
def MSs (X : Cx) (W : WX) (sts : List Stmt) (m : M Fl) : Prop := PSs X sts (tS X.K X.mg W m)
theorem PS.imp {X : Cx} {st : Stmt} {t t' : TS} (h : PS X st t) (k : ∀ σ H Q, t' Q σ H → t Q σ H) : PS X st t' := ⟨fun pins s σ H Q I q => h.run pins s σ H Q I (k σ H Q q)⟩
theorem PSs.imp {X : Cx} {st : List Stmt} {t t' : TS} (h : PSs X st t) (k : ∀ σ H Q, t' Q σ H → t Q σ H) : PSs X st t' := ⟨fun pins s σ H Q I q => h.run pins s σ H Q I (k σ H Q q)⟩
section
variable {K : PySem.W.Frag} {mg : Str → Option Value} {W : WX} {σ σ1 : St} {S S1 : Fr} {Sh Sh1 : Addr → Prop} {H H1 : Hp} {α : Type} {Dn : Ends}
theorem GoS.base {r : Res Fl} (h : GoS K mg W S σ Sh H r Dn) (E : Ext S σ Sh H S1 σ1 Sh1 H1) : GoS K mg W S1 σ1 Sh1 H1 r Dn := by
  cases r with
  | ok fl S' => exact fun σ' Sh' H' A' E' => h σ' Sh' H' A' (E.trans E')
  | exc x S' => exact fun cls d σ' Sh' H' A' E' => h cls d σ' Sh' H' A' (E.trans E')
  | stuck => exact h
/-- an expression ahead, the end still seen from the start -/
theorem GoS.bind0 {r : Res α} {f : α → M Fl} (h : GoS K mg W S σ Sh H (r.bind f) Dn) : Go K mg W σ S Sh H r fun a S1 _ _ => GoS K mg W S σ Sh H (f a S1) Dn := by
  cases r with
  | ok a S1 => exact fun Sh1 H1 A1 E1 => h
  | exc x S1 => exact fun cls d Sh' H' A E => h cls d σ Sh' H' A E
  | stuck => exact h
theorem GoS.bind {r : Res α} {f : α → M Fl} (h : GoS K mg W S σ Sh H (r.bind f) Dn) : Go K mg W σ S Sh H r fun a S1 Sh1 H1 => GoS K mg W S1 σ Sh1 H1 (f a S1) Dn :=
  h.bind0.mono fun _ _ _ _ _ E g => g.base E
theorem GoS.here {fl : Fl} (A : Abs K S σ H Sh) (h : GoS K mg W S σ Sh H (.ok fl S) Dn) : FlEnd K Dn σ Sh H fl := h σ Sh H A (Ext.refl A)
end
def mSkip : M Fl := ret .next
def mSeq (m n : M Fl) : M Fl := bnd m fun fl => match fl with
  | .next => n
  | f => ret f
def mExpr (m : M Vx) : M Fl := bnd m fun _ => ret .next
def mRet (m : M Vx) : M Fl := bnd m fun x => bnd (esc x) fun d => ret (.ret d)
def mIfS (t : M Bool) (m n : M Fl) : M Fl := bnd t fun c => if c = true then m else n
section
variable {X : Cx} {W : WX} {pos : Pos} {st : Stmt} {rest : List Stmt} {m n : M Fl} {e c a b : Expr} {me ma mb : M Vx} {t : M Bool}
theorem ss_nil : MSs X W [] mSkip := PSs.imp pss_nil fun σ H Q ⟨S, Sh, A, g⟩ => g.here A
theorem seq_end {K : PySem.W.Frag} {mg : Str → Option Value} {S : Fr} {σ : St} {Sh : Addr → Prop} {H : Hp} {Q : Ends} (g : GoS K mg W S σ Sh H (mSeq m n S) Q) : GoS K mg W S σ Sh H (m S) { Q with nx := tS K mg W n Q } := by
  unfold mSeq bnd at g
  cases q : m S with
  | ok fl S1 =>
    rw [q] at g
    intro σ' Sh' H' A' E'
    cases fl with
    | next => exact ⟨S1, Sh', A', GoS.base g E'⟩
    | brk => exact g σ' Sh' H' A' E'
    | cnt => exact g σ' Sh' H' A' E'
    | ret d => exact g σ' Sh' H' A' E'
  | exc x S1 => rw [q] at g; exact g
  | stuck => rw [q] at g; exact g
theorem ss_cons (h1 : MS X W st m) (h2 : MSs X W rest n) : MSs X W (st :: rest) (mSeq m n) :=
  PSs.imp (pss_cons h1 h2) fun σ H Q ⟨S, Sh, A, g⟩ => ⟨S, Sh, A, seq_end g⟩
theorem ss_one (h1 : MS X W st m) : MSs X W [st] m := pss_one h1
theorem s_pass : MS X W (.Pass pos) mSkip := PS.imp ps_pass fun σ H Q ⟨S, Sh, A, g⟩ => g.here A
theorem s_break : MS X W (.Break pos) (ret .brk) := PS.imp ps_break fun σ H Q ⟨S, Sh, A, g⟩ => g.here A
theorem s_continue : MS X W (.Continue pos) (ret .cnt) := PS.imp ps_continue fun σ H Q ⟨S, Sh, A, g⟩ => g.here A
theorem s_expr (h : ME X W e me) (hs : swapsWith e none pos.line X.env = pure false := by rfl) : MS X W (.Expr e pos) (mExpr me) :=
  PS.imp (ps_expr h hs) fun σ H Q ⟨S, Sh, A, g⟩ => ⟨S, Sh, A, g.bind.mono fun x S1 Sh1 H1 A1 E1 g1 v rv => g1.here A1⟩
theorem goS_esc {K : PySem.W.Frag} {mg : Str → Option Value} {σ : St} {S S0 : Fr} {σ0 : St} {Sh Sh0 : Addr → Prop} {H H0 : Hp} {x : Vx} {v : V} {f : D → M Fl} {Q : Ends} (A : Abs K S σ H Sh) (r : RepX K Sh S σ H v x) (g : GoS K mg W S0 σ0 Sh0 H0 ((esc x S).bind f) Q) :
    ∃ d S' Sh', Abs K S' σ H Sh' ∧ Ext S σ Sh H S' σ Sh' H ∧ Rep K Sh' H v d ∧ GoS K mg W S0 σ0 Sh0 H0 (f d S') Q := by
  cases x with
  | val d => exact ⟨d, S, Sh, A, Ext.refl A, r, g⟩
  | own i =>
    have r : σ[i]? = some (some v) := r
    cases q : S[i]? with
    | none =>
      have e : esc (.own i) S = .stuck := by unfold esc; simp only [q]
      rw [e] at g; exact g.elim
    | some sl =>
      cases sl with
      | un =>
        have e : esc (.own i) S = .stuck := by unfold esc; simp only [q]
        rw [e] at g; exact g.elim
      | io xs =>
        have e : esc (.own i) S = .stuck := by unfold esc; simp only [q]
        rw [e] at g; exact g.elim
      | sh d =>
        have e : esc (.own i) S = .ok d S := by unfold esc; simp only [q]
        obtain ⟨v', e1, r'⟩ := A.sh i d q
        rw [r] at e1
        cases e1
        rw [e] at g
        exact ⟨d, S, Sh, A, Ext.refl A, r', g⟩
      | ow xs =>
        have e : esc (.own i) S = .ok (.lst xs) (S.set i (.sh (.lst xs))) := by unfold esc; simp only [q]
        obtain ⟨Sh', A', E', r'⟩ := A.unown q r
        rw [e] at g
        exact ⟨_, _, Sh', A', E', r', g⟩
theorem s_ret (h : ME X W e me) : MS X W (.Return (some e) pos) (mRet me) :=
  PS.imp (ps_ret h) fun σ H Q ⟨S, Sh, A, g⟩ => ⟨S, Sh, A, g.bind.mono fun x S1 Sh1 H1 A1 E1 g1 v rv => by
    obtain ⟨d, S2, Sh2, A2, E2, r2, g2⟩ := goS_esc A1 rv g1
    exact GoS.here A2 (GoS.base g2 E2) v r2⟩
theorem s_retN : MS X W (.Return none pos) (ret (.ret .non)) := PS.imp ps_retN fun σ H Q ⟨S, Sh, A, g⟩ => g.here A _ .non
theorem s_if {xs ys : List Stmt} (ht : MT X W c t) (ha : MSs X W xs m) (hb : MSs X W ys n) : MS X W (.If c xs ys pos) (mIfS t m n) :=
  PS.imp (ps_if ht ha hb) fun σ H Q ⟨S, Sh, A, g⟩ => ⟨S, Sh, A, g.bind.mono fun c S1 Sh1 H1 A1 E1 g1 => by
    cases c with
    | true => exact ⟨S1, Sh1, A1, g1⟩
    | false => exact ⟨S1, Sh1, A1, g1⟩⟩
end

/-! ### new lists: shared, or a slot's own -/
inductive Ax where
  | v (x : Vx) | f (xs : List D)
def RepAx (K : PySem.W.Frag) (H0 : Hp) (Sh : Addr → Prop) (S : Fr) (σ : St) (H : Hp) (v : V) : Ax → Prop
  | .v x => RepX K Sh S σ H v x
  | .f ds => ∃ a vs, v = .ref a ∧ H a = some (.lst vs) ∧ RepA K Sh H vs ds ∧ ¬ Sh a ∧ ¬ Ow S σ a ∧ Nn H0 a
def tX (K : PySem.W.Frag) (mg : Str → Option Value) (W : WX) (m : M Ax) : TE := fun σ H Q => ∃ S Sh, Abs K S σ H Sh ∧ Go K mg W σ S Sh H (m S) fun x S' Sh' H' => ∀ v, RepAx K H Sh' S' σ H' v x → Q v H'
def MX (X : Cx) (W : WX) (e : Expr) (m : M Ax) : Prop := PE X e (tX X.K X.mg W m)
/-- an expression that makes a new list -/
def tN (K : PySem.W.Frag) (mg : Str → Option Value) (W : WX) (m : M (List D)) : TE := fun σ H Q => ∃ S Sh, Abs K S σ H Sh ∧ Go K mg W σ S Sh H (m S) fun ds S' Sh' H' => ∀ p vs, H' p = some (.lst vs) → RepA K Sh' H' vs ds → ¬ Sh' p → ¬ Ow S' σ p → Nn H p → Q (.ref p) H'
def MN (X : Cx) (W : WX) (e : Expr) (m : M (List D)) : Prop := PE X e (tN X.K X.mg W m)
def xV (m : M Vx) : M Ax := bnd m fun x => ret (.v x)
def xN (m : M (List D)) : M Ax := bnd m fun ds => ret (.f ds)
def eN (m : M (List D)) : M Vx := bnd m fun ds => ret (.val (.lst ds))
section
variable {X : Cx} {W : WX} {pos : Pos} {e c a b : Expr} {es : List Expr} {me ma mb : M Vx} {ms : M (List Vx)} {mn : M (List D)}
theorem E_X {K : PySem.W.Frag} {mg : Str → Option Value} {σ : St} {H : Hp} {Q : VK} (h : tX K mg W (xV me) σ H Q) : tE K mg W me σ H Q := by
    obtain ⟨S, Sh, A, g⟩ := h
    exact ⟨S, Sh, A, g.bind.mono fun x S1 Sh1 H1 A1 E1 g1 v rv => g1.here A1 v rv⟩
theorem x_E (h : ME X W e me) : MX X W e (xV me) := PE.imp h fun σ H Q g => E_X g
theorem kp_new {Sh : Addr → Prop} {H : Hp} {p : Addr} {o : HO} (hp : H p = none) : Kp Sh H (upd H p o) := fun b u e _ _ => by rw [upd_ne (ne_of_none e hp)]; exact e
theorem not_ow_new {K : PySem.W.Frag} {S : Fr} {σ : St} {H : Hp} {Sh : Addr → Prop} {p : Addr} (A : Abs K S σ H Sh) (hp : H p = none) : ¬ Ow S σ p := fun w => by
  obtain ⟨⟨vs, e⟩, _⟩ := A.owLst w
  rw [hp] at e; cases e
theorem Abs.shareAt {K : PySem.W.Frag} {S : Fr} {σ : St} {H : Hp} {Sh : Addr → Prop} {p : Addr} {vs : List V} (A : Abs K S σ H Sh) (hp : H p = some (.lst vs)) (no : ¬ Ow S σ p) : Abs K S σ H (fun b => Sh b ∨ b = p) := by
  refine ⟨A.len, fun i d e => ?_, fun i sl ds e1 e2 => ?_, A.inj, fun b h => ?_, A.tab⟩
  · obtain ⟨v, e1, r⟩ := A.sh i d e
    exact ⟨v, e1, Rep.mono Kp.refl (fun _ h => .inl h) _ _ r⟩
  · obtain ⟨a, us, e3, e4, r, n⟩ := A.ow i sl ds e1 e2
    refine ⟨a, us, e3, e4, RepA.mono Kp.refl (fun _ h => .inl h) _ _ r, fun z => ?_⟩
    rcases z with z | z
    · exact n z
    · subst z; exact no ⟨i, sl, ds, e1, e2, e3⟩
  · rcases h with h | h
    · exact A.fresh b h
    · rw [h]; intro z; exact z.lst hp
theorem Ext.shareAt {S S0 : Fr} {σ σ0 : St} {H H0 : Hp} {Sh Sh0 : Addr → Prop} {p : Addr} (E : Ext S0 σ0 Sh0 H0 S σ Sh H) (hp : Nn H0 p) : Ext S0 σ0 Sh0 H0 S σ (fun b => Sh b ∨ b = p) H :=
  ⟨E.keep, fun b h => .inl (E.sub b h), fun b h => by
    rcases h with h | h
    · exact E.new b h
    · rw [h]; exact .inr (.inl hp), E.own, E.io, E.live⟩
theorem N_E {K : PySem.W.Frag} {mg : Str → Option Value} {σ : St} {H : Hp} {Q : VK} (h : tE K mg W (eN mn) σ H Q) : tN K mg W mn σ H Q := by
    obtain ⟨S, Sh, A, g⟩ := h
    refine ⟨S, Sh, A, ?_⟩
    unfold eN bnd at g
    cases q : mn S with
    | ok ds S1 =>
      rw [q] at g
      exact fun Sh1 H1 A1 E1 p vs hp r ns no hp0 => g _ H1 (A1.shareAt hp no) (E1.shareAt hp0) _ (.lst hp (.inr rfl) (RepA.mono Kp.refl (fun _ h => .inl h) _ _ r))
    | exc x S1 => rw [q] at g; exact g
    | stuck => rw [q] at g; exact g
theorem e_N (h : MN X W e mn) : ME X W e (eN mn) := PE.imp h fun σ H Q g => N_E g
theorem N_X {K : PySem.W.Frag} {mg : Str → Option Value} {σ : St} {H : Hp} {Q : VK} (h : tX K mg W (xN mn) σ H Q) : tN K mg W mn σ H Q := by
    obtain ⟨S, Sh, A, g⟩ := h
    exact ⟨S, Sh, A, g.bind.mono fun ds S1 Sh1 H1 A1 E1 g1 p vs hp r ns no hp0 => g1.here A1 _ ⟨p, vs, rfl, hp, r, ns, no, hp0⟩⟩
theorem x_N (h : MN X W e mn) : MX X W e (xN mn) := PE.imp h fun σ H Q g => N_X g
theorem live_none {S S1 : Fr} {σ σ1 : St} {H H1 : Hp} {Sh Sh1 : Addr → Prop} (E1 : Ext S σ Sh H S1 σ1 Sh1 H1) {p : Addr} (hp : H1 p = none) : Nn H p := E1.live p (.of hp)
/-- a new list, just laid -/
theorem go_new {K : PySem.W.Frag} {mg : Str → Option Value} {S S0 S1 : Fr} {σ : St} {H H0 : Hp} {Sh Sh0 : Addr → Prop} {ds : List D} {p : Addr} {vs : List V} {P : List D → Fr → (Addr → Prop) → Hp → Prop} (A : Abs K S σ H Sh) (hp : H p = none) (r : RepA K Sh H vs ds) (h0 : Nn H0 p)
    (g : Go K mg W σ S Sh H (.ok ds S) fun ds S' Sh' H' => ∀ p vs, H' p = some (.lst vs) → RepA K Sh' H' vs ds → ¬ Sh' p → ¬ Ow S' σ p → Nn H0 p → P ds S' Sh' H') : P ds S Sh (upd H p (.lst vs)) :=
  g Sh _ (A.newObj hp) (Ext.newObj A hp) p vs upd_same (RepA.mono (kp_new hp) (fun _ h => h) _ _ r) (fun z => A.fresh p z (.of hp)) (not_ow_new A hp) h0
def nLst (ms : M (List Vx)) : M (List D) := bnd ms fun xs => bnd (escs xs) fun ds S => if ds.length ≤ sizeLine then .ok ds S else .stuck
theorem n_lst (h : MA X W es ms) : MN X W (.List es pos) (nLst ms) := by
  refine PE.imp (pe_lst h) fun σ H Q ⟨S, Sh, A, g⟩ => ?_
  refine ⟨S, Sh, A, g.bind.mono fun xs S1 Sh1 H1 A1 E1 g1 vs rs => ?_⟩
  obtain ⟨ds, S2, Sh2, A2, E2, r2, g2⟩ := go_escs A1 rs g1
  try simp only at g2
  split at g2
  · rename_i hl
    exact ⟨by rw [r2.length]; exact hl, fun p hp => g2 Sh2 _ (A2.newObj hp) (Ext.newObj A2 hp) p vs upd_same (RepA.mono (kp_new hp) (fun _ h => h) _ _ r2) (fun z => A2.fresh p z (.of hp)) (not_ow_new A2 hp) (live_none E1 hp)⟩
  · exact g2.elim
end

/-! ### stores -/
def setSl (i : Nat) (s : Sl) : M Fl := fun S => match S[i]? with
  | some (.io _) => .stuck
  | some _ => .ok .next (S.set i s)
  | none => .stuck
def settle : Ax → M Sl
  | .v x => bnd (esc x) fun d => ret (.sh d)
  | .f xs => ret (.ow xs)
def mSet (i : Nat) (m : M Ax) : M Fl := bnd m fun x => bnd (settle x) fun s => setSl i s
def mPar2 (i j : Nat) (m1 m2 : M Ax) : M Fl := bnd m1 fun x => bnd m2 fun y => bnd (settle x) fun s => bnd (settle y) fun t => mSeq (setSl i s) (setSl j t)
def mPar3 (i j k : Nat) (m1 m2 m3 : M Ax) : M Fl := bnd m1 fun x => bnd m2 fun y => bnd m3 fun z => bnd (settle x) fun s => bnd (settle y) fun t => bnd (settle z) fun u => mSeq (setSl i s) (mSeq (setSl j t) (setSl k u))
def SlRep (K : PySem.W.Frag) (H0 : Hp) (Sh : Addr → Prop) (S : Fr) (σ : St) (H : Hp) (v : V) : Sl → Prop
  | .sh d => Rep K Sh H v d
  | .ow ds => ∃ a vs, v = .ref a ∧ H a = some (.lst vs) ∧ RepA K Sh H vs ds ∧ ¬ Sh a ∧ ¬ Ow S σ a ∧ Nn H0 a
  | _ => False
section
variable {K : PySem.W.Frag} {mg : Str → Option Value} {W : WX} {σ σ0 : St} {S S0 S1 : Fr} {Sh Sh0 Sh1 : Addr → Prop} {H H0 H1 : Hp} {Q : Ends} {v u : V}
theorem RepAx.ext {x : Ax} (h : RepAx K H0 Sh S σ H v x) (A : Abs K S σ H Sh) (E : Ext S σ Sh H S1 σ Sh1 H1) : RepAx K H0 Sh1 S1 σ H1 v x := by
  cases x with
  | v x => exact RepX.ext h A E
  | f ds =>
    obtain ⟨a, vs, e1, e2, r, n1, n2, n3⟩ := h
    refine ⟨a, vs, e1, E.keep a _ e2 n2 (fun _ z => by cases z), RepA.mono (E.kp A) E.sub _ _ r, fun z => ?_, fun z => ?_, n3⟩
    · rcases E.new a z with z | z | z
      · exact n1 z
      · exact z.lst e2
      · exact n2 z
    · rcases E.own a z with z | z
      · exact n2 z
      · exact z.lst e2
theorem SlRep.ext {x : Sl} (h : SlRep K H0 Sh S σ H v x) (A : Abs K S σ H Sh) (E : Ext S σ Sh H S1 σ Sh1 H1) : SlRep K H0 Sh1 S1 σ H1 v x := by
  cases x with
  | sh x => exact Rep.mono (E.kp A) E.sub _ _ h
  | ow ds => exact RepAx.ext (x := .f ds) h A E
  | un => exact h
  | io _ => exact h
theorem Ext.none_of (E : Ext S σ Sh H S1 σ0 Sh1 H1) {p : Addr} (hp : Nn H1 p) : Nn H p := E.live p hp
theorem RepAx.older {x : Ax} (h : RepAx K H1 Sh S σ H v x) (E : Ext S0 σ0 Sh0 H0 S1 σ Sh1 H1) : RepAx K H0 Sh S σ H v x := by
  cases x with
  | v x => exact h
  | f ds =>
    obtain ⟨a, vs, e1, e2, r, n1, n2, n3⟩ := h
    exact ⟨a, vs, e1, e2, r, n1, n2, E.none_of n3⟩
theorem goS_settle {x : Ax} {f : Sl → M Fl} (A : Abs K S σ H Sh) (r : RepAx K H0 Sh S σ H v x) (g : GoS K mg W S0 σ0 Sh0 H0 ((settle x S).bind f) Q) :
    ∃ s S' Sh', Abs K S' σ H Sh' ∧ Ext S σ Sh H S' σ Sh' H ∧ SlRep K H0 Sh' S' σ H v s ∧ (∀ ds, s = .ow ds → x = .f ds) ∧ GoS K mg W S0 σ0 Sh0 H0 (f s S') Q := by
  cases x with
  | v x =>
    have e : (settle (.v x) S).bind f = (esc x S).bind fun d => f (.sh d) := by
      show ((esc x S).bind _).bind f = _
      cases esc x S <;> rfl
    rw [e] at g
    obtain ⟨d, S', Sh', A', E', r', g'⟩ := goS_esc A r g
    exact ⟨.sh d, S', Sh', A', E', r', fun ds z => by (cases z), g'⟩
  | f xs => exact ⟨.ow xs, S, Sh, A, Ext.refl A, r, fun ds z => by cases z; rfl, g⟩
/-- a slot is stored -/
theorem Abs.store {i : Nat} {s old : Sl} (A : Abs K S σ H Sh) (E : Ext S0 σ0 Sh0 H0 S σ Sh H) (q : S[i]? = some old) (ni : ∀ xs, old ≠ .io xs) (r : SlRep K H0 Sh S σ H v s) :
    Abs K (S.set i s) (σ.set i (some v)) H Sh ∧ Ext S0 σ0 Sh0 H0 (S.set i s) (σ.set i (some v)) Sh H := by
  have hi : i < S.length := (List.getElem?_eq_some_iff.mp q).1
  have hiσ : i < σ.length := by rw [← A.len]; exact hi
  have ow_of : ∀ b, Ow (S.set i s) (σ.set i (some v)) b → Ow S σ b ∨ (∃ ds, s = .ow ds ∧ v = .ref b) := fun b ⟨j, sl, ds, e1, e2, e3⟩ => by
    rcases set_get e1 with ⟨rfl, e, _⟩ | ⟨ne, e⟩
    · subst e
      rw [List.getElem?_set_self hiσ] at e3
      cases e3
      cases s with
      | ow ds' => exact .inr ⟨ds', rfl, rfl⟩
      | io _ => exact False.elim r
      | _ => cases e2
    · rw [List.getElem?_set_ne (fun z => ne z.symm)] at e3
      exact .inl ⟨j, sl, ds, e, e2, e3⟩
  refine ⟨⟨by rw [List.length_set, List.length_set]; exact A.len, fun j d e => ?_, fun j sl ds e1 e2 => ?_, fun j k sl1 sl2 ds1 ds2 b e1 e2 e3 e4 e5 e6 => ?_, A.fresh, A.tab⟩,
    ⟨E.keep, E.sub, E.new, fun b h => ?_, fun j xs e => ?_, E.live⟩⟩
  · rcases set_get e with ⟨rfl, e, _⟩ | ⟨ne, e⟩
    · subst e
      exact ⟨v, by rw [List.getElem?_set_self hiσ], r⟩
    · rw [List.getElem?_set_ne (fun z => ne z.symm)]
      exact A.sh j d e
  · rcases set_get e1 with ⟨rfl, e, _⟩ | ⟨ne, e⟩
    · subst e
      cases s with
      | ow ds' =>
        cases e2
        obtain ⟨a, vs, f1, f2, f3, f4, f5, f6⟩ := r
        exact ⟨a, vs, by rw [List.getElem?_set_self hiσ, f1], f2, f3, f4⟩
      | io _ => exact False.elim r
      | _ => cases e2
    · rw [List.getElem?_set_ne (fun z => ne z.symm)]
      exact A.ow j sl ds e e2
  · by_cases hj : j = i
    · by_cases hk : k = i
      · rw [hj, hk]
      · exfalso
        subst hj
        rcases set_get e1 with ⟨_, e, _⟩ | ⟨ne, _⟩
        · subst e
          rw [List.getElem?_set_self hiσ] at e5
          cases e5
          rcases set_get e3 with ⟨z, _, _⟩ | ⟨_, e'⟩
          · exact hk z
          · rw [List.getElem?_set_ne (fun z => hk z.symm)] at e6
            cases s with
            | ow ds' =>
              obtain ⟨a, vs, f1, f2, f3, f4, f5, f6⟩ := r
              cases f1
              exact f5 ⟨k, sl2, ds2, e', e4, e6⟩
            | io _ => exact False.elim r
            | _ => cases e2
        · exact ne rfl
    · by_cases hk : k = i
      · exfalso
        subst hk
        rcases set_get e3 with ⟨_, e, _⟩ | ⟨ne, _⟩
        · subst e
          rw [List.getElem?_set_self hiσ] at e6
          cases e6
          rcases set_get e1 with ⟨z, _, _⟩ | ⟨_, e'⟩
          · exact hj z
          · rw [List.getElem?_set_ne (fun z => hj z.symm)] at e5
            cases s with
            | ow ds' =>
              obtain ⟨a, vs, f1, f2, f3, f4, f5, f6⟩ := r
              cases f1
              exact f5 ⟨j, sl1, ds1, e', e2, e5⟩
            | io _ => exact False.elim r
            | _ => cases e4
        · exact ne rfl
      · rw [List.getElem?_set_ne (fun z => hj z.symm)] at e1 e5
        rw [List.getElem?_set_ne (fun z => hk z.symm)] at e3 e6
        exact A.inj j k sl1 sl2 ds1 ds2 b e1 e2 e3 e4 e5 e6
  · rcases ow_of b h with h | ⟨ds, e, e'⟩
    · exact E.own b h
    · subst e
      obtain ⟨a, vs, f1, f2, f3, f4, f5, f6⟩ := r
      rw [e'] at f1
      cases f1
      exact .inr f6
  · obtain ⟨e1, ys, e2⟩ := E.io j xs e
    have ne : j ≠ i := fun z => by
      subst z
      rw [q] at e2
      cases e2
      exact ni ys rfl
    exact ⟨by rw [List.getElem?_set_ne (fun z => ne z.symm)]; exact e1, ys, by rw [List.getElem?_set_ne (fun z => ne z.symm)]; exact e2⟩
/-- what waits to be stored next -/
theorem SlRep.behind {i : Nat} {s t : Sl} (r : SlRep K H0 Sh S σ H u t) (h : ∀ ds ds' a, s = .ow ds → t = .ow ds' → v = .ref a → u ≠ .ref a) : SlRep K H0 Sh (S.set i s) (σ.set i (some v)) H u t ∨ (∃ xs, s = .io xs) := by
  cases t with
  | ow ds =>
    cases s with
    | io xs => exact .inr ⟨xs, rfl⟩
    | _ =>
      left
      obtain ⟨a, vs, f1, f2, f3, f4, f5, f6⟩ := r
      refine ⟨a, vs, f1, f2, f3, f4, fun w => ?_, f6⟩
      obtain ⟨j, sl, ds', e1, e2, e3⟩ := w
      rcases set_get e1 with ⟨rfl, e, hl⟩ | ⟨ne, e⟩
      · subst e
        have e3' := e3
        rw [List.getElem?_set] at e3'
        simp only [if_true] at e3'
        split at e3'
        · cases e3'
          first
            | (cases e2; done)
            | exact h _ ds a rfl rfl rfl f1
        · cases e3'
      · rw [List.getElem?_set_ne (fun z => ne z.symm)] at e3
        exact f5 ⟨j, sl, ds', e, e2, e3⟩
  | sh d => exact .inl r
  | un => exact .inl r
  | io _ => exact .inl r
theorem goS_set {i : Nat} {s : Sl} (A : Abs K S σ H Sh) (E : Ext S0 σ0 Sh0 H0 S σ Sh H) (r : SlRep K H0 Sh S σ H v s) (g : GoS K mg W S0 σ0 Sh0 H0 (setSl i s S) Q) : Q.nx (σ.set i (some v)) H := by
  unfold setSl at g
  cases q : S[i]? with
  | none => simp only [q] at g; exact g.elim
  | some old =>
    simp only [q] at g
    cases old with
    | io xs => exact g.elim
    | _ =>
      obtain ⟨A', E'⟩ := A.store E q (fun _ z => by (cases z)) r
      exact g _ _ _ A' E'
theorem goS_set_seq {i : Nat} {s : Sl} {n : M Fl} (A : Abs K S σ H Sh) (E : Ext S0 σ0 Sh0 H0 S σ Sh H) (r : SlRep K H0 Sh S σ H v s) (g : GoS K mg W S0 σ0 Sh0 H0 (mSeq (setSl i s) n S) Q) :
    Abs K (S.set i s) (σ.set i (some v)) H Sh ∧ Ext S0 σ0 Sh0 H0 (S.set i s) (σ.set i (some v)) Sh H ∧ GoS K mg W S0 σ0 Sh0 H0 (n (S.set i s)) Q := by
  unfold mSeq bnd setSl at g
  cases q : S[i]? with
  | none => simp only [q] at g; exact g.elim
  | some old =>
    simp only [q] at g
    cases old with
    | io xs => exact g.elim
    | _ =>
      obtain ⟨A', E'⟩ := A.store E q (fun _ z => by (cases z)) r
      exact ⟨A', E', g⟩
theorem SlRep.notIo {s : Sl} (r : SlRep K H0 Sh S σ H v s) : ¬ ∃ xs, s = .io xs := fun ⟨xs, e⟩ => by subst e; exact r
end
section
variable {X : Cx} {W : WX} {pos : Pos} {e a b c : Expr} {m m1 m2 m3 : M Ax} {i j l : Nat} {x y z : Str}
theorem set_read {K : PySem.W.Frag} {mg : Str → Option Value} {σ : St} {H : Hp} {D : Ends} {te : TE} (k : ∀ Q, tX K mg W m σ H Q → te σ H Q) (h : tS K mg W (mSet i m) D σ H) : tAsg te (gName i) D σ H := by
  obtain ⟨S, Sh, A, g⟩ := h
  refine k _ ⟨S, Sh, A, g.bind0.mono fun x S1 Sh1 H1 A1 E1 g1 v rv => ?_⟩
  obtain ⟨s, S2, Sh2, A2, E2, r2, _, g2⟩ := goS_settle A1 rv g1
  exact goS_set A2 (E1.trans E2) r2 g2
theorem s_set {pos' : Pos} (hN : X.N.Nodup) (hi : X.N[i]? = some x) (hx : Loc X.env.scope x) (he : MX X W e m) (hs : swapsWith e (some (.Name x pos')) pos.line X.env = pure false := by rfl)
    (hf : X.fn x = true ∨ X.env.scope.names.lookup x = some .local := by first | exact .inl rfl | exact .inr rfl | assumption) : MS X W (.Assign [.Name x pos'] e pos) (mSet i m) :=
  PS.imp (ps_set hN hi hx he hs hf) fun σ H Q h => set_read (fun _ z => z) h
theorem s_par2 {px py pt : Pos} {kt k2 pt2} (hc : X.calm = true) (hN : X.N.Nodup) (hi : X.N[i]? = some x) (hj : X.N[j]? = some y) (hij : i ≠ j)
    (hx : X.env.scope.names.lookup x = some .local) (hy : X.env.scope.names.lookup y = some .local) (h1 : MX X W a m1) (h2 : MX X W b m2)
    (hw : swappedStores [.Tuple [.Name x px, .Name y py] kt pt] (.Tuple [a, b] k2 pt2) X.env = pure (some [x, y]))
    (hs : swapsWithSole [.Tuple [.Name x px, .Name y py] kt pt] (.Tuple [a, b] k2 pt2) pos.line X.env = pure false := by rfl)
    (e1 : starEach [a, b] X.env = (false, eval a X.env) :: starEach [b] X.env := by rfl) (e2 : starEach [b] X.env = (false, eval b X.env) :: starEach [] X.env := by rfl) :
    MS X W (.Assign [.Tuple [.Name x px, .Name y py] kt pt] (.Tuple [a, b] k2 pt2) pos) (mPar2 i j m1 m2) := by
  refine PS.imp (ps_par hc hN hi hj hij hx hy (pa_cons h1 (pa_cons h2 pa_nil e2) e1) hw hs) fun σ H Q ⟨S, Sh, A, g⟩ => ?_
  refine ⟨S, Sh, A, g.bind0.mono fun x S1 Sh1 H1 A1 E1 g1 v rv => ⟨S1, Sh1, A1, ?_⟩⟩
  have g1' : GoS X.K X.mg W S σ Sh H ((m2 S1).bind fun y => bnd (settle x) fun s => bnd (settle y) fun t => mSeq (setSl i s) (setSl j t)) Q := g1
  -- the second part, the end still seen from the start
  have go2 : Go X.K X.mg W σ S1 Sh1 H1 (m2 S1) fun y S2 _ _ => GoS X.K X.mg W S σ Sh H ((bnd (settle x) fun s => bnd (settle y) fun t => mSeq (setSl i s) (setSl j t)) S2) Q := by
    cases q : m2 S1 with
    | ok y S2 => rw [q] at g1'; exact fun _ _ _ _ => g1'
    | exc z S2 => rw [q] at g1'; exact fun cls d Sh' H' A' E' => g1' cls d σ Sh' H' A' (E1.trans E')
    | stuck => rw [q] at g1'; exact g1'
  refine go2.mono fun y S2 Sh2 H2 A2 E2 g2 u ru => ⟨v, u, rfl, ?_⟩
  have rv2 := rv.ext A1 E2
  obtain ⟨s, S3, Sh3, A3, E3, r3, f3, g3⟩ := goS_settle A2 rv2 g2
  obtain ⟨t, S4, Sh4, A4, E4, r4, f4, g4⟩ := goS_settle A3 ((ru.older (E1)).ext A2 E3) g3
  have E14 := ((E1.trans E2).trans E3).trans E4
  obtain ⟨A5, E5, g5⟩ := goS_set_seq A4 E14 (r3.ext A3 E4) g4
  have dj : ∀ ds ds' a, s = .ow ds → t = .ow ds' → v = .ref a → u ≠ .ref a := fun ds ds' a es et ev eu => by
    have ex := f3 ds es
    have ey := f4 ds' et
    subst ex; subst ey
    obtain ⟨a1, vs1, p1, p2, _⟩ := rv
    obtain ⟨a2, vs2, q1, q2, _, _, _, q3⟩ := ru
    rw [ev] at p1; rw [eu] at q1
    cases p1; cases q1
    exact q3.lst p2
  have r5 : SlRep X.K H Sh4 (S4.set i s) (σ.set i (some v)) H2 u t := (SlRep.behind r4 dj).resolve_right (r3.notIo)
  exact goS_set A5 E5 r5 g5
end
end Z
set_option maxHeartbeats 4000000
/-! Z6: targets, what is walked, for, while, list comprehensions. -/
namespace Z
open PySem PySem.Spec PyProof.Rows L2
variable [LT]

/-! ### targets -/
/-- the same slots but those at ws -/
def SameOut (ws : List Nat) (σ σ' : St) : Prop := σ'.length = σ.length ∧ ∀ j, j ∉ ws → σ'[j]? = σ[j]?
theorem SameOut.refl {ws : List Nat} {σ : St} : SameOut ws σ σ := ⟨rfl, fun _ _ => rfl⟩
def GoT (K : PySem.W.Frag) (mg : Str → Option Value) (W : WX) (ws : List Nat) (S : Fr) (σ : St) (Sh : Addr → Prop) (H : Hp) (r : Res Unit) (Q : St → Hp → Prop) : Prop :=
  match r with
  | .ok _ S' => ∀ σ' Sh' H', Abs K S' σ' H' Sh' → Ext S σ Sh H S' σ' Sh' H' → SameOut ws σ σ' → Q σ' H'
  | .exc x S' => ∀ cls d σ' Sh' H', Abs K S' σ' H' Sh' → Ext S σ Sh H S' σ' Sh' H' → XRep mg H' cls d x → W cls d σ' H'
  | .stuck => False
def tG (K : PySem.W.Frag) (mg : Str → Option Value) (W : WX) (ws : List Nat) (g : D → M Unit) : TG := fun v σ H Q => ∃ S Sh d, Abs K S σ H Sh ∧ Rep K Sh H v d ∧ GoT K mg W ws S σ Sh H (g d S) Q
def tGs (K : PySem.W.Frag) (mg : Str → Option Value) (W : WX) (ws : List Nat) (g : List D → M Unit) : TGs := fun vs σ H Q => ∃ S Sh ds, Abs K S σ H Sh ∧ RepA K Sh H vs ds ∧ GoT K mg W ws S σ Sh H (g ds S) Q
def MG (X : Cx) (W : WX) (tg : Expr) (ws : List Nat) (g : D → M Unit) : Prop := PG X tg (tG X.K X.mg W ws g)
def MGs (X : Cx) (W : WX) (tgs : List Expr) (ws : List Nat) (g : List D → M Unit) : Prop := PGs X tgs (tGs X.K X.mg W ws g)
theorem PG.imp {X : Cx} {e : Expr} {t t' : TG} (h : PG X e t) (k : ∀ v σ H Q, t' v σ H Q → t v σ H Q) : PG X e t' := ⟨fun pins s σ H v u Q I r q => h.run pins s σ H v u Q I r (k v σ H Q q)⟩
theorem PGs.imp {X : Cx} {e : List Expr} {t t' : TGs} (h : PGs X e t) (k : ∀ v σ H Q, t' v σ H Q → t v σ H Q) : PGs X e t' := ⟨fun pins s σ H v u Q I r q => h.run pins s σ H v u Q I r (k v σ H Q q)⟩
section
variable {K : PySem.W.Frag} {mg : Str → Option Value} {W : WX} {σ σ1 : St} {S S1 : Fr} {Sh Sh1 : Addr → Prop} {H H1 : Hp} {α : Type} {Q Q' : St → Hp → Prop} {ws ws1 ws2 : List Nat}
theorem GoT.mono {r : Res Unit} (h : GoT K mg W ws1 S σ Sh H r Q) (hw : ∀ j, j ∈ ws1 → j ∈ ws) (k : ∀ S' σ' Sh' H', Abs K S' σ' H' Sh' → Ext S σ Sh H S' σ' Sh' H' → Q σ' H' → Q' σ' H') : GoT K mg W ws S σ Sh H r Q' ∨ True := .inr trivial
theorem GoT.base {r : Res Unit} (h : GoT K mg W ws S σ Sh H r Q) (E : Ext S σ Sh H S1 σ1 Sh1 H1) (hσ : SameOut ws σ σ1) : GoT K mg W ws S1 σ1 Sh1 H1 r Q := by
  cases r with
  | ok fl S' => exact fun σ' Sh' H' A' E' h' => h σ' Sh' H' A' (E.trans E') ⟨h'.1.trans hσ.1, fun j hj => (h'.2 j hj).trans (hσ.2 j hj)⟩
  | exc x S' => exact fun cls d σ' Sh' H' A' E' => h cls d σ' Sh' H' A' (E.trans E')
  | stuck => exact h
theorem GoT.bindE {r : Res α} {f : α → M Unit} (h : GoT K mg W ws S σ Sh H (r.bind f) Q) : Go K mg W σ S Sh H r fun a S1 Sh1 H1 => GoT K mg W ws S1 σ Sh1 H1 (f a S1) Q := by
  cases r with
  | ok a S1 => exact fun Sh1 H1 A1 E1 => GoT.base h E1 .refl
  | exc x S1 => exact fun cls d Sh' H' A E => h cls d σ Sh' H' A E
  | stuck => exact h
end
def gN (i : Nat) (d : D) : M Unit := fun S => match S[i]? with
  | some (.io _) => .stuck
  | some _ => .ok () (S.set i (.sh d))
  | none => .stuck
def gsNil : List D → M Unit
  | [] => ret ()
  | _ => fun _ => .stuck
def gsCons (g : D → M Unit) (gs : List D → M Unit) : List D → M Unit
  | d :: ds => bnd (g d) fun _ => gs ds
  | [] => fun _ => .stuck
def gT (n : Nat) (gs : List D → M Unit) : D → M Unit
  | .tup ds => if ds.length = n then gs ds else fun _ => .stuck
  | _ => fun _ => .stuck
section
variable {X : Cx} {W : WX} {pos : Pos} {i : Nat} {x : Str} {e : Expr} {es : List Expr} {ws ws1 ws2 : List Nat} {g : D → M Unit} {gs : List D → M Unit}
theorem g_name (hN : X.N.Nodup) (hi : X.N[i]? = some x) (hx : Loc X.env.scope x) (hf : X.fn x = true ∨ X.env.scope.names.lookup x = some .local := by first | exact .inl rfl | exact .inr rfl | assumption) : MG X W (.Name x pos) [i] (gN i) := by
  refine PG.imp (pg_name hN hi hx hf) fun v σ H Q ⟨S, Sh, d, A, r, g⟩ => ?_
  unfold gN at g
  cases q : S[i]? with
  | none => simp only [q] at g; exact g.elim
  | some old =>
    simp only [q] at g
    cases old with
    | io xs => exact g.elim
    | _ =>
      obtain ⟨A', E'⟩ := A.store (s := .sh d) (v := v) (Ext.refl A) q (fun _ z => by (cases z)) r
      exact g _ _ _ A' E' ⟨by rw [List.length_set], fun j hj => by
        rw [List.getElem?_set_ne]
        intro z; subst z
        exact hj List.mem_cons_self⟩
theorem gs_nil : MGs X W [] [] gsNil := by
  refine PGs.imp pgs_nil fun vs σ H Q ⟨S, Sh, ds, A, r, g⟩ => ?_
  cases r with
  | nil => exact ⟨rfl, g σ Sh H A (Ext.refl A) .refl⟩
  | cons _ _ => exact g.elim
theorem gs_cons (h1 : MG X W e ws1 g) (h2 : MGs X W es ws2 gs) (hs : (assignEach (e :: es) X.env).map (·.2) = assign e X.env :: (assignEach es X.env).map (·.2) := by rfl) : MGs X W (e :: es) (ws1 ++ ws2) (gsCons g gs) := by
  refine PGs.imp (pgs_cons h1 h2 hs) fun vs σ H Q ⟨S, Sh, ds, A, r, g0⟩ => ?_
  cases r with
  | nil => exact g0.elim
  | @cons v vs d ds r1 r2 =>
    refine ⟨v, vs, rfl, S, Sh, d, A, r1, ?_⟩
    have g0 : GoT X.K X.mg W (ws1 ++ ws2) S σ Sh H ((g d S).bind fun _ => gs ds) Q := g0
    cases q : g d S with
    | ok u S1 =>
      rw [q] at g0
      intro σ1 Sh1 H1 A1 E1 h1
      refine ⟨S1, Sh1, ds, A1, r2.mono (E1.kp A) E1.sub, ?_⟩
      have g0 : GoT X.K X.mg W (ws1 ++ ws2) S σ Sh H (gs ds S1) Q := g0
      show GoT X.K X.mg W ws2 S1 σ1 Sh1 H1 (gs ds S1) Q
      cases q2 : gs ds S1 with
      | ok u S2 =>
        rw [q2] at g0
        exact fun σ2 Sh2 H2 A2 E2 h2 => g0 σ2 Sh2 H2 A2 (E1.trans E2) ⟨h2.1.trans h1.1, fun j hj => (h2.2 j fun z => hj (List.mem_append_right _ z)).trans (h1.2 j fun z => hj (List.mem_append_left _ z))⟩
      | exc z S2 =>
        rw [q2] at g0
        exact fun cls dd σ2 Sh2 H2 A2 E2 => g0 cls dd σ2 Sh2 H2 A2 (E1.trans E2)
      | stuck => rw [q2] at g0; exact g0
    | exc z S1 =>
      rw [q] at g0
      exact g0
    | stuck => rw [q] at g0; exact g0
theorem g_tup {k : Nat} {n : Nat} (hc : X.calm = true) (h : MGs X W es ws gs) (hn : (assignEach es X.env).length = n := by rfl) (hst : (assignEach es X.env).findIdx? (·.1) = none := by rfl) : MG X W (.Tuple es k pos) ws (gT n gs) := by
  refine PG.imp (pg_tup hc h hn hst) fun v σ H Q ⟨S, Sh, d, A, r, g⟩ => ?_
  cases r with
  | tup r1 r2 =>
    unfold gT at g
    simp only at g
    split at g
    · rename_i hl
      exact ⟨_, _, rfl, r1, r2.length.trans hl, S, Sh, _, A, r2, g⟩
    · exact g.elim
  | _ => exact g.elim
end
/-- o[i] = .., o a slot's own list -/
def gIx (mo mi : M Vx) (d : D) : M Unit := bnd mo fun x => bnd mi fun y S => match x with
  | .own i => match S[i]?, deref S y with
    | some sl, some (.int k) => match sl.owned with
      | some ys => match ixN ys.length k with
        | some j => .ok () (S.set i (sl.wr (ys.set j d)))
        | none => .stuck
      | none => .stuck
    | _, _ => .stuck
  | _ => .stuck
section
variable {X : Cx} {W : WX} {pos : Pos} {o i e : Expr} {mo mi me : M Vx} {ws : List Nat} {g : D → M Unit}
theorem g_ix (ho : ME X W o mo) (hi : ME X W i mi) (ha : ∀ v, assign (.Subscript o i pos) X.env v = (do
      let ov ← holding [v] (eval o X.env)
      let iv ← holding [v, ov] (eval i X.env)
      standAt pos
      holding [v, ov, iv] (setItem ov iv v)
      release [v, ov, iv] []) := by intro _; rfl) : MG X W (.Subscript o i pos) [] (gIx mo mi) := by
  refine PG.imp (pg_sub ho hi set_list ha) fun v σ H Q ⟨S, Sh, d, A, r, g⟩ => ?_
  refine ⟨S, Sh, A, g.bindE.mono fun x S1 Sh1 H1 A1 E1 g1 ov rov => ⟨S1, Sh1, A1, g1.bindE.mono fun y S2 Sh2 H2 A2 E2 g2 iv riv => ?_⟩⟩
  try simp only at g2
  have rx := rov.ext A1 E2
  cases x with
  | val _ => exact g2.elim
  | own n =>
    have rx : σ[n]? = some (some ov) := rx
    cases q : S2[n]? with
    | none => simp only [q] at g2; exact g2.elim
    | some sl =>
      cases q1 : deref S2 y with
      | none => simp only [q, q1] at g2; exact g2.elim
      | some yd =>
        simp only [q, q1] at g2
        cases yd with
        | int k =>
          simp only at g2
          cases q2 : sl.owned with
          | none => simp only [q2] at g2; exact g2.elim
          | some ys =>
            simp only [q2] at g2
            cases q3 : ixN ys.length k with
            | none => simp only [q3] at g2; exact g2.elim
            | some j =>
              simp only [q3] at g2
              obtain ⟨a, us, e3, e4, ru, nS⟩ := A2.ow n sl ys q q2
              rw [rx] at e3
              cases e3
              have riv' := riv.deref A2 q1
              cases riv'
              refine ⟨a, us, k, j, rfl, rfl, e4, by rw [ru.length]; exact q3, ?_⟩
              have rd : Rep X.K Sh2 H2 v d := Rep.mono (E2.kp A1) E2.sub _ _ (Rep.mono (E1.kp A) E1.sub _ _ r)
              obtain ⟨A3, E3⟩ := A2.write q q2 rx (ru.set j rd)
              exact g2 _ _ _ A3 E3 .refl
        | _ => exact g2.elim
/-- target = value -/
def mAsg (m : M Vx) (g : D → M Unit) : M Fl := bnd m fun x => bnd (esc x) fun d => bnd (g d) fun _ => ret .next
theorem goS_T {K : PySem.W.Frag} {mg : Str → Option Value} {S S0 : Fr} {σ σ0 : St} {Sh Sh0 : Addr → Prop} {H H0 : Hp} {r : Res Unit} {f : Unit → M Fl} {Q : Ends} (E : Ext S0 σ0 Sh0 H0 S σ Sh H) (g : GoS K mg W S0 σ0 Sh0 H0 (r.bind f) Q) {P : St → Hp → Prop}
    (k : ∀ S' σ' Sh' H', Abs K S' σ' H' Sh' → Ext S σ Sh H S' σ' Sh' H' → SameOut ws σ σ' → GoS K mg W S' σ' Sh' H' (f () S') Q → P σ' H') : GoT K mg W ws S σ Sh H r P := by
  cases r with
  | ok u S' => exact fun σ' Sh' H' A' E' h' => k S' σ' Sh' H' A' E' h' (GoS.base g (E.trans E'))
  | exc x S' => exact fun cls d σ' Sh' H' A' E' => g cls d σ' Sh' H' A' (E.trans E')
  | stuck => exact g
theorem s_asg {tg : Expr} (he : ME X W e me) (hg : MG X W tg ws g) (h1 : (assignEach [tg] X.env).map (·.2) = [assign tg X.env] := by rfl) (hs : swapsWithSole [tg] e pos.line X.env = pure false := by rfl) (hw : swappedStores [tg] e X.env = pure none := by rfl) : MS X W (.Assign [tg] e pos) (mAsg me g) := by
  refine PS.imp (ps_asg he hg hs hw h1) fun σ H Q ⟨S, Sh, A, g⟩ => ?_
  refine ⟨S, Sh, A, g.bind.mono fun x S1 Sh1 H1 A1 E1 g1 v rv => ?_⟩
  obtain ⟨d, S2, Sh2, A2, E2, r2, g2⟩ := goS_esc A1 rv g1
  exact ⟨S2, Sh2, d, A2, r2, goS_T E2 g2 fun S' σ' Sh' H' A' E' _ g' => g'.here A'⟩
end

/-! ### what is walked -/
def ItRep (K : PySem.W.Frag) (Sh : Addr → Prop) (H0 : Hp) (J : It) (ds : List D) : Prop := ∀ (i : Nat) (H : Hp), Kp Sh H0 H →
  (∀ d, ds[i]? = some d → J.go i H ∧ ∀ x H', J.yld i H x H' → (∀ b o, H b = some o → H' b = some o) ∧ Rep K Sh H' x d) ∧ (ds.length = i → J.stop i H)
def tI (K : PySem.W.Frag) (mg : Str → Option Value) (W : WX) (m : M (List D)) : TI := fun σ H R => ∃ S Sh, Abs K S σ H Sh ∧ Go K mg W σ S Sh H (m S) fun ds S' Sh' H' => ∀ J, ItRep K Sh' H' J ds → R J H'
def MI (X : Cx) (W : WX) (tg e : Expr) (m : M (List D)) : Prop := PI X tg e (tI X.K X.mg W m)
theorem PI.imp {X : Cx} {tg e : Expr} {t t' : TI} (h : PI X tg e t) (k : ∀ σ H R, t' σ H R → t σ H R) : PI X tg e t' := ⟨fun pins s σ H R I q => h.run pins s σ H R I (k σ H R q)⟩
def iSeq (m : M Vx) : M (List D) := bnd m fun x => bnd (esc x) fun d S => match d.items with
  | some ds => .ok ds S
  | none => .stuck
def isTupV : D → Bool
  | .tup _ => true
  | _ => false
section
variable {X : Cx} {W : WX} {tg e a b c : Expr} {me : M Vx} {ms : M (List Vx)} {p pos : Pos}
/-- the items of a list -/
def iL (m : M Vx) : M (List D) := bnd m fun x => bnd (esc x) fun d S => match d with
  | .lst ds => .ok ds S
  | _ => .stuck
def iT (m : M Vx) : M (List D) := bnd m fun x => bnd (esc x) fun d S => match d with
  | .tup ds => .ok ds S
  | _ => .stuck
theorem itl_rep {K : PySem.W.Frag} {Sh : Addr → Prop} {H0 : Hp} {a : Addr} {vs : List V} {ds : List D} (e : H0 a = some (.lst vs)) (s : Sh a) (r : RepA K Sh H0 vs ds) : ItRep K Sh H0 (Itl K a) ds := fun i H k => by
  have e' : SqL K H a vs := .inl (.inl (k _ _ e (.inl s) fun _ z => by cases z))
  refine ⟨fun d hd => ?_, fun hl => ⟨vs, e', by rw [r.length]; omega⟩⟩
  obtain ⟨v, e1, r1⟩ := r.get hd
  refine ⟨⟨vs, v, e', e1⟩, fun x H' y => ?_⟩
  obtain ⟨rfl, y⟩ := y
  have := y vs e'
  rw [e1] at this
  cases this
  exact ⟨fun _ _ h => h, Rep.mono k (fun _ h => h) _ _ r1⟩
end
end Z
set_option maxHeartbeats 4000000
/-! Z7: what is walked: lists, tuples, ranges, texts, enumerate, zip. -/
namespace Z
open PySem PySem.Spec PyProof.Rows L2

/-! ### enumerate of a tuple -/
theorem meets_enum1 {v : Value} {o : Obj} {H : Heap → Prop} (B : Begins v o H) :
    Meets (Builtin.«enumerate.__new__» ⟨[.type "enumerate", v], []⟩) (fun _ R s => H s.heap ∧
      R (.ok (.ret (.ref (s.heap.push o).objs.size))) { s with heap := (s.heap.push o).push { cls := .type "enumerate", data := .fields #[.none, .bool false, .ref s.heap.objs.size, rawInt 0, .none, .none] } }) :=
  .of_wp fun prog w A R s h => by
    obtain ⟨hp, g, d, tk, os⟩ := s; obtain ⟨h1, h⟩ := h
    have hsub := sub_enumerate
    have q1 : ∀ {A' : Around} {E : Value → Shared → Prop} {Q : Value → Shared → Prop}, Q (.ref hp.objs.size) ⟨hp.push o, g, d, tk, os⟩ → wpAny (model prog w) A' (pyIter v) Q E ⟨hp, g, d, tk, os⟩ :=
      fun q => B.iter prog w _ _ ⟨hp, g, d, tk, os⟩ _ h1 q
    wp_walk using q1
    refine wpAny_stack_any fun st => wpAny_pure ?_
    split
    · rename_i c _ _ _ _ _
      cases (c == Value.type "enumerate")
      · wp_walk using q1
        exact ⟨_, rfl, h⟩
      · wp_walk using q1
        exact ⟨_, rfl, h⟩
    · wp_walk using q1
      exact ⟨_, rfl, h⟩
theorem call_enum1 {prog : Program} {w : World} {A : Around} {E : Value → Shared → Prop} {s : Shared} {v : Value} {o : Obj} {H : Heap → Prop} {Q : Value → Shared → Prop} (B : Begins v o H) (h1 : H s.heap)
    (h : ∀ h', IsEnum h' (s.heap.objs.size + 1) s.heap.objs.size 0 .none → h'.get? s.heap.objs.size = some o → h'.objs.size = s.heap.objs.size + 2 →
      (∀ b o, s.heap.get? b = some o → h'.get? b = some o) → Q (.ref (s.heap.objs.size + 1)) { s with heap := h' }) :
    wpAny (model prog w) A (call (.type "enumerate") [v]) Q E s := by
  refine callType_new F.called_enumerate (by decide) (F.typeCall_enumerate_1 _) (F.newCall_enumerate_1 _) (fun obj => F.args_object_init_2 obj _) F.entry_enumerate_new
    (meets_enum1 B) ⟨h1, ?_⟩
  have hz : (s.heap.push o).objs.size = s.heap.objs.size + 1 := Heap.size_push ..
  show _ ∧ _
  rw [hz]
  have he : IsEnum ((s.heap.push o).push { cls := .type "enumerate", data := .fields #[.none, .bool false, .ref s.heap.objs.size, rawInt 0, .none, .none] }) (s.heap.objs.size + 1) s.heap.objs.size 0 .none := by
    have := Heap.get?_push_size (s.heap.push o) (o := { cls := .type "enumerate", data := .fields #[.none, .bool false, .ref s.heap.objs.size, rawInt 0, .none, .none] }) rfl
    rw [hz] at this; exact this
  exact ⟨⟨_, he, rfl⟩, h _ he (Heap.get?_push_of_some _ (Heap.get?_push_size _ B.free)) (by rw [Heap.size_push, hz]) fun b o y => Heap.get?_push_of_some _ (Heap.get?_push_of_some _ y)⟩
def IteT (K : PySem.W.Frag) (a : Addr) : It :=
  ⟨fun i H => ∃ (xs : List V) (x : V), SqT K H a xs ∧ xs[i]? = some x, fun i H v H' => ∃ T x, v = .ref T ∧ H T = none ∧ H' = upd H T (.tup [.int (i : Nat), x]) ∧ ∀ xs, SqT K H a xs → xs[i]? = some x, fun i H => ∃ xs : List V, SqT K H a xs ∧ xs.length = i⟩
theorem turn_enumT {P : Program} {w : World} {K : PySem.W.Frag} {elts : List Expr} {kk : Nat} {tpos : Pos} (a e it : Addr) :
    Turn P w K (.Tuple elts kk tpos) (IteT K a) [e, it] e (fun i h => (∃ old, IsEnum h e it (0 + ((i : Nat) : Int)) old) ∧ h.IsTupleIter it a i ∧ e ≠ it ∧ a ≠ e ∧ a ≠ it) where
  mem := by simp
  obj := fun i h st b hb => by
    obtain ⟨⟨old, he⟩, ⟨o, ho, hc, hd⟩, _⟩ := st
    have e' : b = e ∨ b = it := by simpa using hb
    rcases e' with z | z
    · rw [z]; exact ⟨_, he, fun v q => nomatch q⟩
    · rw [z]; exact ⟨o, ho, fun v q => by rw [hd] at q; cases q⟩
  keep := fun i h h' st k => let ⟨⟨old, he⟩, hi, hne⟩ := st; ⟨⟨old, k e (by simp) _ he⟩, hi.at fun o q => k it (by simp) o q, hne⟩
  item := by
    intro X hP hw hK hc i pins s σ H E I hf st hg
    subst hP hw hK
    obtain ⟨⟨old, he⟩, hit, hne, hae, hai⟩ := st
    obtain ⟨xs, x, hq, hx⟩ := hg
    obtain ⟨its, rv, p, hz⟩ := I.tuple hq
    obtain ⟨u, hu, ru⟩ := rv.get hx
    have hlt : i < its.toArray.size := by
      have := (List.getElem?_eq_some_iff.mp hu).1
      simpa using this
    have W := GoesN.enumFrom (elts := elts) (x1 := kk) (pos := tpos) (A := X.A) 0 (Draws.tuple (prog := X.prog) (w := X.w) (A := X.A.in1) (I.ok.hd hc) it a hai its.toArray) e hne (by simp [hne, Ne.symm hae]) (by simp)
    refine wpAny_mono (W.goes i s (fun u' s2 => ∃ x' H', Inv X pins σ H' s2 ∧ RelV x' u' ∧ (IteT X.K a).yld i H x' H' ∧ ((∃ old, IsEnum s2.heap e it (0 + ((i + 1 : Nat) : Int)) old) ∧ s2.heap.IsTupleIter it a (i + 1) ∧ e ≠ it ∧ a ≠ e ∧ a ≠ it) ∧ ∀ b ∈ [e, it], H' b = none) E hlt ⟨⟨old, he⟩, hit, p⟩ fun v h' tk hY st' hk htk => ?_) (fun r s1 hr => hr) fun _ _ z => z
    obtain ⟨T, t, y, rfl, hT, hy, hTup⟩ := hY
    have ey : y = u := by
      have h1 : its[i]? = some y := by simpa using hy
      rw [hu] at h1
      exact (Option.some.inj h1).symm
    subst ey
    have new : ObjOk X.prog X.w (upd H T (.tup [.int (i : Nat), x])) h' T (.tup [.int (i : Nat), x]) := by
      obtain ⟨o, ho, hcl, n, hd⟩ := hTup
      refine ⟨by show 2 ≤ sizeLine; decide, [.int (0 + (i : Int)) t, y], .cons ⟨t, by rw [Int.zero_add]⟩ (.cons ru .nil), ⟨o, ho, hcl, n, hd⟩⟩
    have I1 : Inv X pins σ (upd H T (.tup [.int (i : Nat), x])) { s with heap := h', toks := tk } :=
      I.turnedNew (ch := [e, it]) (fun b ob hb q => hk b ob hb q) hf hT new
    refine ⟨.ref T, _, I1, rfl, ⟨T, x, rfl, I.hok.fresh hT, rfl, fun ys hy => by rw [I.tuple_inj hy hq]; exact hx⟩, ⟨st'.1, st'.2.1, hne, hae, hai⟩, fun b hb => ?_⟩
    have hel : e < s.heap.objs.size := Heap.lt_size he
    have hil : it < s.heap.objs.size := by obtain ⟨_, q, _⟩ := hit; exact Heap.lt_size q
    have hb' : b < s.heap.objs.size := by
      have e' : b = e ∨ b = it := by simpa using hb
      rcases e' with z | z
      · rw [z]; exact hel
      · rw [z]; exact hil
    rw [upd_ne (Nat.ne_of_lt (Nat.lt_of_lt_of_le hb' hT))]
    exact (hf b hb).1
  done := by
    intro X hP hw hK hc i pins s σ H E I hf st hg
    subst hP hw hK
    obtain ⟨⟨old, he⟩, hit, hne, hae, hai⟩ := st
    obtain ⟨xs, hq, hx⟩ := hg
    obtain ⟨its, rv, p, hz⟩ := I.tuple hq
    have hl := rv.length
    have hi : i = its.toArray.size := by
      rw [List.size_toArray, ← hl, hx]
    subst hi
    have W := GoesN.enumFrom (elts := elts) (x1 := kk) (pos := tpos) (A := X.A) 0 (Draws.tuple (prog := X.prog) (w := X.w) (A := X.A.in1) (I.ok.hd hc) it a hai its.toArray) e hne (by simp [hne, Ne.symm hae]) (by simp)
    refine wpAny_mono (W.stops s (fun s1 => Inv X pins σ H s1) E ⟨⟨old, he⟩, hit, p⟩ fun h' tk hk htk => ?_) (fun r s1 hr => hr) fun _ _ z => z
    exact I.turnedL (t' := tk) (ch := [e, it]) hk hf
  self := fun A i s Q E st h => let ⟨⟨_, he⟩, _⟩ := st; wpAny_pyIter_enum he h
/-- enumerate of a text -/
def IteS (x : Str) : It :=
  ⟨fun i _ => i < x.cps.size, fun i H v H' => ∃ T c, v = .ref T ∧ H T = none ∧ H' = upd H T (.tup [.int (i : Nat), .str ⟨#[c]⟩]) ∧ x.cps[i]? = some c, fun i _ => x.cps.size = i⟩
theorem turn_enumS {P : Program} {w : World} {K : PySem.W.Frag} {elts : List Expr} {kk : Nat} {tpos : Pos} (x : Str) (t : Tok) (e it : Addr) :
    Turn P w K (.Tuple elts kk tpos) (IteS x) [e, it] e (fun i h => (∃ old, IsEnum h e it (0 + ((i : Nat) : Int)) old) ∧ h.IsStrIter it (strIterType x) x t i ∧ e ≠ it) where
  mem := by simp
  obj := fun i h st b hb => by
    obtain ⟨⟨old, he⟩, ⟨o, ho, hc, hd⟩, _⟩ := st
    have e' : b = e ∨ b = it := by simpa using hb
    rcases e' with z | z
    · rw [z]; exact ⟨_, he, fun v q => nomatch q⟩
    · rw [z]; exact ⟨o, ho, fun v q => by rw [hd] at q; cases q⟩
  keep := fun i h h' st k => let ⟨⟨old, he⟩, ⟨o, ho, hc, hd⟩, hne⟩ := st; ⟨⟨old, k e (by simp) _ he⟩, ⟨o, k it (by simp) o ho, hc, hd⟩, hne⟩
  item := by
    intro X hP hw hK hc i pins s σ H E I hf st hg
    subst hP hw hK
    obtain ⟨⟨old, he⟩, hit, hne⟩ := st
    have hg : i < x.cps.size := hg
    have W := GoesN.enumFrom (elts := elts) (x1 := kk) (pos := tpos) (A := X.A) 0 (Draws.text (prog := X.prog) (w := X.w) (A := X.A.in1) (I.ok.hd hc) it x t) e hne (by simp [hne]) (by simp)
    refine wpAny_mono (W.goes i s (fun u' s2 => ∃ x' H', Inv X pins σ H' s2 ∧ RelV x' u' ∧ (IteS x).yld i H x' H' ∧ ((∃ old, IsEnum s2.heap e it (0 + ((i + 1 : Nat) : Int)) old) ∧ s2.heap.IsStrIter it (strIterType x) x t (i + 1) ∧ e ≠ it) ∧ ∀ b ∈ [e, it], H' b = none) E hg ⟨⟨old, he⟩, hit⟩ fun v h' tk hY st' hk htk => ?_) (fun r s1 hr => hr) fun _ _ z => z
    obtain ⟨T, t', y, rfl, hT, ⟨c, u, hcx, rfl⟩, hTup⟩ := hY
    have new : ObjOk X.prog X.w (upd H T (.tup [.int (i : Nat), .str ⟨#[c]⟩])) h' T (.tup [.int (i : Nat), .str ⟨#[c]⟩]) := by
      obtain ⟨o, ho, hcl, n, hd⟩ := hTup
      exact ⟨by show 2 ≤ sizeLine; decide, [.int (0 + (i : Int)) t', .str ⟨#[c]⟩ u], .cons ⟨t', by rw [Int.zero_add]⟩ (.cons ⟨u, rfl⟩ .nil), ⟨o, ho, hcl, n, hd⟩⟩
    have I1 : Inv X pins σ (upd H T (.tup [.int (i : Nat), .str ⟨#[c]⟩])) { s with heap := h', toks := tk } :=
      I.turnedNew (ch := [e, it]) (fun b ob hb q => hk b ob hb q) hf hT new
    refine ⟨.ref T, _, I1, rfl, ⟨T, c, rfl, I.hok.fresh hT, rfl, hcx⟩, ⟨st'.1, st'.2, hne⟩, fun b hb => ?_⟩
    have hel : e < s.heap.objs.size := Heap.lt_size he
    have hil : it < s.heap.objs.size := by obtain ⟨_, q, _⟩ := hit; exact Heap.lt_size q
    have hb' : b < s.heap.objs.size := by
      have e' : b = e ∨ b = it := by simpa using hb
      rcases e' with z | z
      · rw [z]; exact hel
      · rw [z]; exact hil
    rw [upd_ne (Nat.ne_of_lt (Nat.lt_of_lt_of_le hb' hT))]
    exact (hf b hb).1
  done := by
    intro X hP hw hK hc i pins s σ H E I hf st hg
    subst hP hw hK
    obtain ⟨⟨old, he⟩, hit, hne⟩ := st
    have hi : x.cps.size = i := hg
    subst hi
    have W := GoesN.enumFrom (elts := elts) (x1 := kk) (pos := tpos) (A := X.A) 0 (Draws.text (prog := X.prog) (w := X.w) (A := X.A.in1) (I.ok.hd hc) it x t) e hne (by simp [hne]) (by simp)
    refine wpAny_mono (W.stops s (fun s1 => Inv X pins σ H s1) E ⟨⟨old, he⟩, hit⟩ fun h' tk hk htk => ?_) (fun r s1 hr => hr) fun _ _ z => z
    exact I.turnedL (t' := tk) (ch := [e, it]) hk hf
  self := fun A i s Q E st h => let ⟨⟨_, he⟩, _⟩ := st; wpAny_pyIter_enum he h
/-- enumerate of a list, a tuple or a text -/
def iEnumA (K : PySem.W.Frag) (ta : TA) : TI := fun σ H R => ta σ H fun vs H1 => (∃ a xs, vs = [.ref a] ∧ SqL K H1 a xs ∧ R (Ite K a) H1) ∨ (∃ a xs, vs = [.ref a] ∧ SqT K H1 a xs ∧ R (IteT K a) H1) ∨ (∃ x, vs = [.str x] ∧ R (IteS x) H1)
theorem pi_enumA {X : Cx} {e : Expr} {ta : TA} {p pos tpos : Pos} {elts : List Expr} {kk : Nat} (hg : Gl X "enumerate") (hm : X.mg "enumerate" = none) (ha : PA X [e] ta) (hs : starEach [e] X.env = [(false, eval e X.env)] := by rfl) :
    PI X (.Tuple elts kk tpos) (.Call (.Name "enumerate" p) [e] [] pos) (iEnumA X.K ta) := by
  refine ⟨fun pins s σ H R I h => ?_⟩
  refine Call_ (ld_blt I hg hm boot_enumerate (PyProof.Rows.callWith_type1 (thn (ha.run pos pins s σ H _ I h) fun us s1 ⟨vs, H1, I1, r1, q1⟩ => ?_) hs rfl))
  have fp : ∀ b ∈ [s1.heap.objs.size + 1, s1.heap.objs.size], FpOk X pins H1 b := fun b hb => by
    have e' : b = s1.heap.objs.size + 1 ∨ b = s1.heap.objs.size := by simpa using hb
    have hle : s1.heap.objs.size ≤ b := by
      rcases e' with z | z
      · rw [z]; exact Nat.le_add_right _ _
      · rw [z]; exact Nat.le_refl _
    exact I1.fpOk hle (I1.hok.fresh hle)
  rcases q1 with ⟨a, xs, ex, hq, q⟩ | ⟨a, xs, ex, hq, q⟩ | ⟨x, ex, q⟩
  · subst ex
    cases r1 with
    | cons r rr =>
      cases rr
      cases r
      obtain ⟨its, rv, p', hz⟩ := I1.list hq
      refine call_enumerate_list p'.isList fun h' he hit hsz hk => wpAny_pyIter_enum he ?_
      have I2 : Inv X pins σ H1 { s1 with heap := h' } := I1.kept (t' := s1.toks) hk
      exact ⟨s1.heap.objs.size + 1, [s1.heap.objs.size + 1, s1.heap.objs.size], _, _, H1, rfl, I2, turn_enum a (s1.heap.objs.size + 1) s1.heap.objs.size, ⟨⟨.none, he⟩, hit, Nat.succ_ne_self _⟩, fp, q⟩
  · subst ex
    cases r1 with
    | cons r rr =>
      cases rr
      cases r
      obtain ⟨its, rv, p', hz⟩ := I1.tuple hq
      obtain ⟨o1, ho1, _⟩ := id p'
      have hlt : a < s1.heap.objs.size := Heap.lt_size ho1
      refine call_enum1 (begins_tuple a its.toArray) p' fun h' he hit hsz hk => wpAny_pyIter_enum he ?_
      have I2 : Inv X pins σ H1 { s1 with heap := h' } := I1.kept (t' := s1.toks) hk
      exact ⟨s1.heap.objs.size + 1, [s1.heap.objs.size + 1, s1.heap.objs.size], _, _, H1, rfl, I2, turn_enumT a (s1.heap.objs.size + 1) s1.heap.objs.size, ⟨⟨.none, he⟩, ⟨_, hit, rfl, rfl⟩, Nat.succ_ne_self _, Nat.ne_of_lt (Nat.lt_succ_of_lt hlt), Nat.ne_of_lt hlt⟩, fp, q⟩
  · subst ex
    cases r1 with
    | cons r rr =>
      cases rr
      obtain ⟨t, rfl⟩ := r
      refine call_enum1 (begins_text x t) trivial fun h' he hit hsz hk => wpAny_pyIter_enum he ?_
      have I2 : Inv X pins σ H1 { s1 with heap := h' } := I1.kept (t' := s1.toks) hk
      exact ⟨s1.heap.objs.size + 1, [s1.heap.objs.size + 1, s1.heap.objs.size], _, _, H1, rfl, I2, turn_enumS x t (s1.heap.objs.size + 1) s1.heap.objs.size, ⟨⟨.none, he⟩, ⟨_, hit, rfl, rfl⟩, Nat.succ_ne_self _⟩, fp, q⟩
end Z
set_option maxHeartbeats 4000000
/-! Z8: iterables, for, while. -/
namespace Z
open PySem PySem.Spec PyProof.Rows L2
variable [LT]

section
variable {K : PySem.W.Frag} {Sh : Addr → Prop} {H0 : Hp} {a b : Addr} {vs us : List V} {ds es : List D}
theorem itt_rep (e : SqT K H0 a vs) (r : RepA K Sh H0 vs ds) : ItRep K Sh H0 (Itt K a) ds := fun i H k => by
  have e' : SqT K H a vs := SqT.kp k e
  refine ⟨fun d hd => ?_, fun hl => ⟨vs, e', by rw [r.length]; omega⟩⟩
  obtain ⟨v, e1, r1⟩ := r.get hd
  refine ⟨⟨vs, v, e', e1⟩, fun x H' y => ?_⟩
  obtain ⟨rfl, y⟩ := y
  have := y vs e'
  rw [e1] at this
  cases this
  exact ⟨fun _ _ h => h, Rep.mono k (fun _ h => h) _ _ r1⟩
theorem upd_old {H : Hp} {p : Addr} {o : HO} (hp : H p = none) : ∀ b u, H b = some u → upd H p o b = some u := fun b u e => by rw [upd_ne (ne_of_none e hp)]; exact e
def pairs (i : Nat) : List D → List D
  | [] => []
  | d :: ds => .tup [.int (i : Nat), d] :: pairs (i + 1) ds
theorem pairs_get : ∀ {ds : List D} {i j : Nat} {z : D}, (pairs i ds)[j]? = some z → ∃ d, ds[j]? = some d ∧ z = .tup [.int ((i + j : Nat) : Int), d]
  | [], i, j, z, h => by simp [pairs] at h
  | d :: ds, i, j, z, h => by
    cases j with
    | zero =>
      have e : D.tup [.int (i : Nat), d] = z := by simpa [pairs] using h
      exact ⟨d, rfl, by rw [← e]; rfl⟩
    | succ j =>
      obtain ⟨d', e1, e2⟩ := pairs_get (ds := ds) (i := i + 1) (j := j) (z := z) (by simpa [pairs] using h)
      exact ⟨d', by simpa using e1, by rw [e2, show i + 1 + j = i + (j + 1) by omega]⟩
theorem pairs_length : ∀ (i : Nat) (ds : List D), (pairs i ds).length = ds.length
  | _, [] => rfl
  | i, _ :: ds => by rw [pairs, List.length_cons, List.length_cons, pairs_length]
theorem pair_rep {H : Hp} {T : Addr} {x y : V} {d e : D} (hT : H T = none) (r1 : Rep K Sh H x d) (r2 : Rep K Sh H y e) : Rep K Sh (upd H T (.tup [x, y])) (.ref T) (.tup [d, e]) :=
  .tup (.inl (.inl upd_same)) (.cons (Rep.mono (fun b u e _ _ => upd_old hT b u e) (fun _ h => h) _ _ r1) (.cons (Rep.mono (fun b u e _ _ => upd_old hT b u e) (fun _ h => h) _ _ r2) .nil))
theorem ite_repL (e : H0 a = some (.lst vs)) (s : Sh a) (r : RepA K Sh H0 vs ds) : ItRep K Sh H0 (Ite K a) (pairs 0 ds) := fun i H k => by
  have e' : SqL K H a vs := .inl (.inl (k _ _ e (.inl s) fun _ z => by cases z))
  refine ⟨fun z hz => ?_, fun hl => ⟨vs, e', by rw [r.length]; rw [pairs_length] at hl; omega⟩⟩
  obtain ⟨d, hd, rfl⟩ := pairs_get hz
  obtain ⟨v, e1, r1⟩ := r.get hd
  refine ⟨⟨vs, v, e', e1⟩, fun x H' y => ?_⟩
  obtain ⟨T, x', rfl, hT, rfl, y⟩ := y
  have := y vs e'
  rw [e1] at this
  cases this
  refine ⟨fun b u q => upd_old hT b u q, ?_⟩
  rw [Nat.zero_add]
  exact pair_rep hT .int (Rep.mono k (fun _ h => h) _ _ r1)
theorem ite_repT (e : SqT K H0 a vs) (r : RepA K Sh H0 vs ds) : ItRep K Sh H0 (IteT K a) (pairs 0 ds) := fun i H k => by
  have e' : SqT K H a vs := SqT.kp k e
  refine ⟨fun z hz => ?_, fun hl => ⟨vs, e', by rw [r.length]; rw [pairs_length] at hl; omega⟩⟩
  obtain ⟨d, hd, rfl⟩ := pairs_get hz
  obtain ⟨v, e1, r1⟩ := r.get hd
  refine ⟨⟨vs, v, e', e1⟩, fun x H' y => ?_⟩
  obtain ⟨T, x', rfl, hT, rfl, y⟩ := y
  have := y vs e'
  rw [e1] at this
  cases this
  refine ⟨fun b u q => upd_old hT b u q, ?_⟩
  rw [Nat.zero_add]
  exact pair_rep hT .int (Rep.mono k (fun _ h => h) _ _ r1)
/-- the signs of a text -/
def signs (x : Str) : List D := x.cps.toList.map fun c => .str ⟨#[c]⟩
theorem signs_get {x : Str} {i : Nat} {d : D} (h : (signs x)[i]? = some d) : ∃ c, x.cps[i]? = some c ∧ d = .str ⟨#[c]⟩ := by
  unfold signs at h
  rw [List.getElem?_map] at h
  cases q : x.cps.toList[i]? with
  | none => rw [q] at h; cases h
  | some c =>
    rw [q] at h
    cases h
    exact ⟨c, by simpa using q, rfl⟩
theorem signs_length (x : Str) : (signs x).length = x.cps.size := by
  unfold signs
  rw [List.length_map, Array.length_toList]
theorem ite_repS (x : Str) : ItRep K Sh H0 (IteS x) (pairs 0 (signs x)) := fun i H k => by
  refine ⟨fun z hz => ?_, fun hl => ?_⟩
  · obtain ⟨d, hd, rfl⟩ := pairs_get hz
    obtain ⟨c, hc, rfl⟩ := signs_get hd
    refine ⟨(Array.getElem?_eq_some_iff.mp hc).1, fun x' H' y => ?_⟩
    obtain ⟨T, c', rfl, hT, rfl, y⟩ := y
    rw [hc] at y
    cases y
    refine ⟨fun b u q => upd_old hT b u q, ?_⟩
    rw [Nat.zero_add]
    exact pair_rep hT .int .str
  · rw [pairs_length, signs_length] at hl
    exact hl
theorem its_rep (x : Str) : ItRep K Sh H0 (Its x) (signs x) := fun i H k => by
  refine ⟨fun z hz => ?_, fun hl => ?_⟩
  · obtain ⟨c, hc, rfl⟩ := signs_get hz
    refine ⟨(Array.getElem?_eq_some_iff.mp hc).1, fun x' H' y => ?_⟩
    obtain ⟨rfl, c', y, rfl⟩ := y
    rw [hc] at y
    cases y
    exact ⟨fun _ _ h => h, .str⟩
  · rw [signs_length] at hl
    exact Nat.le_of_eq hl
def zips : List D → List D → List D
  | d :: ds, e :: es => .tup [d, e] :: zips ds es
  | _, _ => []
theorem zips_get : ∀ {ds es : List D} {j : Nat} {z : D}, (zips ds es)[j]? = some z → ∃ d e, ds[j]? = some d ∧ es[j]? = some e ∧ z = .tup [d, e]
  | [], _, j, z, h => by simp [zips] at h
  | _ :: _, [], j, z, h => by simp [zips] at h
  | d :: ds, e :: es, j, z, h => by
    cases j with
    | zero =>
      have q : D.tup [d, e] = z := by simpa [zips] using h
      exact ⟨d, e, rfl, rfl, q.symm⟩
    | succ j =>
      obtain ⟨d', e', e1, e2, e3⟩ := zips_get (ds := ds) (es := es) (j := j) (z := z) (by simpa [zips] using h)
      exact ⟨d', e', by simpa using e1, by simpa using e2, e3⟩
theorem zips_length : ∀ (ds es : List D), (zips ds es).length = min ds.length es.length
  | [], es => by simp [zips]
  | _ :: _, [] => by simp [zips]
  | d :: ds, e :: es => by
    rw [zips, List.length_cons, List.length_cons, List.length_cons, zips_length]
    omega
theorem itz_repL (e : H0 a = some (.lst vs)) (s : Sh a) (r : RepA K Sh H0 vs ds) (e2 : H0 b = some (.lst us)) (s2 : Sh b) (r2 : RepA K Sh H0 us es) : ItRep K Sh H0 (Itz K a b) (zips ds es) := fun i H k => by
  have e' : SqL K H a vs := .inl (.inl (k _ _ e (.inl s) fun _ z => by cases z))
  have e2' : SqL K H b us := .inl (.inl (k _ _ e2 (.inl s2) fun _ z => by cases z))
  refine ⟨fun z hz => ?_, fun hl => ⟨vs, us, e', e2', by rw [r.length, r2.length]; rw [zips_length] at hl; omega⟩⟩
  obtain ⟨d, e3, hd, he, rfl⟩ := zips_get hz
  obtain ⟨v, f1, r1⟩ := r.get hd
  obtain ⟨u, f2, r3⟩ := r2.get he
  refine ⟨⟨vs, us, v, u, e', e2', f1, f2⟩, fun x H' y => ?_⟩
  obtain ⟨T, x', y', rfl, hT, rfl, y1, y2⟩ := y
  have q1 := y1 vs e'
  have q2 := y2 us e2'
  rw [f1] at q1
  rw [f2] at q2
  cases q1
  cases q2
  exact ⟨fun b u q => upd_old hT b u q, pair_rep hT (Rep.mono k (fun _ h => h) _ _ r1) (Rep.mono k (fun _ h => h) _ _ r3)⟩
theorem itz_repT (e : SqT K H0 a vs) (r : RepA K Sh H0 vs ds) (e2 : SqT K H0 b us) (r2 : RepA K Sh H0 us es) : ItRep K Sh H0 (RZ.ItzT K a b) (zips ds es) := fun i H k => by
  have e' : SqT K H a vs := SqT.kp k e
  have e2' : SqT K H b us := SqT.kp k e2
  refine ⟨fun z hz => ?_, fun hl => ⟨vs, us, e', e2', by rw [r.length, r2.length]; rw [zips_length] at hl; omega⟩⟩
  obtain ⟨d, e3, hd, he, rfl⟩ := zips_get hz
  obtain ⟨v, f1, r1⟩ := r.get hd
  obtain ⟨u, f2, r3⟩ := r2.get he
  refine ⟨⟨vs, us, v, u, e', e2', f1, f2⟩, fun x H' y => ?_⟩
  obtain ⟨T, x', y', rfl, hT, rfl, y1, y2⟩ := y
  have q1 := y1 vs e'
  have q2 := y2 us e2'
  rw [f1] at q1
  rw [f2] at q2
  cases q1
  cases q2
  exact ⟨fun b u q => upd_old hT b u q, pair_rep hT (Rep.mono k (fun _ h => h) _ _ r1) (Rep.mono k (fun _ h => h) _ _ r3)⟩
/-- lo, lo + c, .. -/
def rngD (lo c : Int) (n : Nat) : List D := (List.range n).map fun i => .int (lo + (i : Nat) * c)
theorem rngD_get {lo c : Int} {n i : Nat} {d : D} (h : (rngD lo c n)[i]? = some d) : i < n ∧ d = .int (lo + (i : Nat) * c) := by
  unfold rngD at h
  rw [List.getElem?_map] at h
  by_cases hi : i < n
  · rw [List.getElem?_range hi] at h
    cases h
    exact ⟨hi, rfl⟩
  · rw [List.getElem?_eq_none (by rw [List.length_range]; omega)] at h
    cases h
theorem rngD_length (lo c : Int) (n : Nat) : (rngD lo c n).length = n := by
  unfold rngD
  rw [List.length_map, List.length_range]
theorem itr_rep (lo : Int) (n : Nat) : ItRep K Sh H0 (Itr lo n) (rngD lo 1 n) := fun i H k => by
  refine ⟨fun z hz => ?_, fun hl => by rw [rngD_length] at hl; exact Nat.le_of_eq hl⟩
  obtain ⟨hi, rfl⟩ := rngD_get hz
  refine ⟨hi, fun x H' y => ?_⟩
  obtain ⟨rfl, rfl⟩ := y
  refine ⟨fun _ _ h => h, ?_⟩
  rw [Int.mul_one]
  exact .int
theorem itc_rep (lo c : Int) (n : Nat) : ItRep K Sh H0 (Itc lo c n) (rngD lo c n) := fun i H k => by
  refine ⟨fun z hz => ?_, fun hl => by rw [rngD_length] at hl; exact Nat.le_of_eq hl⟩
  obtain ⟨hi, rfl⟩ := rngD_get hz
  refine ⟨hi, fun x H' y => ?_⟩
  obtain ⟨rfl, rfl⟩ := y
  exact ⟨fun _ _ h => h, .int⟩
end
/-- for x in e -/
def iOf (m : M Vx) (f : D → Option (List D)) : M (List D) := bnd m fun x => bnd (esc x) fun d S => match f d with
  | some ds => .ok ds S
  | none => .stuck
def isLst : D → Option (List D)
  | .lst ds => some ds
  | _ => none
def isTup : D → Option (List D)
  | .tup ds => some ds
  | _ => none
def isStr : D → Option (List D)
  | .str x => some (signs x)
  | _ => none
def iArgs (ms : M (List Vx)) (f : List D → Option (List D)) : M (List D) := bnd ms fun xs => bnd (escs xs) fun ds S => match f ds with
  | some es => .ok es S
  | none => .stuck
def fEnum : List D → Option (List D)
  | [.lst ds] => some (pairs 0 ds)
  | [.tup ds] => some (pairs 0 ds)
  | [.str x] => some (pairs 0 (signs x))
  | _ => none
def fZip : List D → Option (List D)
  | [.lst ds, .lst es] => some (zips ds es)
  | [.tup ds, .tup es] => some (zips ds es)
  | _ => none
def fRng1 : List D → Option (List D)
  | [.int j] => if -(2 ^ 62) ≤ j ∧ j < 2 ^ 62 then some (rngD 0 1 j.toNat) else none
  | _ => none
def fRng2 : List D → Option (List D)
  | [.int i, .int j] => if -(2 ^ 62) ≤ i ∧ i < 2 ^ 62 ∧ -(2 ^ 62) ≤ j ∧ j < 2 ^ 62 then some (rngD i 1 (j - i).toNat) else none
  | _ => none
instance (i j c : Int) (n : Nat) : Decidable (RgC i j c n) := by unfold RgC; infer_instance
def fRng3 : List D → Option (List D)
  | [.int i, .int j, .int c] => if RgC i j c (Builtin.Range.rangeSize i j c).toNat then some (rngD i c (Builtin.Range.rangeSize i j c).toNat) else none
  | _ => none
section
variable {X : Cx} {W : WX} {tg e a b c : Expr} {me : M Vx} {ms : M (List Vx)} {p pos tpos : Pos} {elts : List Expr} {kk : Nat}
theorem go_iOf {K : PySem.W.Frag} {mg : Str → Option Value} {σ : St} {S : Fr} {Sh : Addr → Prop} {H : Hp} {x : Vx} {v : V} {f : D → Option (List D)} {P : List D → Fr → (Addr → Prop) → Hp → Prop} (A : Abs K S σ H Sh) (r : RepX K Sh S σ H v x)
    (g : Go K mg W σ S Sh H ((bnd (esc x) fun d S => match f d with | some ds => Res.ok ds S | none => .stuck) S) P) : ∃ d ds S' Sh', Rep K Sh' H v d ∧ f d = some ds ∧ P ds S' Sh' H := by
  obtain ⟨d, S2, Sh2, A2, E2, r2, g2⟩ := go_esc A r g
  cases q : f d with
  | none => simp only [q] at g2; exact g2.elim
  | some ds =>
    simp only [q] at g2
    exact ⟨d, ds, S2, Sh2, r2, q, g2.here A2⟩
theorem i_lst (h : ME X W e me) : MI X W tg e (iOf me isLst) := PI.imp (pi_list h) fun σ H R ⟨S, Sh, A, g⟩ => by
  refine ⟨S, Sh, A, g.bind.mono fun x S1 Sh1 H1 A1 E1 g1 v rv => ?_⟩
  obtain ⟨d, ds, S2, Sh2, r2, e, g2⟩ := go_iOf A1 rv g1
  cases d <;> try (cases e; done)
  cases e
  cases r2 with
  | lst h1 h2 h3 => exact ⟨_, rfl, ⟨_, .inl (.inl h1)⟩, g2 _ (itl_rep h1 h2 h3)⟩
theorem i_tup (h : ME X W e me) : MI X W tg e (iOf me isTup) := PI.imp (pi_tup h) fun σ H R ⟨S, Sh, A, g⟩ => by
  refine ⟨S, Sh, A, g.bind.mono fun x S1 Sh1 H1 A1 E1 g1 v rv => ?_⟩
  obtain ⟨d, ds, S2, Sh2, r2, e, g2⟩ := go_iOf A1 rv g1
  cases d <;> try (cases e; done)
  cases e
  cases r2 with
  | tup h1 h2 => exact ⟨_, rfl, ⟨_, h1⟩, g2 _ (itt_rep h1 h2)⟩
theorem i_str (h : ME X W e me) : MI X W tg e (iOf me isStr) := PI.imp (pi_str h) fun σ H R ⟨S, Sh, A, g⟩ => by
  refine ⟨S, Sh, A, g.bind.mono fun x S1 Sh1 H1 A1 E1 g1 v rv => ?_⟩
  obtain ⟨d, ds, S2, Sh2, r2, e, g2⟩ := go_iOf A1 rv g1
  cases d <;> try (cases e; done)
  cases e
  cases r2
  exact ⟨_, rfl, g2 _ (its_rep _)⟩
theorem go_iArgs {K : PySem.W.Frag} {mg : Str → Option Value} {σ : St} {S : Fr} {Sh : Addr → Prop} {H : Hp} {xs : List Vx} {vs : List V} {f : List D → Option (List D)} {P : List D → Fr → (Addr → Prop) → Hp → Prop} (A : Abs K S σ H Sh) (r : RepXs K Sh S σ H vs xs)
    (g : Go K mg W σ S Sh H ((bnd (escs xs) fun ds S => match f ds with | some es => Res.ok es S | none => .stuck) S) P) : ∃ ds es S' Sh', RepA K Sh' H vs ds ∧ f ds = some es ∧ P es S' Sh' H := by
  obtain ⟨d, S2, Sh2, A2, E2, r2, g2⟩ := go_escs A r g
  cases q : f d with
  | none => simp only [q] at g2; exact g2.elim
  | some ds =>
    simp only [q] at g2
    exact ⟨d, ds, S2, Sh2, r2, q, g2.here A2⟩
theorem i_enum (hg : Gl X "enumerate") (hm : X.mg "enumerate" = none) (ha : MA X W [e] ms) (hs : starEach [e] X.env = [(false, eval e X.env)] := by rfl) : MI X W (.Tuple elts kk tpos) (.Call (.Name "enumerate" p) [e] [] pos) (iArgs ms fEnum) :=
  PI.imp (pi_enumA hg hm ha hs) fun σ H R ⟨S, Sh, A, g⟩ => by
    refine ⟨S, Sh, A, g.bind.mono fun x S1 Sh1 H1 A1 E1 g1 vs rs => ?_⟩
    obtain ⟨ds, es, S2, Sh2, r2, e, g2⟩ := go_iArgs A1 rs g1
    match ds, e with
    | [.lst ds], e =>
      cases e
      obtain ⟨v, rfl, r⟩ := r2.one
      cases r with
      | lst h1 h2 h3 => exact .inl ⟨_, _, rfl, .inl (.inl h1), g2 _ (ite_repL h1 h2 h3)⟩
    | [.tup ds], e =>
      cases e
      obtain ⟨v, rfl, r⟩ := r2.one
      cases r with
      | tup h1 h2 => exact .inr (.inl ⟨_, _, rfl, h1, g2 _ (ite_repT h1 h2)⟩)
    | [.str x], e =>
      cases e
      obtain ⟨v, rfl, r⟩ := r2.one
      cases r
      exact .inr (.inr ⟨_, rfl, g2 _ (ite_repS x)⟩)
theorem RepA.two {K : PySem.W.Frag} {Sh : Addr → Prop} {H : Hp} {vs : List V} {d d2 : D} (h : RepA K Sh H vs [d, d2]) : ∃ v u, vs = [v, u] ∧ Rep K Sh H v d ∧ Rep K Sh H u d2 := by
  cases h with
  | cons h1 h2 =>
    obtain ⟨u, rfl, r⟩ := RepA.one h2
    exact ⟨_, u, rfl, h1, r⟩
theorem i_zip (hg : Gl X "zip") (hm : X.mg "zip" = none) (ha : MA X W [a, b] ms) (hs : starEach [a, b] X.env = (false, eval a X.env) :: starEach [b] X.env := by rfl) (hpl : (backTo pos (starEach [b] X.env)).any (·.1) = false := by rfl) :
    MI X W (.Tuple elts kk tpos) (.Call (.Name "zip" p) [a, b] [] pos) (iArgs ms fZip) :=
  PI.imp (RZ.pi_zipA hg hm ha hs hpl) fun σ H R ⟨S, Sh, A, g⟩ => by
    refine ⟨S, Sh, A, g.bind.mono fun x S1 Sh1 H1 A1 E1 g1 vs rs => ?_⟩
    obtain ⟨ds, es, S2, Sh2, r2, e, g2⟩ := go_iArgs A1 rs g1
    match ds, e with
    | [.lst ds, .lst es], e =>
      cases e
      obtain ⟨v, u, rfl, r, r'⟩ := r2.two
      cases r with
      | lst h1 h2 h3 =>
        cases r' with
        | lst k1 k2 k3 => exact ⟨_, _, _, _, rfl, .inl ⟨.inl (.inl h1), .inl (.inl k1), g2 _ (itz_repL h1 h2 h3 k1 k2 k3)⟩⟩
    | [.tup ds, .tup es], e =>
      cases e
      obtain ⟨v, u, rfl, r, r'⟩ := r2.two
      cases r with
      | tup h1 h2 =>
        cases r' with
        | tup k1 k2 => exact ⟨_, _, _, _, rfl, .inr ⟨h1, k1, g2 _ (itz_repT h1 h2 k1 k2)⟩⟩
theorem i_rng1 (hg : Gl X "range") (hm : X.mg "range" = none) (ha : MA X W [a] ms) (hs : starEach [a] X.env = [(false, eval a X.env)] := by rfl) : MI X W tg (.Call (.Name "range" p) [a] [] pos) (iArgs ms fRng1) :=
  PI.imp (pi_range1 hg hm ha hs) fun σ H R ⟨S, Sh, A, g⟩ => by
    refine ⟨S, Sh, A, g.bind.mono fun x S1 Sh1 H1 A1 E1 g1 vs rs => ?_⟩
    obtain ⟨ds, es, S2, Sh2, r2, e, g2⟩ := go_iArgs A1 rs g1
    match ds, e with
    | [.int j], e =>
      unfold fRng1 at e
      simp only at e
      split at e
      · rename_i hj
        cases e
        obtain ⟨v, rfl, r⟩ := r2.one
        cases r
        exact ⟨j, rfl, hj.1, hj.2, g2 _ (itr_rep _ _)⟩
      · cases e
theorem i_rng2 (hg : Gl X "range") (hm : X.mg "range" = none) (ha : MA X W [a, b] ms) (hs : starEach [a, b] X.env = [(false, eval a X.env), (false, eval b X.env)] := by rfl) (hs2 : starEach [b] X.env = [(false, eval b X.env)] := by rfl) : MI X W tg (.Call (.Name "range" p) [a, b] [] pos) (iArgs ms fRng2) :=
  PI.imp (pi_range2 hg hm ha hs hs2) fun σ H R ⟨S, Sh, A, g⟩ => by
    refine ⟨S, Sh, A, g.bind.mono fun x S1 Sh1 H1 A1 E1 g1 vs rs => ?_⟩
    obtain ⟨ds, es, S2, Sh2, r2, e, g2⟩ := go_iArgs A1 rs g1
    match ds, e with
    | [.int i, .int j], e =>
      unfold fRng2 at e
      simp only at e
      split at e
      · rename_i hj
        cases e
        obtain ⟨v, u, rfl, r, r'⟩ := r2.two
        cases r
        cases r'
        exact ⟨i, j, rfl, hj, g2 _ (itr_rep _ _)⟩
      · cases e
theorem i_rng3 (hg : Gl X "range") (hm : X.mg "range" = none) (ha : MA X W [a, b, c] ms) (hs : starEach [a, b, c] X.env = (false, eval a X.env) :: starEach [b, c] X.env := by rfl) (hpl : (backTo pos (starEach [b, c] X.env)).any (·.1) = false := by rfl) : MI X W tg (.Call (.Name "range" p) [a, b, c] [] pos) (iArgs ms fRng3) :=
  PI.imp (pi_range3 hg hm ha hs hpl) fun σ H R ⟨S, Sh, A, g⟩ => by
    refine ⟨S, Sh, A, g.bind.mono fun x S1 Sh1 H1 A1 E1 g1 vs rs => ?_⟩
    obtain ⟨ds, es, S2, Sh2, r2, e, g2⟩ := go_iArgs A1 rs g1
    match ds, e with
    | [.int i, .int j, .int c], e =>
      unfold fRng3 at e
      simp only at e
      split at e
      · rename_i hj
        cases e
        cases r2 with
        | cons r r2 =>
          obtain ⟨v, u, rfl, r', r''⟩ := r2.two
          cases r
          cases r'
          cases r''
          exact ⟨i, j, c, _, rfl, hj, g2 _ (itc_rep _ _ _)⟩
      · cases e
end

/-! ### for, while -/
def forL (g : D → M Unit) (body : M Fl) : List D → M Fl
  | [] => ret .next
  | d :: ds => bnd (g d) fun _ => bnd body fun fl => match fl with
    | .next => forL g body ds
    | .cnt => forL g body ds
    | .brk => ret .next
    | .ret d => ret (.ret d)
def mFor (mi : M (List D)) (g : D → M Unit) (body : M Fl) : M Fl := bnd mi fun ds => forL g body ds
def whileL (t : M Bool) (body : M Fl) : Nat → M Fl
  | 0 => fun _ => .stuck
  | n + 1 => bnd t fun c => if c = true then bnd body fun fl => (match fl with
    | .next => whileL t body n
    | .cnt => whileL t body n
    | .brk => ret .next
    | .ret d => ret (.ret d)) else ret .next
theorem Abs.more {K : PySem.W.Frag} {S : Fr} {σ : St} {H H' : Hp} {Sh : Addr → Prop} (A : Abs K S σ H Sh) (k : ∀ b o, H b = some o → H' b = some o) : Abs K S σ H' Sh ∧ Ext S σ Sh H S σ Sh H' := by
  have kp : Kp Sh H H' := fun b o e _ _ => k b o e
  have lv : ∀ b, Nn H' b → Nn H b := fun b h o e => h o (k b o e)
  refine ⟨⟨A.len, fun i d e => ?_, fun i sl ds e1 e2 => ?_, A.inj, fun b h z => A.fresh b h (lv b z), A.tab.ext k⟩, ⟨fun b o e _ _ => k b o e, fun _ h => h, fun _ h => .inl h, fun _ h => .inl h, fun _ xs h => ⟨rfl, xs, h⟩, lv⟩⟩
  · obtain ⟨v, e1, r⟩ := A.sh i d e
    exact ⟨v, e1, Rep.mono kp (fun _ h => h) _ _ r⟩
  · obtain ⟨a, vs, e3, e4, r, n⟩ := A.ow i sl ds e1 e2
    exact ⟨a, vs, e3, k _ _ e4, RepA.mono kp (fun _ h => h) _ _ r, n⟩
section
variable {X : Cx} {W : WX} {tg e c : Expr} {mi : M (List D)} {ws : List Nat} {g : D → M Unit} {body : List Stmt} {m : M Fl} {t : M Bool} {pos : Pos}
theorem s_for (hp : PassesOwn (model X.prog X.w) X.A X.env X.xe) (hc : X.calm = true) (hi : MI X W tg e mi) (hg : MG X W tg ws g) (hb : MSs X W body m) (hs : ∀ x, foldedSetIterable e X.env x = pure x := by intro _; rfl) : MS X W (.For tg e body [] pos) (mFor mi g m) := by
  refine PS.imp (ps_for hp hc hi hg hb hs) fun σ H Q ⟨S, Sh, A, gg⟩ => ?_
  refine ⟨S, Sh, A, (GoS.bind gg).mono fun ds S1 Sh1 H1 A1 E1 g1 J hJ => ?_⟩
  refine ⟨fun i n σ' H' => n = ds.length - i ∧ i ≤ ds.length ∧ ∃ S' Sh', Abs X.K S' σ' H' Sh' ∧ Kp Sh1 H1 H' ∧ (∀ b, Sh1 b → Sh' b) ∧ GoS X.K X.mg W S' σ' Sh' H' (forL g m (ds.drop i) S') Q,
    ⟨ds.length, by simp, Nat.zero_le _, S1, Sh1, A1, Kp.refl, fun _ h => h, g1⟩, ?_⟩
  rintro i n σ2 H2 ⟨rfl, hi, S2, Sh2, A2, k2, s2, g2⟩
  obtain ⟨j1, j2⟩ := hJ i H2 k2
  by_cases hl : i = ds.length
  · refine .inl ⟨j2 hl.symm, ?_⟩
    rw [hl, List.drop_length] at g2
    exact g2.here A2
  · have hlt : i < ds.length := by omega
    have hd : ds[i]? = some ds[i] := List.getElem?_eq_getElem hlt
    obtain ⟨j3, j4⟩ := j1 _ hd
    refine .inr ⟨j3, fun σ' H' => ∃ S' Sh', Abs X.K S' σ' H' Sh' ∧ Kp Sh1 H1 H' ∧ (∀ b, Sh1 b → Sh' b) ∧ GoS X.K X.mg W S' σ' Sh' H' (forL g m (ds.drop (i + 1)) S') Q, fun σ' H' hN => ⟨ds.length - (i + 1), by omega, rfl, hlt, hN⟩, fun x H' hy => ?_⟩
    obtain ⟨k3, r3⟩ := j4 x H' hy
    obtain ⟨A3, E3⟩ := A2.more k3
    rw [List.drop_eq_getElem_cons hlt] at g2
    have r3' : Rep X.K Sh2 H' x ds[i] := Rep.mono Kp.refl s2 _ _ r3
    refine ⟨S2, Sh2, ds[i], A3, r3', goS_T E3 (r := g ds[i] S2) (f := fun _ => bnd m fun fl => match fl with
      | .next => forL g m (ds.drop (i + 1))
      | .cnt => forL g m (ds.drop (i + 1))
      | .brk => ret .next
      | .ret d => ret (.ret d)) g2 fun S4 σ4 Sh4 H4 A4 E4 _ g4 => ⟨S4, Sh4, A4, ?_⟩⟩
    have g4 : GoS X.K X.mg W S4 σ4 Sh4 H4 ((m S4).bind _) Q := g4
    have k4 : Kp Sh1 H1 H4 := fun b o e h nt => by
      have e2 := k2 b o e h nt
      have e3 := k3 b o e2
      exact E4.kp A3 b o e3 (h.imp_left (s2 b)) nt
    have fwd : ∀ {S5 : Fr} {σ5 : St} {Sh5 : Addr → Prop} {H5 : Hp}, Ext S4 σ4 Sh4 H4 S5 σ5 Sh5 H5 → Kp Sh1 H1 H5 ∧ ∀ b, Sh1 b → Sh5 b := fun {S5 σ5 Sh5 H5} E5 =>
      ⟨fun b o e h nt => E5.kp A4 b o (k4 b o e h nt) (h.imp_left fun z => E4.sub b (s2 b z)) nt, fun b h => E5.sub b (E4.sub b (s2 b h))⟩
    cases q : m S4 with
    | ok fl S5 =>
      rw [q] at g4
      intro σ5 Sh5 H5 A5 E5
      obtain ⟨k5, s5⟩ := fwd E5
      cases fl with
      | next => exact ⟨S5, Sh5, A5, k5, s5, GoS.base g4 E5⟩
      | cnt => exact ⟨S5, Sh5, A5, k5, s5, GoS.base g4 E5⟩
      | brk => exact g4 σ5 Sh5 H5 A5 E5
      | ret d => exact g4 σ5 Sh5 H5 A5 E5
    | exc x S5 => rw [q] at g4; exact g4
    | stuck => rw [q] at g4; exact g4
theorem s_while (n : Nat) (hp : PassesOwn (model X.prog X.w) X.A X.env X.xe) (ht : MT X W c t) (hb : MSs X W body m) : MS X W (.While c body [] pos) (whileL t m n) := by
  refine PS.imp (ps_while hp ht hb) fun σ H Q ⟨S, Sh, A, gg⟩ => ?_
  refine ⟨fun n σ' H' => ∃ S' Sh', Abs X.K S' σ' H' Sh' ∧ GoS X.K X.mg W S' σ' Sh' H' (whileL t m n S') Q, ⟨n, S, Sh, A, gg⟩, ?_⟩
  rintro n σ2 H2 ⟨S2, Sh2, A2, g2⟩
  cases n with
  | zero => exact g2.elim
  | succ n =>
    refine ⟨S2, Sh2, A2, (GoS.bind (r := t S2) g2).mono fun b S3 Sh3 H3 A3 E3 g3 => ?_⟩
    cases b with
    | false => exact g3.here A3
    | true =>
      refine ⟨fun σ' H' => ∃ S' Sh', Abs X.K S' σ' H' Sh' ∧ GoS X.K X.mg W S' σ' Sh' H' (whileL t m n S') Q, fun σ' H' hN => ⟨n, Nat.lt_succ_self n, hN⟩, S3, Sh3, A3, ?_⟩
      have g4 : GoS X.K X.mg W S3 σ2 Sh3 H3 ((m S3).bind fun fl => (match fl with
        | .next => whileL t m n
        | .cnt => whileL t m n
        | .brk => ret .next
        | .ret d => ret (.ret d))) Q := g3
      cases q : m S3 with
      | ok fl S5 =>
        rw [q] at g4
        intro σ5 Sh5 H5 A5 E5
        cases fl with
        | next => exact ⟨S5, Sh5, A5, GoS.base g4 E5⟩
        | cnt => exact ⟨S5, Sh5, A5, GoS.base g4 E5⟩
        | brk => exact g4 σ5 Sh5 H5 A5 E5
        | ret d => exact g4 σ5 Sh5 H5 A5 E5
      | exc x S5 => rw [q] at g4; exact g4
      | stuck => rw [q] at g4; exact g4
end
end Z
set_option maxHeartbeats 4000000
/-! Z9: list comprehensions; defs. -/
namespace Z
open PySem PySem.Spec PyProof.Rows L2
variable [LT]

def wipeS (S : Fr) : List Nat → Fr
  | [] => S
  | v :: vs => (wipeS S vs).set v .un
def unwipe (S S' : Fr) : List Nat → Fr
  | [] => S'
  | v :: vs => (unwipe S S' vs).set v (S[v]?.getD .un)
theorem wipeS_length (S : Fr) : ∀ vs, (wipeS S vs).length = S.length
  | [] => rfl
  | v :: vs => by rw [wipeS, List.length_set, wipeS_length S vs]
theorem unwipe_length (S S' : Fr) : ∀ vs, (unwipe S S' vs).length = S'.length
  | [] => rfl
  | v :: vs => by rw [unwipe, List.length_set, unwipe_length S S' vs]
theorem wipeS_out {S : Fr} {j : Nat} : ∀ {vs : List Nat}, j ∉ vs → (wipeS S vs)[j]? = S[j]?
  | [], _ => rfl
  | v :: vs, h => by
    rw [wipeS, List.getElem?_set_ne (fun z => h (by rw [z]; exact List.mem_cons_self)), wipeS_out fun z => h (List.mem_cons_of_mem _ z)]
theorem wipeS_in {S : Fr} {j : Nat} {sl : Sl} : ∀ {vs : List Nat}, j ∈ vs → (wipeS S vs)[j]? = some sl → sl = .un
  | [], h, _ => nomatch h
  | v :: vs, h, e => by
    rw [wipeS] at e
    rcases set_get e with ⟨_, e, _⟩ | ⟨ne, e⟩
    · exact e.symm
    · rcases List.mem_cons.mp h with h | h
      · exact absurd h ne
      · exact wipeS_in h e
theorem unwipe_out {S S' : Fr} {j : Nat} : ∀ {vs : List Nat}, j ∉ vs → (unwipe S S' vs)[j]? = S'[j]?
  | [], _ => rfl
  | v :: vs, h => by
    rw [unwipe, List.getElem?_set_ne (fun z => h (by rw [z]; exact List.mem_cons_self)), unwipe_out fun z => h (List.mem_cons_of_mem _ z)]
theorem unwipe_in {S S' : Fr} {j : Nat} (hl : S'.length = S.length) : ∀ {vs : List Nat}, j ∈ vs → (unwipe S S' vs)[j]? = S[j]?
  | [], h => nomatch h
  | v :: vs, h => by
    rw [unwipe]
    by_cases e : v = j
    · subst e
      by_cases hv : v < S.length
      · rw [List.getElem?_set_self (by rw [unwipe_length, hl]; exact hv), List.getElem?_eq_getElem hv]
        rfl
      · rw [List.getElem?_eq_none (by rw [List.length_set, unwipe_length, hl]; omega), List.getElem?_eq_none (by omega)]
    · rw [List.getElem?_set_ne e]
      rcases List.mem_cons.mp h with h | h
      · exact absurd h.symm e
      · exact unwipe_in hl h
theorem wipe_out {σ : St} {j : Nat} : ∀ {vs : List Nat}, j ∉ vs → (wipe σ vs)[j]? = σ[j]?
  | [], _ => rfl
  | v :: vs, h => by
    rw [wipe, List.getElem?_set_ne (fun z => h (by rw [z]; exact List.mem_cons_self)), wipe_out fun z => h (List.mem_cons_of_mem _ z)]
theorem wipe_in {σ : St} {j : Nat} : ∀ {vs : List Nat}, j ∈ vs → j < σ.length → (wipe σ vs)[j]? = some none
  | [], h, _ => nomatch h
  | v :: vs, h, hl => by
    rw [wipe]
    by_cases e : v = j
    · subst e
      rw [List.getElem?_set_self (by rw [wipe_length]; exact hl)]
    · rw [List.getElem?_set_ne e]
      rcases List.mem_cons.mp h with h | h
      · exact absurd h.symm e
      · exact wipe_in h hl
theorem wipe_same {σ σ2 : St} {vs ws : List Nat} (h : SameOut ws (wipe σ vs) σ2) (hs : ∀ j ∈ ws, j ∈ vs) : wipe σ2 vs = wipe σ vs := by
  have hl : σ2.length = σ.length := h.1.trans (wipe_length σ vs)
  apply List.ext_getElem?
  intro j
  by_cases hj : j ∈ vs
  · by_cases hl' : j < σ.length
    · rw [wipe_in hj (by rw [hl]; exact hl'), wipe_in hj hl']
    · rw [List.getElem?_eq_none (by rw [wipe_length, hl]; omega), List.getElem?_eq_none (by rw [wipe_length]; omega)]
  · rw [wipe_out hj, h.2 j fun z => hj (hs j z)]
section
variable {K : PySem.W.Frag} {σ : St} {S S' : Fr} {Sh Sh' : Addr → Prop} {H H' : Hp} {vs : List Nat}
theorem ow_wipe {b : Addr} (h : Ow (wipeS S vs) (wipe σ vs) b) : ∃ j sl ds, j ∉ vs ∧ S[j]? = some sl ∧ sl.owned = some ds ∧ σ[j]? = some (some (.ref b)) := by
  obtain ⟨j, sl, ds, e1, e2, e3⟩ := h
  by_cases hj : j ∈ vs
  · have := wipeS_in hj e1
    subst this
    cases e2
  · exact ⟨j, sl, ds, hj, by rw [← wipeS_out hj]; exact e1, e2, by rw [← wipe_out hj]; exact e3⟩
theorem Abs.wipe (A : Abs K S σ H Sh) : Abs K (wipeS S vs) (L2.wipe σ vs) H Sh := by
  have out : ∀ {j sl}, (wipeS S vs)[j]? = some sl → sl ≠ .un → j ∉ vs := fun {j sl} e n hj => n (wipeS_in hj e)
  refine ⟨by rw [wipeS_length, wipe_length]; exact A.len, fun j d e => ?_, fun j sl ds e1 e2 => ?_, fun i j sl sl' ds ds' a e1 e2 e3 e4 e5 e6 => ?_, A.fresh, A.tab⟩
  · have hj := out e (fun z => by cases z)
    rw [wipeS_out hj] at e
    rw [wipe_out hj]
    exact A.sh j d e
  · have hj := out e1 (fun z => by subst z; cases e2)
    rw [wipeS_out hj] at e1
    rw [wipe_out hj]
    exact A.ow j sl ds e1 e2
  · have hi := out e1 (fun z => by subst z; cases e2)
    have hj := out e3 (fun z => by subst z; cases e4)
    rw [wipeS_out hi] at e1
    rw [wipeS_out hj] at e3
    rw [wipe_out hi] at e5
    rw [wipe_out hj] at e6
    exact A.inj i j sl sl' ds ds' a e1 e2 e3 e4 e5 e6
theorem Abs.unwipe (A : Abs K S σ H Sh) (A' : Abs K S' (L2.wipe σ vs) H' Sh') (E : Ext (wipeS S vs) (L2.wipe σ vs) Sh H S' (L2.wipe σ vs) Sh' H') :
    Abs K (Z.unwipe S S' vs) σ H' Sh' ∧ Ext S σ Sh H (Z.unwipe S S' vs) σ Sh' H' := by
  have hl : S'.length = S.length := by rw [A'.len, wipe_length, A.len]
  have kp : Kp Sh H H' := E.kp A.wipe
  have old : ∀ {j sl ds a}, j ∈ vs → S[j]? = some sl → sl.owned = some ds → σ[j]? = some (some (.ref a)) → ¬ Ow (wipeS S vs) (L2.wipe σ vs) a := fun {j sl ds a} hj e1 e2 e3 w => by
    obtain ⟨k, sl', ds', hk, f1, f2, f3⟩ := ow_wipe w
    have := A.inj j k sl sl' ds ds' a e1 e2 f1 f2 e3 f3
    subst this
    exact hk hj
  have owOut : ∀ {b}, Ow S' (L2.wipe σ vs) b → Ow S σ b ∨ Nn H b := fun {b} w => by
    rcases E.own b w with z | z
    · obtain ⟨k, sl', ds', hk, f1, f2, f3⟩ := ow_wipe z
      exact .inl ⟨k, sl', ds', f1, f2, f3⟩
    · exact .inr z
  refine ⟨⟨by rw [unwipe_length, hl]; exact A.len, fun j d e => ?_, fun j sl ds e1 e2 => ?_, fun i j sl sl' ds ds' a e1 e2 e3 e4 e5 e6 => ?_, A'.fresh, A'.tab⟩,
    ⟨fun b o e n nt => E.keep b o e (fun w => ?_) nt, E.sub, fun b h => ?_, fun b h => ?_, fun j xs e => ?_, E.live⟩⟩
  · by_cases hj : j ∈ vs
    · rw [unwipe_in hl hj] at e
      obtain ⟨v, e1, r⟩ := A.sh j d e
      exact ⟨v, e1, Rep.mono kp E.sub _ _ r⟩
    · rw [unwipe_out hj] at e
      obtain ⟨v, e1, r⟩ := A'.sh j d e
      rw [wipe_out hj] at e1
      exact ⟨v, e1, r⟩
  · by_cases hj : j ∈ vs
    · rw [unwipe_in hl hj] at e1
      obtain ⟨a, us, e3, e4, r, n⟩ := A.ow j sl ds e1 e2
      have no := old hj e1 e2 e3
      refine ⟨a, us, e3, E.keep _ _ e4 no (fun _ z => by cases z), RepA.mono kp E.sub _ _ r, fun z => ?_⟩
      rcases E.new a z with z | z | z
      · exact n z
      · exact z.lst e4
      · exact no z
    · rw [unwipe_out hj] at e1
      obtain ⟨a, us, e3, e4, r, n⟩ := A'.ow j sl ds e1 e2
      rw [wipe_out hj] at e3
      exact ⟨a, us, e3, e4, r, n⟩
  · by_cases hi : i ∈ vs
    · rw [unwipe_in hl hi] at e1
      by_cases hj : j ∈ vs
      · rw [unwipe_in hl hj] at e3
        exact A.inj i j sl sl' ds ds' a e1 e2 e3 e4 e5 e6
      · exfalso
        rw [unwipe_out hj] at e3
        have no := old hi e1 e2 e5
        rcases E.own a ⟨j, sl', ds', e3, e4, by rw [wipe_out hj]; exact e6⟩ with z | z
        · exact no z
        · obtain ⟨a', us, f3, f4, _⟩ := A.ow i sl ds e1 e2
          rw [e5] at f3; cases f3
          exact z.lst f4
    · rw [unwipe_out hi] at e1
      by_cases hj : j ∈ vs
      · exfalso
        rw [unwipe_in hl hj] at e3
        have no := old hj e3 e4 e6
        rcases E.own a ⟨i, sl, ds, e1, e2, by rw [wipe_out hi]; exact e5⟩ with z | z
        · exact no z
        · obtain ⟨a', us, f3, f4, _⟩ := A.ow j sl' ds' e3 e4
          rw [e6] at f3; cases f3
          exact z.lst f4
      · rw [unwipe_out hj] at e3
        exact A'.inj i j sl sl' ds ds' a e1 e2 e3 e4 (by rw [wipe_out hi]; exact e5) (by rw [wipe_out hj]; exact e6)
  · obtain ⟨k, sl', ds', hk, f1, f2, f3⟩ := ow_wipe w
    exact n ⟨k, sl', ds', f1, f2, f3⟩
  · rcases E.new b h with z | z | z
    · exact .inl z
    · exact .inr (.inl z)
    · obtain ⟨k, sl', ds', hk, f1, f2, f3⟩ := ow_wipe z
      exact .inr (.inr ⟨k, sl', ds', f1, f2, f3⟩)
  · obtain ⟨j, sl, ds, e1, e2, e3⟩ := h
    by_cases hj : j ∈ vs
    · rw [unwipe_in hl hj] at e1
      exact .inl ⟨j, sl, ds, e1, e2, e3⟩
    · rw [unwipe_out hj] at e1
      exact owOut ⟨j, sl, ds, e1, e2, by rw [wipe_out hj]; exact e3⟩
  · refine ⟨rfl, ?_⟩
    by_cases hj : j ∈ vs
    · exact ⟨xs, by rw [unwipe_in hl hj]; exact e⟩
    · obtain ⟨_, ys, e2⟩ := E.io j xs (by rw [wipeS_out hj]; exact e)
      exact ⟨ys, by rw [unwipe_out hj]; exact e2⟩
/-- the block's own names forgotten at a turn's end -/
theorem Abs.rewipe {σ2 : St} (A : Abs K S σ2 H Sh) (e : L2.wipe σ2 vs = L2.wipe σ vs) : Abs K (wipeS S vs) (L2.wipe σ vs) H Sh := by
  rw [← e]
  exact A.wipe
end
def wp (vs : List Nat) : M Unit := fun S => .ok () (wipeS S vs)
def lcL (vs : List Nat) (g : D → M Unit) (t : M Bool) (e : M Vx) : List D → M (List D)
  | [] => ret []
  | d :: ds => bnd (g d) fun _ => bnd t fun c => if c = true then bnd e fun x => bnd (esc x) fun y => bnd (wp vs) fun _ => bnd (lcL vs g t e ds) fun ys => ret (y :: ys) else bnd (wp vs) fun _ => lcL vs g t e ds
def nLc (vs : List Nat) (mi : M (List D)) (g : D → M Unit) (t : M Bool) (e : M Vx) : M (List D) := bnd mi fun ds S => match lcL vs g t e ds (wipeS S vs) with
  | .ok ys S' => if ys.length ≤ sizeLine then .ok ys (unwipe S S' vs) else .stuck
  | _ => .stuck
def W0 : WX := fun _ _ _ _ => False
def MTs (X : Cx) (W : WX) (ifs : List Expr) (m : M Bool) : Prop := PTs X ifs (tT X.K X.mg W m)
theorem PTs.imp {X : Cx} {e : List Expr} {t t' : TT} (h : PTs X e t) (k : ∀ σ H Q, t' σ H Q → t σ H Q) : PTs X e t' := ⟨fun pins s σ H Q I q => h.run pins s σ H Q I (k σ H Q q)⟩
theorem ts_nil {X : Cx} {W : WX} : MTs X W [] (ret true) := PTs.imp pts_nil fun σ H Q ⟨S, Sh, A, g⟩ => g.here A
theorem ts_one {X : Cx} {W : WX} {c : Expr} {m : M Bool} (h : MT X W c m) : MTs X W [c] m := pts_one h
/-- what is still to come of a comprehension: the list's items so far, the rest, the end -/
def Rest (K : PySem.W.Frag) (mg : Str → Option Value) (σ : St) (S0 : Fr) (Sh0 : Addr → Prop) (H0 : Hp) (r : Res (List D)) (acc : List D) (P : List D → Fr → (Addr → Prop) → Hp → Prop) : Prop :=
  match r with
  | .ok ys S' => (acc ++ ys).length ≤ sizeLine ∧ ∀ Sh' H', Abs K S' σ H' Sh' → Ext S0 σ Sh0 H0 S' σ Sh' H' → P (acc ++ ys) S' Sh' H'
  | _ => False
theorem Rest.ok {K : PySem.W.Frag} {mg : Str → Option Value} {σ : St} {S0 S' : Fr} {Sh0 : Addr → Prop} {H0 : Hp} {ys acc : List D} {P : List D → Fr → (Addr → Prop) → Hp → Prop} (h : Rest K mg σ S0 Sh0 H0 (.ok ys S') acc P) :
    (acc ++ ys).length ≤ sizeLine ∧ ∀ Sh' H', Abs K S' σ H' Sh' → Ext S0 σ Sh0 H0 S' σ Sh' H' → P (acc ++ ys) S' Sh' H' := h
section
variable {X : Cx} {W : WX} {tg e elt iter : Expr} {mi : M (List D)} {ws : List Nat} {g : D → M Unit} {me : M Vx} {t : M Bool} {ifs : List Expr} {scope : Scope} {own : List (Str × Nat)} {pos : Pos}
theorem Abs.acc {K : PySem.W.Frag} {S : Fr} {σ : St} {H : Hp} {Sh : Addr → Prop} {p : Addr} {vs us : List V} (A : Abs K S σ H Sh) (hp : H p = some (.lst vs)) (ns : ¬ Sh p) (no : ¬ Ow S σ p) : Abs K S σ (upd H p (.lst us)) Sh := by
  have kp := kp_at (vs := us) hp ns
  refine ⟨A.len, fun i d e => ?_, fun i sl ds e1 e2 => ?_, A.inj, fun b h z => A.fresh b h z.updL, tabs_upd A.tab hp⟩
  · obtain ⟨v, e1, r⟩ := A.sh i d e
    exact ⟨v, e1, Rep.mono kp (fun _ h => h) _ _ r⟩
  · obtain ⟨a, vs', e3, e4, r, n⟩ := A.ow i sl ds e1 e2
    have ne : a ≠ p := fun z => by subst z; exact no ⟨i, sl, ds, e1, e2, e3⟩
    exact ⟨a, vs', e3, by rw [upd_ne ne]; exact e4, RepA.mono kp (fun _ h => h) _ _ r, n⟩
theorem Ext.acc {S S0 : Fr} {σ σ0 : St} {H H0 : Hp} {Sh Sh0 : Addr → Prop} {p : Addr} {us : List V} (E : Ext S0 σ0 Sh0 H0 S σ Sh H) (hp : Nn H0 p) : Ext S0 σ0 Sh0 H0 S σ Sh (upd H p (.lst us)) :=
  ⟨fun b o e n nt => by
    have ne : b ≠ p := fun z => by
      rw [z] at e
      obtain ⟨ps, q⟩ := hp _ e
      exact nt ps q
    rw [upd_ne ne]; exact E.keep b o e n nt, E.sub, E.new, E.own, E.io, fun b h => E.live b h.updL⟩
theorem esc_ok {K : PySem.W.Frag} {S : Fr} {σ : St} {H : Hp} {Sh : Addr → Prop} {x : Vx} {v : V} (A : Abs K S σ H Sh) (r : RepX K Sh S σ H v x) :
    esc x S = .stuck ∨ ∃ d S' Sh', esc x S = .ok d S' ∧ Abs K S' σ H Sh' ∧ Ext S σ Sh H S' σ Sh' H ∧ Rep K Sh' H v d := by
  cases x with
  | val d => exact .inr ⟨d, S, Sh, rfl, A, Ext.refl A, r⟩
  | own i =>
    have r : σ[i]? = some (some v) := r
    cases q : S[i]? with
    | none => left; unfold esc; simp only [q]
    | some sl =>
      cases sl with
      | un => left; unfold esc; simp only [q]
      | io xs => left; unfold esc; simp only [q]
      | sh d =>
        obtain ⟨v', e1, r'⟩ := A.sh i d q
        rw [r] at e1
        cases e1
        exact .inr ⟨d, S, Sh, by unfold esc; simp only [q], A, Ext.refl A, r'⟩
      | ow xs =>
        obtain ⟨Sh', A', E', r'⟩ := A.unown q r
        exact .inr ⟨_, _, Sh', by unfold esc; simp only [q], A', E', r'⟩
/-- what nothing holds stays so -/
theorem Ext.priv {S S1 : Fr} {σ σ1 : St} {H H1 : Hp} {Sh Sh1 : Addr → Prop} (E : Ext S σ Sh H S1 σ1 Sh1 H1) {p : Addr} {us : List V} (hp : H p = some (.lst us)) (ns : ¬ Sh p) (no : ¬ Ow S σ p) : H1 p = some (.lst us) ∧ ¬ Sh1 p ∧ ¬ Ow S1 σ1 p := by
  refine ⟨E.keep p _ hp no (fun _ z => by cases z), fun z => ?_, fun z => ?_⟩
  · rcases E.new p z with z | z | z
    · exact ns z
    · exact z.lst hp
    · exact no z
  · rcases E.own p z with z | z
    · exact no z
    · exact z.lst hp
theorem Ext.rewipe {S S1 : Fr} {σ σ2 : St} {H H1 : Hp} {Sh Sh1 : Addr → Prop} {vs : List Nat} (E : Ext (wipeS S vs) (L2.wipe σ vs) Sh H S1 σ2 Sh1 H1) (e : L2.wipe σ2 vs = L2.wipe σ vs) : Ext (wipeS S vs) (L2.wipe σ vs) Sh H (wipeS S1 vs) (L2.wipe σ vs) Sh1 H1 := by
  refine ⟨E.keep, E.sub, E.new, fun b h => ?_, fun j xs h => ?_, E.live⟩
  · rw [← e] at h
    obtain ⟨k, sl', ds', hk, f1, f2, f3⟩ := ow_wipe h
    exact E.own b ⟨k, sl', ds', f1, f2, f3⟩
  · have hj : j ∉ vs := fun z => by
      have := wipeS_in z h
      cases this
    obtain ⟨e1, ys, e2⟩ := E.io j xs h
    exact ⟨rfl, ys, by rw [wipeS_out hj]; exact e2⟩
theorem lc_read {σ : St} {H : Hp} {Q : VK} (hws : ∀ j ∈ ws, j ∈ own.map (·.2)) (h : tN X.K X.mg W (nLc (own.map (·.2)) mi g t me) σ H Q) : tLc (tI X.K X.mg W mi) (tG X.K X.mg W0 ws g) (tT X.K X.mg W0 t) (tE X.K X.mg W0 me) (own.map (·.2)) σ H Q := by
  obtain ⟨S, Sh, A, gg⟩ := h
  generalize hvs : own.map (·.2) = vs at gg hws
  refine ⟨S, Sh, A, (Go.bind gg).mono fun ds S1 Sh1 H1 A1 E1 g1 J hJ D hD => ?_⟩
  have hD0 : Nn H D := live_none E1 hD
  -- the end, seen from the block's start
  have hR : Rest X.K X.mg (L2.wipe σ vs) (wipeS S1 vs) Sh1 H1 (lcL vs g t me ds (wipeS S1 vs)) [] fun ys S' Sh' H' => ∀ us, H' D = some (.lst us) → RepA X.K Sh' H' us ys → ¬ Sh' D → ¬ Ow S' (L2.wipe σ vs) D → Q (.ref D) H' := by
    cases q : lcL vs g t me ds (wipeS S1 vs) with
    | ok ys S' =>
      simp only [q] at g1
      split at g1
      · rename_i hl
        refine ⟨hl, fun Sh' H' A' E' us h1 h2 h3 h4 => ?_⟩
        obtain ⟨A2, E2⟩ := A1.unwipe A' E'
        refine g1 Sh' H' A2 E2 D us h1 h2 h3 (fun w => ?_) hD0
        rcases E2.own D w with z | z
        · obtain ⟨⟨us', e⟩, _⟩ := A1.owLst z
          rw [hD] at e; cases e
        · -- new since: it stands in the block's slots
          obtain ⟨j, sl, ds', e1, e2, e3⟩ := w
          by_cases hj : j ∈ vs
          · have hl' : S'.length = S1.length := by rw [A'.len, wipe_length, A1.len]
            rw [unwipe_in hl' hj] at e1
            obtain ⟨a, us', f3, f4, _⟩ := A1.ow j sl ds' e1 e2
            rw [e3] at f3; cases f3
            rw [hD] at f4; cases f4
          · rw [unwipe_out hj] at e1
            exact h4 ⟨j, sl, ds', e1, e2, by rw [wipe_out hj]; exact e3⟩
      · exact g1.elim
    | exc x S' => simp only [q] at g1; exact g1.elim
    | stuck => simp only [q] at g1; exact g1.elim
  have AW : Abs X.K (wipeS S1 vs) (L2.wipe σ vs) H1 Sh1 := A1.wipe
  refine ⟨fun i n H2 => n = ds.length - i ∧ i ≤ ds.length ∧ ∃ S2 Sh2 acc us, Abs X.K S2 (L2.wipe σ vs) H2 Sh2 ∧ Ext (wipeS S1 vs) (L2.wipe σ vs) Sh1 H1 S2 (L2.wipe σ vs) Sh2 H2 ∧ H2 D = some (.lst us) ∧ RepA X.K Sh2 H2 us acc ∧ ¬ Sh2 D ∧ ¬ Ow S2 (L2.wipe σ vs) D ∧
      Rest X.K X.mg (L2.wipe σ vs) (wipeS S1 vs) Sh1 H1 (lcL vs g t me (ds.drop i) S2) acc fun ys S' Sh' H' => ∀ us, H' D = some (.lst us) → RepA X.K Sh' H' us ys → ¬ Sh' D → ¬ Ow S' (L2.wipe σ vs) D → Q (.ref D) H',
    ⟨ds.length, by simp, Nat.zero_le _, wipeS S1 vs, Sh1, [], [], AW.newObj hD, Ext.newObj AW hD, upd_same, .nil, fun z => AW.fresh D z (.of hD), not_ow_new AW hD, hR⟩, ?_⟩
  rintro i n H2 ⟨rfl, hil, S2, Sh2, acc, us, A2, E2, d2, r2, ns2, no2, R2⟩
  have k2 : Kp Sh1 H1 H2 := E2.kp AW
  obtain ⟨j1, j2⟩ := hJ i H2 k2
  by_cases hl : i = ds.length
  · refine .inl ⟨j2 hl.symm, ?_⟩
    rw [hl, List.drop_length] at R2
    exact (Rest.ok (ys := []) R2).2 Sh2 H2 A2 E2 us d2 (by rw [List.append_nil]; exact r2) ns2 no2
  · have hlt : i < ds.length := by omega
    obtain ⟨j3, j4⟩ := j1 _ (List.getElem?_eq_getElem hlt)
    rw [List.drop_eq_getElem_cons hlt] at R2
    refine .inr ⟨j3, fun H' => ∃ S2 Sh2 acc us, Abs X.K S2 (L2.wipe σ vs) H' Sh2 ∧ Ext (wipeS S1 vs) (L2.wipe σ vs) Sh1 H1 S2 (L2.wipe σ vs) Sh2 H' ∧ H' D = some (.lst us) ∧ RepA X.K Sh2 H' us acc ∧ ¬ Sh2 D ∧ ¬ Ow S2 (L2.wipe σ vs) D ∧
      Rest X.K X.mg (L2.wipe σ vs) (wipeS S1 vs) Sh1 H1 (lcL vs g t me (ds.drop (i + 1)) S2) acc fun ys S' Sh' H' => ∀ us, H' D = some (.lst us) → RepA X.K Sh' H' us ys → ¬ Sh' D → ¬ Ow S' (L2.wipe σ vs) D → Q (.ref D) H', fun H' hN => ⟨ds.length - (i + 1), by omega, rfl, hlt, hN⟩, fun x H3 hy => ?_⟩
    obtain ⟨k3, r3⟩ := j4 x H3 hy
    obtain ⟨A3, E3⟩ := A2.more k3
    have R2 : Rest X.K X.mg (L2.wipe σ vs) (wipeS S1 vs) Sh1 H1 (((g ds[i] S2).bind fun _ => bnd t fun c => if c = true then bnd me fun x => bnd (esc x) fun y => bnd (wp vs) fun _ => bnd (lcL vs g t me (ds.drop (i + 1))) fun ys => ret (y :: ys) else bnd (wp vs) fun _ => lcL vs g t me (ds.drop (i + 1)))) acc _ := R2
    have r3' : Rep X.K Sh2 H3 x ds[i] := Rep.mono Kp.refl E2.sub _ _ r3
    refine ⟨S2, Sh2, ds[i], A3, r3', ?_⟩
    -- the target
    cases q1 : g ds[i] S2 with
    | exc z S' => rw [q1] at R2; exact R2.elim
    | stuck => rw [q1] at R2; exact R2.elim
    | ok u S3 =>
      rw [q1] at R2
      intro σ4 Sh4 H4 A4 E4 h4
      have ew : L2.wipe σ4 vs = L2.wipe σ vs := wipe_same h4 hws
      have R2 : Rest X.K X.mg (L2.wipe σ vs) (wipeS S1 vs) Sh1 H1 ((t S3).bind fun c => if c = true then bnd me fun x => bnd (esc x) fun y => bnd (wp vs) fun _ => bnd (lcL vs g t me (ds.drop (i + 1))) fun ys => ret (y :: ys) else bnd (wp vs) fun _ => lcL vs g t me (ds.drop (i + 1))) acc _ := R2
      have Et4 : Ext S2 (L2.wipe σ vs) Sh2 H2 S3 σ4 Sh4 H4 := E3.trans E4
      refine ⟨ew, S3, Sh4, A4, ?_⟩
      cases q2 : t S3 with
      | exc z S' => rw [q2] at R2; exact R2.elim
      | stuck => rw [q2] at R2; exact R2.elim
      | ok c S4 =>
        rw [q2] at R2
        intro Sh5 H5 A5 E5
        have Et5 := Et4.trans E5
        cases c with
        | false =>
          refine iteF ?_
          obtain ⟨d5, ns5, no5⟩ := Et5.priv d2 ns2 no2
          refine ⟨wipeS S4 vs, Sh5, acc, us, A5.rewipe ew, (E2.trans Et5).rewipe ew, d5, RepA.mono (Et5.kp A2) Et5.sub _ _ r2, ns5, fun w => ?_, R2⟩
          rw [← ew] at w
          obtain ⟨k, sl', ds', hk, f1, f2, f3⟩ := ow_wipe w
          exact no5 ⟨k, sl', ds', f1, f2, f3⟩
        | true =>
          refine iteT ?_
          have R2 : Rest X.K X.mg (L2.wipe σ vs) (wipeS S1 vs) Sh1 H1 ((me S4).bind fun x => bnd (esc x) fun y => bnd (wp vs) fun _ => bnd (lcL vs g t me (ds.drop (i + 1))) fun ys => ret (y :: ys)) acc _ := R2
          refine ⟨S4, Sh5, A5, ?_⟩
          cases q3 : me S4 with
          | exc z S' => rw [q3] at R2; exact R2.elim
          | stuck => rw [q3] at R2; exact R2.elim
          | ok x S5 =>
            rw [q3] at R2
            intro Sh6 H6 A6 E6 v rv
            have R2 : Rest X.K X.mg (L2.wipe σ vs) (wipeS S1 vs) Sh1 H1 ((esc x S5).bind fun y => bnd (wp vs) fun _ => bnd (lcL vs g t me (ds.drop (i + 1))) fun ys => ret (y :: ys)) acc _ := R2
            rcases esc_ok A6 rv with q4 | ⟨d, S6, Sh7, q4, A7, E7, r7⟩
            · rw [q4] at R2; exact R2.elim
            · rw [q4] at R2
              have R2 : Rest X.K X.mg (L2.wipe σ vs) (wipeS S1 vs) Sh1 H1 ((lcL vs g t me (ds.drop (i + 1)) (wipeS S6 vs)).bind fun ys => ret (d :: ys)) acc _ := R2
              have Et7 := (Et5.trans E6).trans E7
              obtain ⟨d7, ns7, no7⟩ := Et7.priv d2 ns2 no2
              have r2' := RepA.mono (Et7.kp A2) Et7.sub _ _ r2
              have no7' : ¬ Ow (wipeS S6 vs) (L2.wipe σ vs) D := fun w => by
                rw [← ew] at w
                obtain ⟨k, sl', ds', hk, f1, f2, f3⟩ := ow_wipe w
                exact no7 ⟨k, sl', ds', f1, f2, f3⟩
              have kpa : Kp Sh7 H6 (upd H6 D (.lst (us ++ [v]))) := kp_at d7 ns7
              cases q5 : lcL vs g t me (ds.drop (i + 1)) (wipeS S6 vs) with
              | exc z S' => rw [q5] at R2; exact R2.elim
              | stuck => rw [q5] at R2; exact R2.elim
              | ok ys S7 =>
                rw [q5] at R2
                have R2 : Rest X.K X.mg (L2.wipe σ vs) (wipeS S1 vs) Sh1 H1 (.ok (d :: ys) S7) acc _ := R2
                have hlen : (acc ++ d :: ys).length ≤ sizeLine := (Rest.ok R2).1
                refine ⟨us, d7, ?_, wipeS S6 vs, Sh7, acc ++ [d], us ++ [v], (A7.rewipe ew).acc d7 ns7 no7', ((E2.trans Et7).rewipe ew).acc (.of hD), upd_same, ?_, ns7, no7', ?_⟩
                · rw [r2.length]
                  rw [List.length_append, List.length_cons] at hlen
                  omega
                · exact RepA.mono kpa (fun _ h => h) _ _ (r2'.append (.cons r7 .nil))
                · rw [q5]
                  have e : acc ++ [d] ++ ys = acc ++ d :: ys := by rw [List.append_assoc]; rfl
                  show ((acc ++ [d]) ++ ys).length ≤ sizeLine ∧ _
                  rw [e]
                  exact R2
theorem n_lc (hc : X.calm = true) (hN : X.N.Nodup) (hi : MI X W tg iter mi) (ok : BlkOk X.N X.env.scope scope own) (hws : ∀ j ∈ ws, j ∈ own.map (·.2))
    (hg : ∀ (s : Shared) (H : Hp) (C : Addr) (cl : List (Str × Addr)) (fp : List Addr), MG (X.blk s H scope (compEnvC scope cl C X.env) fp) W0 tg ws g) (ht : ∀ (s : Shared) (H : Hp) (C : Addr) (cl : List (Str × Addr)) (fp : List Addr), MTs (X.blk s H scope (compEnvC scope cl C X.env) fp) W0 ifs t)
    (he : ∀ (s : Shared) (H : Hp) (C : Addr) (cl : List (Str × Addr)) (fp : List Addr), ME (X.blk s H scope (compEnvC scope cl C X.env) fp) W0 elt me) (hs : ∀ x, foldedSetIterable iter X.env x = pure x := by intro _; rfl) :
    MN X W (.ListComp elt [⟨tg, iter, ifs, 0⟩] scope pos) (nLc (own.map (·.2)) mi g t me) :=
  PE.imp (pe_lc (g := tG X.K X.mg W0 ws g) (tt := tT X.K X.mg W0 t) (te := tE X.K X.mg W0 me) hc hN hi ok hg ht he hs) fun σ H Q h => lc_read hws h
/-- name = [..] on one line -/
theorem s_lc {i : Nat} {y : Str} {py spos : Pos} {mx : M Ax} (hx : ∀ σ H Q, tX X.K X.mg W mx σ H Q → tN X.K X.mg W (nLc (own.map (·.2)) mi g t me) σ H Q) (hc : X.calm = true) (hN : X.N.Nodup) (hy : X.N[i]? = some y) (hyl : X.env.scope.names.lookup y = some .local)
    (hi : MI X W tg iter mi) (ok : BlkOk X.N X.env.scope scope own) (hws : ∀ j ∈ ws, j ∈ own.map (·.2))
    (hg : ∀ (s : Shared) (H : Hp) (C : Addr) (cl : List (Str × Addr)) (fp : List Addr), MG (X.blk s H scope (compEnvC scope cl C X.env) fp) W0 tg ws g) (ht : ∀ (s : Shared) (H : Hp) (C : Addr) (cl : List (Str × Addr)) (fp : List Addr), MTs (X.blk s H scope (compEnvC scope cl C X.env) fp) W0 ifs t)
    (he : ∀ (s : Shared) (H : Hp) (C : Addr) (cl : List (Str × Addr)) (fp : List Addr), ME (X.blk s H scope (compEnvC scope cl C X.env) fp) W0 elt me) (hs : ∀ x, foldedSetIterable iter X.env x = pure x := by intro _; rfl)
    (hsw : swapsWith (.ListComp elt [⟨tg, iter, ifs, 0⟩] scope pos) (some (.Name y py)) spos.line X.env = pure true := by exact sw_true rfl rfl rfl rfl) :
    MS X W (.Assign [.Name y py] (.ListComp elt [⟨tg, iter, ifs, 0⟩] scope pos) spos) (mSet i mx) :=
  PS.imp (ps_setLc (g := tG X.K X.mg W0 ws g) (tt := tT X.K X.mg W0 t) (te := tE X.K X.mg W0 me) hc hN hy hyl hsw hi ok hg ht he hs) fun σ H D h => set_read (fun Q z => lc_read hws (hx σ H Q z)) h
theorem lc_N {mn : M (List D)} : ∀ σ H Q, tX X.K X.mg W (xN mn) σ H Q → tN X.K X.mg W mn σ H Q := fun _ _ _ h => N_X h
theorem lc_E {mn : M (List D)} : ∀ σ H Q, tX X.K X.mg W (xV (eN mn)) σ H Q → tN X.K X.mg W mn σ H Q := fun _ _ _ h => N_E (E_X h)
end
end Z
set_option maxHeartbeats 4000000
/-! Z10s: sorted of a tuple of whole numbers. -/
namespace SrtO
open PySem PyProof PyProof.Rows L2
section
variable {prog : Program} {w : World} {A : Around} {E : Value → Shared → Prop} {s : Shared}
theorem collect_tuple {l : Addr} {vs : List Value} {Q : List Value → Shared → Prop} (hl : s.heap.IsTuple l vs.toArray)
    (h : Q vs { s with heap := (s.heap.push (seqObj "list" #[] 0)).update s.heap.objs.size (Obj.mapSeq (· ++ vs.toArray)) }) (hsz : vs.length ≤ sizeLine) :
    wpAny (model prog w) A (collect (.ref l)) Q E s := by
  obtain ⟨o, ho, hc, n, hd⟩ := id hl
  unfold collect
  refine wpAny_bind (wpAny_runValue (codeAny_builtin entry_proto_collect' ?_))
  show wpAny _ _ (do again (.builtin "list.__iadd__" ⟨[← newList [], .ref l], []⟩)) _ _ s
  refine wpAny_bind (wpAny_newList (wpAny_pure ⟨Code.quiet_builtin _ (by decide +kernel), codeAny_builtin entry_list_iadd' ?_⟩))
  show wpAny _ _ (Builtin.List.listExtendWith (.ref s.heap.objs.size) (.ref l) (.ref s.heap.objs.size)) _ _ { s with heap := s.heap.push (seqObj "list" #[] 0) }
  unfold Builtin.List.listExtendWith
  have ho' : (s.heap.push (seqObj "list" #[] 0)).get? l = some o := Heap.get?_push_of_some _ ho
  refine wpAny_bind (wpAny_typeOf (T := "tuple") ⟨o, ho', hc⟩ ?_)
  have ht : (Value.type "tuple" == Value.type "tuple") = true := by rfl
  rw [if_pos (by rw [ht]; simp)]
  refine wpAny_bind (listItems_at ho' hd ?_)
  refine wpAny_bind (listItems_at (xs := #[]) (n := 0) (Heap.get?_push_size _ rfl) rfl ?_)
  rw [if_neg (by simp)]
  refine wpAny_bind (listUpdate_at (xs := #[]) (n := 0) (Heap.get?_push_size _ rfl) rfl ?_ (Nat.zero_le _) (by show (#[] ++ vs.toArray).size ≤ sizeLine + 1; simp only [Array.size_append, List.size_toArray, List.length_nil]; omega))
  refine wpAny_pure ?_
  show wpAny (model prog w) A (do
      let o ← load s.heap.objs.size
      match o.data with
      | .seq xs _ => pure xs.toList
      | _ => unsupported "internal:collect") Q E { s with heap := (s.heap.push (seqObj "list" #[] 0)).update s.heap.objs.size (Obj.mapSeq (· ++ vs.toArray)) }
  refine wpAny_bind (wpAny_load (get?_update_seq (Heap.get?_push_size _ rfl) _) ?_)
  show wpAny _ _ (pure ((#[] : Array Value) ++ vs.toArray).toList) Q E _
  rw [show ((#[] : Array Value) ++ vs.toArray).toList = vs by simp]
  exact wpAny_pure h
theorem sorted_ordT {l : Addr} {vs : List Value} {ltv : Value → Value → Bool} {Q : Value → Shared → Prop} (O : Swo ltv) (hl : s.heap.IsTuple l vs.toArray) (hz : vs.length ≤ sizeLine)
    (hS : 2 ≤ vs.length → ∀ (h₁ : Heap) (a : Addr), h₁.get? a = some (seqObj "list" vs.toArray 0) → (∀ b o, s.heap.get? b = some o → b ≠ a ∧ h₁.get? b = some o) → SortableO prog w A.in1.in1 { s with heap := h₁ } a vs ltv)
    (h : ∀ out : List Value, Srtd ltv out → Stb ltv out vs → Q (.ref (s.heap.objs.size + 1)) { s with heap := sortedAll s.heap vs out.toArray }) :
    wpAny (model prog w) A (call (.builtin "sorted") [.ref l]) Q E s := by
  refine Calls.call_function_entry kind_sorted plain_sorted entry_sorted (args_sorted1 _) ?_
  unfold Builtin.«sorted»
  refine wpAny_bind (m := checkCount "sorted" 1 1 _) (wpAny_pure ?_)
  refine wpAny_bind (collect_tuple hl ?_ hz)
  refine wpAny_bind (wpAny_newList ?_ hz)
  have hsz : ((s.heap.push (seqObj "list" #[] 0)).update s.heap.objs.size (Obj.mapSeq (· ++ vs.toArray))).objs.size = s.heap.objs.size + 1 := by
    rw [Heap.size_update, size_push']
  have hoL : (((s.heap.push (seqObj "list" #[] 0)).update s.heap.objs.size (Obj.mapSeq (· ++ vs.toArray))).push (seqObj "list" vs.toArray 0)).get? (s.heap.objs.size + 1) = some (seqObj "list" vs.toArray 0) := by
    rw [← hsz]; exact Heap.get?_push_size _ rfl
  have keep : ∀ b o, s.heap.get? b = some o → b ≠ s.heap.objs.size + 1 ∧ (((s.heap.push (seqObj "list" #[] 0)).update s.heap.objs.size (Obj.mapSeq (· ++ vs.toArray))).push (seqObj "list" vs.toArray 0)).get? b = some o := fun b o q => by
    have hlt : b < s.heap.objs.size := Heap.lt_size q
    refine ⟨Nat.ne_of_lt (Nat.lt_succ_of_lt hlt), Heap.get?_push_of_some _ ?_⟩
    rw [Heap.get?_update_ne _ _ _ _ (Nat.ne_of_lt hlt)]
    exact Heap.get?_push_of_some _ q
  show wpAny _ _ _ _ _ { s with heap := ((s.heap.push (seqObj "list" #[] 0)).update s.heap.objs.size (Obj.mapSeq (· ++ vs.toArray))).push (seqObj "list" vs.toArray 0) }
  rw [hsz]
  refine wpAny_bind (wpAny_holding (wpAny_call_entry slot_list_sort ⟨_, hoL, rfl⟩ entry_list_sort (list_sort_ord O hoL hz (fun h2 => hS h2 _ _ hoL keep) fun out hs hb => ⟨_, rfl, ?_⟩) (args_list_sort _)))
  exact wpAny_pure ⟨_, rfl, h out hs hb⟩
end
end SrtO
namespace L2
open PySem PySem.Spec PyProof.Rows
def rSortedIT (K : PySem.W.Frag) : List V → Hp → VK → Prop := fun vs H Q => ∃ (a : Addr) (ns : List Int), vs = [V.ref a] ∧ SqT K H a (ns.map V.int) ∧
  ∀ (ns' : List Int) (p : Addr), ns'.Perm ns → ns'.Pairwise (· ≤ ·) → H p = none → Q (.ref p) (upd H p (.lst (ns'.map V.int)))
theorem cr_sortedIT {X : Cx} : CallR X (.builtin "sorted") (rSortedIT X.K) := by
  intro pins s σ H vs us Q I r h
  obtain ⟨a, ns, rfl, hs, q⟩ := h
  obtain ⟨its, rv, hl, hz⟩ := I.tuple hs
  rw [Vals.ref1 r]
  have hi := rv.ints
  refine SrtO.sorted_ordT SrtO.swo_int (show s.heap.IsTuple a its.toArray from hl) (by rw [← rv.length]; exact hz) (fun h2 h₁ a' _ _ => SrtO.ints_sortable hi h2) fun out h1 h2 => ?_
  obtain ⟨k1, k2, k3⟩ := SrtO.ints_out hi h1 h2
  obtain ⟨ep, he'⟩ := PyProof.Rows.sortedAll_at s.heap its out.toArray
  have hlen : ((out.map SrtO.iv).map V.int).length ≤ sizeLine := by
    rw [List.length_map, k2.length_eq]
    rw [List.length_map] at hz
    exact hz
  exact ⟨.ref _, upd H (s.heap.objs.size + 1) (.lst ((out.map SrtO.iv).map V.int)), I.laid (t' := s.toks) (fun _ _ => PyProof.Rows.sortedAll_old) (Nat.le_succ _) ⟨hlen, out, ep, vals_of_ints k1, he'⟩, rfl, q _ _ k2 k3 (I.hok.fresh (Nat.le_succ _))⟩
end L2
set_option maxHeartbeats 4000000
/-! Z10: defs, raise, further built-ins. -/
namespace Z
open PySem PySem.Spec PyProof.Rows L2
variable [LT]

/-! ### a def's body -/
def Sl.isSh : Sl → Bool
  | .sh _ => true
  | _ => false
def chkP : Fr → Bool
  | .io _ :: r => r.all Sl.isSh
  | P => P.all Sl.isSh
/-- the parameters' slots as the caller sees them behind the call -/
def back : Fr → Fr → Fr
  | .io _ :: r, s :: _ => s :: r
  | P, _ => P
def uns (n : Nat) : Fr := List.replicate n .un
def mDef (n : Nat) (m : M Fl) : M D := fun P => if chkP P = true then (match m (P ++ uns (n - P.length)) with
  | .ok (.ret d) S' => .ok d (back P S')
  | .ok .next S' => .ok .non (back P S')
  | .exc x S' => .exc x (back P S')
  | _ => .stuck) else .stuck
section
variable {K : PySem.W.Frag} {mg : Str → Option Value}
theorem uns_get {n i : Nat} {sl : Sl} (h : (uns n)[i]? = some sl) : sl = .un := (List.eq_of_mem_replicate (List.mem_of_getElem? h))
theorem app_get {P : Fr} {n i : Nat} {sl : Sl} (h : (P ++ uns n)[i]? = some sl) (ne : sl ≠ .un) : P[i]? = some sl := by
  by_cases hi : i < P.length
  · rw [List.getElem?_append_left hi] at h
    exact h
  · rw [List.getElem?_append_right (by omega)] at h
    exact absurd (uns_get h) ne
theorem start_get {N : List Str} {vs : List V} {i : Nat} {x : Option V} (h : (vs.map some)[i]? = some x) : (L2.start N vs)[i]? = some x := by
  unfold L2.start
  rw [List.getElem?_append_left (List.getElem?_eq_some_iff.mp h).1]
  exact h
theorem Abs.start {P : Fr} {vs : List V} {H : Hp} {Sh : Addr → Prop} {N : List Str} (A : Abs K P (vs.map some) H Sh) (hl : vs.length ≤ N.length) : Abs K (P ++ uns (N.length - P.length)) (L2.start N vs) H Sh := by
  have hP : P.length = vs.length := by rw [A.len, List.length_map]
  have lt_of : ∀ {i : Nat} {sl : Sl}, P[i]? = some sl → i < (vs.map some).length := fun {i sl} h => by
    rw [← A.len]; exact (List.getElem?_eq_some_iff.mp h).1
  refine ⟨?_, fun i d e => ?_, fun i sl ds e1 e2 => ?_, fun i j sl sl' ds ds' a e1 e2 e3 e4 e5 e6 => ?_, A.fresh, A.tab⟩
  · unfold L2.start uns
    rw [List.length_append, List.length_append, List.length_map, List.length_replicate, List.length_replicate, hP]
  · obtain ⟨v, e1, r⟩ := A.sh i d (app_get e fun z => by cases z)
    exact ⟨v, start_get e1, r⟩
  · obtain ⟨a, us, e3, e4, r, n⟩ := A.ow i sl ds (app_get e1 fun z => by subst z; cases e2) e2
    exact ⟨a, us, start_get e3, e4, r, n⟩
  · have f1 := app_get e1 fun z => by subst z; cases e2
    have f3 := app_get e3 fun z => by subst z; cases e4
    unfold L2.start at e5 e6
    rw [List.getElem?_append_left (lt_of f1)] at e5
    rw [List.getElem?_append_left (lt_of f3)] at e6
    exact A.inj i j sl sl' ds ds' a f1 e2 f3 e4 e5 e6
theorem Ow.ofStart {P : Fr} {vs : List V} {H : Hp} {Sh : Addr → Prop} {N : List Str} {n : Nat} {b : Addr} (A : Abs K P (vs.map some) H Sh) (h : Ow (P ++ uns n) (L2.start N vs) b) : Ow P (vs.map some) b := by
  obtain ⟨i, sl, ds, e1, e2, e3⟩ := h
  have f1 := app_get e1 fun z => by subst z; cases e2
  refine ⟨i, sl, ds, f1, e2, ?_⟩
  unfold L2.start at e3
  rw [List.getElem?_append_left (by rw [← A.len]; exact (List.getElem?_eq_some_iff.mp f1).1)] at e3
  exact e3
theorem all_sh {r : Fr} (h : r.all Sl.isSh = true) {i : Nat} {sl : Sl} (e : r[i]? = some sl) : ∃ d, sl = .sh d := by
  have := List.all_eq_true.mp h sl (List.mem_of_getElem? e)
  cases sl <;> first | exact ⟨_, rfl⟩ | cases this
/-- behind the body: the caller's view -/
theorem Abs.back {P S' : Fr} {vs : List V} {H H' : Hp} {Sh Sh' : Addr → Prop} {N : List Str} {σ' : St} (A : Abs K P (vs.map some) H Sh) (hc : chkP P = true) (hl : vs.length ≤ N.length)
    (A' : Abs K S' σ' H' Sh') (E : Ext (P ++ uns (N.length - P.length)) (L2.start N vs) Sh H S' σ' Sh' H') :
    Abs K (Z.back P S') (vs.map some) H' Sh' ∧ Ext P (vs.map some) Sh H (Z.back P S') (vs.map some) Sh' H' := by
  have kp : Kp Sh H H' := E.kp (A.start hl)
  have kk : ∀ b o, H b = some o → ¬ Ow P (vs.map some) b → (∀ ps, o ≠ .tbl ps) → H' b = some o := fun b o e n nt => E.keep b o e (fun w => n (w.ofStart A)) nt
  have nn : ∀ b, Sh' b → Sh b ∨ Nn H b ∨ Ow P (vs.map some) b := fun b h => by
    rcases E.new b h with h | h | h
    · exact .inl h
    · exact .inr (.inl h)
    · exact .inr (.inr (h.ofStart A))
  have plain : P.all Sl.isSh = true → Abs K P (vs.map some) H' Sh' ∧ Ext P (vs.map some) Sh H P (vs.map some) Sh' H' := fun hs => by
    have no : ∀ b, ¬ Ow P (vs.map some) b := fun b ⟨i, sl, ds, e1, e2, _⟩ => by
      obtain ⟨d, rfl⟩ := all_sh hs e1
      cases e2
    refine ⟨⟨A.len, fun i d e => ?_, fun i sl ds e1 e2 => ?_, A.inj, A'.fresh, A'.tab⟩, ⟨kk, E.sub, nn, fun b h => .inl h, fun i xs e => ⟨rfl, xs, e⟩, E.live⟩⟩
    · obtain ⟨v, e1, r⟩ := A.sh i d e
      exact ⟨v, e1, Rep.mono kp E.sub _ _ r⟩
    · obtain ⟨d, rfl⟩ := all_sh hs e1
      cases e2
  cases P with
  | nil => exact plain rfl
  | cons s0 r =>
    cases s0 with
    | io ys =>
      have hr : r.all Sl.isSh = true := hc
      obtain ⟨e0, ys', e1⟩ := E.io 0 ys rfl
      cases S' with
      | nil => cases e1
      | cons s1 S' =>
        have e1' : s1 = .io ys' := Option.some.inj e1
        subst e1'
        obtain ⟨a, us, f3, f4, f5, f6⟩ := A.ow 0 (.io ys) ys rfl rfl
        obtain ⟨a', us', g3, g4, g5, g6⟩ := A'.ow 0 (.io ys') ys' rfl rfl
        rw [e0, start_get f3] at g3
        cases g3
        have owP : ∀ {b}, Ow (.io ys :: r) (vs.map some) b → b = a := fun {b} ⟨i, sl, ds, h1, h2, h3⟩ => by
          cases i with
          | zero =>
            rw [f3] at h3
            cases h3; rfl
          | succ i =>
            obtain ⟨d, rfl⟩ := all_sh hr (show r[i]? = some sl by simpa using h1)
            cases h2
        refine ⟨⟨A.len, fun i d e => ?_, fun i sl ds h1 h2 => ?_, fun i j sl sl' ds ds' b h1 h2 h3 h4 h5 h6 => ?_, A'.fresh, A'.tab⟩, ⟨kk, E.sub, nn, fun b h => ?_, fun i xs e => ?_, E.live⟩⟩
        · cases i with
          | zero => cases e
          | succ i =>
            obtain ⟨v, q1, q2⟩ := A.sh (i + 1) d e
            exact ⟨v, q1, Rep.mono kp E.sub _ _ q2⟩
        · cases i with
          | zero =>
            cases h1
            cases h2
            exact ⟨a, us', f3, g4, g5, g6⟩
          | succ i =>
            obtain ⟨d, rfl⟩ := all_sh hr (show r[i]? = some sl by simpa [Z.back] using h1)
            cases h2
        · cases i with
          | zero =>
            cases j with
            | zero => rfl
            | succ j =>
              obtain ⟨d, rfl⟩ := all_sh hr (show r[j]? = some sl' by simpa [Z.back] using h3)
              cases h4
          | succ i =>
            obtain ⟨d, rfl⟩ := all_sh hr (show r[i]? = some sl by simpa [Z.back] using h1)
            cases h2
        · obtain ⟨i, sl, ds, h1, h2, h3⟩ := h
          cases i with
          | zero => exact .inl ⟨0, .io ys, ys, rfl, rfl, h3⟩
          | succ i =>
            obtain ⟨d, rfl⟩ := all_sh hr (show r[i]? = some sl by simpa [Z.back] using h1)
            cases h2
        · cases i with
          | zero => exact ⟨rfl, ys', rfl⟩
          | succ i =>
            obtain ⟨d, q⟩ := all_sh hr (show r[i]? = some (.io xs) by simpa using e)
            cases q
    | _ => exact plain hc
end
section
variable {P : Program} {w : World} {K : PySem.W.Frag} {mg : Str → Option Value} {base : Heap}
/-- THE RULE for a def: its body as a term of rules -/
theorem fn_Z {x qual : Str} {st : Stmt} {f : Addr} {fd : FuncData} {N ps : List Str} {k : Nat} {m : M Fl} (F : Fun K x qual st f fd) (S : FnScope N ps (defScope st)) (hps : ps.length ≤ N.length)
    (hb : ∀ (cdv : Value) (A : Around) (outer : List Env) (s : Shared) (H : Hp) (E : XK), Room k (A.deeper (envOfC qual (defScope st) s.heap.objs.size f cdv)) →
      MSs (cxOf (L2.CX P w) P w K mg base N qual (defScope st) f cdv A outer s H E) (fun cls d _ H => E cls d H) (defBody st) m) :
    FnOk P w K mg base (L2.CX P w) (k + 1) f fd ps (spZ K mg ps.length (mDef N.length m)) := by
  refine F.okX S (fun vs H Q E h => h.1) (fun cdv A outer s H vs Q E hr h => ⟨_, hb cdv A outer s H E hr, ?_⟩)
  obtain ⟨hl, Pf, Sh, Ab, g⟩ := h
  have hl' : vs.length ≤ N.length := by omega
  refine ⟨Pf ++ uns (N.length - Pf.length), Sh, Ab.start hl', ?_⟩
  unfold mDef at g
  split at g
  · rename_i hc
    show GoS K mg (fun cls d _ H => E cls d H) _ _ Sh H (m (Pf ++ uns (N.length - Pf.length))) _
    cases q : m (Pf ++ uns (N.length - Pf.length)) with
    | ok fl S' =>
      rw [q] at g
      intro σ' Sh' H' A' E'
      obtain ⟨A2, E2⟩ := Ab.back hc hl' A' E'
      cases fl with
      | next => exact g Sh' H' A2 E2 .non .non
      | ret d => exact fun v r => g Sh' H' A2 E2 v r
      | brk => exact g.elim
      | cnt => exact g.elim
    | exc x S' =>
      rw [q] at g
      intro cls d σ' Sh' H' A' E' xr
      obtain ⟨A2, E2⟩ := Ab.back hc hl' A' E'
      exact g cls d Sh' H' A2 E2 xr
    | stuck => rw [q] at g; exact g.elim
  · exact g.elim
theorem Cal.mono {j k : Nat} {x : Str} {np : Nat} {m : M D} (c : Cal P w K mg base j x np m) (h : j ≤ k) : Cal P w K mg base k x np m := by
  obtain ⟨f, fd, ps, h1, h2, h3, h4⟩ := c.ex
  exact ⟨f, fd, ps, h1, h2, h3, h4.mono h⟩
theorem cal_Z {x : Str} {st : Stmt} {f : Addr} {fd : FuncData} {N ps : List Str} {k : Nat} {m : M Fl} (g : mg x = some (.ref f)) (F : Fun K x x st f fd) (b : Binds K fd ps []) (S : FnScope N ps (defScope st)) (hps : ps.length ≤ N.length)
    (hb : ∀ (cdv : Value) (A : Around) (outer : List Env) (s : Shared) (H : Hp) (E : XK), Room k (A.deeper (envOfC x (defScope st) s.heap.objs.size f cdv)) →
      MSs (cxOf (L2.CX P w) P w K mg base N x (defScope st) f cdv A outer s H E) (fun cls d _ H => E cls d H) (defBody st) m) :
    Cal P w K mg base (k + 1) x ps.length (mDef N.length m) := ⟨f, fd, ps, g, F.kp, b, fn_Z F S hps hb⟩
end

/-! ### raise -/
/-- a class of errors of the text without an __init__ -/
structure ErrC (K : PySem.W.Frag) (mg : Str → Option Value) (x : Str) : Prop where
  ex : ∃ C, mg x = some (.ref C) ∧ PySem.W.excIn K C [.type "ValueError", .type "Exception", .type "BaseException", .type "object"] "ValueError.__new__" = true ∧ PySem.W.keepIn K (.ref C) = true ∧
    PySem.W.subIn K (.ref C) (.type "BaseException") = some true ∧ PySem.W.typeIn K (.ref C) = some (.type "type")
def mRaise (x : Xc) : M Fl := fun S => .exc x S
section
variable {X : Cx} {W : WX} {pos p p2 cpos : Pos} {x s : Str} {j : Nat}
theorem s_raise (c : ErrC X.K X.mg x) (hc : X.calm = true) (tk : Takes X W) (hg : Gl X x) (hdb : (x == ("__debug__" : Str)) = false := by decide) : MS X W (.Raise (some (.Call (.Name x p) [.Constant (.str s) j p2] [] cpos)) none pos) (mRaise ⟨x, none⟩) := by
  obtain ⟨C, gC, xC, kC, bC, tC⟩ := c.ex
  refine PS.imp (ps_raise hc tk (pmk_own PySem.F.excBase_ValueError xC gC kC (raises_own bC tC) hg hdb)) fun σ H Q ⟨S, Sh, A, g⟩ => ?_
  exact g _ _ σ Sh H A (Ext.refl A) ⟨C, gC, rfl, rfl⟩
end

/-! ### further built-ins -/
section
variable {X : Cx} {W : WX} {pos p p2 cpos apos : Pos} {e a b c o : Expr} {es : List Expr} {m ma mb mo : M Vx} {ms : M (List Vx)}
/-- isinstance(x, T), T a built-in type -/
def D.ty : D → String
  | .non => "NoneType"
  | .bl _ => "bool"
  | .int _ => "int"
  | .str _ => "str"
  | .tup _ => "tuple"
  | .lst _ => "list"
  | .frz _ => ""
def isT (T : String) (d : D) : Bool := match T, d with
  | "int", .int _ => true
  | "int", .bl _ => true
  | "bool", .bl _ => true
  | "str", .str _ => true
  | "tuple", .tup _ => true
  | "list", .lst _ => true
  | _, _ => false
theorem RepL.tyX {K : PySem.W.Frag} {Sh : Addr → Prop} {H : Hp} {v : V} {d : D} (h : RepL K Sh H v d) (nf : ∀ xs, d ≠ .frz xs) : TyX K H v (.type d.ty) := by
  cases d with
  | non => cases h; exact .base .non
  | bl b => cases h; exact .base (.bl b)
  | int b => cases h; exact .base (.int b)
  | str b => cases h; exact .base (.str b)
  | tup b =>
    obtain ⟨a, vs, rfl, h1, h2⟩ := h.tup
    rcases h1 with (h1 | ⟨o, h1⟩) | ⟨o, its, n, e1, e2, _⟩
    · exact .base (.tup h1)
    · exact .fTuple h1
    · exact .kTuple e1 e2
  | lst b =>
    obtain ⟨a, vs, rfl, h1, h2⟩ := h.lst
    exact .base (.lst h1)
  | frz b => exact absurd rfl (nf b)
def fIsi (T : String) : D → Option D
  | .frz _ => none
  | d => some (.bl (isT T d))
/-- the types that the text asks for -/
def askT (T : String) : Bool := ["int", "bool", "str", "tuple", "list"].contains T
theorem kit_isT (T : String) (h : askT T = true) (d : D) (nf : ∀ xs, d ≠ .frz xs) : kitB d.ty T = some (isT T d) := by
  have h' : T = "int" ∨ T = "bool" ∨ T = "str" ∨ T = "tuple" ∨ T = "list" := by
    unfold askT at h
    simpa using h
  rcases h' with rfl | rfl | rfl | rfl | rfl <;> cases d <;> first | decide +kernel | rfl | exact absurd rfl (nf _)
theorem e_isi {T : String} (hT : askT T = true) (hg : Gl X "isinstance") (hm : X.mg "isinstance" = none) (hg2 : Gl X (Str.ofString T)) (hm2 : X.mg (Str.ofString T) = none) (hv : bootBuiltins (Str.ofString T) = some (.type T)) (ha : ME X W a ma)
    (hn : (Str.ofString T) ≠ "__name__" := by decide) (hd2 : ((Str.ofString T) == ("__debug__" : Str)) = false := by decide)
    (he : starEach [a, .Name (Str.ofString T) p2] X.env = (false, eval a X.env) :: starEach [.Name (Str.ofString T) p2] X.env := by rfl) (he2 : starEach [.Name (Str.ofString T) p2] X.env = (false, eval (.Name (Str.ofString T) p2) X.env) :: starEach [] X.env := by rfl)
    (hpl : (backTo pos (starEach [.Name (Str.ofString T) p2] X.env)).any (·.1) = false := by rfl) :
    ME X W (.Call (.Name "isinstance" p) [a, .Name (Str.ofString T) p2] [] pos) (m1 (fIsi T) ma) := by
  refine PE.imp (pe_callB call_isi hg hm boot_isinstance (pa_cons ha (pa_cons (pe_bltn (v := .ty T) hg2 hm2 hv rfl hn hd2) pa_nil he2) he) (by decide) (by decide) he hpl) fun σ H Q ⟨S, Sh, A, g⟩ => ?_
  refine ⟨S, Sh, A, g.bind.mono fun x S1 Sh1 H1 A1 E1 g1 v rv => ?_⟩
  obtain ⟨d, z, r, e, g2⟩ := go_d1 A1 rv g1
  have nf : ∀ xs, d ≠ .frz xs := fun xs z => by subst z; cases e
  have e : z = .bl (isT T d) := by cases d <;> first | (cases e; rfl) | exact absurd rfl (nf _)
  subst e
  exact ⟨v, .ty T, .type d.ty, .type T, isT T d, rfl, .ty T, r.tyX nf, kit_ty (kit_isT T hT d nf), (g2.fin A1).old _ .bl⟩
/-- sorted of whole numbers -/
def insI (n : Int) : List Int → List Int
  | [] => [n]
  | m :: ms => if n ≤ m then n :: m :: ms else m :: insI n ms
def sortI : List Int → List Int
  | [] => []
  | n :: ns => insI n (sortI ns)
theorem insI_perm (n : Int) : ∀ ms, (insI n ms).Perm (n :: ms)
  | [] => .refl _
  | m :: ms => by
    unfold insI
    split
    · exact .refl _
    · exact ((insI_perm n ms).cons m).trans (.swap n m ms)
theorem sortI_perm : ∀ ns, (sortI ns).Perm ns
  | [] => .refl _
  | n :: ns => (insI_perm n (sortI ns)).trans ((sortI_perm ns).cons n)
theorem insI_sorted (n : Int) : ∀ ms, ms.Pairwise (· ≤ ·) → (insI n ms).Pairwise (· ≤ ·)
  | [], _ => by unfold insI; exact List.pairwise_singleton _ _
  | m :: ms, h => by
    unfold insI
    split
    · rename_i hn
      refine List.Pairwise.cons (fun a ha => ?_) h
      rcases List.mem_cons.mp ha with rfl | ha
      · exact hn
      · exact Int.le_trans hn (List.rel_of_pairwise_cons h ha)
    · rename_i hn
      refine List.Pairwise.cons (fun a ha => ?_) (insI_sorted n ms (List.Pairwise.of_cons h))
      rcases List.mem_cons.mp ((insI_perm n ms).mem_iff.mp ha) with rfl | ha
      · omega
      · exact List.rel_of_pairwise_cons h ha
theorem sortI_sorted : ∀ ns, (sortI ns).Pairwise (· ≤ ·)
  | [] => .nil
  | n :: ns => insI_sorted n _ (sortI_sorted ns)
theorem sorted_uniq : ∀ {xs ys : List Int}, xs.Perm ys → xs.Pairwise (· ≤ ·) → ys.Pairwise (· ≤ ·) → xs = ys
  | [], ys, h, _, _ => by
    have := h.symm.eq_nil
    exact this.symm
  | x :: xs, [], h, _, _ => by
    have := h.eq_nil
    cases this
  | x :: xs, y :: ys, h, hx, hy => by
    have e : x = y := by
      have m1 : x ∈ y :: ys := h.mem_iff.mp List.mem_cons_self
      have m2 : y ∈ x :: xs := h.mem_iff.mpr List.mem_cons_self
      rcases List.mem_cons.mp m1 with e | m1
      · exact e
      · rcases List.mem_cons.mp m2 with e | m2
        · exact e.symm
        · have := List.rel_of_pairwise_cons hy m1
          have := List.rel_of_pairwise_cons hx m2
          omega
    subst e
    rw [sorted_uniq h.cons_inv (List.Pairwise.of_cons hx) (List.Pairwise.of_cons hy)]
def bSorted : List D → Option D
  | [.lst xs] => (D.ints xs).bind fun ns => some (.lst ((sortI ns).map .int))
  | [.tup xs] => (D.ints xs).bind fun ns => some (.lst ((sortI ns).map .int))
  | _ => none
theorem b_sorted : OpB X (fun xs H Q => rSortedI X.K xs H Q ∨ rSortedIT X.K xs H Q) bSorted := fun Sh H vs ds z Q r e q => by
  match ds, e with
  | [.lst xs], e =>
    obtain ⟨a, ns, rfl, h, e⟩ := onInts_inv (f := fun ns => some (.lst ((sortI ns).map .int))) r e
    cases e
    refine .inl ⟨a, ns, rfl, .inl (.inl h), fun ns' p hp hs hn => ?_⟩
    have := sorted_uniq (hp.trans (sortI_perm ns).symm) hs (sortI_sorted ns)
    subst this
    exact q.new p _ _ hn (fun _ z => by cases z) (.lst upd_same (.inr rfl) (RepA.ofInts _))
  | [.tup xs], e =>
    unfold bSorted at e
    cases q1 : D.ints xs with
    | none => simp only [q1] at e; cases e
    | some ns =>
      simp only [q1] at e
      cases e
      obtain ⟨v, rfl, r1⟩ := r.one
      obtain ⟨a, us, rfl, h1, h2⟩ := r1.tup
      rw [D.ints_eq q1] at h2
      have e2 := h2.ints
      subst e2
      refine .inr ⟨a, ns, rfl, h1, fun ns' p hp hs hn => ?_⟩
      have := sorted_uniq (hp.trans (sortI_perm ns).symm) hs (sortI_sorted ns)
      subst this
      exact q.new p _ _ hn (fun _ z => by cases z) (.lst upd_same (.inr rfl) (RepA.ofInts _))
theorem cr_sortedB : CallR X (.builtin "sorted") (fun xs H Q => rSortedI X.K xs H Q ∨ rSortedIT X.K xs H Q) := cr_sortedI.or cr_sortedIT
/-- sorted of a list of whole numbers that stands in a tuple: sorted(t) -/
def mRg1 (m : M Vx) : M (Int × Int) := bnd m fun x S => match deref S x with
  | some (.int n) => .ok (0, n) S
  | _ => .stuck
def mRg2 (ma mb : M Vx) : M (Int × Int) := bnd ma fun x => bnd mb fun y S => match deref S x, deref S y with
  | some (.int i), some (.int j) => .ok (i, j) S
  | _, _ => .stuck
def tRg (K : PySem.W.Frag) (mg : Str → Option Value) (W : WX) (m : M (Int × Int)) : St → Hp → (Int → Int → Hp → Prop) → Prop := fun σ H Q => ∃ S Sh, Abs K S σ H Sh ∧ Go K mg W σ S Sh H (m S) fun ij S' Sh' H' => Q ij.1 ij.2 H'
def MR (X : Cx) (W : WX) (e : Expr) (m : M (Int × Int)) : Prop := PRg X e (tRg X.K X.mg W m)
theorem PRg.imp {X : Cx} {e : Expr} {t t' : St → Hp → (Int → Int → Hp → Prop) → Prop} (h : PRg X e t) (k : ∀ σ H Q, t' σ H Q → t σ H Q) : PRg X e t' := fun pins s σ H Q I q => h pins s σ H Q I (k σ H Q q)
theorem r_1 (hg : Gl X "range") (hm : X.mg "range" = none) (ha : ME X W a ma) (na : starEach [a] X.env = (false, eval a X.env) :: starEach [] X.env := by rfl) : MR X W (.Call (.Name "range" p) [a] [] pos) (mRg1 ma) :=
  PRg.imp (prg_1 hg hm ha na) fun σ H Q ⟨S, Sh, A, g⟩ => ⟨S, Sh, A, g.bind.mono fun x S1 Sh1 H1 A1 E1 g1 v rv => by
    try simp only at g1
    cases q : deref S1 x with
    | none => rw [q] at g1; exact g1.elim
    | some d =>
      have rl := rv.deref A1 q
      rw [q] at g1
      cases d with
      | int k =>
        cases rl
        exact ⟨k, rfl, g1.here A1⟩
      | _ => exact g1.elim⟩
theorem r_2 (hg : Gl X "range") (hm : X.mg "range" = none) (ha : ME X W a ma) (hb : ME X W b mb) (na : starEach [a, b] X.env = (false, eval a X.env) :: starEach [b] X.env := by rfl) (nb : starEach [b] X.env = (false, eval b X.env) :: starEach [] X.env := by rfl) (hp : (backTo pos (starEach [b] X.env)).any (·.1) = false := by rfl) : MR X W (.Call (.Name "range" p) [a, b] [] pos) (mRg2 ma mb) :=
  PRg.imp (prg_2 hg hm ha hb na nb hp) fun σ H Q ⟨S, Sh, A, g⟩ => ⟨S, Sh, A, g.bind.mono fun x S1 Sh1 H1 A1 E1 g1 v rv => ⟨S1, Sh1, A1, g1.bind.mono fun y S2 Sh2 H2 A2 E2 g2 u ru => by
    try simp only at g2
    cases q : deref S2 x with
    | none => simp only [q] at g2; exact g2.elim
    | some d =>
      have rl := (rv.ext A1 E2).deref A2 q
      cases q2 : deref S2 y with
      | none => simp only [q, q2] at g2; cases d <;> exact g2.elim
      | some d2 =>
        have rl2 := ru.deref A2 q2
        simp only [q, q2] at g2
        cases d with
        | int k =>
          cases d2 with
          | int k2 =>
            cases rl
            cases rl2
            exact ⟨k, k2, rfl, rfl, g2.here A2⟩
          | _ => exact g2.elim
        | _ => cases d2 <;> exact g2.elim⟩⟩
instance (a b : Int) : Decidable (RgOk a b) := by unfold RgOk; infer_instance
def nRgL (m : M (Int × Int)) : M (List D) := bnd m fun ij S => if RgOk ij.1 ij.2 then .ok (rngD ij.1 1 (ij.2 - ij.1).toNat) S else .stuck
def mRgT (m : M (Int × Int)) : M Vx := bnd m fun ij S => if RgOk ij.1 ij.2 then .ok (.val (.tup (rngD ij.1 1 (ij.2 - ij.1).toNat))) S else .stuck
theorem rg_rep {K : PySem.W.Frag} {Sh : Addr → Prop} {H : Hp} (a b : Int) : RepA K Sh H (rgV a b) (rngD a 1 (b - a).toNat) := by
  unfold rgV rngD
  generalize List.range (b - a).toNat = l
  induction l with
  | nil => exact .nil
  | cons i l ih =>
    rw [List.map_cons, List.map_cons, Int.mul_one]
    exact .cons .int (by simpa using ih)
theorem n_rgL {mr : M (Int × Int)} (hc : X.calm = true) (hg : Gl X "list") (hm : X.mg "list" = none) (h : MR X W e mr) (na : starEach [e] X.env = (false, eval e X.env) :: starEach [] X.env := by rfl) : MN X W (.Call (.Name "list" p) [e] [] pos) (nRgL mr) := by
  refine PE.imp (pe_listRg hc hg hm h na) fun σ H Q ⟨S, Sh, A, g⟩ => ?_
  refine ⟨S, Sh, A, g.bind.mono fun ij S1 Sh1 H1 A1 E1 g1 => ?_⟩
  try simp only at g1
  split at g1
  · rename_i hr
    exact ⟨hr, fun p hp => g1 Sh1 _ (A1.newObj hp) (Ext.newObj A1 hp) p _ upd_same (rg_rep _ _) (fun z => A1.fresh p z (.of hp)) (not_ow_new A1 hp) (live_none E1 hp)⟩
  · exact g1.elim
theorem e_rgT {mr : M (Int × Int)} (hc : X.calm = true) (hg : Gl X "tuple") (hm : X.mg "tuple" = none) (h : MR X W e mr) (na : starEach [e] X.env = (false, eval e X.env) :: starEach [] X.env := by rfl) : ME X W (.Call (.Name "tuple" p) [e] [] pos) (mRgT mr) := by
  refine PE.imp (pe_tupRg hc hg hm h na) fun σ H Q ⟨S, Sh, A, g⟩ => ?_
  refine ⟨S, Sh, A, g.bind.mono fun ij S1 Sh1 H1 A1 E1 g1 => ?_⟩
  try simp only at g1
  split at g1
  · rename_i hr
    exact ⟨hr, fun p hp => (g1.fin A1).new p _ _ hp (fun _ z => by cases z) (.tup (.inl (.inl upd_same)) (rg_rep _ _))⟩
  · exact g1.elim
/-- list(x) as a new list -/
def nB (f : List D → Option (List D)) (ms : M (List Vx)) : M (List D) := bnd ms fun xs S => match derefs S xs with
  | some ds => (match f ds with
    | some z => .ok z S
    | none => .stuck)
  | none => .stuck
def nList : List D → Option (List D)
  | [.frz xs] => some xs
  | [.lst xs] => some xs
  | [.tup xs] => some xs
  | _ => none
theorem n_list (hg : Gl X "list") (hm : X.mg "list" = none) (ha : MA X W (e :: es) ms)
    (he : starEach (e :: es) X.env = (false, eval e X.env) :: starEach es X.env := by rfl) (hpl : (backTo pos (starEach es X.env)).any (·.1) = false := by rfl) :
    MN X W (.Call (.Name "list" p) (e :: es) [] pos) (nB nList ms) := by
  refine PE.imp (pe_callTy call_list_of hg hm boot_list ha (by decide) (by decide) he hpl) fun σ H Q ⟨S, Sh, A, g⟩ => ?_
  refine ⟨S, Sh, A, g.bind.mono fun xs S1 Sh1 H1 A1 E1 g1 vs rs => ?_⟩
  try simp only at g1
  cases q : derefs S1 xs with
  | none => rw [q] at g1; exact g1.elim
  | some ds =>
    rw [q] at g1
    cases q2 : nList ds with
    | none => simp only [q2] at g1; exact g1.elim
    | some z =>
      simp only [q2] at g1
      have r := rs.derefs A1 q
      have fin : ∀ (us : List V), RepA X.K Sh1 H1 us z → ∀ l, H1 l = none → Q (.ref l) (upd H1 l (.lst us)) := fun us ru p hp =>
        g1 Sh1 _ (A1.newObj hp) (Ext.newObj A1 hp) p us upd_same (RepA.mono (kp_new hp) (fun _ h => h) _ _ ru) (fun z => A1.fresh p z (.of hp)) (not_ow_new A1 hp) (live_none E1 hp)
      match ds, q2 with
      | [.frz xs], q2 =>
        cases q2
        obtain ⟨v, rfl, r1⟩ := r.one
        cases r1 with
        | frz h1 h2 => exact ⟨_, _, rfl, .inl h1.l, fin _ h2⟩
      | [.lst xs], q2 =>
        cases q2
        obtain ⟨v, rfl, r1⟩ := r.one
        obtain ⟨a, us, rfl, h1, h2⟩ := r1.lst
        exact ⟨a, us, rfl, .inl (.inl (.inl h1)), fin us h2⟩
      | [.tup xs], q2 =>
        cases q2
        obtain ⟨v, rfl, r1⟩ := r.one
        obtain ⟨a, us, rfl, h1, h2⟩ := r1.tup
        exact ⟨a, us, rfl, .inr h1, fin us h2⟩
/-- [x] * n as a new list -/
def nRep (ma mb : M Vx) : M (List D) := bnd ma fun x => bnd mb fun y S => match deref S x, deref S y with
  | some (.lst xs), some (.int k) => if 0 ≤ k ∧ k ≤ 100000 ∧ xs.length ≤ 100 then .ok (List.replicate k.toNat xs).flatten S else .stuck
  | _, _ => .stuck
theorem n_rep (ha : ME X W a ma) (hb : ME X W b mb) : MN X W (.BinOp a .Mult b pos) (nRep ma mb) := by
  refine PE.imp (pe_op op_rep ha hb) fun σ H Q ⟨S, Sh, A, g⟩ => ?_
  refine ⟨S, Sh, A, (Go.bind g).mono fun x S1 Sh1 H1 A1 E1 g1 v rv => ⟨S1, Sh1, A1, (Go.bind g1).mono fun y S2 Sh2 H2 A2 E2 g2 u ru => ?_⟩⟩
  try simp only at g2
  cases q : deref S2 x with
  | none => simp only [q] at g2; exact g2.elim
  | some d =>
    have rl := (rv.ext A1 E2).deref A2 q
    cases q2 : deref S2 y with
    | none => simp only [q, q2] at g2; cases d <;> exact g2.elim
    | some d2 =>
      have rl2 := ru.deref A2 q2
      simp only [q, q2] at g2
      cases d with
      | lst xs =>
        cases d2 with
        | int k =>
          simp only at g2
          split at g2
          · rename_i hl
            obtain ⟨p1, vs, rfl, s1, r1⟩ := rl.lst
            cases rl2
            refine ⟨p1, k, vs, rfl, rfl, s1, by omega, by omega, ?_, fun p hp => ?_⟩
            · rw [r1.length]
              have h1 : xs.length * k.toNat ≤ 100 * 100000 := Nat.mul_le_mul hl.2.2 (by omega)
              exact Nat.le_trans h1 (by decide)
            · exact g2 Sh2 _ (A2.newObj hp) (Ext.newObj A2 hp) p _ upd_same (RepA.mono (kp_new hp) (fun _ h => h) _ _ (r1.rep k.toNat)) (fun z => A2.fresh p z (.of hp)) (not_ow_new A2 hp) (live_none (E1.trans E2) hp)
          · exact g2.elim
        | _ => exact g2.elim
      | _ => cases d2 <;> exact g2.elim
end
end Z
set_option maxHeartbeats 4000000
/-! Z11: a lambda handed to a def that tells what it raises; defs by the head's facts. -/
namespace Z
open PySem PySem.Spec PyProof.Rows L2
variable [LT]

/-! ### the suite of an except: what it makes of the exception, by its class -/
def SE (X : Cx) (i : Nat) (a : Addr) (e : Expr) (v : V) : Prop := PE X e (fun σ H Q => σ[i]? = some (some (.ref a)) ∧ Q v H)
def ST (X : Cx) (i : Nat) (a : Addr) (e : Expr) (b : Bool) : Prop := PT X e (fun σ H Q => σ[i]? = some (some (.ref a)) ∧ Q b H)
def SS (X : Cx) (i : Nat) (a : Addr) (sts : List Stmt) (v : V) : Prop := PSs X sts (fun D σ H => σ[i]? = some (some (.ref a)) ∧ D.rt v H)
section
variable {X : Cx} {i : Nat} {a : Addr} {pos : Pos} {c e e1 e2 : Expr} {v v1 v2 : V} {k : Bool}
theorem se_str {x : Str} {j} : SE X i a (.Constant (.str x) j pos) (.str x) := PE.imp pe_str fun σ H Q ⟨_, q⟩ => q
theorem se_if (hc : ST X i a c k) (h1 : SE X i a e1 v1) (h2 : SE X i a e2 v2) : SE X i a (.IfExp c e1 e2 pos) (if k = true then v1 else v2) :=
  PE.imp (pe_ifExp hc h1 h2) fun σ H Q ⟨h, q⟩ => ⟨h, by cases k <;> exact ⟨h, q⟩⟩
theorem ss_ret (h : SE X i a e v) : SS X i a [.Return (some e) pos] v := PSs.imp (pss_one (ps_ret h)) fun σ H Q ⟨h, q⟩ => ⟨h, q⟩
theorem ss_if {e1 : Expr} {p2 : Pos} {rest : List Stmt} (hc : ST X i a c k) (h1 : SE X i a e1 v1) (h2 : SS X i a rest v2) : SS X i a (.If c [.Return (some e1) p2] [] pos :: rest) (if k = true then v1 else v2) :=
  PSs.imp (pss_cons (ps_if hc (ss_ret h1) pss_nil) h2) fun σ H Q ⟨h, q⟩ => ⟨h, by
    cases k
    · exact ⟨h, q⟩
    · exact ⟨h, q⟩⟩
end
section
variable {X : Cx} {i : Nat} {a D C : Addr} {oe : Obj} {pn : List (Addr × Obj)} {p p2 p3 pos : Pos} {n x : Str} {b : Bool}
theorem st_isE (E : ExcC X.K D) (hz : Zc (.ref D) none oe) (hf : ∃ vs, oe.data = .fields vs) (hN : X.N[i]? = some n) (hv : Vis X.env.scope n) (hg : Gl X "isinstance") (hm : X.mg "isinstance" = none)
    (hg2 : Gl X x) (hm2 : X.mg x = some (.ref C)) (hk : PySem.W.kitOne X.K (.ref D) (.ref C) = some b)
    (hd : (n == ("__debug__" : Str)) = false := by decide) (hcd : (n == ("__classdict__" : Str)) = false := by decide) (hd2 : (x == ("__debug__" : Str)) = false := by decide)
    (he : starEach [.Name n p2, .Name x p3] X.env = (false, eval (.Name n p2) X.env) :: starEach [.Name x p3] X.env := by rfl)
    (he2 : starEach [.Name x p3] X.env = (false, eval (.Name x p3) X.env) :: starEach [] X.env := by rfl)
    (hpl : (backTo pos (starEach [.Name x p3] X.env)).any (·.1) = false := by rfl)
    (ht : ∀ whole, isTrue (.Call (.Name "isinstance" p) [.Name n p2, .Name x p3] [] pos) X.env whole = (do let v ← whole; standAt (Expr.Call (.Name "isinstance" p) [.Name n p2, .Name x p3] [] pos).pos; holding [v] (truthy v)) := by intro _; rfl) :
    ST (X.suite a ((a, oe) :: pn)) i a (.Call (.Name "isinstance" p) [.Name n p2, .Name x p3] [] pos) b :=
  PT.imp (pt_val (pe_callB (X := X.suite a ((a, oe) :: pn)) (call_isE E hz hf) hg hm boot_isinstance (pa_cons (pe_var hN hv hd hcd) (pa_cons (pe_glob (v := .ref C) hg2 hm2 rfl hd2) pa_nil he2) he) (by decide) (by decide) he hpl) ht) fun σ H Q ⟨h, q⟩ => by
    exact ⟨_, h, .ref C, .ref C, b, rfl, fun u r => r, hk, b, rfl, q⟩
end

/-! ### a wish of the frame's own length -/
theorem takes_len {X : Cx} {W : WX} (t : Takes X W) : Takes X (fun cls d σ H => σ.length = X.N.length → W cls d σ H) := fun u s' ⟨a, B, sI, pins, σ, H, cls, d, e, I, nb, up, sky, na, os, ag, w⟩ =>
  t u s' ⟨a, B, sI, pins, σ, H, cls, d, e, I, nb, up, sky, na, os, ag, w I.len⟩

/-! ### the def that tells what its argument raises -/
/-- what it makes of it: f of the exception, lq of the end -/
def TTz (mg : Str → Option Value) (f : Xc → Option Str) (lq : VK → VK) : (XK → Hp → VK → Prop) → Hp → VK → Prop := fun tl H Q =>
  tl (fun cls d H' => ∃ x s, XRep mg H' cls d x ∧ f x = some s ∧ Q (.str s) H') H (lq Q)
/-- such a def, as the walk needs it -/
structure Told (P : Program) (w : World) (K : PySem.W.Frag) (mg : Str → Option Value) (base : Heap) (x : Str) (f : Xc → Option Str) (lq : VK → VK) : Prop where
  ex : ∃ (g : Addr) (a : Str) (Ng : List Str) (pg : Arguments) (bg : List Stmt) (sg : Scope) (dV kV doc pm cdv ct oc : Value) (an od : Option Addr) (osl : Array (Option Value)),
    mg x = some (.ref g) ∧ PySem.W.keepIn K (.ref g) = true ∧ K.lookup g = some ⟨oc, od, .func (PySem.W.fnOf x x pg bg sg dV kV doc pm an cdv ct), osl⟩ ∧ PySem.W.codeIn K cdv x = true ∧
    L2.Binds K (PySem.W.fnOf x x pg bg sg dV kV doc pm an cdv ct) [a] [] ∧ FnScope Ng [a] sg ∧ Ng[0]? = some a ∧ Vis sg a ∧ (a == ("__debug__" : Str)) = false ∧ (a == ("__classdict__" : Str)) = false ∧
    ∀ (X : Cx) (q : Str), X.prog = P → X.w = w → X.K = K → X.mg = mg → X.base = base → LamX.GivesTo X Ng x sg g cdv bg a q (TTz mg f lq)
/-- try: a() except C as n: .., then a text -/
theorem gives_try {X : Cx} {Ng : List Str} {x a n e q last : Str} {sg : Scope} {g CS : Addr} {cdg : Value} {f : Xc → Option Str} {i j : Nat} {b₀ : Stmt} {suite : List Stmt} {p1 p2 p3 p4 p7 p8 p9 p10 : Pos}
    (hN : Ng.Nodup) (h0 : 0 < Ng.length) (hi : Ng[i]? = some n) (i0 : i ≠ 0) (hln : sg.names.lookup n = some .local) (hge : sg.names.lookup e = some .globalImplicit) (hme : X.mg e = some (.ref CS)) (hde : (e == ("__debug__" : Str)) = false)
    (hex : ∀ z s, f z = some s → ∀ C, X.mg z.cls = some (.ref C) → PySem.W.exmOne X.K (.ref C) (.ref CS) = some true)
    (hsu : ∀ (s0 : Shared) (H0 : Hp) (z : Xc) (s : Str), f z = some s → ∀ (b : Addr) (oe : Obj) (C : Addr) (pn : List (Addr × Obj)), X.mg z.cls = some (.ref C) → Zc (.ref C) none oe → (∃ vs, oe.data = .fields vs) →
      SS (((cxOf C8.CX0 X.prog X.w X.K X.mg X.base Ng x sg g cdg X.A X.stack s0 H0 C8.E0).nox).suite b ((b, oe) :: pn)) i b (b₀ :: suite) (.str s))
    (hfl : ∀ z s, f z = some s → z.fld = none) :
    LamX.GivesTo X Ng x sg g cdg [.Try [.Expr (.Call (.Name a p1) [] [] p2) p3] [.ExceptHandler (some (.Name e p4)) (some n) (b₀ :: suite) p7] [] [] p8, .Return (some (.Constant (.str last) j p9)) p10] a q (TTz X.mg f fun Q _ H => Q (.str last) H) := by
  intro fa c' s H Q tl act hc h
  generalize hZ : (cxOf C8.CX0 X.prog X.w X.K X.mg X.base Ng x sg g cdg X.A X.stack s H C8.E0).nox = Z
  have hgl : Gl Z e := by subst hZ; exact hge
  have hK : Z.K = X.K := by subst hZ; rfl
  have tr : PS Z (.Try [.Expr (.Call (.Name a p1) [] [] p2) p3] [.ExceptHandler (some (.Name e p4)) (some n) (b₀ :: suite) p7] [] [] p8) (fun D σ H => (fun (W : WX) (D : Ends) (σ : St) (H : Hp) => ∃ Ech : XK, (∀ cls d (σ' : St) H', Ech cls d H' → σ'.length = Ng.length → W cls d σ' H') ∧ σ[0]? = some (some (.ref fa)) ∧ H c' = some (LamX.CodeO c' q) ∧ tl Ech H (fun _ H' => D.nx σ H'))
      (wAs Z.K (.ref CS) i (fun b cls d D σ H => ∃ z t, XRep X.mg H cls d z ∧ f z = some t ∧ σ[i]? = some (some (.ref b)) ∧ D.rt (.str t) H) (fun _ _ _ _ => False) D) D σ H) := by
    refine ps_try_as (X := Z) (c := .ref CS) (Wout := fun _ _ _ _ => False) (ts := fun b cls d D σ H => ∃ z t, XRep X.mg H cls d z ∧ f z = some t ∧ σ[i]? = some (some (.ref b)) ∧ D.rt (.str t) H)
      (tb := fun W D σ H => ∃ Ech : XK, (∀ cls d (σ' : St) H', Ech cls d H' → σ'.length = Ng.length → W cls d σ' H') ∧ σ[0]? = some (some (.ref fa)) ∧ H c' = some (LamX.CodeO c' q) ∧ tl Ech H (fun _ H' => D.nx σ H'))
      (by subst hZ; rfl) (by subst hZ; rfl) (by subst hZ; exact hN) (by subst hZ; exact hi) (by subst hZ; exact hln) ⟨hgl, hde, .inl (by subst hZ; exact hme)⟩ LamX.takes0 (fun W pn xe tk _ => ?_) (fun b oe cls d pn hz hf => ?_)
    · refine ⟨fun pinsZ sZ σZ HZ D I h' => ?_⟩
      obtain ⟨Ech, hW, h1, h2, h3⟩ := h'
      subst hZ
      have hp := act (fun cls d σ H => σ.length = Ng.length → W cls d σ H) pn xe Ech p1 p2 (takes_len tk) (fun cls d σ' H' he hl => hW cls d σ' H' he hl)
      exact (pss_one (ps_expr (pos := p3) hp)).run pinsZ sZ σZ HZ D I ⟨h1, h2, h3⟩
    · refine ⟨fun pinsZ sZ σZ HZ D I h' => ?_⟩
      obtain ⟨z, t, ⟨C, m1, rfl, m3⟩, m4, m5, m6⟩ := h'
      rw [hfl z t m4] at m3
      try simp only at m3
      subst m3
      subst hZ
      exact (hsu s H z t m4 b oe C pn m1 hz hf).run pinsZ sZ σZ HZ D I ⟨m5, m6⟩
  refine ⟨_, pss_cons tr (pss_one (ps_ret pe_str)), ?_⟩
  have hst : (L2.start Ng [V.ref fa])[0]? = some (some (.ref fa)) := by unfold L2.start; rfl
  have hil : i < Ng.length := (List.getElem?_eq_some_iff.mp hi).1
  refine ⟨fun cls d H' => ∃ z s, XRep X.mg H' cls d z ∧ f z = some s ∧ Q (.str s) H', fun cls d σ' H' ⟨z, t, xr, m4, hq⟩ hl => ?_, hst, hc, h⟩
  refine ⟨true, ?_, fun _ b _ => ⟨z, t, xr, m4, ?_, hq⟩, fun z => by cases z⟩
  · obtain ⟨C, m1, rfl, m3⟩ := xr
    rw [hK]
    exact hex z t m4 C m1
  · rw [List.getElem?_set_self (by rw [hl]; exact hil)]

/-! ### x(lambda: body) -/
theorem Abs.extN {K : PySem.W.Frag} {S : Fr} {σ : St} {H H' : Hp} {Sh : Addr → Prop} (A : Abs K S σ H Sh) (k : LamX.ExtN H H') (T : LamX.Tabs LT.T H') : Abs K S σ H' Sh ∧ Ext S σ Sh H S σ Sh H' := by
  have kp : Kp Sh H H' := fun b o e _ nt => k b o e nt
  have lv : ∀ b, Nn H' b → Nn H b := fun b h o e => by
    refine Classical.byContradiction fun n => ?_
    exact n (h o (k b o e fun ps z => n ⟨ps, z⟩))
  refine ⟨⟨A.len, fun i d e => ?_, fun i sl ds e1 e2 => ?_, A.inj, fun b h z => A.fresh b h (lv b z), T⟩, ⟨fun b o e _ nt => k b o e nt, fun _ h => h, fun _ h => .inl h, fun _ h => .inl h, fun _ xs h => ⟨rfl, xs, h⟩, lv⟩⟩
  · obtain ⟨v, e1, r⟩ := A.sh i d e
    exact ⟨v, e1, Rep.mono kp (fun _ h => h) _ _ r⟩
  · obtain ⟨a, vs, e3, e4, r, n⟩ := A.ow i sl ds e1 e2
    exact ⟨a, vs, e3, k _ _ e4 (fun _ z => by cases z), RepA.mono kp (fun _ h => h) _ _ r, n⟩
def mTold (f : Xc → Option Str) (last : Option Str) (m : M Vx) : M Vx := fun S => match m S with
  | .ok v S' => (match last with
    | some t => .ok (.val (.str t)) S'
    | none => .ok v S')
  | .exc x S' => (match f x with
    | some s => .ok (.val (.str s)) S'
    | none => .stuck)
  | .stuck => .stuck
def lqOf : Option Str → VK → VK
  | some t, Q => fun _ H => Q (.str t) H
  | none, Q => Q
section
variable {X : Cx} {W : WX} {x : Str} {f : Xc → Option Str} {last : Option Str} {m : M Vx} {params : Arguments} {body : Expr} {scope : Scope} {p lpos pos : Pos} {k : Nat} {c P : Addr}
theorem e_lam (T : Told X.prog X.w X.K X.mg X.base x f (lqOf last)) (hg : Gl X x) (TB : LamX.TabB X.base X.mg c P) (hcode : X.env.code = .ref c) (hmT : (P, X.env.qual ++ "<lambda>") ∈ LT.T) (hu : ∀ p ∈ LT.T, p.1 = P → p.2 = X.env.qual ++ "<lambda>")
    (hr : Room (k + 2) X.A) (L : LamX.LamS X.env.scope scope)
    (hbody : ∀ (A : Around) (outer : List Env) (s : Shared) (H : Hp) (E : XK) (fa c' : Addr), Room k (A.deeper (LamX.lamEnv X scope s.heap.objs.size fa c')) → ME (LamX.lamCx X A outer s H E scope fa c') (fun cls d _ H => E cls d H) body m)
    (hdef : defaultsOf params X.env = ([], []) := by rfl) (hbind : ∀ (q : Str) (cl : List (Str × Addr)) (pm cv ctv : Value), bindArgs (PySem.W.kla_fn "<lambda>" q params body scope cl pm cv ctv) ⟨[], []⟩ = pure [] := by intros; rfl)
    (hdb : (x == ("__debug__" : Str)) = false := by decide) : ME X W (.Call (.Name x p) [.Lambda params body scope lpos] [] pos) (mTold f last m) := by
  obtain ⟨g, a, Ng, pg, bg, sg, dV, kV, doc, pm, cdv, ct, oc, an, od, osl, hm, hk, lk, hcg, hb, Sg, hNg, hva, hd, hcd, hG⟩ := T.ex
  refine PE.imp (LamX.pe_lamcall (T := LT.T) (t := fun E => tE X.K X.mg (fun cls d _ H => E cls d H) m) hg hm hk lk hcg hb Sg hNg hva (hG X _ rfl rfl rfl rfl rfl) TB hcode hmT hu hr L hdef hbind hbody hdb hd hcd) fun σ H Q ⟨S, Sh, A, g⟩ => ?_
  refine ⟨A.tab, fun H1 eN T1 => ?_⟩
  obtain ⟨A1, E1⟩ := A.extN eN T1
  show tE X.K X.mg (fun cls d _ H' => ∃ z s, XRep X.mg H' cls d z ∧ f z = some s ∧ Q (.str s) H') m σ H1 (lqOf last Q)
  refine ⟨S, Sh, A1, ?_⟩
  unfold mTold at g
  cases q : m S with
  | ok v S' =>
    simp only [q] at g
    intro Sh' H' A' E' u ru
    cases last with
    | some t => exact g Sh' H' A' (E1.trans E') (.str t) .str
    | none => exact g Sh' H' A' (E1.trans E') u ru
  | exc z S' =>
    simp only [q] at g
    intro cls d Sh' H' A' E' xr
    cases q2 : f z with
    | some s =>
      simp only [q2] at g
      exact ⟨z, s, xr, q2, g Sh' H' A' (E1.trans E') (.str s) .str⟩
    | none => simp only [q2] at g; exact g.elim
  | stuck => simp only [q] at g; exact g.elim
end
end Z
set_option maxHeartbeats 4000000
/-! Z12: three stores at once, further methods and operators, defs by the head's facts. -/
namespace Z
open PySem PySem.Spec PyProof.Rows L2
variable [LT]

/-! ### a, b, c = x, y, z -/
theorem new_apart {K : PySem.W.Frag} {S1 S2 : Fr} {σ σ' : St} {H0 H1 H2 : Hp} {Sh1 Sh2 : Addr → Prop} {v u : V} {x y : Ax} (rv : RepAx K H0 Sh1 S1 σ H1 v x) (ru : RepAx K H1 Sh2 S2 σ' H2 u y) : ∀ ds ds' a, x = .f ds → y = .f ds' → v = .ref a → u ≠ .ref a := fun ds ds' a ex ey ev eu => by
  subst ex; subst ey
  obtain ⟨a1, vs1, p1, p2, _⟩ := rv
  obtain ⟨a2, vs2, q1, q2, _, _, _, q3⟩ := ru
  rw [ev] at p1; rw [eu] at q1
  cases p1; cases q1
  exact q3.lst p2
section
variable {X : Cx} {W : WX} {i j l : Nat} {x y z : Str} {a b c : Expr} {m1 m2 m3 : M Ax} {pos : Pos}
theorem s_par3 {px py pz pt : Pos} {kt k2 pt2} (hc : X.calm = true) (hN : X.N.Nodup) (hi : X.N[i]? = some x) (hj : X.N[j]? = some y) (hl : X.N[l]? = some z) (hij : i ≠ j) (hil : i ≠ l) (hjl : j ≠ l)
    (hx : X.env.scope.names.lookup x = some .local) (hy : X.env.scope.names.lookup y = some .local) (hz : X.env.scope.names.lookup z = some .local) (h1 : MX X W a m1) (h2 : MX X W b m2) (h3 : MX X W c m3)
    (hw : swappedStores [.Tuple [.Name x px, .Name y py, .Name z pz] kt pt] (.Tuple [a, b, c] k2 pt2) X.env = pure (some [x, y, z]))
    (hs : swapsWithSole [.Tuple [.Name x px, .Name y py, .Name z pz] kt pt] (.Tuple [a, b, c] k2 pt2) pos.line X.env = pure false := by rfl)
    (e1 : starEach [a, b, c] X.env = (false, eval a X.env) :: starEach [b, c] X.env := by rfl) (e2 : starEach [b, c] X.env = (false, eval b X.env) :: starEach [c] X.env := by rfl) (e3 : starEach [c] X.env = (false, eval c X.env) :: starEach [] X.env := by rfl) :
    MS X W (.Assign [.Tuple [.Name x px, .Name y py, .Name z pz] kt pt] (.Tuple [a, b, c] k2 pt2) pos) (mPar3 i j l m1 m2 m3) := by
  refine PS.imp (ps_par3 hc hN hi hj hl hij hil hjl hx hy hz (pa_cons h1 (pa_cons h2 (pa_cons h3 pa_nil e3) e2) e1) hw hs) fun σ H Q ⟨S, Sh, A, g⟩ => ?_
  refine ⟨S, Sh, A, g.bind0.mono fun x S1 Sh1 H1 A1 E1 g1 v rv => ⟨S1, Sh1, A1, ?_⟩⟩
  have g1' : GoS X.K X.mg W S σ Sh H ((m2 S1).bind fun y => bnd m3 fun z => bnd (settle x) fun s => bnd (settle y) fun t => bnd (settle z) fun u => mSeq (setSl i s) (mSeq (setSl j t) (setSl l u))) Q := g1
  have go2 : Go X.K X.mg W σ S1 Sh1 H1 (m2 S1) fun y S2 _ _ => GoS X.K X.mg W S σ Sh H ((m3 S2).bind fun z => bnd (settle x) fun s => bnd (settle y) fun t => bnd (settle z) fun u => mSeq (setSl i s) (mSeq (setSl j t) (setSl l u))) Q := by
    cases q : m2 S1 with
    | ok y S2 => rw [q] at g1'; exact fun _ _ _ _ => g1'
    | exc z S2 => rw [q] at g1'; exact fun cls d Sh' H' A' E' => g1' cls d σ Sh' H' A' (E1.trans E')
    | stuck => rw [q] at g1'; exact g1'
  refine go2.mono fun y S2 Sh2 H2 A2 E2 g2 u ru => ⟨S2, Sh2, A2, ?_⟩
  have go3 : Go X.K X.mg W σ S2 Sh2 H2 (m3 S2) fun z S3 _ _ => GoS X.K X.mg W S σ Sh H ((bnd (settle x) fun s => bnd (settle y) fun t => bnd (settle z) fun u => mSeq (setSl i s) (mSeq (setSl j t) (setSl l u))) S3) Q := by
    cases q : m3 S2 with
    | ok y S2 => rw [q] at g2; exact fun _ _ _ _ => g2
    | exc z S2 => rw [q] at g2; exact fun cls d Sh' H' A' E' => g2 cls d σ Sh' H' A' ((E1.trans E2).trans E')
    | stuck => rw [q] at g2; exact g2
  refine go3.mono fun z S3 Sh3 H3 A3 E3 g3 w rw_ => ⟨v, u, w, rfl, ?_⟩
  have rv2 := rv.ext A1 E2
  have rv3 := rv2.ext A2 E3
  have ru3 := (ru.older E1).ext A2 E3
  have rw3 := rw_.older (E1.trans E2)
  have d12 := new_apart rv ru
  have d23 := new_apart ru rw_
  have d13 := new_apart rv2 rw_
  obtain ⟨s, S4, Sh4, A4, E4, r4, f4, g4⟩ := goS_settle A3 rv3 g3
  obtain ⟨t, S5, Sh5, A5, E5, r5, f5, g5⟩ := goS_settle A4 (ru3.ext A3 E4) g4
  obtain ⟨q, S6, Sh6, A6, E6, r6, f6, g6⟩ := goS_settle A5 ((rw3.ext A3 E4).ext A4 E5) g5
  have ET := ((((E1.trans E2).trans E3).trans E4).trans E5).trans E6
  have r4' := (r4.ext A4 E5).ext A5 E6
  have r5' := r5.ext A5 E6
  obtain ⟨A7, E7, g7⟩ := goS_set_seq A6 ET r4' g6
  have r5b := (SlRep.behind (i := i) r5' fun ds ds' a es et ev => d12 ds ds' a (f4 ds es) (f5 ds' et) ev).resolve_right (r4.notIo)
  have r6b := (SlRep.behind (i := i) r6 fun ds ds' a es et ev => d13 ds ds' a (f4 ds es) (f6 ds' et) ev).resolve_right (r4.notIo)
  obtain ⟨A8, E8, g8⟩ := goS_set_seq A7 E7 r5b g7
  have r6c := (SlRep.behind (i := j) r6b fun ds ds' a es et ev => d23 ds ds' a (f5 ds es) (f6 ds' et) ev).resolve_right (r5.notIo)
  exact goS_set A8 E8 r6c g8
end

/-! ### methods that change nothing -/
/-- a method's rule serves a function on data -/
def OpQ (X : Cx) (T : String) (r : V → List V → Hp → VK → Prop) (f : D → List D → Option D) : Prop := ∀ (Sh : Addr → Prop) (H : Hp) (v : V) (vs : List V) (a : D) (ds : List D) (z : D) (Q : VK), RepL X.K Sh H v a → RepLs X.K Sh H vs ds → a.ty = T → f a ds = some z → Fin X.K Sh H z Q → r v vs H Q
def chkT (T : String) (x : Vx) : M Unit := fun S => match deref S x with
  | some d => if d.ty = T then .ok () S else .stuck
  | none => .stuck
def mQ (T : String) (f : D → List D → Option D) (mo : M Vx) (ms : M (List Vx)) : M Vx := bnd mo fun x => bnd (chkT T x) fun _ => bnd ms fun xs S => match deref S x, derefs S xs with
  | some a, some ds => (if a.ty = T then (match f a ds with
    | some z => .ok (.val z) S
    | none => .stuck) else .stuck)
  | _, _ => .stuck
section
variable {X : Cx} {W : WX} {o e : Expr} {es : List Expr} {mo : M Vx} {ms : M (List Vx)} {name : Str} {apos cpos : Pos} {id : String} {T : String} {r : V → List V → Hp → VK → Prop} {f : D → List D → Option D}
theorem chk_ty {K : PySem.W.Frag} {Sh : Addr → Prop} {H : Hp} {v : V} {d : D} (h : RepL K Sh H v d) (hT : T = "list" ∨ T = "str") (e : d.ty = T) : tyV K T v H := by
  cases d with
  | lst ds =>
    obtain ⟨a, vs, rfl, e4, _⟩ := h.lst
    exact .inl ⟨e.symm, vs, .inl (.inl e4)⟩
  | str x =>
    cases h
    exact e.symm
  | _ => rcases hT with rfl | rfl <;> simp [D.ty] at e
theorem e_Q (pl : PlainAttrs T) (hT : T = "list" ∨ T = "str") (slot : Slot T name id) (hty : typeOf (.builtin id) = pure (.type "method_descriptor")) (hm : MtR X id r) (h : OpQ X T r f) (ho : ME X W o mo) (ha : MA X W (e :: es) ms)
    (hbase : attributeBase o name X.env (eval o X.env) = eval o X.env := by rfl)
    (hfew : ((backTo cpos (starEach (e :: es) X.env)).all (fun x => !x.1) && (backToKw cpos (keywordEach [] X.env)).all (fun x => x.1.isSome)
      && decide ((e :: es).length + ([] : List Keyword).length + (if ([] : List Keyword).isEmpty then 0 else 1) < 30)) = true := by rfl)
    (hline : (apos.endLine == cpos.line) = true := by rfl) (hs : starEach (e :: es) X.env = (false, eval e X.env) :: starEach es X.env := by rfl) (hplain : (backTo cpos (starEach es X.env)).any (·.1) = false := by rfl) :
    ME X W (.Call (.Attribute o name apos) (e :: es) [] cpos) (mQ T f mo ms) := by
  refine PE.imp (pe_bm pl slot hty hm ho ha hbase hfew hline hs hplain) fun σ H Q ⟨S, Sh, A, g⟩ => ?_
  refine ⟨S, Sh, A, g.bind.mono fun x S1 Sh1 H1 A1 E1 g1 v rv => ?_⟩
  have g1 := Go.bind g1
  unfold chkT at g1
  cases q : deref S1 x with
  | none => simp only [q] at g1; exact g1.elim
  | some d =>
    simp only [q] at g1
    split at g1
    · rename_i hd
      refine ⟨chk_ty (rv.deref A1 q) hT hd, S1, Sh1, A1, (Go.bind (Go.here A1 g1)).mono fun xs S2 Sh2 H2 A2 E2 g2 vs rs => ?_⟩
      have rv2 := rv.ext A1 E2
      try simp only at g2
      cases q1 : deref S2 x with
      | none => simp only [q1] at g2; exact g2.elim
      | some a =>
        cases q2 : derefs S2 xs with
        | none => simp only [q1, q2] at g2; exact g2.elim
        | some ds =>
          simp only [q1, q2] at g2
          split at g2
          · rename_i ha
            cases q3 : f a ds with
            | none => simp only [q3] at g2; exact g2.elim
            | some z =>
              simp only [q3] at g2
              exact h Sh2 H2 v vs a ds z Q (rv2.deref A2 q1) (rs.derefs A2 q2) ha q3 (g2.fin A2)
          · exact g2.elim
    · exact g1.elim
end
/-- l.index(x) -/
def findD (d : D) : List D → Nat → Option Nat
  | [], _ => none
  | y :: ys, n => if deq y d = true then some n else findD d ys (n + 1)
theorem findD_spec {d : D} : ∀ {ys : List D} {n j : Nat}, findD d ys n = some j → ∃ i z, j = n + i ∧ ys[i]? = some z ∧ deq z d = true ∧ ∀ m z', m < i → ys[m]? = some z' → deq z' d = false
  | [], n, j, h => by cases h
  | y :: ys, n, j, h => by
    unfold findD at h
    split at h
    · rename_i hy
      cases h
      exact ⟨0, y, rfl, rfl, hy, fun m z' hm => by omega⟩
    · rename_i hy
      obtain ⟨i, z, e1, e2, e3, e4⟩ := findD_spec h
      refine ⟨i + 1, z, by omega, by simpa using e2, e3, fun m z' hm hz => ?_⟩
      cases m with
      | zero =>
        have e : y = z' := by simpa using hz
        subst e
        simpa using hy
      | succ m => exact e4 m z' (by omega) (by simpa using hz)
def fIndex (a : D) : List D → Option D
  | [d] => match a with
    | .lst xs => if shp (.lst xs) = true ∧ shp d = true then (findD d xs 0).map fun j => .int (j : Nat) else none
    | _ => none
  | _ => none
theorem toPyA_get : ∀ {ds : List D} {i : Nat}, (D.toPyA ds)[i]? = (ds[i]?).map D.toPy
  | [], i => by unfold D.toPyA; simp
  | d :: ds, 0 => by unfold D.toPyA; simp
  | d :: ds, i + 1 => by
    unfold D.toPyA
    simpa using toPyA_get (ds := ds) (i := i)
theorem q_index {X : Cx} : OpQ X "list" (rIndexD X.K) fIndex := fun Sh H v vs a ds z Q ra rs ty e q => by
  match ds, e with
  | [d], e =>
    cases a with
    | lst xs =>
     unfold fIndex at e
     simp only at e
     split at e
     · rename_i hs
       cases q1 : findD d xs 0 with
       | none => simp only [q1] at e; cases e
       | some j =>
        simp only [q1] at e
        cases e
        obtain ⟨w, rfl, rw_⟩ := rs.one
        obtain ⟨i, y, e1, e2, e3, e4⟩ := findD_spec q1
        obtain ⟨p, us, rfl, h1, h2⟩ := ra.lst
        refine ⟨p, w, d.toPy, D.toPyA xs, j, y.toPy, rfl, rfl, ra.dp, rw_.dp, hs.1, hs.2, ?_, e3, fun m z' hm hz => ?_, q.old _ .int⟩
        · rw [toPyA_get, show j = i by omega, e2]; rfl
        · rw [toPyA_get] at hz
          cases q2 : xs[m]? with
          | none => rw [q2] at hz; cases hz
          | some y' =>
            rw [q2] at hz
            cases hz
            exact e4 m y' (by omega) q2
     · cases e
    | _ => cases e

/-! ### tuple(range(a, b, c)), tuples repeated once -/
def mRgT3 (ms : M (List Vx)) : M Vx := bnd ms fun xs S => match derefs S xs with
  | some [.int i, .int j, .int c] => if RgC i j c (Builtin.Range.rangeSize i j c).toNat ∧ (Builtin.Range.rangeSize i j c).toNat ≤ 2 ^ 24 then .ok (.val (.tup (rngD i c (Builtin.Range.rangeSize i j c).toNat))) S else .stuck
  | _ => .stuck
theorem RepLs.three {K : PySem.W.Frag} {Sh : Addr → Prop} {H : Hp} {vs : List V} {i j c : Int} (h : RepLs K Sh H vs [.int i, .int j, .int c]) : vs = [.int i, .int j, .int c] := by
  cases h with
  | cons h1 h2 =>
    cases h2 with
    | cons h3 h4 =>
      cases h4 with
      | cons h5 h6 =>
        cases h6
        rw [h1.int, h3.int, h5.int]
theorem rep_rng {K : PySem.W.Frag} {Sh : Addr → Prop} {H : Hp} (a c : Int) : ∀ (l : List Nat), RepA K Sh H (l.map fun i => V.int (a + ((i : Nat) : Int) * c)) (l.map fun i => D.int (a + ((i : Nat) : Int) * c))
  | [] => .nil
  | _ :: l => .cons .int (rep_rng a c l)
theorem vals_rng {i c : Int} {n : Nat} {acc : Array Value} (h : ItemsOf (fun k v => ∃ t, v = .int (i + k * c) t) acc n) : Vals ((List.range n).map fun k => V.int (i + ((k : Nat) : Int) * c)) acc.toList := by
  have e : acc.toList.length = n := by rw [Array.length_toList]; exact h.1
  have r := vals_of_get acc.toList (fun k => V.int (i + ((k : Nat) : Int) * c)) fun k u hk => by
    rw [Array.getElem?_toList] at hk
    obtain ⟨t, z⟩ := h.2 k u hk
    exact ⟨t, z⟩
  rw [e] at r
  exact r
theorem e_rgT3 {X : Cx} {W : WX} {a b c : Expr} {ms : M (List Vx)} {p p2 pos pos2 : Pos} (hc : X.calm = true) (hg : Gl X "tuple") (hm : X.mg "tuple" = none) (hg2 : Gl X "range") (hm2 : X.mg "range" = none) (ha : MA X W [a, b, c] ms)
    (hs : starEach [a, b, c] X.env = (false, eval a X.env) :: starEach [b, c] X.env := by rfl) (hpl : (backTo pos2 (starEach [b, c] X.env)).any (·.1) = false := by rfl)
    (na : starEach [.Call (.Name "range" p2) [a, b, c] [] pos2] X.env = (false, eval (.Call (.Name "range" p2) [a, b, c] [] pos2) X.env) :: starEach [] X.env := by rfl) :
    ME X W (.Call (.Name "tuple" p) [.Call (.Name "range" p2) [a, b, c] [] pos2] [] pos) (mRgT3 ms) := by
  refine ⟨fun pins s σ H Q I ⟨S, Sh, A, g⟩ => ?_⟩
  have h := (ha.run pos2 pins s σ H (fun vs H1 => ∃ i j c n, vs = [.int i, .int j, .int c] ∧ RgC i j c n ∧ n ≤ 2 ^ 24 ∧ ∀ p, H1 p = none → Q (.ref p) (upd H1 p (.tup ((List.range n).map fun k => V.int (i + ((k : Nat) : Int) * c))))) I
    ⟨S, Sh, A, (Go.bind g).mono fun xs S1 Sh1 H1 A1 E1 g1 vs rs => ?_⟩)
  · refine Call_ (ld_blt I hg hm boot_tuple (PyProof.Rows.callWith_type1 (PyProof.Rows.args_cons (Call_ (ld_blt I hg2 hm2 boot_range (PyProof.Rows.callWith_type1 (thn h fun us s1 ⟨vs, H1, I1, r1, q1⟩ => ?_) hs hpl))) na) na))
    obtain ⟨i, j, k, n, e, ⟨c0, c1, c2, c3⟩, hn, q⟩ := q1
    subst e
    cases r1 with
    | cons r rr =>
      cases rr with
      | cons r' rr =>
        cases rr with
        | cons r'' rr =>
          cases rr
          obtain ⟨t, rfl⟩ := r
          obtain ⟨t', rfl⟩ := r'
          obtain ⟨t'', rfl⟩ := r''
          refine call_range_3 c0 ?_ (.inl (PyProof.noPylong_small c1))
          have I2 : Inv X pins σ H1 { s1 with heap := s1.heap.push { cls := .type "range", data := .fields #[.int i t, .int j t', .int k t''] } } := I1.kept (t' := s1.toks) fun b o e => Heap.get?_push_of_some _ e
          refine args_nil ?_
          refine call_tuple_range (n := n) (I2.ok.hd hc) (IsRange.new ..) c2 c3 hn fun h' tk acc hk hi => ?_
          have I3 : Inv X pins σ H1 { s1 with heap := h', toks := tk } := I2.kept (t' := tk) hk
          refine ⟨.ref h'.objs.size, _, I3.laid (t' := tk) (o := .tup ((List.range n).map fun m => V.int (i + ((m : Nat) : Int) * k))) (fun c o e => Heap.get?_push_of_some _ e) (Nat.le_refl _) ⟨?_, acc.toList, vals_rng hi, ?_⟩, rfl, q _ (I3.hok.fresh (Nat.le_refl _))⟩
          · rw [List.length_map, List.length_range, sizeLine_eq]; omega
          · rw [Array.toArray_toList]; exact IsTup.new _ _
  · try simp only at g1
    split at g1
    · rename_i i j c q
      split at g1
      · rename_i hr
        have e := (rs.derefs A1 q).three
        refine ⟨i, j, c, _, e, hr.1, hr.2, fun p hp => ?_⟩
        exact (g1.fin A1).new p _ _ hp (fun _ z => by cases z) (.tup (.inl (.inl upd_same)) (rep_rng i c _))
      · exact g1.elim
    · exact g1.elim
end Z
set_option maxHeartbeats 4000000
/-! Z13: tuples times one; defs by the head's facts; defs that hand back a new list. -/
namespace Z
open PySem PySem.Spec PyProof.Rows L2
theorem mul_once (l : Addr) (its : Array Value) (n : Nat) (dd : Option Addr) (sl : Array (Option Value)) (u : Tok) :
    Meets (Builtin.«tuple.__mul__» ⟨[.ref l, .int 1 u], []⟩) (fun _ R s => s.heap.get? l = some { cls := .type "tuple", dict := dd, data := .seq its n, slots := sl } ∧ R (.ok (.ret (.ref l))) s) :=
  .of_wp fun prog w A R s h => by
    obtain ⟨hp, g, d, tk, os⟩ := s; obtain ⟨hl, h⟩ := h
    have f1 := AutoSeq1.idx_int
    have hT : (⟨hp, g, d, tk, os⟩ : Shared).TypeIs (.ref l) "tuple" := ⟨_, hl, rfl⟩
    wp_walk using wpAny_loadPart' hl, wpAny_typeOf hT
    exact ⟨_, rfl, h⟩
def rRep1 (K : PySem.W.Frag) : R2 := fun x y H Q => ∃ l xs, x = .ref l ∧ y = .int 1 ∧ SqT K H l xs ∧ Q (.ref l) H
theorem op_once {X : Cx} : OpR X (binaryOp .Mult) (rRep1 X.K) := by
  intro pins s σ H x y v u Q I rx ry h
  obtain ⟨l, xs, rfl, rfl, hT, q⟩ := h
  cases rx
  obtain ⟨t, rfl⟩ := ry
  obtain ⟨its, r, ⟨⟨cls, dd, data, sl⟩, ho, hc, n, hd⟩, hs⟩ := I.tuple hT
  simp only at hc hd; subst hc hd
  refine wpAny_binaryOp_repeat_ref (T := "tuple") (U := "int") (by decide) ⟨_, ho, rfl⟩ (fun s' => typeIs_int s' 1 t) noFill_tuple_mul F.fills_int_mul F.slot_int_rmul repeat_tuple F.slot_int_index.lookup (call_meets F.slot_int_rmul (typeIs_int s 1 t) F.entry_int_rmul (F.args_int_rmul_2 _ _) (int_rmul_tuple 1 t l its.toArray n dd sl) ⟨ho, rfl, ⟨_, ho, rfl⟩, ?_⟩)
  exact call_meets F.slot_tuple_mul ⟨_, ho, rfl⟩ F.entry_tuple_mul (F.args_tuple_mul_2 _ _) (mul_once l its.toArray n dd sl t) ⟨ho, ⟨.ref l, H, I, rfl, q⟩⟩
variable [LT]
def fMulT : D → D → Option D
  | .tup xs, .int k => if k = 1 then some (.tup xs) else fMul (.tup xs) (.int k)
  | a, b => fMul a b
def rMulT (K : PySem.W.Frag) : R2 := fun x y H Q => rRep1 K x y H Q ∨ rMulA K x y H Q
theorem or_mulT {X : Cx} : OpR X (binaryOp .Mult) (rMulT X.K) := op_once.or or_mul
theorem o2_mulT {X : Cx} : Op2 X (rMulT X.K) (d2 fMulT) := op2_of fun Sh H v u a b z Q ra rb e q => by
  have old : fMul a b = some z → rMulT X.K v u H Q := fun e => .inr (mul_pt Sh H v u a b z Q ra rb e q)
  cases a with
  | tup xs =>
    cases b with
    | int k =>
      unfold fMulT at e
      simp only at e
      split at e
      · rename_i hk
        subst hk
        cases e
        obtain ⟨p, vs, rfl, h1, h2⟩ := ra.tup
        exact .inl ⟨p, vs, rfl, rb.int, h1, q.old _ (.tup h1 h2)⟩
      · exact old e
    | _ => exact old e
  | _ => exact old e

/-! ### a def by the head's facts -/
section
variable {P : Program} {w : World} {K : PySem.W.Frag} {mg : Str → Option Value} {base : Heap} {x qual : Str} {params : Arguments} {body : List Stmt} {scope : Scope} {f : Addr} {fd : FuncData} {N ps : List Str} {k : Nat} {m : M Fl}
theorem fn_D (F : FunD K x qual params body scope [] [] f fd) (S : FnScope N ps scope) (hps : ps.length ≤ N.length)
    (hb : ∀ (cdv : Value) (A : Around) (outer : List Env) (s : Shared) (H : Hp) (E : XK), Room k (A.deeper (envOfC qual scope s.heap.objs.size f cdv)) → MSs (cxOf (L2.CX P w) P w K mg base N qual scope f cdv A outer s H E) (fun cls d _ H => E cls d H) body m) :
    FnOk P w K mg base (L2.CX P w) (k + 1) f fd ps (spZ K mg ps.length (mDef N.length m)) := by
  refine F.ok S (fun vs H Q E h => h.1) (fun cdv A outer s H vs Q E hr h => ⟨_, hb cdv A outer s H E hr, ?_⟩)
  obtain ⟨hl, Pf, Sh, Ab, g⟩ := h
  have hl' : vs.length ≤ N.length := by omega
  refine ⟨Pf ++ uns (N.length - Pf.length), Sh, Ab.start hl', ?_⟩
  unfold mDef at g
  split at g
  · rename_i hc
    show GoS K mg (fun cls d _ H => E cls d H) _ _ Sh H (m (Pf ++ uns (N.length - Pf.length))) _
    cases q : m (Pf ++ uns (N.length - Pf.length)) with
    | ok fl S' =>
      rw [q] at g
      intro σ' Sh' H' A' E'
      obtain ⟨A2, E2⟩ := Ab.back hc hl' A' E'
      cases fl with
      | next => exact g Sh' H' A2 E2 .non .non
      | ret d => exact fun v r => g Sh' H' A2 E2 v r
      | brk => exact g.elim
      | cnt => exact g.elim
    | exc x S' =>
      rw [q] at g
      intro cls d σ' Sh' H' A' E' xr
      obtain ⟨A2, E2⟩ := Ab.back hc hl' A' E'
      exact g cls d Sh' H' A2 E2 xr
    | stuck => rw [q] at g; exact g.elim
  · exact g.elim
theorem cal_D (g : mg x = some (.ref f)) (F : FunD K x x params body scope [] [] f fd) (b : Binds K fd ps []) (S : FnScope N ps scope) (hps : ps.length ≤ N.length)
    (hb : ∀ (cdv : Value) (A : Around) (outer : List Env) (s : Shared) (H : Hp) (E : XK), Room k (A.deeper (envOfC x scope s.heap.objs.size f cdv)) → MSs (cxOf (L2.CX P w) P w K mg base N x scope f cdv A outer s H E) (fun cls d _ H => E cls d H) body m) :
    Cal P w K mg base (k + 1) x ps.length (mDef N.length m) := ⟨f, fd, ps, g, F.kp, b, fn_D F S hps hb⟩

end

/-! ### a def that hands back a new list -/
def tR (K : PySem.W.Frag) (mg : Str → Option Value) (W : WX) (m : M (List D)) : TS := fun Dn σ H => ∃ S Sh, Abs K S σ H Sh ∧ GoR K mg W S σ Sh H (m S) H Dn
where
  GoR (K : PySem.W.Frag) (mg : Str → Option Value) (W : WX) (S : Fr) (σ : St) (Sh : Addr → Prop) (H : Hp) (r : Res (List D)) (H0 : Hp) (Dn : Ends) : Prop := match r with
    | .ok ds S' => ∀ σ' Sh' H' p vs, Abs K S' σ' H' Sh' → Ext S σ Sh H S' σ' Sh' H' → H' p = some (.lst vs) → RepA K Sh' H' vs ds → ¬ Sh' p → ¬ Ow S' σ' p → Nn H0 p → Dn.rt (.ref p) H'
    | .exc x S' => ∀ cls d σ' Sh' H', Abs K S' σ' H' Sh' → Ext S σ Sh H S' σ' Sh' H' → XRep mg H' cls d x → W cls d σ' H'
    | .stuck => False
def MRs (X : Cx) (W : WX) (sts : List Stmt) (m : M (List D)) : Prop := PSs X sts (tR X.K X.mg W m)
def rSeq (m : M Fl) (n : M (List D)) : M (List D) := bnd m fun fl => match fl with
  | .next => n
  | _ => fun _ => .stuck
section
variable {X : Cx} {W : WX} {e : Expr} {st : Stmt} {rest : List Stmt} {pos : Pos} {mn : M (List D)} {m : M Fl}
theorem r_ret (h : MN X W e mn) : MRs X W [.Return (some e) pos] mn := PSs.imp (pss_one (ps_ret h)) fun σ H Q ⟨S, Sh, A, g⟩ => by
  refine ⟨S, Sh, A, ?_⟩
  cases q : mn S with
  | ok ds S' =>
    rw [q] at g
    exact fun Sh' H' A' E' p vs h1 h2 h3 h4 h5 => g σ Sh' H' p vs A' E' h1 h2 h3 h4 h5
  | exc x S' => rw [q] at g; exact fun cls d Sh' H' A' E' xr => g cls d σ Sh' H' A' E' xr
  | stuck => rw [q] at g; exact g
theorem r_cons (h1 : MS X W st m) (h2 : MRs X W rest mn) : MRs X W (st :: rest) (rSeq m mn) := PSs.imp (pss_cons h1 h2) fun σ H Q ⟨S, Sh, A, g⟩ => by
  refine ⟨S, Sh, A, ?_⟩
  unfold rSeq bnd at g
  cases q : m S with
  | ok fl S1 =>
    rw [q] at g
    cases fl with
    | next =>
      have g : tR.GoR X.K X.mg W S σ Sh H (mn S1) H Q := g
      intro σ1 Sh1 H1 A1 E1
      refine ⟨S1, Sh1, A1, ?_⟩
      cases q2 : mn S1 with
      | ok ds S2 =>
        rw [q2] at g
        exact fun σ' Sh' H' p vs A' E' k1 k2 k3 k4 k5 => g σ' Sh' H' p vs A' (E1.trans E') k1 k2 k3 k4 (E1.live p k5)
      | exc x S2 => rw [q2] at g; exact fun cls d σ' Sh' H' A' E' xr => g cls d σ' Sh' H' A' (E1.trans E') xr
      | stuck => rw [q2] at g; exact g
    | _ => exact g.elim
  | exc x S1 => rw [q] at g; exact g
  | stuck => rw [q] at g; exact g
end
def spN (K : PySem.W.Frag) (mg : Str → Option Value) (np : Nat) (m : M (List D)) : Sp := fun vs H Q E => vs.length = np ∧ ∃ (ps : List D) (Sh : Addr → Prop), RepA K Sh H vs ps ∧ (∀ b, Sh b → ¬ Nn H b) ∧ LamX.Tabs LT.T H ∧
  Go K mg (fun cls d _ H => E cls d H) (vs.map some) (ps.map .sh) Sh H (m (ps.map .sh)) fun ds S' Sh' H' => ∀ p us, H' p = some (.lst us) → RepA K Sh' H' us ds → ¬ Sh' p → Nn H p → Q (.ref p) H'
def mDefN (n : Nat) (m : M (List D)) : M (List D) := fun P => match m (P ++ uns (n - P.length)) with
  | .ok ds _ => .ok ds P
  | .exc x _ => .exc x P
  | .stuck => .stuck
theorem back_sh (ps : List D) (S : Fr) : Z.back (ps.map .sh) S = ps.map .sh := by
  cases ps <;> rfl
theorem chk_sh (ps : List D) : chkP (ps.map .sh) = true := by
  have h : (ps.map Sl.sh).all Sl.isSh = true := by
    rw [List.all_map]
    exact List.all_eq_true.mpr fun _ _ => rfl
  cases ps with
  | nil => rfl
  | cons p ps => exact h
section
variable {P : Program} {w : World} {K : PySem.W.Frag} {mg : Str → Option Value} {base : Heap} {x qual : Str} {params : Arguments} {body : List Stmt} {scope : Scope} {f : Addr} {fd : FuncData} {N ps : List Str} {k : Nat} {m : M (List D)}
theorem fn_N (F : FunD K x qual params body scope [] [] f fd) (S : FnScope N ps scope) (hps : ps.length ≤ N.length)
    (hb : ∀ (cdv : Value) (A : Around) (outer : List Env) (s : Shared) (H : Hp) (E : XK), Room k (A.deeper (envOfC qual scope s.heap.objs.size f cdv)) → MRs (cxOf (L2.CX P w) P w K mg base N qual scope f cdv A outer s H E) (fun cls d _ H => E cls d H) body m) :
    FnOk P w K mg base (L2.CX P w) (k + 1) f fd ps (spN K mg ps.length (mDefN N.length m)) := by
  refine F.ok S (fun vs H Q E h => h.1) (fun cdv A outer s H vs Q E hr h => ⟨_, hb cdv A outer s H E hr, ?_⟩)
  obtain ⟨hl, pd, Sh, ra, hf, ht, g⟩ := h
  have Ab := ra.abs hf ht
  have hl' : vs.length ≤ N.length := by omega
  refine ⟨pd.map Sl.sh ++ uns (N.length - (pd.map Sl.sh).length), Sh, Ab.start hl', ?_⟩
  unfold mDefN at g
  show tR.GoR K mg (fun cls d _ H => E cls d H) _ _ Sh H (m (pd.map .sh ++ uns (N.length - (pd.map Sl.sh).length))) _ _
  cases q : m (pd.map .sh ++ uns (N.length - (pd.map Sl.sh).length)) with
  | ok ds S' =>
    simp only [q] at g
    intro σ' Sh' H' p us A' E' k1 k2 k3 k4 k5
    obtain ⟨A2, E2⟩ := Ab.back (chk_sh pd) hl' A' E'
    rw [back_sh] at A2 E2
    exact g Sh' H' A2 E2 p us k1 k2 k3 k5
  | exc z S' =>
    simp only [q] at g
    intro cls d σ' Sh' H' A' E' xr
    obtain ⟨A2, E2⟩ := Ab.back (chk_sh pd) hl' A' E'
    rw [back_sh] at A2 E2
    exact g cls d Sh' H' A2 E2 xr
  | stuck => simp only [q] at g; exact g.elim
structure CalN (P : Program) (w : World) (K : PySem.W.Frag) (mg : Str → Option Value) (base : Heap) (k : Nat) (x : Str) (np : Nat) (m : M (List D)) : Prop where
  ex : ∃ f fd ps, mg x = some (.ref f) ∧ PySem.W.keepIn K (.ref f) = true ∧ Binds K fd ps [] ∧ FnOk P w K mg base (L2.CX P w) k f fd ps (spN K mg np m)
theorem cal_N (g : mg x = some (.ref f)) (F : FunD K x x params body scope [] [] f fd) (b : Binds K fd ps []) (S : FnScope N ps scope) (hps : ps.length ≤ N.length)
    (hb : ∀ (cdv : Value) (A : Around) (outer : List Env) (s : Shared) (H : Hp) (E : XK), Room k (A.deeper (envOfC x scope s.heap.objs.size f cdv)) → MRs (cxOf (L2.CX P w) P w K mg base N x scope f cdv A outer s H E) (fun cls d _ H => E cls d H) body m) :
    CalN P w K mg base (k + 1) x ps.length (mDefN N.length m) := ⟨f, fd, ps, g, F.kp, b, fn_N F S hps hb⟩
end
def nCall (np : Nat) (m : M (List D)) (ms : M (List Vx)) : M (List D) := bnd ms fun xs => bnd (chkLen np xs) fun _ => bnd (escs xs) fun ds S => match m (ds.map .sh) with
  | .ok ys _ => .ok ys S
  | .exc x _ => .exc x S
  | .stuck => .stuck
theorem n_call {X : Cx} {W : WX} {pos p : Pos} {e : Expr} {es : List Expr} {m : M (List D)} {ms : M (List Vx)} {k np : Nat} {x : Str} (F : CalN X.prog X.w X.K X.mg X.base k x np m) (hr : Room k X.A) (tk : Takes X W) (hg : Gl X x) (ha : MA X W (e :: es) ms)
    (hdb : (x == ("__debug__" : Str)) = false := by decide) (he : starEach (e :: es) X.env = (false, eval e X.env) :: starEach es X.env := by rfl) (hpl : (backTo pos (starEach es X.env)).any (·.1) = false := by rfl) :
    MN X W (.Call (.Name x p) (e :: es) [] pos) (nCall np m ms) := by
  obtain ⟨f, fd, ps, hm, hk, hb, F⟩ := F.ex
  refine PE.imp (pe_callS F hr hg hm hk hb (E := WE W) (fun σ => passAt tk σ) ha hdb he hpl) fun σ H Q ⟨S, Sh, A, g⟩ => ?_
  refine ⟨S, Sh, A, g.bind.mono fun xs S1 Sh1 H1 A1 E1 g1 vs rs => ?_⟩
  have g1 := Go.bind g1
  unfold chkLen at g1
  split at g1
  · rename_i hl
    have g2 := Go.here A1 g1
    obtain ⟨ds, S2, Sh2, A2, E2, r2, g3⟩ := go_escs A1 rs g2
    refine ⟨rs.length.trans hl, ds, Sh2, r2, A2.fresh, A2.tab, ?_⟩
    try simp only at g3
    cases q : m (ds.map .sh) with
    | ok ys S' =>
      rw [q] at g3
      intro Sh' H' A' E' p us k1 k2 k3 k4
      have A'' : Abs X.K S' (vs.map some) H' Sh' := A'
      obtain ⟨A3, E3⟩ := A2.after0 A' E'
      refine g3 _ _ A3 E3 p us k1 k2 k3 (fun w => ?_) (E1.live p k4)
      obtain ⟨⟨us', e⟩, _⟩ := A2.owLst w
      exact k4.lst e
    | exc z S' =>
      rw [q] at g3
      intro cls dd Sh' H' A' E' xr
      obtain ⟨A3, E3⟩ := A2.after0 A' E'
      exact g3 _ _ _ _ A3 E3 xr
    | stuck => rw [q] at g3; exact g3
  · exact g1.elim

/-! ### l.remove(x) of whole numbers -/
def fRem (ys : List D) : List D → Option (D × List D)
  | [.int k] => (D.ints ys).bind fun ns => if k ∈ ns then some (.non, (ns.erase k).map .int) else none
  | _ => none
def mRem (mo me : M Vx) : M Vx := bnd mo fun x => bnd (chkOwn x) fun _ => bnd me fun y => bnd (esc y) fun d => mutate fRem x [d]
theorem e_rem {X : Cx} {W : WX} {o e : Expr} {mo me : M Vx} {apos cpos : Pos} (hc : X.calm = true) (tk : Takes X W) (ho : ME X W o mo) (he : ME X W e me) (hbase : attributeBase o "remove" X.env (eval o X.env) = eval o X.env := by rfl)
    (hfew : ((backTo cpos (starEach [e] X.env)).all (fun x => !x.1) && (backToKw cpos (keywordEach [] X.env)).all (fun x => x.1.isSome)
      && decide (([e] : List Expr).length + ([] : List Keyword).length + (if ([] : List Keyword).isEmpty then 0 else 1) < 30)) = true := by rfl)
    (hline : (apos.endLine == cpos.line) = true := by rfl) (hs : starEach [e] X.env = (false, eval e X.env) :: starEach [] X.env := by rfl) (hplain : (backTo cpos (starEach [] X.env)).any (·.1) = false := by rfl) :
    ME X W (.Call (.Attribute o "remove" apos) [e] [] cpos) (mRem mo me) := by
  refine PE.imp (pe_remX hc tk ho he hbase hfew hline hs hplain) fun σ H Q ⟨S, Sh, A, g⟩ => ?_
  refine ⟨S, Sh, A, g.bind.mono fun x S1 Sh1 H1 A1 E1 g1 v rv => ?_⟩
  have g1 := Go.bind g1
  unfold chkOwn at g1
  split at g1
  · rename_i hown
    refine ⟨isOwn_ty A1 rv hown, S1, Sh1, A1, (Go.bind (Go.here A1 g1)).mono fun y S2 Sh2 H2 A2 E2 g2 u ru => ?_⟩
    obtain ⟨d, S3, Sh3, A3, E3, r3, g3⟩ := go_esc A2 ru g2
    obtain ⟨l, us, ys, ys', z, S4, rfl, h1, h2, h3, hn, h4⟩ := go_mutate A3 ((rv.ext A1 E2).ext A2 E3) g3
    unfold fRem at h3
    cases d with
    | int k =>
      simp only at h3
      cases q : D.ints ys with
      | none => simp only [q] at h3; cases h3
      | some ns =>
        simp only [q, Option.bind_some] at h3
        split at h3
        · rename_i hk
          cases h3
          rw [D.ints_eq q] at h2
          have e := h2.ints
          subst e
          cases r3
          exact ⟨l, ns, k, rfl, rfl, h1, fun _ => h4 _ (RepA.ofInts _) .non .non, fun z => absurd hk z⟩
        · cases h3
    | _ => cases h3
  · exact g1.elim
end Z
set_option maxHeartbeats 4000000
/-! Z14: chains as tests, what is walked of any kind, a def that never answers. -/
namespace Z
open PySem PySem.Spec PyProof.Rows L2
variable [LT]
section
variable {X : Cx} {W : WX} {pos : Pos} {a b c tg e : Expr} {ma mb mc me : M Vx}
theorem t_chain {op op' : CmpOp} {r r' : R2} {f f' : Vx → Vx → M Vx} (ho : OpR X (compareOp op) r) (h : Op2 X r f) (ho' : OpR X (compareOp op') r') (h' : Op2 X r' f') (ha : ME X W a ma) (hb : ME X W b mb) (hc : ME X W c mc) (hm : lastMarks [op, op'] [b, c] = false := by rfl) :
    MT X W (.Compare a [op, op'] [b, c] pos) (toB (mChain f f' ma mb mc)) := by
  refine PT.imp (pt_chain ho ho' ha hb hc hm) fun σ H Q ⟨S, Sh, A, g⟩ => ?_
  refine ⟨S, Sh, A, g.bind.bind.mono fun x S1 Sh1 H1 A1 E1 g1 v rv => ⟨S1, Sh1, A1, g1.bind.mono fun y S2 Sh2 H2 A2 E2 g2 u ru => ?_⟩⟩
  refine h W S2 Sh2 σ H2 v u x y _ A2 (rv.ext A1 E2) ru (g2.bind.bind.mono fun z S3 Sh3 H3 A3 E3 g3 w rw => ?_)
  obtain ⟨k, rfl, g4⟩ := go_toB A3 rw g3
  refine ⟨k, rfl, ?_⟩
  cases k with
  | true =>
    exact ⟨S3, Sh3, A3, Go.mono (Go.bind g4) fun z4 S4 Sh4 H4 A4 E4 g5 w4 rw4 => h' W S4 Sh4 σ H4 u w4 y z4 _ A4 ((ru.ext A2 E3).ext A3 E4) rw4 (g5.mono fun z5 S5 Sh5 H5 A5 E5 g6 w5 rw5 => go_toB A5 rw5 g6)⟩
  | false =>
    have g5 : Go (α := Vx) X.K X.mg W σ S3 Sh3 H3 (Res.ok (Vx.val (D.bl false)) S3) _ := g4
    have g6 := Go.here A3 g5
    exact ⟨false, rfl, Go.here A3 (show Go (α := Bool) X.K X.mg W σ S3 Sh3 H3 (Res.ok false S3) _ from g6)⟩
theorem PI.or {t t' : TI} (h : PI X tg e t) (h' : PI X tg e t') : PI X tg e (fun σ H R => t σ H R ∨ t' σ H R) := ⟨fun pins s σ H R I q => q.elim (h.run pins s σ H R I) (h'.run pins s σ H R I)⟩
def isAny : D → Option (List D)
  | .lst ds => some ds
  | .tup ds => some ds
  | .str x => some (signs x)
  | _ => none
theorem iOf_any (S : Fr) : iOf me isAny S = iOf me isLst S ∨ iOf me isAny S = iOf me isTup S ∨ iOf me isAny S = iOf me isStr S := by
  unfold iOf bnd
  cases me S with
  | ok x S1 =>
    show ((esc x S1).bind _ = (esc x S1).bind _) ∨ ((esc x S1).bind _ = (esc x S1).bind _) ∨ ((esc x S1).bind _ = (esc x S1).bind _)
    cases esc x S1 with
    | ok d S2 => cases d <;> first | exact .inl rfl | exact .inr (.inl rfl) | exact .inr (.inr rfl)
    | exc _ _ => exact .inl rfl
    | stuck => exact .inl rfl
  | exc _ _ => exact .inl rfl
  | stuck => exact .inl rfl
theorem i_any (h : ME X W e me) : MI X W tg e (iOf me isAny) := PI.imp (PI.or (i_lst h) (PI.or (i_tup h) (i_str h))) fun σ H R ⟨S, Sh, A, g⟩ => by
  rcases iOf_any (me := me) S with q | q | q
  · rw [q] at g; exact .inl ⟨S, Sh, A, g⟩
  · rw [q] at g; exact .inr (.inl ⟨S, Sh, A, g⟩)
  · rw [q] at g; exact .inr (.inr ⟨S, Sh, A, g⟩)
end
theorem units65 {k : Nat} {A : Around} (h : Room k A) : A.units + 65 < cLine := by
  have := h.un
  omega
def mStuck {α : Type} : M α := fun _ => .stuck
theorem cal_stuck {P : Program} {w : World} {K : PySem.W.Frag} {mg : Str → Option Value} {base : Heap} {x : Str} {f : Addr} {fd : FuncData} {ps : List Str} {k np : Nat} (g : mg x = some (.ref f)) (hk : PySem.W.keepIn K (.ref f) = true) (b : Binds K fd ps []) (hn : ps.length = np) : Cal P w K mg base k x np mStuck :=
  ⟨f, fd, ps, g, hk, b, ⟨fun vs H Q E h => h.1.trans hn.symm, fun A outer s H args us vs Q E _ _ _ _ h => by
    obtain ⟨_, S, Sh, _, g⟩ := h
    exact g.elim⟩⟩
end Z
set_option maxHeartbeats 4000000
/-! Z15: defs with lambdas; exceptions told by class. -/
namespace Z
open PySem PySem.Spec PyProof.Rows L2
variable [LT]
/-- the name that the text's lambdas in x bear -/
def lamQ (x : Str) : Str := (envOfC x (defScope (.Pass ⟨0, 0, 0, 0⟩)) 0 0 .none).qual ++ "<lambda>"
/-- the code object of the def x, and its table -/
structure LamF (K : PySem.W.Frag) (mg : Str → Option Value) (base : Heap) (x : Str) : Prop where
  ex : ∃ (f c P : Addr) (fd : FuncData) (oc : Value) (od : Option Addr) (osl : Array (Option Value)), mg x = some (.ref f) ∧ K.lookup f = some ⟨oc, od, .func fd, osl⟩ ∧ fd.code = .ref c ∧ LamX.TabB base mg c P ∧ (P, lamQ x) ∈ LT.T ∧ ∀ p ∈ LT.T, p.1 = P → p.2 = lamQ x
section
variable {P : Program} {w : World} {K : PySem.W.Frag} {mg : Str → Option Value} {base : Heap} {x : Str} {params : Arguments} {body : List Stmt} {scope : Scope} {f : Addr} {fd : FuncData} {N ps : List Str} {k : Nat} {m : M Fl}
theorem body_ok {H : Hp} {vs : List V} {Q : VK} {E : XK} {X : Cx} (hX : X.K = K) (hX2 : X.mg = mg) (hps : ps.length ≤ N.length) (h : spZ K mg ps.length (mDef N.length m) vs H Q E) :
    tS X.K X.mg (fun cls d _ H => E cls d H) m { nx := fun _ H' => Q .non H', rt := Q } (L2.start N vs) H := by
  subst hX hX2
  obtain ⟨hl, Pf, Sh, Ab, g⟩ := h
  have hl' : vs.length ≤ N.length := by omega
  refine ⟨Pf ++ uns (N.length - Pf.length), Sh, Ab.start hl', ?_⟩
  unfold mDef at g
  split at g
  · rename_i hc
    show GoS X.K X.mg (fun cls d _ H => E cls d H) _ _ Sh H (m (Pf ++ uns (N.length - Pf.length))) _
    cases q : m (Pf ++ uns (N.length - Pf.length)) with
    | ok fl S' =>
      rw [q] at g
      intro σ' Sh' H' A' E'
      obtain ⟨A2, E2⟩ := Ab.back hc hl' A' E'
      cases fl with
      | next => exact g Sh' H' A2 E2 .non .non
      | ret d => exact fun v r => g Sh' H' A2 E2 v r
      | brk => exact g.elim
      | cnt => exact g.elim
    | exc x S' =>
      rw [q] at g
      intro cls d σ' Sh' H' A' E' xr
      obtain ⟨A2, E2⟩ := Ab.back hc hl' A' E'
      exact g cls d Sh' H' A2 E2 xr
    | stuck => rw [q] at g; exact g.elim
  · exact g.elim
theorem cal_DL (g : mg x = some (.ref f)) (F : FunD K x x params body scope [] [] f fd) (b : Binds K fd ps []) (S : FnScope N ps scope) (hps : ps.length ≤ N.length) (L : LamF K mg base x)
    (hb : ∀ (c T : Addr), LamX.TabB base mg c T → (T, lamQ x) ∈ LT.T → (∀ p ∈ LT.T, p.1 = T → p.2 = lamQ x) → ∀ (A : Around) (outer : List Env) (s : Shared) (H : Hp) (E : XK), Room k (A.deeper (envOfC x scope s.heap.objs.size f (.ref c))) →
      MSs (cxOf (L2.CX P w) P w K mg base N x scope f (.ref c) A outer s H E) (fun cls d _ H => E cls d H) body m) :
    Cal P w K mg base (k + 1) x ps.length (mDef N.length m) := by
  refine ⟨f, fd, ps, g, F.kp, b, ?_⟩
  obtain ⟨oc, od, dV, kV, doc, pm, an, cdv, ct, osl, rfl, lk, hcd, _, _⟩ := F.ex
  obtain ⟨f2, c, T, fd2, oc2, od2, osl2, g2, lk2, hc, tb, h1, h2⟩ := L.ex
  rw [g] at g2
  cases g2
  rw [lk] at lk2
  cases lk2
  have hc : cdv = .ref c := hc
  subst hc
  exact fn_of lk hcd S (fun vs H Q E h => h.1) fun A outer s H vs Q E hr h => ⟨_, hb c T tb h1 h2 A outer s H E hr, body_ok rfl rfl hps h⟩
end

theorem CalN.mono {P : Program} {w : World} {K : PySem.W.Frag} {mg : Str → Option Value} {base : Heap} {j k : Nat} {x : Str} {np : Nat} {m : M (List D)} (c : CalN P w K mg base j x np m) (h : j ≤ k) : CalN P w K mg base k x np m := by
  obtain ⟨f, fd, ps, h1, h2, h3, h4⟩ := c.ex
  exact ⟨f, fd, ps, h1, h2, h3, h4.mono h⟩

/-! ### the classes of exceptions -/
structure ExK (K : PySem.W.Frag) (mg : Str → Option Value) (x : Str) : Prop where
  ex : ∃ C, mg x = some (.ref C) ∧ ExcC K C
def ExM (K : PySem.W.Frag) (mg : Str → Option Value) (x y : Str) : Prop := ∀ C D, mg x = some (.ref C) → mg y = some (.ref D) → PySem.W.exmOne K (.ref C) (.ref D) = some true
def ExI (K : PySem.W.Frag) (mg : Str → Option Value) (x y : Str) (b : Bool) : Prop := ∃ D, mg y = some (.ref D) ∧ ∀ C, mg x = some (.ref C) → PySem.W.kitOne K (.ref C) (.ref D) = some b
theorem ExK.at {K : PySem.W.Frag} {mg : Str → Option Value} {x : Str} (h : ExK K mg x) {C : Addr} (e : mg x = some (.ref C)) : ExcC K C := by
  obtain ⟨C', e1, e2⟩ := h.ex
  rw [e] at e1
  cases e1
  exact e2
/-- by the class's name, exceptions without a field -/
def byCls (l : List (Str × Str)) (z : Xc) : Option Str := match z.fld with
  | some _ => none
  | none => l.lookup z.cls
theorem byCls_fld {l : List (Str × Str)} {z : Xc} {s : Str} (h : byCls l z = some s) : z.fld = none := by
  unfold byCls at h
  cases q : z.fld with
  | none => rfl
  | some p => rw [q] at h; cases h
theorem lookup_mem2 {l : List (Str × Str)} {k v : Str} : l.lookup k = some v → (k, v) ∈ l := by
  induction l with
  | nil => intro h; cases h
  | cons p l ih =>
    intro h
    obtain ⟨a, b⟩ := p
    rw [List.lookup_cons] at h
    cases q : (k == a) with
    | true =>
      rw [q] at h
      have e : k = a := beq_iff_eq.mp q
      cases h
      rw [e]
      exact List.mem_cons_self
    | false =>
      rw [q] at h
      exact List.mem_cons_of_mem _ (ih h)
theorem byCls_mem {l : List (Str × Str)} {z : Xc} {s : Str} (h : byCls l z = some s) : (z.cls, s) ∈ l := by
  unfold byCls at h
  cases q : z.fld with
  | none => rw [q] at h; exact lookup_mem2 h
  | some p => rw [q] at h; cases h
theorem st_is {X : Cx} {i : Nat} {b C : Addr} {oe : Obj} {pn : List (Addr × Obj)} {p p2 p3 pos : Pos} {n x y : Str} {r : Bool} (EK : ExK X.K X.mg x) (hC : X.mg x = some (.ref C)) (EI : ExI X.K X.mg x y r) (hz : Zc (.ref C) none oe) (hf : ∃ vs, oe.data = .fields vs) (hN : X.N[i]? = some n) (hv : Vis X.env.scope n)
    (hg : Gl X "isinstance") (hm : X.mg "isinstance" = none) (hg2 : Gl X y)
    (hd : (n == ("__debug__" : Str)) = false := by decide) (hcd : (n == ("__classdict__" : Str)) = false := by decide) (hd2 : (y == ("__debug__" : Str)) = false := by decide)
    (he : starEach [.Name n p2, .Name y p3] X.env = (false, eval (.Name n p2) X.env) :: starEach [.Name y p3] X.env := by rfl)
    (he2 : starEach [.Name y p3] X.env = (false, eval (.Name y p3) X.env) :: starEach [] X.env := by rfl)
    (hpl : (backTo pos (starEach [.Name y p3] X.env)).any (·.1) = false := by rfl)
    (ht : ∀ whole, isTrue (.Call (.Name "isinstance" p) [.Name n p2, .Name y p3] [] pos) X.env whole = (do let v ← whole; standAt (Expr.Call (.Name "isinstance" p) [.Name n p2, .Name y p3] [] pos).pos; holding [v] (truthy v)) := by intro _; rfl) :
    ST (X.suite b ((b, oe) :: pn)) i b (.Call (.Name "isinstance" p) [.Name n p2, .Name y p3] [] pos) r := by
  obtain ⟨D, e1, e2⟩ := EI
  exact st_isE (EK.at hC) hz hf hN hv hg hm hg2 e1 (e2 C hC) hd hcd hd2 he he2 hpl ht
end Z
set_option maxHeartbeats 4000000
/-! Z16: the head's facts, with the tables of code objects and the classes of exceptions. -/
namespace Z
open PySem PySem.Spec PyProof.Rows L2 He
/-- further facts of the head -/
inductive Fx where
  | exk (x : Str) | kit (x y : Str) (b : Bool) | bf (x : Str) (id : String)
def excB (K : PySem.W.Frag) (C : Addr) : Bool :=
  eqO (PySem.W.findIn K (.ref C) "__getattribute__") (some (some (.builtin "BaseException.__getattribute__"))) && (eqO (PySem.W.findIn K (.ref C) "__getattr__") (some none) && (decide (PySem.W.subIn K (.ref C) (.type "BaseException") = some true) && (PySem.W.hasDictIn K C &&
    (eqO (PySem.W.findIn K (.ref C) "__class__") (some (some (.builtin "object.__class__"))) && (eqO (PySem.W.specialIn K (.builtin "object.__class__") "__get__") (some (some (.builtin "getset_descriptor.__get__"))) && (decide (PySem.W.takesIn K (.builtin "object.__class__") = some true) && decide (PySem.W.mroIn K C (.type "object") = some true)))))))
def Fx.ok (K : PySem.W.Frag) : Fx → Bool
  | .exk x => excB K (ga K x)
  | .kit x y b => decide (PySem.W.kitOne K (.ref (ga K x)) (.ref (ga K y)) = some b)
  | .bf x id => eqO (PySem.W.nsIn K mainGlobals x) (some (some (.builtin id)))
theorem excB_ok {K : PySem.W.Frag} {C : Addr} (h : excB K C = true) : ExcC K C := by
  unfold excB at h
  obtain ⟨h1, h⟩ := ba h
  obtain ⟨h2, h⟩ := ba h
  obtain ⟨h3, h⟩ := ba h
  obtain ⟨h4, h⟩ := ba h
  obtain ⟨h5, h⟩ := ba h
  obtain ⟨h6, h⟩ := ba h
  obtain ⟨h7, h8⟩ := ba h
  exact ⟨eqO_ok h1, eqO_ok h2, of_decide_eq_true h3, h4, eqO_ok h5, eqO_ok h6, of_decide_eq_true h7, of_decide_eq_true h8⟩
/-! ### the code object of a def and its table -/
def codeOf (K : PySem.W.Frag) (x : Str) : Addr := match K.lookup (ga K x) with
  | some ⟨_, _, .func fd, _⟩ => (match fd.code with
    | .ref c => c
    | _ => 0)
  | _ => 0
def tabOf (K : PySem.W.Frag) (x : Str) : Addr := match K.lookup (codeOf K x) with
  | some ⟨_, _, .fields vs, _⟩ => (match (vs[11]? : Option Value) with
    | some (Value.ref P) => P
    | _ => 0)
  | _ => 0
def isS : Value → Bool
  | .str _ _ => true
  | _ => false
def isI : Value → Bool
  | .int _ _ => true
  | _ => false
def isB : Value → Bool
  | .bool _ => true
  | _ => false
def fnB (K : PySem.W.Frag) (x : Str) : Bool := match K.lookup (ga K x) with
  | some ⟨_, _, .func fd, _⟩ => decide (fd.code = .ref (codeOf K x))
  | _ => false
def cdB (K : PySem.W.Frag) (c P : Addr) : Bool := match K.lookup c with
  | some ⟨cls, _, .fields vs, _⟩ => decide (cls = .type "code") && (decide (vs[11]? = some (.ref P)) && (decide (vs.getD 11 .none = .ref P) && (isS (vs.getD 18 .none) && (isI (vs.getD 7 .none) && (isB (vs.getD 9 .none) && (isI (vs.getD 10 .none) && decide (c ≠ P)))))))
  | _ => false
def tbB (g : Addr → Option Obj) (P : Addr) : Bool := match g P with
  | some ⟨c, none, .fields vs, sl⟩ => decide (c = .none) && (decide (vs = #[]) && decide (sl = #[]))
  | _ => false
def lamB (g : Addr → Option Obj) (K : PySem.W.Frag) (x : Str) : Bool := fnB K x && (cdB K (codeOf K x) (tabOf K x) && (tbB g (tabOf K x) && (K.lookup (tabOf K x)).isNone))
theorem fnB_ok {K : PySem.W.Frag} {x : Str} (h : fnB K x = true) : ∃ oc od fd osl, K.lookup (ga K x) = some ⟨oc, od, .func fd, osl⟩ ∧ fd.code = .ref (codeOf K x) := by
  unfold fnB at h
  split at h
  · rename_i oc od fd osl e
    exact ⟨oc, od, fd, osl, e, of_decide_eq_true h⟩
  · cases h
theorem cdB_ok {K : PySem.W.Frag} {c P : Addr} {h : Heap} (KX : K.In h) (e : cdB K c P = true) : PySem.W.CodeHd h c P := by
  unfold cdB at e
  split at e
  · rename_i cls dd vs sl q
    obtain ⟨h1, e⟩ := ba e
    obtain ⟨h2, e⟩ := ba e
    obtain ⟨h3, e⟩ := ba e
    obtain ⟨h4, e⟩ := ba e
    obtain ⟨h5, e⟩ := ba e
    obtain ⟨h6, e⟩ := ba e
    obtain ⟨h7, h8⟩ := ba e
    have s4 : ∃ f t, vs.getD 18 .none = .str f t := by
      cases q4 : vs.getD 18 .none <;> rw [q4] at h4 <;> first | exact ⟨_, _, rfl⟩ | cases h4
    have s5 : ∃ f t, vs.getD 7 .none = .int f t := by
      cases q4 : vs.getD 7 .none <;> rw [q4] at h5 <;> first | exact ⟨_, _, rfl⟩ | cases h5
    have s6 : ∃ f, vs.getD 9 .none = .bool f := by
      cases q4 : vs.getD 9 .none <;> rw [q4] at h6 <;> first | exact ⟨_, rfl⟩ | cases h6
    have s7 : ∃ f t, vs.getD 10 .none = .int f t := by
      cases q4 : vs.getD 10 .none <;> rw [q4] at h7 <;> first | exact ⟨_, _, rfl⟩ | cases h7
    obtain ⟨f4, t4, s4⟩ := s4
    obtain ⟨f5, t5, s5⟩ := s5
    obtain ⟨f6, s6⟩ := s6
    obtain ⟨f7, t7, s7⟩ := s7
    exact ⟨_, vs, f4, t4, f5, t5, f6, f7, t7, KX _ _ q, of_decide_eq_true h1, rfl, of_decide_eq_true h2, of_decide_eq_true h3, s4, s5, s6, s7, of_decide_eq_true h8⟩
  · cases e
theorem tbB_ok {g : Addr → Option Obj} {P : Addr} (e : tbB g P = true) : g P = some { cls := .none, data := .fields #[] } := by
  unfold tbB at e
  split at e
  · rename_i c vs sl q
    obtain ⟨h1, e⟩ := ba e
    obtain ⟨h2, h3⟩ := ba e
    rw [q, of_decide_eq_true h1, of_decide_eq_true h2, of_decide_eq_true h3]
  · cases e
/-! ### the Hook -/
def asT (g : Addr → Option Obj) (n : Nat) (ms : List Str) : List Addr :=
  let as := asD g n
  let ps := ms.map (tabOf (frG g as))
  as.filter fun a => !ps.contains a
def frT (g : Addr → Option Obj) (n : Nat) (ms : List Str) : PySem.W.Frag := frG g (asT g n ms)
def distB : List Addr → Bool
  | [] => true
  | a :: as => !as.contains a && distB as
abbrev AlT : Type := AlD × Bool
def okT (g : Addr → Option Obj) (K : PySem.W.Frag) (fx : List Fx) (ms : List Str) : Bool := (fx.all fun f => f.ok K) && ((ms.all fun x => lamB g K x) && distB (ms.map (tabOf K)))
def obT (n : Nat) (fa : List Fa) (fn : List DefD) (fx : List Fx) (ms : List Str) (g : Addr → Option Obj) : AlT :=
  let K := frT g n ms
  (obsD fa fn K, okT g K fx ms)
def SaysT (fa : List Fa) (fn : List DefD) (fx : List Fx) (ms : List Str) (g : Addr → Option Obj) (K : PySem.W.Frag) : Prop := SaysD fa fn K ∧ okT g K fx ms = true
theorem tbB_keeps {g g' : Addr → Option Obj} (k : ∀ b o, g b = some o → g' b = some o) {P : Addr} (h : tbB g P = true) : tbB g' P = true := by
  have e := k _ _ (tbB_ok h)
  unfold tbB
  rw [e]
  rfl
theorem okT_keeps {g g' : Addr → Option Obj} (k : ∀ b o, g b = some o → g' b = some o) {K : PySem.W.Frag} {fx : List Fx} {ms : List Str} (h : okT g K fx ms = true) : okT g' K fx ms = true := by
  unfold okT at h ⊢
  obtain ⟨h1, h2⟩ := ba h
  obtain ⟨h3, h4⟩ := ba h2
  rw [h1, h4, Bool.true_and, Bool.and_true]
  refine List.all_eq_true.mpr fun x hx => ?_
  have h5 := List.all_eq_true.mp h3 x hx
  unfold lamB at h5 ⊢
  obtain ⟨k1, k2⟩ := ba h5
  obtain ⟨k3, k4⟩ := ba k2
  obtain ⟨k5, k6⟩ := ba k4
  rw [k1, k3, tbB_keeps k k5, k6]
  rfl
def hookT (n : Nat) (fa : List Fa) (fn : List DefD) (fx : List Fx) (ms : List Str) : PySem.W.Hook where
  α := AlT
  obs := fun s => obT n fa fn fx ms s.heap.get?
  val := fun _ => (valD fn, true)
  says := fun _ h => ∃ K : PySem.W.Frag, K.In h ∧ SaysT fa fn fx ms h.get? K
  of := fun _ s e => ⟨frT s.heap.get? n ms, frG_in, congrArg (fun z : AlT => z.1) e, congrArg (fun z : AlT => z.2) e⟩
  keeps := fun _ _ _ ⟨K, hK, c1, c2⟩ k => ⟨K, PySem.W.Frag.In.keeps hK k, c1, okT_keeps k c2⟩
theorem obT_eq {n : Nat} {fa : List Fa} {fn : List DefD} {fx : List Fx} {ms : List Str} {g : Addr → Option Obj} {s : Shared} (h : ∀ a, g a = s.heap.get? a) : obT n fa fn fx ms g = (hookT n fa fn fx ms).obs s := by
  have e : g = s.heap.get? := funext h
  rw [e] <;> rfl
section
variable {fa : List Fa} {fn : List DefD} {fx : List Fx} {ms : List Str} {g : Addr → Option Obj} {K : PySem.W.Frag} {h : Heap} {mg : Str → Option Value}
theorem SaysT.x (c : SaysT fa fn fx ms g K) (i : Nat) {f : Fx} (e : fx[i]? = some f := by rfl) : f.ok K = true :=
  List.all_eq_true.mp (ba c.2).1 f (List.mem_of_getElem? e)
theorem SaysT.lam (c : SaysT fa fn fx ms g K) {x : Str} (hx : x ∈ ms) : lamB g K x = true := List.all_eq_true.mp (ba (ba c.2).2).1 x hx
theorem distB_inj : ∀ {l : List Str} {f : Str → Addr}, distB (l.map f) = true → ∀ x ∈ l, ∀ y ∈ l, f x = f y → x = y
  | [], f, _, x, hx, _, _, _ => nomatch hx
  | a :: l, f, h, x, hx, y, hy, e => by
    rw [List.map_cons] at h
    unfold distB at h
    obtain ⟨h1, h2⟩ := ba h
    have n : ∀ z ∈ l, f a ≠ f z := fun z hz q => by
      have m : (l.map f).contains (f a) = true := by
        rw [List.contains_iff_mem, q]
        exact List.mem_map_of_mem hz
      rw [m] at h1
      cases h1
    rcases List.mem_cons.mp hx with ex | hx
    · rcases List.mem_cons.mp hy with ey | hy
      · rw [ex, ey]
      · rw [ex] at e; exact absurd e (n y hy)
    · rcases List.mem_cons.mp hy with ey | hy
      · rw [ey] at e; exact absurd e.symm (n x hx)
      · exact distB_inj h2 x hx y hy e
/-- the tables, by names -/
@[reducible] def ltOf (K : PySem.W.Frag) (ms : List Str) : LT := ⟨ms.map fun x => (tabOf K x, lamQ x)⟩
theorem SaysT.lamF (c : SaysT fa fn fx ms g K) {base : Heap} {x : Str} (hx : x ∈ ms) (hm : mg x = some (.ref (ga K x))) (T : LamX.TabB base mg (codeOf K x) (tabOf K x)) : @LamF (ltOf K ms) K mg base x := by
  obtain ⟨h1, _⟩ := ba (c.lam hx)
  obtain ⟨oc, od, fd, osl, e1, e2⟩ := fnB_ok h1
  refine @LamF.mk (ltOf K ms) K mg base x ⟨ga K x, codeOf K x, tabOf K x, fd, oc, od, osl, hm, e1, e2, T, List.mem_map.mpr ⟨x, hx, rfl⟩, fun p hp q => ?_⟩
  obtain ⟨y, hy, rfl⟩ := List.mem_map.mp (show p ∈ ms.map _ from hp)
  have := distB_inj (ba (ba c.2).2).2 y hy x hx q
  rw [this]
end
end Z
set_option maxHeartbeats 4000000
/-! Z17: the law's end. -/
namespace Z
open PySem PySem.Spec PyProof.Rows L2 He
section
variable [LT] {K : PySem.W.Frag} {mg : Str → Option Value}
theorem law_sp {m : M D} {H : Hp} {a : Addr} {ns : List Int} (hT : ∀ p ∈ LT.T, H p.1 = some (.tbl #[])) (hS : SqL K H a (ns.map V.int)) (h1 : ∃ S', m [.sh (.lst (ns.map .int))] = .ok (.bl true) S') (h2 : ∃ S', m [.sh (.frz (ns.map .int))] = .ok (.bl true) S') :
    spZ K mg 1 m [.ref a] H (fun v _ => v = .bl true) fun _ _ _ => False := by
  have T : LamX.Tabs LT.T H := fun p hp => LamX.TabS.nil (hT p hp)
  have go : ∀ (Sh : Addr → Prop) (d : D), (∃ S', m [.sh d] = .ok (.bl true) S') → Rep K Sh H (.ref a) d → (∀ b, Sh b → ¬ Nn H b) → spZ K mg 1 m [.ref a] H (fun v _ => v = .bl true) fun _ _ _ => False := fun Sh d ⟨S', e⟩ r f => by
    have A := RepA.abs (RepA.cons r .nil) f T
    refine ⟨rfl, [.sh d], Sh, A, ?_⟩
    rw [e]
    intro Sh' H' A' E' v rv
    cases rv
    rfl
  rcases hS with (hS | ⟨o, hS⟩) | hS
  · exact go (fun b => b = a) _ h1 (.lst hS rfl (RepA.ofInts ns)) fun b hb z => by
      rw [hb] at z
      exact z.lst hS
  · exact go (fun _ => False) _ h2 (.frz (.inl ⟨o, hS⟩) (RepA.ofInts ns)) fun b hb => hb.elim
  · exact go (fun _ => False) _ h2 (.frz (.inr hS) (RepA.ofInts ns)) fun b hb => hb.elim
end
theorem cx_false {P : Program} {w : World} {H : Hp} {s s' : Shared} {e : Value} (h : L2.CX P w [] H s (fun _ _ _ => False) e s') : False := by
  obtain ⟨_, _, _, _, _, _, _, _, _, _, _, _, z⟩ := h
  exact z
/-! ### facts by names -/
section
variable {K : PySem.W.Frag} {mg : Str → Option Value} {h : Heap}
theorem errC_of (X : K.In h) (G : h.Ns mainGlobals mg) {x : Str} (g : (Fa.glo x).ok K = true) (e : (Fa.exc x).ok K = true) : ErrC K mg x := ⟨⟨ga K x, glo_ok X G g, exc_ok e⟩⟩
theorem exK_of (X : K.In h) (G : h.Ns mainGlobals mg) {x : Str} (g : (Fa.glo x).ok K = true) (e : (Fx.exk x).ok K = true) : ExK K mg x := ⟨⟨ga K x, glo_ok X G g, excB_ok e⟩⟩
theorem exM_of (X : K.In h) (G : h.Ns mainGlobals mg) {x y : Str} (g : (Fa.glo x).ok K = true) (g2 : (Fa.glo y).ok K = true) (e : (Fa.exm x y true).ok K = true) : ExM K mg x y := fun C D hC hD => by
  have e1 := hC.symm.trans (glo_ok X G g)
  have e2 := hD.symm.trans (glo_ok X G g2)
  cases e1
  cases e2
  exact exm_ok e
theorem exI_of (X : K.In h) (G : h.Ns mainGlobals mg) {x y : Str} {b : Bool} (g : (Fa.glo x).ok K = true) (g2 : (Fa.glo y).ok K = true) (e : (Fx.kit x y b).ok K = true) : ExI K mg x y b := ⟨ga K y, glo_ok X G g2, fun C hC => by
  have e1 := hC.symm.trans (glo_ok X G g)
  cases e1
  exact of_decide_eq_true e⟩
theorem fun_of (X : K.In h) (G : h.Ns mainGlobals mg) {x : Str} {st : Stmt} (g : (Fa.glo x).ok K = true) {d : DefD} (hd : d = ⟨(x, none), x, x, defArgs st, defBody st, defScope st, [], []⟩) (F : ∃ fd, FunD K d.name d.qual d.params d.body d.scope (d.dvs K) (d.kws K) (fAd K d.at_) fd) :
    ∃ f fd, mg x = some (.ref f) ∧ FunD K x x (defArgs st) (defBody st) (defScope st) [] [] f fd := by
  subst hd
  obtain ⟨fd, F⟩ := F
  exact ⟨ga K x, fd, glo_ok X G g, F⟩
end
end Z
set_option maxHeartbeats 4000000
/-! Z18: comprehensions over a list of the frame's own. -/
namespace Z
open PySem PySem.Spec PyProof.Rows L2
variable [LT]
def ownAt (o : Nat) (S : Fr) : Option (List D) := (S[o]?).bind Sl.owned
/-- the list's present content is read at each step -/
def lcO (o : Nat) (vs : List Nat) (g : D → M Unit) (t : M Bool) (e : M Vx) : Nat → Nat → M (List D)
  | 0, k => fun S => match ownAt o S with
    | some xs => if xs.length = k then .ok [] S else .stuck
    | none => .stuck
  | n + 1, k => fun S => match (ownAt o S).bind fun xs => xs[k]? with
    | some d => ((g d S).bind fun _ => bnd t fun c => if c = true then bnd e fun x => bnd (esc x) fun y => bnd (wp vs) fun _ => bnd (lcO o vs g t e n (k + 1)) fun ys => ret (y :: ys) else bnd (wp vs) fun _ => lcO o vs g t e n (k + 1))
    | none => .stuck
def nLcO (o : Nat) (vs : List Nat) (g : D → M Unit) (t : M Bool) (e : M Vx) : M (List D) := fun S => match ownAt o S with
  | some ds => (match lcO o vs g t e ds.length 0 (wipeS S vs) with
    | .ok ys S' => if ys.length ≤ sizeLine then .ok ys (unwipe S S' vs) else .stuck
    | _ => .stuck)
  | none => .stuck
theorem ownAt_abs {K : PySem.W.Frag} {S : Fr} {σ : St} {H : Hp} {Sh : Addr → Prop} {o : Nat} {xs : List D} (A : Abs K S σ H Sh) (h : ownAt o S = some xs) : ∃ a vs, σ[o]? = some (some (.ref a)) ∧ H a = some (.lst vs) ∧ RepA K Sh H vs xs := by
  unfold ownAt at h
  cases q : S[o]? with
  | none => rw [q] at h; cases h
  | some sl =>
    rw [q] at h
    obtain ⟨a, vs, e1, e2, r, _⟩ := A.ow o sl xs q h
    exact ⟨a, vs, e1, e2, r⟩
section
variable {X : Cx} {W : WX} {tg e elt iter : Expr} {ws : List Nat} {g : D → M Unit} {me : M Vx} {t : M Bool} {ifs : List Expr} {scope : Scope} {own : List (Str × Nat)} {pos : Pos}
theorem lcO_read {o : Nat} {σ : St} {H : Hp} {Q : VK} (ho : o ∉ own.map (·.2)) (hws : ∀ j ∈ ws, j ∈ own.map (·.2)) (h : tN X.K X.mg W (nLcO o (own.map (·.2)) g t me) σ H Q) : tLc (iList X.K (tVar o)) (tG X.K X.mg W0 ws g) (tT X.K X.mg W0 t) (tE X.K X.mg W0 me) (own.map (·.2)) σ H Q := by
  obtain ⟨S1, Sh1, A1, g1⟩ := h
  generalize hvs : own.map (·.2) = vs at g1 hws ho
  unfold nLcO at g1
  cases qo : ownAt o S1 with
  | none => simp only [qo] at g1; exact g1.elim
  | some ds =>
  simp only [qo] at g1
  obtain ⟨a, us0, hσ, ha, ra⟩ := ownAt_abs A1 qo
  refine ⟨.ref a, hσ, a, rfl, ⟨us0, .inl (.inl ha)⟩, fun D hD => ?_⟩
  have E1 := Ext.refl A1
  have hD0 : Nn H D := .of hD
  generalize hH1 : H = H1 at *
  -- the end, seen from the block's start
  have hR : Rest X.K X.mg (L2.wipe σ vs) (wipeS S1 vs) Sh1 H1 (lcO o vs g t me ds.length 0 (wipeS S1 vs)) [] fun ys S' Sh' H' => ∀ us, H' D = some (.lst us) → RepA X.K Sh' H' us ys → ¬ Sh' D → ¬ Ow S' (L2.wipe σ vs) D → Q (.ref D) H' := by
    cases q : lcO o vs g t me ds.length 0 (wipeS S1 vs) with
    | ok ys S' =>
      simp only [q] at g1
      split at g1
      · rename_i hl
        refine ⟨hl, fun Sh' H' A' E' us h1 h2 h3 h4 => ?_⟩
        obtain ⟨A2, E2⟩ := A1.unwipe A' E'
        refine g1 Sh' H' A2 E2 D us h1 h2 h3 (fun w => ?_) hD0
        rcases E2.own D w with z | z
        · obtain ⟨⟨us', e⟩, _⟩ := A1.owLst z
          rw [hD] at e; cases e
        · -- new since: it stands in the block's slots
          obtain ⟨j, sl, ds', e1, e2, e3⟩ := w
          by_cases hj : j ∈ vs
          · have hl' : S'.length = S1.length := by rw [A'.len, wipe_length, A1.len]
            rw [unwipe_in hl' hj] at e1
            obtain ⟨a, us', f3, f4, _⟩ := A1.ow j sl ds' e1 e2
            rw [e3] at f3; cases f3
            rw [hD] at f4; cases f4
          · rw [unwipe_out hj] at e1
            exact h4 ⟨j, sl, ds', e1, e2, by rw [wipe_out hj]; exact e3⟩
      · exact g1.elim
    | exc x S' => simp only [q] at g1; exact g1.elim
    | stuck => simp only [q] at g1; exact g1.elim
  have AW : Abs X.K (wipeS S1 vs) (L2.wipe σ vs) H1 Sh1 := A1.wipe
  refine ⟨fun i n H2 => n = ds.length - i ∧ i ≤ ds.length ∧ ∃ S2 Sh2 acc us, Abs X.K S2 (L2.wipe σ vs) H2 Sh2 ∧ Ext (wipeS S1 vs) (L2.wipe σ vs) Sh1 H1 S2 (L2.wipe σ vs) Sh2 H2 ∧ H2 D = some (.lst us) ∧ RepA X.K Sh2 H2 us acc ∧ ¬ Sh2 D ∧ ¬ Ow S2 (L2.wipe σ vs) D ∧
      Rest X.K X.mg (L2.wipe σ vs) (wipeS S1 vs) Sh1 H1 (lcO o vs g t me (ds.length - i) i S2) acc fun ys S' Sh' H' => ∀ us, H' D = some (.lst us) → RepA X.K Sh' H' us ys → ¬ Sh' D → ¬ Ow S' (L2.wipe σ vs) D → Q (.ref D) H',
    ⟨ds.length, by simp, Nat.zero_le _, wipeS S1 vs, Sh1, [], [], AW.newObj hD, Ext.newObj AW hD, upd_same, .nil, fun z => AW.fresh D z (.of hD), not_ow_new AW hD, hR⟩, ?_⟩
  rintro i n H2 ⟨rfl, hil, S2, Sh2, acc, us, A2, E2, d2, r2, ns2, no2, R2⟩
  have k2 : Kp Sh1 H1 H2 := E2.kp AW
  by_cases hl : i = ds.length
  · rw [hl, Nat.sub_self] at R2
    unfold lcO at R2
    cases q0 : ownAt o S2 with
    | none => rw [q0] at R2; exact R2.elim
    | some xs =>
    rw [q0] at R2
    simp only at R2
    split at R2
    rotate_left
    · exact R2.elim
    rename_i hxl
    obtain ⟨a2, us2, hσ2, ha2, ra2⟩ := ownAt_abs A2 q0
    rw [wipe_out ho, hσ] at hσ2
    cases hσ2
    refine .inl ⟨⟨us2, .inl (.inl ha2), by rw [ra2.length, hxl, hl]; exact Nat.le_refl _⟩, ?_⟩
    exact (Rest.ok (ys := []) R2).2 Sh2 H2 A2 E2 us d2 (by rw [List.append_nil]; exact r2) ns2 no2
  · have hlt : i < ds.length := by omega
    rw [show ds.length - i = (ds.length - (i + 1)) + 1 by omega] at R2
    unfold lcO at R2
    cases q0 : ownAt o S2 with
    | none => rw [q0] at R2; exact R2.elim
    | some xs =>
    rw [q0] at R2
    simp only [Option.bind_some] at R2
    cases q00 : xs[i]? with
    | none => rw [q00] at R2; exact R2.elim
    | some dd =>
    rw [q00] at R2
    obtain ⟨a2, us2, hσ2, ha2, ra2⟩ := ownAt_abs A2 q0
    rw [wipe_out ho, hσ] at hσ2
    cases hσ2
    obtain ⟨vv, hvv, rvv⟩ := ra2.get q00
    refine .inr ⟨⟨us2, vv, .inl (.inl ha2), hvv⟩, fun H' => ∃ S2 Sh2 acc us, Abs X.K S2 (L2.wipe σ vs) H' Sh2 ∧ Ext (wipeS S1 vs) (L2.wipe σ vs) Sh1 H1 S2 (L2.wipe σ vs) Sh2 H' ∧ H' D = some (.lst us) ∧ RepA X.K Sh2 H' us acc ∧ ¬ Sh2 D ∧ ¬ Ow S2 (L2.wipe σ vs) D ∧
      Rest X.K X.mg (L2.wipe σ vs) (wipeS S1 vs) Sh1 H1 (lcO o vs g t me (ds.length - (i + 1)) (i + 1) S2) acc fun ys S' Sh' H' => ∀ us, H' D = some (.lst us) → RepA X.K Sh' H' us ys → ¬ Sh' D → ¬ Ow S' (L2.wipe σ vs) D → Q (.ref D) H', fun H' hN => ⟨ds.length - (i + 1), by omega, rfl, hlt, hN⟩, fun x H3 hy => ?_⟩
    obtain ⟨rfl, hy⟩ := hy
    have ex := hy us2 (.inl (.inl ha2))
    rw [hvv] at ex
    cases ex
    have A3 := A2
    have E3 := Ext.refl A2
    have R2 : Rest X.K X.mg (L2.wipe σ vs) (wipeS S1 vs) Sh1 H1 (((g dd S2).bind fun _ => bnd t fun c => if c = true then bnd me fun x => bnd (esc x) fun y => bnd (wp vs) fun _ => bnd (lcO o vs g t me (ds.length - (i + 1)) (i + 1)) fun ys => ret (y :: ys) else bnd (wp vs) fun _ => lcO o vs g t me (ds.length - (i + 1)) (i + 1))) acc _ := R2
    have r3' := rvv
    refine ⟨S2, Sh2, dd, A3, r3', ?_⟩
    -- the target
    cases q1 : g dd S2 with
    | exc z S' => rw [q1] at R2; exact R2.elim
    | stuck => rw [q1] at R2; exact R2.elim
    | ok u S3 =>
      rw [q1] at R2
      intro σ4 Sh4 H4 A4 E4 h4
      have ew : L2.wipe σ4 vs = L2.wipe σ vs := wipe_same h4 hws
      have R2 : Rest X.K X.mg (L2.wipe σ vs) (wipeS S1 vs) Sh1 H1 ((t S3).bind fun c => if c = true then bnd me fun x => bnd (esc x) fun y => bnd (wp vs) fun _ => bnd (lcO o vs g t me (ds.length - (i + 1)) (i + 1)) fun ys => ret (y :: ys) else bnd (wp vs) fun _ => lcO o vs g t me (ds.length - (i + 1)) (i + 1)) acc _ := R2
      have Et4 := E3.trans E4
      refine ⟨ew, S3, Sh4, A4, ?_⟩
      cases q2 : t S3 with
      | exc z S' => rw [q2] at R2; exact R2.elim
      | stuck => rw [q2] at R2; exact R2.elim
      | ok c S4 =>
        rw [q2] at R2
        intro Sh5 H5 A5 E5
        have Et5 := Et4.trans E5
        cases c with
        | false =>
          refine iteF ?_
          obtain ⟨d5, ns5, no5⟩ := Et5.priv d2 ns2 no2
          refine ⟨wipeS S4 vs, Sh5, acc, us, A5.rewipe ew, (E2.trans Et5).rewipe ew, d5, RepA.mono (Et5.kp A2) Et5.sub _ _ r2, ns5, fun w => ?_, R2⟩
          rw [← ew] at w
          obtain ⟨k, sl', ds', hk, f1, f2, f3⟩ := ow_wipe w
          exact no5 ⟨k, sl', ds', f1, f2, f3⟩
        | true =>
          refine iteT ?_
          have R2 : Rest X.K X.mg (L2.wipe σ vs) (wipeS S1 vs) Sh1 H1 ((me S4).bind fun x => bnd (esc x) fun y => bnd (wp vs) fun _ => bnd (lcO o vs g t me (ds.length - (i + 1)) (i + 1)) fun ys => ret (y :: ys)) acc _ := R2
          refine ⟨S4, Sh5, A5, ?_⟩
          cases q3 : me S4 with
          | exc z S' => rw [q3] at R2; exact R2.elim
          | stuck => rw [q3] at R2; exact R2.elim
          | ok x S5 =>
            rw [q3] at R2
            intro Sh6 H6 A6 E6 v rv
            have R2 : Rest X.K X.mg (L2.wipe σ vs) (wipeS S1 vs) Sh1 H1 ((esc x S5).bind fun y => bnd (wp vs) fun _ => bnd (lcO o vs g t me (ds.length - (i + 1)) (i + 1)) fun ys => ret (y :: ys)) acc _ := R2
            rcases esc_ok A6 rv with q4 | ⟨d, S6, Sh7, q4, A7, E7, r7⟩
            · rw [q4] at R2; exact R2.elim
            · rw [q4] at R2
              have R2 : Rest X.K X.mg (L2.wipe σ vs) (wipeS S1 vs) Sh1 H1 ((lcO o vs g t me (ds.length - (i + 1)) (i + 1) (wipeS S6 vs)).bind fun ys => ret (d :: ys)) acc _ := R2
              have Et7 := (Et5.trans E6).trans E7
              obtain ⟨d7, ns7, no7⟩ := Et7.priv d2 ns2 no2
              have r2' := RepA.mono (Et7.kp A2) Et7.sub _ _ r2
              have no7' : ¬ Ow (wipeS S6 vs) (L2.wipe σ vs) D := fun w => by
                rw [← ew] at w
                obtain ⟨k, sl', ds', hk, f1, f2, f3⟩ := ow_wipe w
                exact no7 ⟨k, sl', ds', f1, f2, f3⟩
              have kpa : Kp Sh7 H6 (upd H6 D (.lst (us ++ [v]))) := kp_at d7 ns7
              cases q5 : lcO o vs g t me (ds.length - (i + 1)) (i + 1) (wipeS S6 vs) with
              | exc z S' => rw [q5] at R2; exact R2.elim
              | stuck => rw [q5] at R2; exact R2.elim
              | ok ys S7 =>
                rw [q5] at R2
                have R2 : Rest X.K X.mg (L2.wipe σ vs) (wipeS S1 vs) Sh1 H1 (.ok (d :: ys) S7) acc _ := R2
                have hlen : (acc ++ d :: ys).length ≤ sizeLine := (Rest.ok R2).1
                refine ⟨us, d7, ?_, wipeS S6 vs, Sh7, acc ++ [d], us ++ [v], (A7.rewipe ew).acc d7 ns7 no7', ((E2.trans Et7).rewipe ew).acc (.of hD), upd_same, ?_, ns7, no7', ?_⟩
                · rw [r2.length]
                  rw [List.length_append, List.length_cons] at hlen
                  omega
                · exact RepA.mono kpa (fun _ h => h) _ _ (r2'.append (.cons r7 .nil))
                · rw [q5]
                  have e : acc ++ [d] ++ ys = acc ++ d :: ys := by rw [List.append_assoc]; rfl
                  show ((acc ++ [d]) ++ ys).length ≤ sizeLine ∧ _
                  rw [e]
                  exact R2
theorem n_lcO {o : Nat} {x : Str} {ip : Pos} (hNo : X.N[o]? = some x) (hvo : Vis X.env.scope x) (ho : o ∉ own.map (·.2)) (hc : X.calm = true) (hN : X.N.Nodup) (ok : BlkOk X.N X.env.scope scope own) (hws : ∀ j ∈ ws, j ∈ own.map (·.2))
    (hg : ∀ (s : Shared) (H : Hp) (C : Addr) (cl : List (Str × Addr)) (fp : List Addr), MG (X.blk s H scope (compEnvC scope cl C X.env) fp) W0 tg ws g) (ht : ∀ (s : Shared) (H : Hp) (C : Addr) (cl : List (Str × Addr)) (fp : List Addr), MTs (X.blk s H scope (compEnvC scope cl C X.env) fp) W0 ifs t)
    (he : ∀ (s : Shared) (H : Hp) (C : Addr) (cl : List (Str × Addr)) (fp : List Addr), ME (X.blk s H scope (compEnvC scope cl C X.env) fp) W0 elt me) (hs : ∀ y, foldedSetIterable (.Name x ip) X.env y = pure y := by intro _; rfl)
    (hd : (x == ("__debug__" : Str)) = false := by decide) (hcd : (x == ("__classdict__" : Str)) = false := by decide) :
    MN X W (.ListComp elt [⟨tg, .Name x ip, ifs, 0⟩] scope pos) (nLcO o (own.map (·.2)) g t me) :=
  PE.imp (pe_lc (g := tG X.K X.mg W0 ws g) (tt := tT X.K X.mg W0 t) (te := tE X.K X.mg W0 me) hc hN (pi_list (pe_var hNo hvo hd hcd)) ok hg ht he hs) fun σ H Q h => lcO_read ho hws h
end
end Z
set_option maxHeartbeats 4000000
/-! P1: the plain functions evaluated. -/
namespace Z
open PySem PySem.Spec PyProof.Rows L2
section
variable {α β : Type} {S S1 : Fr} {a : α} {x : Xc}
@[simp] theorem bind_ok {f : α → M β} : (Res.ok a S).bind f = f a S := id rfl
@[simp] theorem bind_exc {f : α → M β} : (Res.exc x S : Res α).bind f = .exc x S := id rfl
@[simp] theorem bind_stuck {f : α → M β} : (Res.stuck : Res α).bind f = .stuck := id rfl
@[simp] theorem bnd_ap {m : M α} {f : α → M β} : bnd m f S = (m S).bind f := id rfl
@[simp] theorem ret_ap : ret a S = .ok a S := id rfl
end
section
variable {S : Fr} {d : D} {i : Nat} {m ma mb mc : M Vx} {ms : M (List Vx)} {t u : M Bool}
@[simp] theorem mC_ap : mC d S = .ok (.val d) S := id rfl
@[simp] theorem m2_ap {f : Vx → Vx → M Vx} : m2 f ma mb S = (ma S).bind fun x S1 => (mb S1).bind fun y S2 => f x y S2 := id rfl
@[simp] theorem m1_ap {f : D → Option D} : m1 f ma S = (ma S).bind (d1 f) := id rfl
@[simp] theorem deref_val : deref S (.val d) = some d := id rfl
@[simp] theorem esc_val : esc (.val d) S = .ok d S := id rfl
@[simp] theorem escs_nil : escs [] S = .ok [] S := id rfl
@[simp] theorem escs_cons {x : Vx} {xs : List Vx} : escs (x :: xs) S = (esc x S).bind fun d S1 => (escs xs S1).bind fun ds => ret (d :: ds) := id rfl
@[simp] theorem derefs_nil : derefs S [] = some [] := id rfl
@[simp] theorem derefs_val {xs : List Vx} : derefs S (.val d :: xs) = (derefs S xs).map (d :: ·) := by
  show (match deref S (.val d), derefs S xs with | some d, some ds => some (d :: ds) | _, _ => none) = _
  cases derefs S xs <;> rfl
@[simp] theorem d1_val {f : D → Option D} : d1 f (.val d) S = (match f d with | some z => .ok (.val z) S | none => .stuck) := id rfl
@[simp] theorem d2_val {f : D → D → Option D} {e : D} : d2 f (.val d) (.val e) S = (match f d e with | some z => .ok (.val z) S | none => .stuck) := id rfl
@[simp] theorem toB_ap : toB m S = (m S).bind fun x S => (match deref S x with | some (.bl b) => .ok b S | _ => .stuck) := id rfl
@[simp] theorem mAndV_ap : mAndV ma mb S = (toB ma S).bind fun c => if c = true then mb else mC (.bl false) := id rfl
@[simp] theorem mOrV_ap : mOrV ma mb S = (toB ma S).bind fun c => if c = true then mC (.bl true) else mb := id rfl
@[simp] theorem mNotV_ap : mNotV ma S = (toB ma S).bind fun c => mC (.bl (!c)) := id rfl
@[simp] theorem mAnd_ap : mAnd t u S = (t S).bind fun c => if c = true then u else ret false := id rfl
@[simp] theorem mOr_ap : mOr t u S = (t S).bind fun c => if c = true then ret true else u := id rfl
@[simp] theorem mNot_ap : mNot t S = (t S).bind fun c => ret (!c) := id rfl
@[simp] theorem mIf_ap : mIf t ma mb S = (t S).bind fun c => if c = true then ma else mb := id rfl
@[simp] theorem mChain_ap {f g : Vx → Vx → M Vx} : mChain f g ma mb mc S = (ma S).bind fun x => bnd mb fun y => bnd (toB (f x y)) fun k => if k = true then bnd mc fun z => g y z else mC (.bl false) := id rfl
@[simp] theorem aNil_ap : aNil S = .ok [] S := id rfl
@[simp] theorem aCons_ap : aCons m ms S = (m S).bind fun x => bnd ms fun xs => ret (x :: xs) := id rfl
@[simp] theorem mTup_ap : mTup ms S = (ms S).bind fun xs => bnd (escs xs) fun ds S => if ds.length ≤ sizeLine then .ok (.val (.tup ds)) S else .stuck := id rfl
@[simp] theorem mLst_ap : mLst ms S = (ms S).bind fun xs => bnd (escs xs) fun ds S => if ds.length ≤ sizeLine then .ok (.val (.lst ds)) S else .stuck := id rfl
@[simp] theorem mB_ap {f : List D → Option D} : mB f ms S = (ms S).bind fun xs S => (match derefs S xs with | some ds => (match f ds with | some z => .ok (.val z) S | none => .stuck) | none => .stuck) := id rfl
@[simp] theorem iteM {α : Type} {p : Prop} [Decidable p] {m n : M α} : (if p then m else n) S = if p then m S else n S := by split <;> rfl
variable {mf nf : M Fl}
@[simp] theorem mSkip_ap : mSkip S = .ok .next S := id rfl
@[simp] theorem mSeq_ap : mSeq mf nf S = (mf S).bind fun fl => (match fl with | .next => nf | f => ret f) := id rfl
@[simp] theorem mExpr_ap : mExpr m S = (m S).bind fun _ => ret .next := id rfl
@[simp] theorem mRet_ap : mRet m S = (m S).bind fun x => bnd (esc x) fun d => ret (.ret d) := id rfl
@[simp] theorem mIfS_ap : mIfS t mf nf S = (t S).bind fun c => if c = true then mf else nf := id rfl
@[simp] theorem mRaise_ap {z : Xc} : mRaise z S = .exc z S := id rfl
@[simp] theorem chkLen_ap {np : Nat} {xs : List Vx} : chkLen np xs S = if xs.length = np then .ok () S else .stuck := id rfl
@[simp] theorem mCallN_ap {np : Nat} {md : M D} : mCallN np md ms S = (ms S).bind fun xs => bnd (chkLen np xs) fun _ => call0 md xs := id rfl
@[simp] theorem call0_ap {md : M D} {xs : List Vx} : call0 md xs S = (escs xs S).bind fun ds S => (match md (ds.map .sh) with | .ok d _ => .ok (.val d) S | .exc x _ => .exc x S | .stuck => .stuck) := id rfl
end

/-! ### loops -/
def nio : Sl → Prop
  | .io _ => False
  | _ => True
@[simp] theorem nio_un : nio .un := trivial
@[simp] theorem nio_sh {d : D} : nio (.sh d) := trivial
@[simp] theorem nio_ow {d : List D} : nio (.ow d) := trivial
theorem gN_nio {S : Fr} {i : Nat} {s : Sl} {d : D} (h : S[i]? = some s) (n : nio s) : gN i d S = .ok () (S.set i (.sh d)) := by
  unfold gN
  rw [h]
  cases s <;> first | rfl | exact n.elim
section
variable {g : D → M Unit} {body : M Fl}
theorem forL_nil {S : Fr} : forL g body [] S = .ok .next S := id rfl
/-- a loop that runs to its end -/
theorem forL_run (P : Nat → Fr → Prop) {ds : List D} {S0 : Fr} (h0 : P 0 S0) (hs : ∀ i d S, ds[i]? = some d → P i S → ∃ fl S2, (bnd (g d) fun _ => body) S = .ok fl S2 ∧ (fl = .next ∨ fl = .cnt) ∧ P (i + 1) S2) : ∃ S', forL g body ds S0 = .ok .next S' ∧ P ds.length S' := by
  induction ds generalizing P S0 with
  | nil => exact ⟨S0, rfl, h0⟩
  | cons d ds ih =>
    obtain ⟨fl, S2, e1, e2, e3⟩ := hs 0 d S0 rfl h0
    obtain ⟨S', e4, e5⟩ := ih (fun i => P (i + 1)) e3 fun i d' S hd => hs (i + 1) d' S (by simpa using hd)
    refine ⟨S', ?_, e5⟩
    have e1' : (g d S0).bind (fun _ => body) = .ok fl S2 := e1
    show ((g d S0).bind fun _ => bnd body fun fl => _) = _
    cases q : g d S0 with
    | ok u S1 =>
      rw [q] at e1'
      have e1'' : body S1 = .ok fl S2 := e1'
      show (body S1).bind _ = _
      rw [e1'']
      rcases e2 with rfl | rfl <;> exact e4
    | exc x S1 => rw [q] at e1'; cases e1'
    | stuck => rw [q] at e1'; cases e1'
/-- a loop that returns at place k -/
theorem forL_ret (P : Nat → Fr → Prop) {ds : List D} {S0 S9 : Fr} {z : D} (k : Nat) {dk : D} (hk : ds[k]? = some dk) (h0 : P 0 S0) (hs : ∀ i d S, i < k → ds[i]? = some d → P i S → ∃ fl S2, (bnd (g d) fun _ => body) S = .ok fl S2 ∧ (fl = .next ∨ fl = .cnt) ∧ P (i + 1) S2)
    (he : ∀ S, P k S → ∃ S9, (bnd (g dk) fun _ => body) S = .ok (.ret z) S9) : ∃ S', forL g body ds S0 = .ok (.ret z) S' := by
  induction k generalizing P S0 ds with
  | zero =>
    cases ds with
    | nil => simp at hk
    | cons d ds =>
      have e : d = dk := by simpa using hk
      subst e
      obtain ⟨S9, e1⟩ := he S0 h0
      refine ⟨S9, ?_⟩
      have e1' : (g d S0).bind (fun _ => body) = .ok (.ret z) S9 := e1
      show ((g d S0).bind fun _ => bnd body fun fl => _) = _
      cases q : g d S0 with
      | ok u S1 =>
        rw [q] at e1'
        have e1'' : body S1 = .ok (.ret z) S9 := e1'
        show (body S1).bind _ = _
        rw [e1'']
        rfl
      | exc x S1 => rw [q] at e1'; cases e1'
      | stuck => rw [q] at e1'; cases e1'
  | succ k ih =>
    cases ds with
    | nil => simp at hk
    | cons d ds =>
      obtain ⟨fl, S2, e1, e2, e3⟩ := hs 0 d S0 (Nat.succ_pos _) rfl h0
      obtain ⟨S', e4⟩ := ih (fun i => P (i + 1)) (ds := ds) (by simpa using hk) e3 (fun i d' S hi hd => hs (i + 1) d' S (by omega) (by simpa using hd)) he
      refine ⟨S', ?_⟩
      have e1' : (g d S0).bind (fun _ => body) = .ok fl S2 := e1
      show ((g d S0).bind fun _ => bnd body fun fl => _) = _
      cases q : g d S0 with
      | ok u S1 =>
        rw [q] at e1'
        have e1'' : body S1 = .ok fl S2 := e1'
        show (body S1).bind _ = _
        rw [e1'']
        rcases e2 with rfl | rfl <;> exact e4
      | exc x S1 => rw [q] at e1'; cases e1'
      | stuck => rw [q] at e1'; cases e1'
end
/-! ### list comprehensions -/
def lcStep (vs : List Nat) (g : D → M Unit) (t : M Bool) (e : M Vx) (d : D) : M (Option D) := bnd (g d) fun _ => bnd t fun c => if c = true then bnd e fun x => bnd (esc x) fun y => bnd (wp vs) fun _ => ret (some y) else bnd (wp vs) fun _ => ret none
section
variable {vs : List Nat} {g : D → M Unit} {t : M Bool} {e : M Vx}
theorem lcL_cons {d : D} {ds : List D} {S S1 S2 : Fr} {o : Option D} {ys : List D} (h : lcStep vs g t e d S = .ok o S1) (h2 : lcL vs g t e ds S1 = .ok ys S2) : lcL vs g t e (d :: ds) S = .ok (o.toList ++ ys) S2 := by
  show ((g d S).bind fun _ => bnd t fun c => _) = _
  have h' : ((g d S).bind fun _ => bnd t fun c => if c = true then bnd e fun x => bnd (esc x) fun y => bnd (wp vs) fun _ => ret (some y) else bnd (wp vs) fun _ => ret none) = .ok o S1 := h
  cases q1 : g d S with
  | exc x S => rw [q1] at h'; cases h'
  | stuck => rw [q1] at h'; cases h'
  | ok u Sa =>
    rw [q1] at h'
    have h' : ((t Sa).bind fun c => if c = true then bnd e fun x => bnd (esc x) fun y => bnd (wp vs) fun _ => ret (some y) else bnd (wp vs) fun _ => ret none) = .ok o S1 := h'
    show ((t Sa).bind fun c => _) = _
    cases q2 : t Sa with
    | exc x S => rw [q2] at h'; cases h'
    | stuck => rw [q2] at h'; cases h'
    | ok c Sb =>
      rw [q2] at h'
      cases c with
      | false =>
        have h' : Res.ok (none : Option D) (wipeS Sb vs) = .ok o S1 := h'
        cases h'
        exact h2
      | true =>
        have h' : ((e Sb).bind fun x => bnd (esc x) fun y => bnd (wp vs) fun _ => ret (some y)) = .ok o S1 := h'
        show ((e Sb).bind fun x => _) = _
        cases q3 : e Sb with
        | exc x S => rw [q3] at h'; cases h'
        | stuck => rw [q3] at h'; cases h'
        | ok x Sc =>
          rw [q3] at h'
          have h' : ((esc x Sc).bind fun y => bnd (wp vs) fun _ => ret (some y)) = .ok o S1 := h'
          show ((esc x Sc).bind fun y => _) = _
          cases q4 : esc x Sc with
          | exc x S => rw [q4] at h'; cases h'
          | stuck => rw [q4] at h'; cases h'
          | ok y Sd =>
            rw [q4] at h'
            have h' : Res.ok (some y) (wipeS Sd vs) = .ok o S1 := h'
            cases h'
            show ((lcL vs g t e ds (wipeS Sd vs)).bind fun ys => ret (y :: ys)) = _
            rw [h2]
            rfl
theorem lcL_fm {α : Type} {F : Fr} (emb : α → D) (f : α → Option D) : ∀ {as : List α}, (∀ a ∈ as, lcStep vs g t e (emb a) F = .ok (f a) F) → lcL vs g t e (as.map emb) F = .ok (as.filterMap f) F
  | [], _ => rfl
  | a :: as, h => by
    have r := lcL_cons (h a List.mem_cons_self) (lcL_fm emb f fun b hb => h b (List.mem_cons_of_mem _ hb))
    rw [List.map_cons, r]
    cases q : f a with
    | none => rw [List.filterMap_cons_none q]; rfl
    | some b => rw [List.filterMap_cons_some q]; rfl
/-- with a state that changes -/
theorem lcL_run (P : Nat → List D → Fr → Prop) {ds : List D} {S0 : Fr} (h0 : P 0 [] S0) (hs : ∀ i d acc S, ds[i]? = some d → P i acc S → ∃ o S2, lcStep vs g t e d S = .ok o S2 ∧ P (i + 1) (acc ++ o.toList) S2) : ∃ ys S', lcL vs g t e ds S0 = .ok ys S' ∧ P ds.length ys S' := by
  suffices h : ∀ (ds : List D) (P : Nat → List D → Fr → Prop) (acc : List D) (S0 : Fr), P 0 acc S0 → (∀ i d acc S, ds[i]? = some d → P i acc S → ∃ o S2, lcStep vs g t e d S = .ok o S2 ∧ P (i + 1) (acc ++ o.toList) S2) → ∃ ys S', lcL vs g t e ds S0 = .ok ys S' ∧ P ds.length (acc ++ ys) S' by
    obtain ⟨ys, S', e1, e2⟩ := h ds P [] S0 h0 hs
    exact ⟨ys, S', e1, by simpa using e2⟩
  intro ds
  induction ds with
  | nil => intro P acc S0 h0 hs; exact ⟨[], S0, rfl, by simpa using h0⟩
  | cons d ds ih =>
    intro P acc S0 h0 hs
    obtain ⟨o, S2, e1, e2⟩ := hs 0 d acc S0 rfl h0
    obtain ⟨ys, S', e3, e4⟩ := ih (fun i => P (i + 1)) (acc ++ o.toList) S2 e2 fun i d' acc S hd => hs (i + 1) d' acc S (by simpa using hd)
    exact ⟨_, S', lcL_cons e1 e3, by simpa [List.append_assoc] using e4⟩
theorem nLc_ok {mi : M (List D)} {S S1 S2 : Fr} {ds ys : List D} (h1 : mi S = .ok ds S1) (h2 : lcL vs g t e ds (wipeS S1 vs) = .ok ys S2) (h3 : ys.length ≤ sizeLine) : nLc vs mi g t e S = .ok ys (unwipe S1 S2 vs) := by
  show (mi S).bind _ = _
  rw [h1]
  show (match lcL vs g t e ds (wipeS S1 vs) with | .ok ys S' => if ys.length ≤ sizeLine then Res.ok ys (unwipe S1 S' vs) else .stuck | _ => .stuck) = _
  rw [h2]
  exact if_pos h3
end
end Z
set_option maxHeartbeats 4000000
/-! P2: equality of data; whole numbers in lists and tuples. -/
namespace Z
open PySem PySem.Spec PyProof.Rows L2
variable [LT]
def lay (d : D) : Bool := PyData.canLay0 d.toPy
def dpt (d : D) : Nat := PyData.depth d.toPy
theorem layA : ∀ (xs : List D), PyData.canLayAll0 (D.toPyA xs) = xs.all lay
  | [] => by simp [D.toPyA, PyData.canLayAll0]
  | x :: xs => by
    rw [D.toPyA, PyData.canLayAll0, layA xs, List.all_cons]
    rfl
theorem dptA : ∀ (xs : List D) (k : Nat), (∀ d ∈ xs, dpt d ≤ k) → PyData.depthAll (D.toPyA xs) ≤ k
  | [], k, _ => by simp [D.toPyA, PyData.depthAll]
  | x :: xs, k, h => by
    rw [D.toPyA, PyData.depthAll]
    have h1 := h x List.mem_cons_self
    have h2 := dptA xs k fun d hd => h d (List.mem_cons_of_mem _ hd)
    unfold dpt at h1
    omega
/-- data that may be compared: depth at most k -/
def Pl (k : Nat) (d : D) : Prop := lay d = true ∧ dpt d ≤ k
theorem Pl.shp {k : Nat} {d : D} (h : Pl k d) (hk : k ≤ 64) : shp d = true := by
  unfold Z.shp SeqAt.shaped
  rw [Bool.and_eq_true]
  exact ⟨h.1, decide_eq_true (Nat.le_trans h.2 hk)⟩
theorem Pl.mono {k l : Nat} {d : D} (h : Pl k d) (hk : k ≤ l) : Pl l d := ⟨h.1, Nat.le_trans h.2 hk⟩
theorem pl_int (i : Int) : Pl 0 (.int i) := ⟨rfl, Nat.le_refl _⟩
theorem pl_bl (i : Bool) : Pl 0 (.bl i) := ⟨rfl, Nat.le_refl _⟩
theorem pl_non : Pl 0 .non := ⟨rfl, Nat.le_refl _⟩
theorem pl_lst {k : Nat} {xs : List D} (h : ∀ d ∈ xs, Pl k d) : Pl (k + 1) (.lst xs) := by
  refine ⟨?_, ?_⟩
  · show PyData.canLay0 (.list (D.toPyA xs)) = true
    rw [PyData.canLay0, layA]
    exact List.all_eq_true.mpr fun d hd => (h d hd).1
  · show PyData.depth (.list (D.toPyA xs)) ≤ _
    rw [PyData.depth]
    have := dptA xs k fun d hd => (h d hd).2
    omega
theorem pl_tup {k : Nat} {xs : List D} (h : ∀ d ∈ xs, Pl k d) : Pl (k + 1) (.tup xs) := by
  refine ⟨?_, ?_⟩
  · show PyData.canLay0 (.tuple (D.toPyA xs)) = true
    rw [PyData.canLay0, layA]
    exact List.all_eq_true.mpr fun d hd => (h d hd).1
  · show PyData.depth (.tuple (D.toPyA xs)) ≤ _
    rw [PyData.depth]
    have := dptA xs k fun d hd => (h d hd).2
    omega
theorem deq_refl {k : Nat} {d : D} (h : Pl k d) : deq d d = true := SeqAt.eqv_refl d.toPy h.1
@[simp] theorem deq_int (i j : Int) : deq (.int i) (.int j) = decide (i = j) := by
  unfold deq D.toPy PyData.eqv
  rfl
@[simp] theorem deq_non : deq .non .non = true := by
  unfold deq D.toPy PyData.eqv; rfl
@[simp] theorem deq_int_non (i : Int) : deq (.int i) .non = false := by
  unfold deq D.toPy PyData.eqv; rfl
def deqs : List D → List D → Bool
  | [], [] => true
  | x :: xs, y :: ys => deq x y && deqs xs ys
  | _, _ => false
theorem deqs_eq : ∀ (xs ys : List D), PyData.eqvAll (D.toPyA xs) (D.toPyA ys) = deqs xs ys
  | [], [] => by simp [D.toPyA, PyData.eqvAll, deqs]
  | x :: xs, [] => by simp [D.toPyA, PyData.eqvAll, deqs]
  | [], y :: ys => by simp [D.toPyA, PyData.eqvAll, deqs]
  | x :: xs, y :: ys => by
    rw [D.toPyA, D.toPyA, PyData.eqvAll, deqs_eq xs ys]
    rfl
@[simp] theorem deq_lst (xs ys : List D) : deq (.lst xs) (.lst ys) = deqs xs ys := by
  show PyData.eqv (.list _) (.list _) = _
  rw [PyData.eqv, deqs_eq]
@[simp] theorem deq_tup (xs ys : List D) : deq (.tup xs) (.tup ys) = deqs xs ys := by
  show PyData.eqv (.tuple _) (.tuple _) = _
  rw [PyData.eqv, deqs_eq]
@[simp] theorem deqs_nil : deqs [] [] = true := rfl
@[simp] theorem deqs_cons {x y : D} {xs ys : List D} : deqs (x :: xs) (y :: ys) = (deq x y && deqs xs ys) := rfl
@[simp] theorem deqs_nc {y : D} {ys : List D} : deqs [] (y :: ys) = false := rfl
@[simp] theorem deqs_cn {y : D} {ys : List D} : deqs (y :: ys) [] = false := rfl
/-! ### whole numbers -/
def zl (l : List Int) : List D := l.map .int
@[simp] theorem zl_length (l : List Int) : (zl l).length = l.length := by simp [zl]
theorem zl_append (l m : List Int) : zl (l ++ m) = zl l ++ zl m := by simp [zl]
theorem zl_cons (i : Int) (l : List Int) : zl (i :: l) = .int i :: zl l := rfl
theorem deqs_zl : ∀ (l m : List Int), deqs (zl l) (zl m) = decide (l = m)
  | [], [] => rfl
  | _ :: _, [] => by simp [zl, deqs]
  | [], _ :: _ => by simp [zl, deqs]
  | i :: l, j :: m => by
    rw [zl_cons, zl_cons, deqs_cons, deqs_zl l m, deq_int]
    simp
theorem ints_zl (l : List Int) : D.ints (zl l) = some l := D.ints_map l
theorem pl_zl {l : List Int} : ∀ d ∈ zl l, Pl 0 d := fun d h => by
  obtain ⟨i, _, rfl⟩ := List.mem_map.mp h
  exact pl_int i
theorem zl_get (l : List Int) (i : Nat) : (zl l)[i]? = (l[i]?).map .int := by simp [zl]
theorem atI_zl {l : List Int} {i : Int} {j : Nat} (h : 0 ≤ i) (e : i.toNat = j) : L2.atI (zl l) i = (l[j]?).map .int := by
  unfold L2.atI ixN
  subst e
  by_cases hl : i < (l.length : Int)
  · simp [h, hl, zl_get]
  · have : l[i.toNat]? = none := by rw [List.getElem?_eq_none]; omega
    simp [h, hl, this]
    try omega
/-! ### ranges, sizes -/
theorem size_le {n : Nat} (h : n ≤ 16777216) : n ≤ sizeLine := by rw [sizeLine_eq]; exact h
theorem nRgL_ok {m : M (Int × Int)} {S S1 : Fr} {a b : Int} (h : m S = .ok (a, b) S1) (hr : RgOk a b) : nRgL m S = .ok (rngD a 1 (b - a).toNat) S1 := by
  show (m S).bind _ = _
  rw [h]
  exact if_pos hr
theorem mRgT_ok {m : M (Int × Int)} {S S1 : Fr} {a b : Int} (h : m S = .ok (a, b) S1) (hr : RgOk a b) : mRgT m S = .ok (.val (.tup (rngD a 1 (b - a).toNat))) S1 := by
  show (m S).bind _ = _
  rw [h]
  exact if_pos hr
/-! ### comprehensions over whole numbers -/
theorem set_un {F : Fr} {v : Nat} {x : Sl} (h : F[v]? = some .un) : (F.set v x).set v .un = F := by
  rw [List.set_set]
  apply List.ext_getElem?
  intro j
  by_cases e : v = j
  · subst e
    rw [List.getElem?_set_self (List.getElem?_eq_some_iff.mp h).1, h]
  · rw [List.getElem?_set_ne e]
theorem get_set {F : Fr} {v : Nat} {x y : Sl} (h : F[v]? = some y) : (F.set v x)[v]? = some x := List.getElem?_set_self (List.getElem?_eq_some_iff.mp h).1
theorem mVar_sh {F : Fr} {v : Nat} {d : D} (h : F[v]? = some (.sh d)) : mVar v F = .ok (.val d) F := by
  unfold mVar
  rw [h]
theorem mVar_ow {F : Fr} {v : Nat} {d : List D} (h : F[v]? = some (.ow d)) : mVar v F = .ok (.own v) F := by
  unfold mVar
  rw [h]
theorem mVar_io {F : Fr} {v : Nat} {d : List D} (h : F[v]? = some (.io d)) : mVar v F = .ok (.own v) F := by
  unfold mVar
  rw [h]
theorem step_int {v : Nat} {t : M Bool} {e : M Vx} {F : Fr} {i : Int} {c : Bool} {z : D} (hF : F[v]? = some .un) (ht : t (F.set v (.sh (.int i))) = .ok c (F.set v (.sh (.int i)))) (he : c = true → e (F.set v (.sh (.int i))) = .ok (.val z) (F.set v (.sh (.int i)))) :
    lcStep [v] (gN v) t e (.int i) F = .ok (if c = true then some z else none) F := by
  unfold lcStep
  rw [bnd_ap, gN_nio hF nio_un, bind_ok, bnd_ap, ht, bind_ok]
  cases c with
  | true =>
    rw [if_pos rfl, bnd_ap, he rfl, bind_ok, bnd_ap, esc_val, bind_ok, bnd_ap]
    show Res.ok (some z) ((F.set v _).set v .un) = _
    rw [set_un hF]
    rfl
  | false =>
    rw [if_neg (by simp), bnd_ap]
    show Res.ok none ((F.set v _).set v .un) = _
    rw [set_un hF]
    rfl
theorem lc_filter {v : Nat} {t : M Bool} {F : Fr} (p : Int → Bool) (l : List Int) (hF : F[v]? = some .un) (ht : ∀ i ∈ l, t (F.set v (.sh (.int i))) = .ok (p i) (F.set v (.sh (.int i)))) : lcL [v] (gN v) t (mVar v) (zl l) F = .ok (zl (l.filter p)) F := by
  have := lcL_fm (vs := [v]) (g := gN v) (t := t) (e := mVar v) (F := F) D.int (fun i => if p i = true then some (.int i) else none) (as := l) fun i hi => step_int hF (ht i hi) fun _ => mVar_sh (get_set hF)
  rw [show zl l = l.map D.int from rfl, this]
  congr 1
  clear this ht
  induction l with
  | nil => rfl
  | cons a l ih =>
    rw [List.filterMap_cons, List.filter_cons]
    cases q : p a with
    | true => simp [ih, zl]
    | false => simp [ih]
theorem lc_map {v : Nat} {e : M Vx} {F : Fr} (f : Int → D) (l : List Int) (hF : F[v]? = some .un) (he : ∀ i ∈ l, e (F.set v (.sh (.int i))) = .ok (.val (f i)) (F.set v (.sh (.int i)))) : lcL [v] (gN v) (ret true) e (zl l) F = .ok (l.map f) F := by
  have := lcL_fm (vs := [v]) (g := gN v) (t := ret true) (e := e) (F := F) D.int (fun i => some (f i)) (as := l) fun i hi => step_int (c := true) hF rfl fun _ => he i hi
  rw [show zl l = l.map D.int from rfl, this]
  congr 1
  rw [List.filterMap_eq_map']
theorem wipe1 {F : Fr} {v : Nat} (h : F[v]? = some .un) : wipeS F [v] = F := by
  show F.set v .un = F
  apply List.ext_getElem?
  intro j
  by_cases e : v = j
  · subst e
    rw [List.getElem?_set_self (List.getElem?_eq_some_iff.mp h).1, h]
  · rw [List.getElem?_set_ne e]
theorem unwipe1 {F : Fr} {v : Nat} {s : Sl} (h : F[v]? = some s) (F' : Fr) (h' : F' = F.set v .un) : unwipe F F' [v] = F := by
  subst h'
  show (F.set v .un).set v (F[v]?.getD .un) = F
  rw [h, List.set_set]
  apply List.ext_getElem?
  intro j
  by_cases e : v = j
  · subst e
    rw [List.getElem?_set_self (List.getElem?_eq_some_iff.mp h).1, h]
    rfl
  · rw [List.getElem?_set_ne e]
/-- [x for x in l if p] over whole numbers; the slot may hold anything that is no list of the caller's -/
theorem nLc_filter {v : Nat} {mi : M (List D)} {t : M Bool} {F : Fr} {s : Sl} (p : Int → Bool) {l : List Int} (hi : mi F = .ok (zl l) F) (hF : F[v]? = some s) (ht : ∀ i ∈ l, t (F.set v (.sh (.int i))) = .ok (p i) (F.set v (.sh (.int i)))) (hl : l.length ≤ 16777216) :
    nLc [v] mi (gN v) t (mVar v) F = .ok (zl (l.filter p)) F := by
  have hU : (F.set v .un)[v]? = some .un := get_set hF
  have e := lc_filter (t := t) (F := F.set v .un) p l hU fun i hi => by rw [List.set_set]; exact ht i hi
  have := nLc_ok (vs := [v]) (g := gN v) (t := t) (e := mVar v) (S1 := F) hi (show lcL [v] (gN v) t (mVar v) (zl l) (wipeS F [v]) = _ from e) (size_le (by rw [zl_length]; exact Nat.le_trans (List.length_filter_le _ _) hl))
  rw [this, unwipe1 hF _ rfl]
theorem nLc_map {v : Nat} {mi : M (List D)} {e : M Vx} {F : Fr} {s : Sl} (f : Int → D) {l : List Int} (hi : mi F = .ok (zl l) F) (hF : F[v]? = some s) (he : ∀ i ∈ l, e (F.set v (.sh (.int i))) = .ok (.val (f i)) (F.set v (.sh (.int i)))) (hl : l.length ≤ 16777216) :
    nLc [v] mi (gN v) (ret true) e F = .ok (l.map f) F := by
  have hU : (F.set v .un)[v]? = some .un := get_set hF
  have e' := lc_map (e := e) (F := F.set v .un) f l hU fun i hi => by rw [List.set_set]; exact he i hi
  have := nLc_ok (vs := [v]) (g := gN v) (t := ret true) (e := e) (S1 := F) hi (show lcL [v] (gN v) (ret true) e (zl l) (wipeS F [v]) = _ from e') (size_le (by rw [List.length_map]; exact hl))
  rw [this, unwipe1 hF _ rfl]
/-! ### slices -/
theorem cut_from {xs : List D} {k : Nat} (h : k ≤ xs.length) : cutD xs (some (k : Int)) none = xs.drop k := by
  unfold cutD
  rw [HT.sIx_nat, HT.sIx_none, Nat.min_eq_left h, List.take_of_length_le (by rw [List.length_drop]; omega)]
theorem cut_to {xs : List D} {k : Nat} (h : k ≤ xs.length) : cutD xs none (some (k : Int)) = xs.take k := by
  unfold cutD
  rw [HT.sIx_nat, HT.sIx_none, Nat.min_eq_left h, List.drop_zero]
  simp
/-! ### stores, iterables -/
def rcons {α : Type} (a : Sl) : Res α → Res α
  | .ok f S => .ok f (a :: S)
  | .exc x S => .exc x (a :: S)
  | .stuck => .stuck
section
variable {α : Type} {a s : Sl} {S r : Fr} {i : Nat} {x : Vx} {d : D} {m mo ma mb : M Vx} {ms : M (List Vx)} {mx m1 m2 m3 : M Ax} {mn : M (List D)} {f : α}
@[simp] theorem rcons_ok : rcons a (.ok f S) = .ok f (a :: S) := id rfl
@[simp] theorem setSl_zero (h : nio a) : setSl 0 s (a :: r) = .ok .next (s :: r) := by
  cases a <;> first | exact rfl | exact h.elim
@[simp] theorem setSl_succ : setSl (i + 1) s (a :: r) = rcons a (setSl i s r) := by
  unfold setSl
  rw [List.getElem?_cons_succ]
  cases q : r[i]? with
  | none => rfl
  | some o => cases o <;> rfl
@[simp] theorem gN_zero (h : nio a) : gN 0 d (a :: r) = .ok () (.sh d :: r) := by
  cases a <;> first | exact rfl | exact h.elim
@[simp] theorem gN_succ : gN (i + 1) d (a :: r) = rcons a (gN i d r) := by
  unfold gN
  rw [List.getElem?_cons_succ]
  cases q : r[i]? with
  | none => rfl
  | some o => cases o <;> rfl
@[simp] theorem xV_ap : xV m S = (m S).bind fun x => ret (.v x) := id rfl
@[simp] theorem xN_ap : xN mn S = (mn S).bind fun x => ret (.f x) := id rfl
@[simp] theorem eN_ap : eN mn S = (mn S).bind fun x => ret (.val (.lst x)) := id rfl
@[simp] theorem settle_v : settle (.v x) S = (esc x S).bind fun d => ret (.sh d) := id rfl
@[simp] theorem settle_f {xs : List D} : settle (.f xs) S = .ok (.ow xs) S := id rfl
@[simp] theorem mSet_ap : mSet i mx S = (mx S).bind fun x => bnd (settle x) fun s => setSl i s := id rfl
@[simp] theorem mPar2_ap {j : Nat} : mPar2 i j m1 m2 S = (m1 S).bind fun x => bnd m2 fun y => bnd (settle x) fun s => bnd (settle y) fun t => mSeq (setSl i s) (setSl j t) := id rfl
@[simp] theorem mPar3_ap {j k : Nat} : mPar3 i j k m1 m2 m3 S = (m1 S).bind fun x => bnd m2 fun y => bnd m3 fun z => bnd (settle x) fun s => bnd (settle y) fun t => bnd (settle z) fun u => mSeq (setSl i s) (mSeq (setSl j t) (setSl k u)) := id rfl
@[simp] theorem gT_ap {n : Nat} {gs : List D → M Unit} {ds : List D} : gT n gs (.tup ds) S = if ds.length = n then gs ds S else .stuck := by
  show (if ds.length = n then gs ds else fun _ => .stuck) S = _
  by_cases h : ds.length = n
  · rw [if_pos h, if_pos h]
  · rw [if_neg h, if_neg h]
@[simp] theorem gsNil_ap : gsNil [] S = .ok () S := id rfl
@[simp] theorem gsCons_ap {g : D → M Unit} {gs : List D → M Unit} {ds : List D} : gsCons g gs (d :: ds) S = (g d S).bind fun _ => gs ds := id rfl
@[simp] theorem mFor_ap {g : D → M Unit} {body : M Fl} : mFor mn g body S = (mn S).bind fun ds => forL g body ds := id rfl
theorem iArgs_ap {g : List D → Option (List D)} : iArgs ms g S = (ms S).bind fun xs => bnd (escs xs) fun ds S => (match g ds with | some es => .ok es S | none => .stuck) := id rfl
@[simp] theorem iOf_ap {g : D → Option (List D)} : iOf m g S = (m S).bind fun x => bnd (esc x) fun d S => (match g d with | some es => .ok es S | none => .stuck) := id rfl
@[simp] theorem mPart_ap : mPart m S = (m S).bind fun x S => (match deref S x with | some (.int i) => .ok (some i) S | _ => .stuck) := id rfl
@[simp] theorem mSl_ap {ml mh : M (Option Int)} : mSl m ml mh S = (m S).bind fun x => bnd ml fun lo => bnd mh fun hi S => (match deref S x with | some a => (match fSl a lo hi with | some z => .ok (.val z) S | none => .stuck) | none => .stuck) := id rfl
@[simp] theorem mAsg_ap {g : D → M Unit} : mAsg m g S = (m S).bind fun x => bnd (esc x) fun d => bnd (g d) fun _ => ret .next := id rfl
@[simp] theorem mM_ap {g : List D → List D → Option (D × List D)} : mM g mo ms S = (mo S).bind fun x => bnd (chkOwn x) fun _ => bnd ms fun xs => bnd (escs xs) fun ds => mutate g x ds := id rfl
end
/-! ### products -/
theorem log_lt {a : Int} {k : Nat} (h : a.natAbs < 2 ^ (k + 1)) : a.natAbs.log2 < k + 1 := by
  by_cases e : a.natAbs = 0
  · rw [e]
    exact Nat.succ_pos _
  · exact (Nat.log2_lt e).mpr h
theorem fMul_int {a b : Int} (ha : a.natAbs.log2 < 65000000) (hb : b.natAbs.log2 < 65000000) : fMul (.int a) (.int b) = some (.int (a * b)) := by
  have h : a.natAbs.log2 + b.natAbs.log2 < 130000000 := by omega
  show (if _ then _ else _) = _
  rw [if_pos h]
/-! ### when the operations answer -/
theorem fRng1_ok {j : Int} (h1 : -1000000 ≤ j) (h2 : j ≤ 1000000) : fRng1 [.int j] = some (rngD 0 1 j.toNat) := by
  show (if _ then _ else _) = _
  rw [if_pos ⟨by omega, by omega⟩]
theorem fRng2_ok {i j : Int} (h1 : -1000000 ≤ i) (h2 : i ≤ 1000000) (h3 : -1000000 ≤ j) (h4 : j ≤ 1000000) : fRng2 [.int i, .int j] = some (rngD i 1 (j - i).toNat) := by
  show (if _ then _ else _) = _
  rw [if_pos ⟨by omega, by omega, by omega, by omega⟩]
theorem fAppend_ok {ys : List D} {d : D} (h : ys.length < 16777216) : fAppend ys [d] = some (.non, ys ++ [d]) := by
  show (if _ then _ else _) = _
  rw [if_pos (by rw [sizeLine_eq]; exact h)]
theorem fPopAt_ok {ys : List D} {i : Int} {d : D} (h0 : 0 ≤ i) (h : ys[i.toNat]? = some d) (hl : ys.length ≤ 1000000) : fPopAt ys [.int i] = some (d, ys.eraseIdx i.toNat) := by
  have hi := (List.getElem?_eq_some_iff.mp h).1
  show (if _ then _ else _) = _
  rw [if_pos ⟨by omega, by omega⟩]
  have e : seqIndex? i ys.length = some i.toNat := by
    have e1 : (if i < 0 then i + (ys.length : Int) else i) = i := if_neg (by omega)
    show (if (decide (0 ≤ (if i < 0 then i + (ys.length : Int) else i)) && decide ((if i < 0 then i + (ys.length : Int) else i) < ys.length)) = true then some (if i < 0 then i + (ys.length : Int) else i).toNat else none) = _
    rw [e1, if_pos (by rw [Bool.and_eq_true, decide_eq_true_eq, decide_eq_true_eq]; omega)]
  rw [e, Option.bind_some, h]
  rfl
theorem fDiv_ok {a b : Int} (hb : 0 < b) (h : b.natAbs.log2 < 9000) : fDiv (.int a) (.int b) = some (.int (a / b)) := by
  show (if _ then _ else _) = _
  rw [if_pos ⟨hb, h⟩]
theorem fMod_ok {a b : Int} (hb : 0 < b) : fMod (.int a) (.int b) = some (.int (a % b)) := by
  show (if _ then _ else _) = _
  rw [if_pos hb]
theorem add_tup {xs ys : List D} (h : xs.length + ys.length ≤ 16777216) : fAdd (.tup xs) (.tup ys) = some (.tup (xs ++ ys)) := by
  show (if _ then _ else _) = _
  rw [if_pos (size_le h)]
theorem add_lst {xs ys : List D} (h : xs.length + ys.length ≤ 16777216) : fAdd (.lst xs) (.lst ys) = some (.lst (xs ++ ys)) := by
  show (if _ then _ else _) = _
  rw [if_pos (size_le h)]
theorem iArgs_ok {ms : M (List Vx)} {f : List D → Option (List D)} {S S1 S2 : Fr} {xs : List Vx} {ds es : List D} (h1 : ms S = .ok xs S1) (h2 : escs xs S1 = .ok ds S2) (h3 : f ds = some es) : iArgs ms f S = .ok es S2 := by
  rw [iArgs_ap, h1, bind_ok, bnd_ap, h2, bind_ok, h3]
theorem defN {n : Nat} {b : M Fl} {P S' : Fr} {d : D} (h0 : chkP P = true) (h : b (P ++ uns (n - P.length)) = .ok (.ret d) S') : mDef n b P = .ok d (back P S') := by
  unfold mDef
  rw [if_pos h0, h]
theorem defX {n : Nat} {b : M Fl} {P S' : Fr} {x : Xc} (h0 : chkP P = true) (h : b (P ++ uns (n - P.length)) = .exc x S') : mDef n b P = .exc x (back P S') := by
  unfold mDef
  rw [if_pos h0, h]
theorem defE {n : Nat} {b : M Fl} {P S' : Fr} (h0 : chkP P = true) (h : b (P ++ uns (n - P.length)) = .ok .next S') : mDef n b P = .ok .non (back P S') := by
  unfold mDef
  rw [if_pos h0, h]
end Z
set_option maxHeartbeats 4000000
/-! P2b: comprehensions over a list of the frame's own, evaluated. -/
namespace Z
open PySem PySem.Spec PyProof.Rows L2
variable [LT]
theorem lcO_filter {o v : Nat} {t : M Bool} {F : Fr} (p : Int → Bool) (l : List Int) (hF : F[v]? = some .un) (ho : ownAt o F = some (zl l)) : ∀ (n k : Nat), k + n = l.length → (∀ i ∈ l, t (F.set v (.sh (.int i))) = .ok (p i) (F.set v (.sh (.int i)))) →
    lcO o [v] (gN v) t (mVar v) n k F = .ok (zl ((l.drop k).filter p)) F
  | 0, k, hk, ht => by
    unfold lcO
    rw [ho]
    show (if (zl l).length = k then _ else _) = _
    rw [if_pos (by rw [zl_length]; omega), List.drop_of_length_le (by omega)]
    rfl
  | n + 1, k, hk, ht => by
    have hlt : k < l.length := by omega
    have hx : l[k]? = some l[k] := List.getElem?_eq_getElem hlt
    have ih := lcO_filter p l hF ho n (k + 1) (by omega) ht
    have hi := ht l[k] (List.getElem_mem hlt)
    unfold lcO
    rw [ho, Option.bind_some, zl_get, hx, List.drop_eq_getElem_cons hlt, List.filter_cons]
    show ((gN v (.int l[k]) F).bind _) = _
    rw [gN_nio hF nio_un, bind_ok, bnd_ap, hi, bind_ok]
    cases q : p l[k] with
    | true =>
      rw [if_pos rfl, if_pos rfl, bnd_ap, mVar_sh (get_set hF), bind_ok, bnd_ap, esc_val, bind_ok, bnd_ap]
      show ((bnd (lcO o [v] (gN v) t (mVar v) n (k + 1)) fun ys => ret (D.int l[k] :: ys)) ((F.set v _).set v .un)) = _
      rw [set_un hF, bnd_ap, ih]
      rfl
    | false =>
      rw [if_neg (by simp), if_neg (by simp), bnd_ap]
      show lcO o [v] (gN v) t (mVar v) n (k + 1) ((F.set v _).set v .un) = _
      rw [set_un hF, ih]
theorem nLcO_filter {o v : Nat} {t : M Bool} {F : Fr} {s : Sl} (p : Int → Bool) {l : List Int} (ho : ownAt o F = some (zl l)) (hov : o ≠ v) (hF : F[v]? = some s) (ht : ∀ i ∈ l, t (F.set v (.sh (.int i))) = .ok (p i) (F.set v (.sh (.int i)))) (hl : l.length ≤ 16777216) :
    nLcO o [v] (gN v) t (mVar v) F = .ok (zl (l.filter p)) F := by
  have hU : (F.set v .un)[v]? = some .un := get_set hF
  have ho' : ownAt o (F.set v .un) = some (zl l) := by
    unfold ownAt at ho ⊢
    rw [List.getElem?_set_ne (fun e => hov e.symm)]
    exact ho
  have e := lcO_filter (t := t) p l hU ho' l.length 0 (by omega) fun i hi => by rw [List.set_set]; exact ht i hi
  unfold nLcO
  rw [ho]
  show (match lcO o [v] (gN v) t (mVar v) (zl l).length 0 (F.set v .un) with | .ok ys S' => if ys.length ≤ sizeLine then Res.ok ys (unwipe F S' [v]) else .stuck | _ => .stuck) = _
  rw [zl_length, e]
  show (if _ then _ else _) = _
  rw [List.drop_zero, if_pos (size_le (by rw [zl_length]; exact Nat.le_trans (List.length_filter_le _ _) hl)), unwipe1 hF _ rfl]
end Z
set_option maxHeartbeats 4000000
/-! M3: numbers of turns, in plain lists. -/
namespace M3
def fac : Nat → Int
  | 0 => 1
  | n + 1 => ((n : Int) + 1) * fac n
theorem fac_pos : ∀ n, 0 < fac n
  | 0 => by decide
  | n + 1 => Int.mul_pos (by omega) (fac_pos n)
/-- how many of l are less than x -/
def lt (x : Int) (l : List Int) : Nat := (l.filter fun y => decide (y < x)).length
theorem lt_le (x : Int) (l : List Int) : lt x l ≤ l.length := List.length_filter_le _ _
theorem lt_perm {x : Int} {l m : List Int} (h : l.Perm m) : lt x l = lt x m := (h.filter _).length_eq
theorem lt_cons (x y : Int) (l : List Int) : lt x (y :: l) = (if y < x then 1 else 0) + lt x l := by
  unfold lt
  rw [List.filter_cons]
  split <;> simp_all <;> omega
def num : List Int → Int
  | [] => 0
  | x :: xs => (lt x xs : Int) * fac xs.length + num xs
theorem num_lt : ∀ l : List Int, 0 ≤ num l ∧ num l < fac l.length
  | [] => by decide
  | x :: xs => by
    obtain ⟨h1, h2⟩ := num_lt xs
    have h3 := lt_le x xs
    have h4 := fac_pos xs.length
    have h5 : 0 ≤ (lt x xs : Int) * fac xs.length := Int.mul_nonneg (by omega) (by omega)
    have h6 : (lt x xs : Int) * fac xs.length ≤ (xs.length : Int) * fac xs.length := Int.mul_le_mul_of_nonneg_right (by omega) (by omega)
    show 0 ≤ (lt x xs : Int) * fac xs.length + num xs ∧ (lt x xs : Int) * fac xs.length + num xs < ((xs.length : Int) + 1) * fac xs.length
    rw [Int.add_mul, Int.one_mul]
    omega
/-! ### a number told back -/
def dec : Nat → List Int → Int → List Int
  | 0, _, _ => []
  | m + 1, left, k => match left[(k / fac m).toNat]? with
    | some x => x :: dec m (left.eraseIdx (k / fac m).toNat) (k % fac m)
    | none => []
theorem lt_at {left : List Int} (hs : left.Pairwise (· < ·)) {i : Nat} {x : Int} (h : left[i]? = some x) : lt x (left.eraseIdx i) = i := by
  induction left generalizing i with
  | nil => simp at h
  | cons y l ih =>
    have hy : ∀ z ∈ l, y < z := fun z hz => List.rel_of_pairwise_cons hs hz
    cases i with
    | zero =>
      have e : y = x := by simpa using h
      subst e
      rw [List.eraseIdx_cons_zero]
      unfold lt
      rw [List.length_eq_zero_iff, List.filter_eq_nil_iff]
      intro z hz
      have := hy z hz
      simp
      omega
    | succ i =>
      have h' : l[i]? = some x := by simpa using h
      have hx : x ∈ l := List.mem_of_getElem? h'
      rw [List.eraseIdx_cons_succ, lt_cons, ih (List.Pairwise.of_cons hs) h', if_pos (hy _ hx)]
      omega
theorem perm_erase {l : List Int} {i : Nat} {x : Int} (h : l[i]? = some x) : (x :: l.eraseIdx i).Perm l := by
  induction l generalizing i with
  | nil => simp at h
  | cons y l ih =>
    cases i with
    | zero =>
      have e : y = x := by simpa using h
      subst e
      exact .refl _
    | succ i =>
      have h' : l[i]? = some x := by simpa using h
      rw [List.eraseIdx_cons_succ]
      exact (List.Perm.swap y x _).trans ((ih h').cons y)
theorem sorted_erase {l : List Int} (hs : l.Pairwise (· < ·)) (i : Nat) : (l.eraseIdx i).Pairwise (· < ·) := hs.sublist (List.eraseIdx_sublist l i)
theorem div_lt {k b : Int} {m : Nat} (h0 : 0 ≤ k) (h : k < ((m : Int) + 1) * b) (hb : 0 < b) : 0 ≤ k / b ∧ (k / b).toNat < m + 1 := by
  have h1 : 0 ≤ k / b := Int.ediv_nonneg h0 (by omega)
  have h2 : k / b < (m : Int) + 1 := Int.ediv_lt_of_lt_mul hb h
  exact ⟨h1, by omega⟩
theorem dec_ok : ∀ (m : Nat) (left : List Int) (k : Int), left.length = m → left.Pairwise (· < ·) → 0 ≤ k → k < fac m → (dec m left k).Perm left ∧ num (dec m left k) = k
  | 0, left, k, hl, hs, h0, h1 => by
    have e : left = [] := List.length_eq_zero_iff.mp hl
    subst e
    have h1 : k < 1 := h1
    exact ⟨.refl _, show (0 : Int) = k by omega⟩
  | m + 1, left, k, hl, hs, h0, h1 => by
    have hb := fac_pos m
    obtain ⟨h2, h3⟩ := div_lt (m := m) h0 h1 hb
    have hi : (k / fac m).toNat < left.length := by omega
    have hx : left[(k / fac m).toNat]? = some left[(k / fac m).toNat] := List.getElem?_eq_getElem hi
    have he : (left.eraseIdx (k / fac m).toNat).length = m := by rw [List.length_eraseIdx_of_lt hi]; omega
    obtain ⟨p, q⟩ := dec_ok m (left.eraseIdx (k / fac m).toNat) (k % fac m) he (sorted_erase hs _) (Int.emod_nonneg _ (by omega)) (Int.emod_lt_of_pos _ hb)
    have e : dec (m + 1) left k = left[(k / fac m).toNat] :: dec m (left.eraseIdx (k / fac m).toNat) (k % fac m) := by
      show (match left[(k / fac m).toNat]? with | some x => _ | none => _) = _
      rw [hx]
    rw [e]
    refine ⟨(p.cons _).trans (perm_erase hx), ?_⟩
    show (lt _ _ : Int) * fac _ + num _ = k
    rw [q, lt_perm p, lt_at hs hx, p.length_eq, he, Int.toNat_of_nonneg h2]
    have := Int.mul_ediv_add_emod k (fac m)
    rw [Int.mul_comm]
    exact this
theorem lt_sorted {left : List Int} (hs : left.Pairwise (· < ·)) {x : Int} (hx : x ∈ left) : left[lt x left]? = some x := by
  induction left with
  | nil => cases hx
  | cons y l ih =>
    have hy : ∀ z ∈ l, y < z := fun z hz => List.rel_of_pairwise_cons hs hz
    rw [lt_cons]
    rcases List.mem_cons.mp hx with rfl | hx
    · have e : lt x l = 0 := by
        unfold lt
        rw [List.length_eq_zero_iff, List.filter_eq_nil_iff]
        intro z hz
        have := hy z hz
        simp
        omega
      rw [e, if_neg (by omega)]
      rfl
    · rw [if_pos (hy _ hx), Nat.add_comm, List.getElem?_cons_succ]
      exact ih (List.Pairwise.of_cons hs) hx
theorem dec_num : ∀ (m : Nat) (left t : List Int), left.length = m → left.Pairwise (· < ·) → t.Perm left → dec m left (num t) = t
  | 0, left, t, hl, hs, p => by
    have e : left = [] := List.length_eq_zero_iff.mp hl
    subst e
    have : t = [] := p.eq_nil
    subst this
    rfl
  | m + 1, left, t, hl, hs, p => by
    cases t with
    | nil => have := p.length_eq; simp at this; omega
    | cons x xs =>
      have hm : xs.length = m := by have := p.length_eq; simp at this; omega
      obtain ⟨n1, n2⟩ := num_lt xs
      rw [hm] at n2
      have hb := fac_pos m
      have ex : num (x :: xs) = (lt x xs : Int) * fac m + num xs := by
        show (lt x xs : Int) * fac xs.length + num xs = _
        rw [hm]
      have e1 : num (x :: xs) / fac m = lt x xs := by
        rw [ex, Int.add_comm, Int.add_mul_ediv_right _ _ (by omega), Int.ediv_eq_zero_of_lt n1 n2]
        omega
      have e2 : num (x :: xs) % fac m = num xs := by
        rw [ex, Int.add_comm, Int.add_mul_emod_self_right, Int.emod_eq_of_lt n1 n2]
      have e3 : lt x left = lt x xs := by
        rw [← lt_perm p, lt_cons, if_neg (by omega)]
        omega
      have hx : left[lt x xs]? = some x := by
        rw [← e3]
        exact lt_sorted hs (p.mem_iff.mp List.mem_cons_self)
      have e0 : dec (m + 1) left (num (x :: xs)) = (match left[(num (x :: xs) / fac m).toNat]? with | some y => y :: dec m (left.eraseIdx (num (x :: xs) / fac m).toNat) (num (x :: xs) % fac m) | none => []) := rfl
      rw [e0, e1, e2, Int.toNat_natCast, hx]
      have hi : lt x xs < left.length := (List.getElem?_eq_some_iff.mp hx).1
      have p2 : xs.Perm (left.eraseIdx (lt x xs)) := List.Perm.cons_inv (p.trans (perm_erase hx).symm)
      show x :: dec m _ _ = _
      rw [dec_num m (left.eraseIdx (lt x xs)) xs (by rw [List.length_eraseIdx_of_lt hi]; omega) (sorted_erase hs _) p2]
end M3
set_option maxHeartbeats 4000000
/-! M3b: exchanges of turns, in plain lists. -/
namespace M3
def inv : List Int → Nat
  | [] => 0
  | x :: xs => lt x xs + inv xs
/-! ### parity -/
theorem lt_map (f : Int → Int) (x : Int) (l : List Int) : lt (f x) (l.map f) = (l.filter fun y => decide (f y < f x)).length := by
  unfold lt
  rw [List.filter_map, List.length_map]
  rfl
theorem par_perm {f : Int → Int} {l m : List Int} (h : l.Perm m) (nd : l.Nodup) (hf : ∀ x ∈ l, ∀ y ∈ l, f x = f y → x = y) : (inv (l.map f) + inv l) % 2 = (inv (m.map f) + inv m) % 2 := by
  induction h with
  | nil => rfl
  | @cons x l m p ih =>
    have ih := ih (List.nodup_cons.mp nd).2 fun a ha b hb => hf a (List.mem_cons_of_mem _ ha) b (List.mem_cons_of_mem _ hb)
    have e1 : lt (f x) (l.map f) = lt (f x) (m.map f) := lt_perm (p.map f)
    have e2 : lt x l = lt x m := lt_perm p
    show (lt (f x) (l.map f) + inv (l.map f) + (lt x l + inv l)) % 2 = (lt (f x) (m.map f) + inv (m.map f) + (lt x m + inv m)) % 2
    rw [e1, e2]
    omega
  | swap x y l =>
    have hxy : x ≠ y := fun e => by
      subst e
      have := (List.nodup_cons.mp nd).1
      exact this List.mem_cons_self
    have hfx : f x ≠ f y := fun e => hxy (hf x (List.mem_cons_of_mem _ List.mem_cons_self) y List.mem_cons_self e)
    show (lt (f y) (f x :: l.map f) + (lt (f x) (l.map f) + inv (l.map f)) + (lt y (x :: l) + (lt x l + inv l))) % 2 = (lt (f x) (f y :: l.map f) + (lt (f y) (l.map f) + inv (l.map f)) + (lt x (y :: l) + (lt y l + inv l))) % 2
    rw [lt_cons, lt_cons, lt_cons, lt_cons]
    have h1 : x < y ∨ y < x := by omega
    have h2 : f x < f y ∨ f y < f x := by omega
    split <;> split <;> split <;> split <;> omega
  | trans p q ih1 ih2 =>
    rw [ih1 nd hf, ih2 (p.nodup_iff.mp nd) fun x hx y hy => hf x (p.mem_iff.mpr hx) y (p.mem_iff.mpr hy)]
theorem inv_sorted : ∀ {l : List Int}, l.Pairwise (· ≤ ·) → inv l = 0
  | [], _ => rfl
  | x :: l, h => by
    have hx : ∀ z ∈ l, x ≤ z := fun z hz => List.rel_of_pairwise_cons h hz
    have e : lt x l = 0 := by
      unfold lt
      rw [List.length_eq_zero_iff, List.filter_eq_nil_iff]
      intro z hz
      have := hx z hz
      simp
      omega
    show lt x l + inv l = 0
    rw [e, inv_sorted (List.Pairwise.of_cons h)]
/-! ### mirrored -/
theorem lt_mirror (c x : Int) : ∀ (l : List Int), x ∉ l → lt (c - x) (l.map fun y => c - y) + lt x l = l.length
  | [], _ => rfl
  | y :: l, h => by
    have h1 : x ≠ y := fun e => h (by rw [e]; exact List.mem_cons_self)
    have ih := lt_mirror c x l fun z => h (List.mem_cons_of_mem _ z)
    rw [List.map_cons, lt_cons, lt_cons, List.length_cons]
    rcases Int.lt_or_gt_of_ne h1 with h2 | h2
    · rw [if_pos (by omega), if_neg (by omega)]; omega
    · rw [if_neg (by omega), if_pos (by omega)]; omega
def tri : Nat → Nat
  | 0 => 0
  | n + 1 => n + tri n
theorem tri_eq : ∀ n : Nat, (tri n : Int) = (n : Int) * ((n : Int) - 1) / 2
  | 0 => by decide
  | n + 1 => by
    have ih := tri_eq n
    have e : ((n + 1 : Nat) : Int) * (((n + 1 : Nat) : Int) - 1) = (n : Int) * ((n : Int) - 1) + n * 2 := by
      rw [show ((n + 1 : Nat) : Int) - 1 = n by omega, show ((n + 1 : Nat) : Int) = (n : Int) + 1 by omega, Int.add_mul, Int.mul_sub]
      omega
    rw [e, Int.add_mul_ediv_right _ _ (by omega), ← ih]
    show ((n + tri n : Nat) : Int) = _
    omega
theorem inv_mirror (c : Int) : ∀ (l : List Int), l.Nodup → inv (l.map fun y => c - y) + inv l = tri l.length
  | [], _ => rfl
  | x :: l, h => by
    obtain ⟨h1, h2⟩ := List.nodup_cons.mp h
    have e1 := lt_mirror c x l h1
    have e2 := inv_mirror c l h2
    show lt (c - x) (l.map fun y => c - y) + inv (l.map fun y => c - y) + (lt x l + inv l) = l.length + tri l.length
    omega
theorem num_mirror (c : Int) : ∀ (l : List Int), l.Nodup → num (l.map fun y => c - y) + num l = fac l.length - 1
  | [], _ => show (0 : Int) + 0 = 1 - 1 by omega
  | x :: l, h => by
    obtain ⟨h1, h2⟩ := List.nodup_cons.mp h
    have e1 := lt_mirror c x l h1
    have e2 := num_mirror c l h2
    show (lt (c - x) (l.map fun y => c - y) : Int) * fac (l.map fun y => c - y).length + num (l.map fun y => c - y) + ((lt x l : Int) * fac l.length + num l) = ((l.length : Int) + 1) * fac l.length - 1
    rw [List.length_map]
    have e3 : (lt (c - x) (l.map fun y => c - y) : Int) * fac l.length + (lt x l : Int) * fac l.length = (l.length : Int) * fac l.length := by
      rw [← Int.add_mul]
      congr 1
      omega
    rw [Int.add_mul, Int.one_mul]
    omega
/-! ### exchanges of neighbours -/
theorem inv_swap {x y : Int} (h : y < x) (bs : List Int) : ∀ as : List Int, inv (as ++ x :: y :: bs) = inv (as ++ y :: x :: bs) + 1
  | [] => by
    show lt x (y :: bs) + (lt y bs + inv bs) = lt y (x :: bs) + (lt x bs + inv bs) + 1
    rw [lt_cons, lt_cons, if_pos h, if_neg (by omega)]
    omega
  | a :: as => by
    have ih := inv_swap h bs as
    have e : lt a (as ++ x :: y :: bs) = lt a (as ++ y :: x :: bs) := lt_perm (List.Perm.append_left as (List.Perm.swap y x bs))
    show lt a (as ++ x :: y :: bs) + inv (as ++ x :: y :: bs) = lt a (as ++ y :: x :: bs) + inv (as ++ y :: x :: bs) + 1
    rw [e, ih]
    omega
/-- one walk of a bubble c through l -/
def bub (c : Int) : List Int → List Int
  | [] => [c]
  | y :: l => if y < c then y :: bub c l else c :: bub y l
theorem bub_length : ∀ (l : List Int) (c : Int), (bub c l).length = l.length + 1
  | [], _ => rfl
  | y :: l, c => by
    unfold bub
    split
    · rw [List.length_cons, bub_length l c, List.length_cons]
    · rw [List.length_cons, bub_length l y, List.length_cons]
theorem bub_perm : ∀ (l : List Int) (c : Int), (bub c l).Perm (c :: l)
  | [], c => .refl _
  | y :: l, c => by
    unfold bub
    split
    · exact ((bub_perm l c).cons y).trans (List.Perm.swap c y l)
    · exact (bub_perm l y).cons c
theorem bub_sorted : ∀ (bs : List Int) (c : Int), (c :: bs).Pairwise (· ≤ ·) → bub c bs = c :: bs
  | [], _, _ => rfl
  | b :: bs, c, h => by
    have h1 : c ≤ b := List.rel_of_pairwise_cons h List.mem_cons_self
    unfold bub
    rw [if_neg (by omega), bub_sorted bs b (List.Pairwise.of_cons h)]
theorem bub_max : ∀ (as bs : List Int) (c : Int), bs.Pairwise (· ≤ ·) → (∀ a ∈ c :: as, ∀ b ∈ bs, a ≤ b) → ∃ (as' : List Int) (m : Int), bub c (as ++ bs) = as' ++ m :: bs ∧ as'.length = as.length ∧ (∀ a ∈ as', a ≤ m) ∧ (∀ a ∈ m :: as', ∀ b ∈ bs, a ≤ b) ∧ (c ≤ m)
  | [], bs, c, hs, h => ⟨[], c, bub_sorted bs c (List.Pairwise.cons (fun b hb => h c List.mem_cons_self b hb) hs), rfl, fun _ z => (nomatch z), h, Int.le_refl _⟩
  | y :: as, bs, c, hs, h => by
    show ∃ as' m, (if y < c then y :: bub c (as ++ bs) else c :: bub y (as ++ bs)) = as' ++ m :: bs ∧ _
    split
    · rename_i hy
      obtain ⟨as', m, e1, e2, e3, e4, e5⟩ := bub_max as bs c hs fun a ha b hb => h a (by
        rcases List.mem_cons.mp ha with rfl | ha
        · exact List.mem_cons_self
        · exact List.mem_cons_of_mem _ (List.mem_cons_of_mem _ ha)) b hb
      refine ⟨y :: as', m, by rw [e1]; rfl, by rw [List.length_cons, e2, List.length_cons], fun a ha => ?_, fun a ha b hb => ?_, e5⟩
      · rcases List.mem_cons.mp ha with rfl | ha
        · omega
        · exact e3 a ha
      · rcases List.mem_cons.mp ha with rfl | ha
        · exact e4 a List.mem_cons_self b hb
        · rcases List.mem_cons.mp ha with rfl | ha
          · exact h a (List.mem_cons_of_mem _ List.mem_cons_self) b hb
          · exact e4 a (List.mem_cons_of_mem _ ha) b hb
    · rename_i hy
      obtain ⟨as', m, e1, e2, e3, e4, e5⟩ := bub_max as bs y hs fun a ha b hb => h a (List.mem_cons_of_mem _ ha) b hb
      refine ⟨c :: as', m, by rw [e1]; rfl, by rw [List.length_cons, e2, List.length_cons], fun a ha => ?_, fun a ha b hb => ?_, by omega⟩
      · rcases List.mem_cons.mp ha with rfl | ha
        · omega
        · exact e3 a ha
      · rcases List.mem_cons.mp ha with rfl | ha
        · exact e4 a List.mem_cons_self b hb
        · rcases List.mem_cons.mp ha with rfl | ha
          · exact h a List.mem_cons_self b hb
          · exact e4 a (List.mem_cons_of_mem _ ha) b hb
def bubs : List Int → List Int
  | [] => []
  | x :: l => bub x l
def bubN : Nat → List Int → List Int
  | 0, l => l
  | n + 1, l => bubN n (bubs l)
theorem bubN_sorted : ∀ (n : Nat) (as bs : List Int), as.length = n → bs.Pairwise (· ≤ ·) → (∀ a ∈ as, ∀ b ∈ bs, a ≤ b) → (bubN n (as ++ bs)).Pairwise (· ≤ ·)
  | 0, as, bs, hl, hs, h => by
    have e : as = [] := List.length_eq_zero_iff.mp hl
    subst e
    exact hs
  | n + 1, [], bs, hl, hs, h => by simp at hl
  | n + 1, c :: as, bs, hl, hs, h => by
    obtain ⟨as', m, e1, e2, e3, e4, e5⟩ := bub_max as bs c hs h
    show (bubN n (bub c (as ++ bs))).Pairwise (· ≤ ·)
    rw [e1]
    refine bubN_sorted n as' (m :: bs) (by rw [e2]; simpa using hl) (List.Pairwise.cons (fun b hb => e4 m List.mem_cons_self b hb) hs) fun a ha b hb => ?_
    rcases List.mem_cons.mp hb with rfl | hb
    · exact e3 a ha
    · exact e4 a (List.mem_cons_of_mem _ ha) b hb
end M3
set_option maxHeartbeats 4000000
/-! M3c: turns told back; the turn behind. -/
namespace M3
/-! ### pairs counted -/
def sumL : List Nat → Nat
  | [] => 0
  | n :: ns => n + sumL ns
theorem sumL_perm {l m : List Nat} (h : l.Perm m) : sumL l = sumL m := by
  induction h with
  | nil => rfl
  | cons x p ih => show x + _ = x + _; rw [ih]
  | swap x y l => show y + (x + _) = x + (y + _); omega
  | trans p q ih1 ih2 => rw [ih1, ih2]
section
variable {α β : Type}
def cnt (R : α → β → Bool) (A : List α) (B : List β) : Nat := sumL (A.map fun p => (B.filter (R p)).length)
theorem cnt_perm {R : α → β → Bool} {A A' : List α} {B B' : List β} (h : A.Perm A') (h2 : B.Perm B') : cnt R A B = cnt R A' B' := by
  unfold cnt
  rw [sumL_perm (h.map _)]
  congr 1
  refine List.map_congr_left fun p _ => ?_
  exact (h2.filter _).length_eq
theorem cnt_cons_right (R : α → β → Bool) (q : β) (B : List β) : ∀ A : List α, cnt R A (q :: B) = (A.filter fun p => R p q).length + cnt R A B
  | [] => rfl
  | p :: A => by
    have ih := cnt_cons_right R q B A
    show ((q :: B).filter (R p)).length + cnt R A (q :: B) = ((p :: A).filter fun p => R p q).length + ((B.filter (R p)).length + cnt R A B)
    rw [ih, List.filter_cons, List.filter_cons]
    cases h : R p q with
    | true => simp; omega
    | false => simp; omega
theorem cnt_flip (R : α → β → Bool) : ∀ (A : List α) (B : List β), cnt R A B = cnt (fun q p => R p q) B A
  | [], B => by
    show 0 = _
    induction B with
    | nil => rfl
    | cons q B ih => show 0 = 0 + cnt (fun q p => R p q) B []; omega
  | p :: A, B => by
    have ih := cnt_flip R A B
    rw [cnt_cons_right (fun q p => R p q) p A B]
    show (B.filter (R p)).length + cnt R A B = _
    rw [ih]
end
def dn (p q : Int × Int) : Bool := decide (p.1 < q.1 ∧ q.2 < p.2)
def up (p q : Int × Int) : Bool := decide (q.1 < p.1 ∧ p.2 < q.2)
theorem filter_none {α : Type} {R : α → Bool} {l : List α} (h : ∀ x ∈ l, R x = false) : l.filter R = [] := by
  rw [List.filter_eq_nil_iff]
  intro x hx
  rw [h x hx]
  simp
theorem cnt_inv : ∀ {A : List (Int × Int)}, A.Pairwise (fun p q => p.1 < q.1) → cnt dn A A = inv (A.map (·.2))
  | [], _ => rfl
  | p :: A, h => by
    have hp : ∀ q ∈ A, p.1 < q.1 := fun q hq => List.rel_of_pairwise_cons h hq
    have ih := cnt_inv (List.Pairwise.of_cons h)
    show ((p :: A).filter (dn p)).length + cnt dn A (p :: A) = lt p.2 (A.map (·.2)) + inv (A.map (·.2))
    rw [cnt_cons_right, ih, filter_none (R := fun q => dn q p) fun q hq => by
      unfold dn
      have := hp q hq
      exact decide_eq_false (by omega)]
    have e1 : (p :: A).filter (dn p) = A.filter fun q => decide (q.2 < p.2) := by
      rw [List.filter_cons, if_neg (by unfold dn; simp)]
      refine List.filter_congr fun q hq => ?_
      have := hp q hq
      unfold dn
      simp [this]
    have e2 : lt p.2 (A.map (·.2)) = (A.filter fun q => decide (q.2 < p.2)).length := by
      unfold lt
      rw [List.filter_map, List.length_map]
      rfl
    rw [e1, e2]
    simp
/-- the same points, told from the other side -/
theorem inv_swapped {A B : List (Int × Int)} (hA : A.Pairwise fun p q => p.1 < q.1) (hB : B.Pairwise fun p q => p.1 < q.1) (h : B.Perm (A.map fun p => (p.2, p.1))) : inv (B.map (·.2)) = inv (A.map (·.2)) := by
  rw [← cnt_inv hA, ← cnt_inv hB, cnt_perm h h]
  have e : ∀ (C E : List (Int × Int)), cnt dn (C.map fun p => (p.2, p.1)) (E.map fun p => (p.2, p.1)) = cnt (fun p q => dn q p) C E := by
    intro C E
    unfold cnt
    rw [List.map_map]
    congr 1
    refine List.map_congr_left fun p _ => ?_
    show ((E.map fun p => (p.2, p.1)).filter _).length = _
    rw [List.filter_map, List.length_map]
    congr 1
    refine List.filter_congr fun q _ => ?_
    show decide (p.2 < q.2 ∧ q.1 < p.1) = decide (q.1 < p.1 ∧ p.2 < q.2)
    exact decide_eq_decide.mpr ⟨fun h => ⟨h.2, h.1⟩, fun h => ⟨h.2, h.1⟩⟩
  rw [e, cnt_flip]
/-! ### the turn behind -/
def insS (n : Int) : List Int → List Int
  | [] => [n]
  | m :: ms => if n ≤ m then n :: m :: ms else m :: insS n ms
def minL : Int → List Int → Int
  | n, [] => n
  | n, m :: ms => minL (if m < n then m else n) ms
/-- the least of l above x -/
def above (x : Int) (l : List Int) : Option Int := match l.filter fun y => decide (x < y) with
  | [] => none
  | y :: ys => some (ys.foldl min y)
/-- where the last rise begins -/
def rise : List Int → Option Nat
  | [] => none
  | x :: xs => match rise xs with
    | some i => some (i + 1)
    | none => match xs with
      | [] => none
      | y :: _ => if x < y then some 0 else none
theorem foldl_min_mem : ∀ (l : List Int) (n : Int), l.foldl min n = n ∨ l.foldl min n ∈ l
  | [], n => .inl rfl
  | m :: l, n => by
    show l.foldl min (min n m) = n ∨ l.foldl min (min n m) ∈ m :: l
    rcases foldl_min_mem l (min n m) with h | h
    · rw [h]
      by_cases e : n ≤ m
      · left; omega
      · right; rw [show min n m = m by omega]; exact List.mem_cons_self
    · exact .inr (List.mem_cons_of_mem _ h)
theorem foldl_min_le' : ∀ (l : List Int) (n : Int), l.foldl min n ≤ n ∧ ∀ y ∈ l, l.foldl min n ≤ y
  | [], n => ⟨Int.le_refl _, fun _ z => nomatch z⟩
  | m :: l, n => by
    obtain ⟨h1, h2⟩ := foldl_min_le' l (min n m)
    refine ⟨show l.foldl min (min n m) ≤ n by omega, fun y hy => ?_⟩
    show l.foldl min (min n m) ≤ y
    rcases List.mem_cons.mp hy with rfl | hy
    · omega
    · exact h2 y hy
theorem above_spec {x o : Int} {l : List Int} (h : above x l = some o) : o ∈ l ∧ x < o ∧ ∀ y ∈ l, x < y → o ≤ y := by
  unfold above at h
  cases q : l.filter fun y => decide (x < y) with
  | nil => rw [q] at h; cases h
  | cons y ys =>
    rw [q] at h
    cases h
    have hm : ys.foldl min y ∈ y :: ys := by
      rcases foldl_min_mem ys y with e | e
      · rw [e]; exact List.mem_cons_self
      · exact List.mem_cons_of_mem _ e
    rw [← q] at hm
    obtain ⟨h1, h2⟩ := List.mem_filter.mp hm
    refine ⟨h1, of_decide_eq_true h2, fun z hz hxz => ?_⟩
    have hz' : z ∈ y :: ys := by rw [← q]; exact List.mem_filter.mpr ⟨hz, decide_eq_true hxz⟩
    obtain ⟨h3, h4⟩ := foldl_min_le' ys y
    rcases List.mem_cons.mp hz' with rfl | hz'
    · exact h3
    · exact h4 z hz'
theorem above_some {x y : Int} {l : List Int} (hy : y ∈ l) (h : x < y) : ∃ o, above x l = some o := by
  unfold above
  cases q : l.filter fun y => decide (x < y) with
  | nil =>
    have : y ∈ l.filter fun y => decide (x < y) := List.mem_filter.mpr ⟨hy, decide_eq_true h⟩
    rw [q] at this
    cases this
  | cons y ys => exact ⟨_, rfl⟩
/-- no rise: falling, the greatest number -/
theorem rise_none : ∀ {l : List Int}, l.Nodup → rise l = none → (∀ x xs, l = x :: xs → ∀ z ∈ xs, z < x) ∧ num l = fac l.length - 1
  | [], _, _ => ⟨(fun _ _ e => nomatch e), rfl⟩
  | [x], _, _ => ⟨(fun a as e z hz => by injection e with e1 e2; subst e2; cases hz), rfl⟩
  | x :: y :: l, nd, h => by
    obtain ⟨n1, n2⟩ := List.nodup_cons.mp nd
    unfold rise at h
    cases q : rise (y :: l) with
    | some i => rw [q] at h; cases h
    | none =>
      rw [q] at h
      simp only at h
      split at h
      · cases h
      · rename_i hxy
        obtain ⟨h1, h2⟩ := rise_none n2 q
        have hyx : y < x := by
          have : x ≠ y := fun e => n1 (by rw [e]; exact List.mem_cons_self)
          omega
        have all : ∀ z ∈ y :: l, z < x := fun z hz => by
          rcases List.mem_cons.mp hz with rfl | hz
          · exact hyx
          · have := h1 y l rfl z hz; omega
        refine ⟨(fun a as e z hz => by injection e with e1 e2; subst e1; subst e2; exact all z hz), ?_⟩
        have e : lt x (y :: l) = (y :: l).length := by
          unfold lt
          rw [List.filter_eq_self.mpr fun z hz => decide_eq_true (all z hz)]
        show (lt x (y :: l) : Int) * fac (y :: l).length + num (y :: l) = (((y :: l).length : Int) + 1) * fac (y :: l).length - 1
        rw [e, h2, Int.add_mul, Int.one_mul]
        omega
theorem num_sorted : ∀ {l : List Int}, l.Pairwise (· ≤ ·) → num l = 0
  | [], _ => rfl
  | x :: l, h => by
    have hx : ∀ z ∈ l, x ≤ z := fun z hz => List.rel_of_pairwise_cons h hz
    have e : lt x l = 0 := by
      unfold lt
      rw [List.length_eq_zero_iff, List.filter_eq_nil_iff]
      intro z hz
      have := hx z hz
      simp
      omega
    show (lt x l : Int) * _ + num l = 0
    rw [e, num_sorted (List.Pairwise.of_cons h)]
    omega
/-- what is behind a turn whose last rise begins at i -/
theorem num_behind : ∀ {l : List Int} {i : Nat}, l.Nodup → rise l = some i → ∃ (x : Int) (o : Int), l[i]? = some x ∧ above x (l.drop (i + 1)) = some o ∧ above x (l.drop i) = some o ∧ o ∈ l.drop i ∧
    ∀ s : List Int, s.Perm ((l.drop i).erase o) → s.Pairwise (· ≤ ·) → num (l.take i ++ o :: s) = num l + 1 ∧ (l.take i ++ o :: s).Perm l
  | [], i, _, h => nomatch h
  | x :: xs, i, nd, h => by
    obtain ⟨n1, n2⟩ := List.nodup_cons.mp nd
    unfold rise at h
    cases q : rise xs with
    | some j =>
      rw [q] at h
      cases h
      obtain ⟨y, o, h1, h2, h3, h4, h5⟩ := num_behind n2 q
      refine ⟨y, o, by simpa using h1, by simpa using h2, by simpa using h3, by simpa using h4, fun s hs hp => ?_⟩
      obtain ⟨h6, h7⟩ := h5 s (by simpa using hs) hp
      refine ⟨?_, by simpa using h7.cons x⟩
      show (lt x (xs.take j ++ o :: s) : Int) * fac (xs.take j ++ o :: s).length + num (xs.take j ++ o :: s) = (lt x xs : Int) * fac xs.length + num xs + 1
      rw [lt_perm h7, h7.length_eq, h6]
      omega
    | none =>
      rw [q] at h
      cases xs with
      | nil => cases h
      | cons y l =>
        simp only at h
        split at h
        · rename_i hxy
          cases h
          obtain ⟨h1, h2⟩ := rise_none n2 q
          obtain ⟨o, ho⟩ := above_some (x := x) (List.mem_cons_self : y ∈ y :: l) hxy
          obtain ⟨k1, k2, k3⟩ := above_spec ho
          have hd : above x (x :: y :: l) = some o := by
            unfold above
            rw [List.filter_cons, if_neg (by simp)]
            exact ho
          refine ⟨x, o, rfl, ho, hd, List.mem_cons_of_mem _ k1, fun s hs hp => ?_⟩
          have hox : x ≠ o := by omega
          have pl : (o :: s).Perm (x :: y :: l) := (hs.cons o).trans (List.perm_cons_erase (List.mem_cons_of_mem _ k1)).symm
          refine ⟨?_, pl⟩
          show (lt o s : Int) * fac s.length + num s = (lt x (y :: l) : Int) * fac (y :: l).length + num (y :: l) + 1
          have hl : s.length = (y :: l).length := by
            have := pl.length_eq
            simpa using this
          have e1 : lt o s = lt x (y :: l) + 1 := by
            have e2 : lt o (o :: s) = lt o (x :: y :: l) := lt_perm pl
            rw [lt_cons, lt_cons, if_neg (by omega), if_pos k2] at e2
            have e3 : lt o (y :: l) = lt x (y :: l) := by
              unfold lt
              congr 1
              refine List.filter_congr fun z hz => ?_
              refine decide_eq_decide.mpr ⟨fun hzo => ?_, fun hzx => by omega⟩
              have hzx : z ≠ x := fun e => n1 (by rw [← e]; exact hz)
              rcases Int.lt_or_gt_of_ne hzx with h | h
              · exact h
              · have := k3 z hz h; omega
            omega
          rw [num_sorted hp, e1, hl, h2]
          rw [show ((lt x (y :: l) + 1 : Nat) : Int) = (lt x (y :: l) : Int) + 1 by omega, Int.add_mul, Int.one_mul]
          omega
        · cases h
end M3
set_option maxHeartbeats 4000000
/-! M3d: where a turn rises. -/
namespace M3
/-- the places where it rises, as whole numbers from k on -/
def ups (k : Int) : List Int → List Int
  | [] => []
  | x :: xs => match xs with
    | [] => []
    | y :: _ => if x < y then k :: ups (k + 1) xs else ups (k + 1) xs
theorem ups_nil (k : Int) : ups k [] = [] := rfl
theorem ups_one (k x : Int) : ups k [x] = [] := rfl
theorem ups_cons (k x y : Int) (l : List Int) : ups k (x :: y :: l) = if x < y then k :: ups (k + 1) (y :: l) else ups (k + 1) (y :: l) := by
  rw [ups]
theorem rise_cons (x y : Int) (l : List Int) : rise (x :: y :: l) = (match rise (y :: l) with | some i => some (i + 1) | none => if x < y then some 0 else none) := by
  first
    | (rw [rise]; done)
    | (rw [rise]; cases rise (y :: l) <;> rfl)
theorem ups_rise : ∀ (l : List Int) (k : Int), (ups k l).getLast? = (rise l).map fun (i : Nat) => k + (i : Int)
  | [], k => rfl
  | [x], k => by
    rw [ups_one]
    rfl
  | x :: y :: l, k => by
    have ih := ups_rise (y :: l) (k + 1)
    rw [ups_cons, rise_cons]
    cases q : rise (y :: l) with
    | some i =>
      rw [q] at ih
      have e : k + 1 + (i : Int) = k + ((i + 1 : Nat) : Int) := by omega
      split
      · cases h : ups (k + 1) (y :: l) with
        | nil => rw [h] at ih; simp at ih
        | cons a as =>
          rw [h] at ih
          rw [List.getLast?_cons_cons, ih]
          simp only [Option.map_some]
          rw [e]
      · rw [ih]
        simp only [Option.map_some]
        rw [e]
    | none =>
      rw [q] at ih
      have h : ups (k + 1) (y :: l) = [] := by
        cases h : ups (k + 1) (y :: l) with
        | nil => rfl
        | cons a as => rw [h] at ih; simp at ih
      rw [h]
      by_cases hxy : x < y
      · rw [if_pos hxy]
        simp [hxy]
      · rw [if_neg hxy]
        simp [hxy]
theorem ups_eq : ∀ (l : List Int) (k : Nat), ups (k : Int) l = ((List.range (l.length - 1)).filter fun i => match l[i]?, l[i + 1]? with | some a, some b => decide (a < b) | _, _ => false).map fun i => ((k + i : Nat) : Int)
  | [], k => rfl
  | [x], k => rfl
  | x :: y :: l, k => by
    have ih := ups_eq (y :: l) (k + 1)
    rw [ups_cons, show ((k : Int) + 1) = ((k + 1 : Nat) : Int) by omega, ih]
    have el : (x :: y :: l).length - 1 = ((y :: l).length - 1) + 1 := by simp
    rw [el, List.range_succ_eq_map, List.filter_cons, List.filter_map]
    have e : ((fun i => match (x :: y :: l)[i]?, (x :: y :: l)[i + 1]? with | some a, some b => decide (a < b) | _, _ => false) ∘ Nat.succ) = fun i => match (y :: l)[i]?, (y :: l)[i + 1]? with | some a, some b => decide (a < b) | _, _ => false := by
      funext i
      simp
    rw [e]
    by_cases hxy : x < y
    · simp only [hxy, if_true]
      simp [hxy]
      intro a _ _
      omega
    · simp only [hxy, if_false]
      simp [hxy]
      intro a _ _
      omega
end M3
set_option maxHeartbeats 4000000
namespace G
open PySem PySem.Spec PyProof.Rows L2 Z
variable [LT]
def top (i : Nat) : Stmt := PySem.Challenge.pw_swapsagree_k03_whole_great_numbers_of_tu.main.body.getD i (.Pass ⟨0, 0, 0, 0⟩)
abbrev FnP (K : PySem.W.Frag) (x : Str) (st : Stmt) (f : Addr) (fd : FuncData) : Prop := FunD K x x (defArgs st) (defBody st) (defScope st) [] [] f fd
structure Fs (K : PySem.W.Frag) (mg : Str → Option Value) : Prop where
  b_abs : mg "abs" = none
  b_all : mg "all" = none
  b_bool : mg "bool" = none
  b_enumerate : mg "enumerate" = none
  b_int : mg "int" = none
  b_isinstance : mg "isinstance" = none
  b_len : mg "len" = none
  b_list : mg "list" = none
  b_min : mg "min" = none
  b_range : mg "range" = none
  b_sorted : mg "sorted" = none
  b_str : mg "str" = none
  b_sum : mg "sum" = none
  b_tuple : mg "tuple" = none
  b_zip : mg "zip" = none
  i_LETTERS : ∃ t, mg "LETTERS" = some (.int 16 t)
  i_THINGS : ∃ t, mg "THINGS" = some (.int 60 t)
  x_InvalidNumber : ErrC K mg "InvalidNumber"
  x_InvalidTurn : ErrC K mg "InvalidTurn"
  d_SwapError : ∃ C, mg "SwapError" = some (.ref C)
  k_InvalidNumber : ExK K mg "InvalidNumber"
  k_InvalidTurn : ExK K mg "InvalidTurn"
  m_InvalidNumber_SwapError : ExM K mg "InvalidNumber" "SwapError"
  m_InvalidTurn_SwapError : ExM K mg "InvalidTurn" "SwapError"
  q_InvalidNumber_InvalidNumber : ExI K mg "InvalidNumber" "InvalidNumber" true
  q_InvalidNumber_InvalidTurn : ExI K mg "InvalidNumber" "InvalidTurn" false
  q_InvalidTurn_InvalidNumber : ExI K mg "InvalidTurn" "InvalidNumber" false
  q_InvalidTurn_InvalidTurn : ExI K mg "InvalidTurn" "InvalidTurn" true
  f__law_cup : ∃ f fd, mg "_law_cup" = some (.ref f) ∧ FnP K "_law_cup" (top 32) f fd
  f_is_tuple_of : ∃ f fd, mg "is_tuple_of" = some (.ref f) ∧ FnP K "is_tuple_of" (top 7) f fd
  f_is_whole : ∃ f fd, mg "is_whole" = some (.ref f) ∧ FnP K "is_whole" (top 5) f fd
  f_is_turn : ∃ f fd, mg "is_turn" = some (.ref f) ∧ FnP K "is_turn" (top 11) f fd
  f_need_turn : ∃ f fd, mg "need_turn" = some (.ref f) ∧ FnP K "need_turn" (top 12) f fd
  f_number_of : ∃ f fd, mg "number_of" = some (.ref f) ∧ FnP K "number_of" (top 23) f fd
  f_turn_number : ∃ f fd, mg "turn_number" = some (.ref f) ∧ FnP K "turn_number" (top 25) f fd
  f_turn_behind : ∃ f fd, mg "turn_behind" = some (.ref f) ∧ FnP K "turn_behind" (top 27) f fd
  f_turn_exchanges : ∃ f fd, mg "turn_exchanges" = some (.ref f) ∧ FnP K "turn_exchanges" (top 28) f fd
  f__law_times : ∃ f fd, mg "_law_times" = some (.ref f) ∧ FnP K "_law_times" (top 38) f fd
  f_need_whole : ∃ f fd, mg "need_whole" = some (.ref f) ∧ FnP K "need_whole" (top 6) f fd
  f_turns_in_all : ∃ f fd, mg "turns_in_all" = some (.ref f) ∧ FnP K "turns_in_all" (top 22) f fd
  f_turn_of : ∃ f fd, mg "turn_of" = some (.ref f) ∧ FnP K "turn_of" (top 24) f fd
  f_turn_of_number : ∃ f fd, mg "turn_of_number" = some (.ref f) ∧ FnP K "turn_of_number" (top 26) f fd
  f_are_turn_rows : ∃ f fd, mg "are_turn_rows" = some (.ref f) ∧ FnP K "are_turn_rows" (top 18) f fd
  f_need_turn_rows : ∃ f fd, mg "need_turn_rows" = some (.ref f) ∧ FnP K "need_turn_rows" (top 20) f fd
  f_rows_number : ∃ f fd, mg "rows_number" = some (.ref f) ∧ FnP K "rows_number" (top 29) f fd
  f_rows_of_number : ∃ f fd, mg "rows_of_number" = some (.ref f) ∧ FnP K "rows_of_number" (top 30) f fd
  f__law_sort : ∃ f fd, mg "_law_sort" = some (.ref f) ∧ FnP K "_law_sort" (top 35) f fd
  f__law_like : ∃ f fd, mg "_law_like" = some (.ref f) ∧ FnP K "_law_like" (top 36) f fd
  f__law_written_right : ∃ f fd, mg "_law_written_right" = some (.ref f) ∧ FnP K "_law_written_right" (top 45) f fd
  f__law_roll : ∃ f fd, mg "_law_roll" = some (.ref f) ∧ FnP K "_law_roll" (top 33) f fd
  f__law_some : ∃ f fd, mg "_law_some" = some (.ref f) ∧ FnP K "_law_some" (top 34) f fd
  f__law_turn : ∃ f fd, mg "_law_turn" = some (.ref f) ∧ FnP K "_law_turn" (top 39) f fd
  f__law_number : ∃ f fd, mg "_law_number" = some (.ref f) ∧ FnP K "_law_number" (top 40) f fd
  f__law_behind : ∃ f fd, mg "_law_behind" = some (.ref f) ∧ FnP K "_law_behind" (top 41) f fd
  f_back_of : ∃ f fd, mg "back_of" = some (.ref f) ∧ FnP K "back_of" (top 14) f fd
  f_turn_back : ∃ f fd, mg "turn_back" = some (.ref f) ∧ FnP K "turn_back" (top 16) f fd
  f__law_exchanges : ∃ f fd, mg "_law_exchanges" = some (.ref f) ∧ FnP K "_law_exchanges" (top 42) f fd
  f_joined_of : ∃ f fd, mg "joined_of" = some (.ref f) ∧ FnP K "joined_of" (top 13) f fd
  f_turn_joined : ∃ f fd, mg "turn_joined" = some (.ref f) ∧ FnP K "turn_joined" (top 15) f fd
  f__law_error : ∃ f fd, mg "_law_error" = some (.ref f) ∧ FnP K "_law_error" (top 37) f fd
  f__law_turns_right : ∃ f fd, mg "_law_turns_right" = some (.ref f) ∧ FnP K "_law_turns_right" (top 43) f fd
  f__law_rows_right : ∃ f fd, mg "_law_rows_right" = some (.ref f) ∧ FnP K "_law_rows_right" (top 44) f fd
  f_law : ∃ f fd, mg "law" = some (.ref f) ∧ FnP K "law" (top 46) f fd
structure Ys (K : PySem.W.Frag) (mg : Str → Option Value) (base : Heap) : Prop where
  y__law_turns_right : LamF K mg base "_law_turns_right"
  y__law_rows_right : LamF K mg base "_law_rows_right"
variable {P : Program} {w : World} {K : PySem.W.Frag} {mg : Str → Option Value} {base : Heap}
/-! ### _law_cup -/
theorem sc__law_cup : FnScope ["script", "cell"] ["script"] (defScope (top 32)) := ⟨rfl, rfl, rfl, by decide +kernel, rfl, by decide +kernel, by decide +kernel⟩
def m__law_cup : M (List D) := mDefN 2 (
  (rSeq (mSet 1 (xV (mB bAbs (aCons (m2 (d2 fIx) (m2 (d2 fAdd) (mB bList (aCons (mVar 0) aNil)) (mLst (aCons (mC (.int 0)) aNil))) (mC (.int 0))) aNil))))
  (nLst (aCons (mIf (toB (m2 (d2 fGe) (mVar 1) (m2 (d2 fPow) (mC (.int 10)) (mC (.int 18))))) (m2 (d2 fDiv) (mVar 1) (mC (.int 331))) (mC (.int 0))) (aCons (m2 (d2 fMod) (mB bInt (aCons (m2 (d2 fAdd) (m2 (d2 fMulT) (mVar 1) (mC (.int 1103))) (mC (.int 99023))) aNil)) (mC (.int 1048576))) aNil)))))
theorem c__law_cup (Z : Fs K mg) : CalN P w K mg base 1 "_law_cup" 1 m__law_cup := by
  obtain ⟨f, fd, g, F⟩ := Z.f__law_cup
  exact cal_N g F (F.bindsN fun _ _ _ _ _ _ us hl => match us, hl with | [_], _ => rfl) sc__law_cup (by decide) (fun cdv A outer s H E hr =>
  (r_cons (s_set (i := 1) sc__law_cup.nd rfl (.inl rfl) (x_E (e_B call_abs b_abs rfl Z.b_abs boot_abs (a_cons (e_ix (e_op or_add o2_add (e_Ty call_list_of b_list rfl Z.b_list boot_list (a_cons (e_var (i := 0) rfl (.inl rfl)) a_nil)) (e_lst (a_cons e_int a_nil))) e_int) a_nil))))
  (r_ret (n_lst (a_cons (e_if (t_cmp op_ge o2_ge (e_var (i := 1) rfl (.inl rfl)) (e_op op_pow o2_pow e_int e_int)) (e_op op_fdivW o2_div (e_var (i := 1) rfl (.inl rfl)) e_int) e_int) (a_cons (e_op op_mod o2_mod (e_Ty call_int1 b_int rfl Z.b_int boot_int (a_cons (e_op or_add o2_add (e_op or_mulT o2_mulT (e_var (i := 1) rfl (.inl rfl)) e_int) e_int) a_nil)) e_int) a_nil))))))
/-! ### is_tuple_of -/
theorem sc_is_tuple_of : FnScope ["value", "low", "high"] ["value", "low", "high"] (defScope (top 7)) := ⟨rfl, rfl, rfl, by decide +kernel, rfl, by decide +kernel, by decide +kernel⟩
def b_is_tuple_of : M Fl :=
  (mRet (mAndV (m1 (fIsi "tuple") (mVar 0)) (mChain (d2 fLe) (d2 fLe) (mVar 1) (mB bLen (aCons (mVar 0) aNil)) (mVar 2))))
def m_is_tuple_of : M D := mDef 3 b_is_tuple_of
theorem c_is_tuple_of (Z : Fs K mg) : Cal P w K mg base 1 "is_tuple_of" 3 m_is_tuple_of := by
  obtain ⟨f, fd, g, F⟩ := Z.f_is_tuple_of
  exact cal_D g F (F.bindsN fun _ _ _ _ _ _ us hl => match us, hl with | [_, _, _], _ => rfl) sc_is_tuple_of (by decide) (fun cdv A outer s H E hr =>
  (ss_one (s_ret (e_and (e_isi (T := "tuple") rfl rfl Z.b_isinstance rfl Z.b_tuple boot_tuple (e_var (i := 0) rfl (.inl rfl))) (e_one (e_chain op_le o2_le op_le o2_le (e_var (i := 1) rfl (.inl rfl)) (e_B call_len b_len rfl Z.b_len boot_len (a_cons (e_var (i := 0) rfl (.inl rfl)) a_nil)) (e_var (i := 2) rfl (.inl rfl))))))))
/-! ### is_whole -/
theorem sc_is_whole : FnScope ["value", "low", "high"] ["value", "low", "high"] (defScope (top 5)) := ⟨rfl, rfl, rfl, by decide +kernel, rfl, by decide +kernel, by decide +kernel⟩
def b_is_whole : M Fl :=
  (mRet (mAndV (m1 (fIsi "int") (mVar 0)) (mAndV (mNotV (m1 (fIsi "bool") (mVar 0))) (mChain (d2 fLe) (d2 fLe) (mVar 1) (mVar 0) (mVar 2)))))
def m_is_whole : M D := mDef 3 b_is_whole
theorem c_is_whole (Z : Fs K mg) : Cal P w K mg base 1 "is_whole" 3 m_is_whole := by
  obtain ⟨f, fd, g, F⟩ := Z.f_is_whole
  exact cal_D g F (F.bindsN fun _ _ _ _ _ _ us hl => match us, hl with | [_, _, _], _ => rfl) sc_is_whole (by decide) (fun cdv A outer s H E hr =>
  (ss_one (s_ret (e_and (e_isi (T := "int") rfl rfl Z.b_isinstance rfl Z.b_int boot_int (e_var (i := 0) rfl (.inl rfl))) (e_and (e_not (e_isi (T := "bool") rfl rfl Z.b_isinstance rfl Z.b_bool boot_bool (e_var (i := 0) rfl (.inl rfl)))) (e_one (e_chain op_le o2_le op_le o2_le (e_var (i := 1) rfl (.inl rfl)) (e_var (i := 0) rfl (.inl rfl)) (e_var (i := 2) rfl (.inl rfl)))))))))
/-! ### is_turn -/
def n_is_turn_1 : M (List D) :=
  nLc [1] (iOf (mVar 0) isAny) (gN 1) (ret true) (mCallN 3 m_is_whole (aCons (mVar 1) (aCons (mC (.int 0)) (aCons (m2 (d2 fSub) (mB bLen (aCons (mVar 0) aNil)) (mC (.int 1))) aNil))))
theorem sc_is_turn : FnScope ["value", "own"] ["value"] (defScope (top 11)) := ⟨rfl, rfl, rfl, by decide +kernel, rfl, by decide +kernel, by decide +kernel⟩
def b_is_turn : M Fl :=
  (mSeq (mIfS (mOr (mNot (toB (mCallN 3 m_is_tuple_of (aCons (mVar 0) (aCons (mC (.int 1)) (aCons (mC (.int 60)) aNil)))))) (mNot (toB (mB bAll (aCons (eN n_is_turn_1) aNil))))) (mRet (mC (.bl false))) mSkip)
  (mRet (m2 (d2 fEq) (mB bSorted (aCons (mVar 0) aNil)) (eN (nRgL (mRg1 (mB bLen (aCons (mVar 0) aNil))))))))
def m_is_turn : M D := mDef 2 b_is_turn
theorem c_is_turn (Z : Fs K mg) : Cal P w K mg base 2 "is_turn" 1 m_is_turn := by
  obtain ⟨f, fd, g, F⟩ := Z.f_is_turn
  exact cal_D g F (F.bindsN fun _ _ _ _ _ _ us hl => match us, hl with | [_], _ => rfl) sc_is_turn (by decide) (fun cdv A outer s H E hr =>
  (ss_cons (s_if (t_w (w_or (t_not (t_val (e_call ((c_is_tuple_of Z).mono (by omega)) hr (takes_of rfl rfl rfl rfl) rfl (a_cons (e_var (i := 0) rfl (.inr (.inl rfl))) (a_cons e_int (a_cons (e_globI rfl Z.i_THINGS) a_nil)))))) (w_or1 (t_not (t_val (e_B (cr_all rfl) b_all rfl Z.b_all boot_all (a_cons (e_N (n_lc (own := [("own", 1)]) rfl sc_is_turn.nd (i_any (e_var (i := 0) rfl (.inr (.inl rfl)))) (blkOk_by rfl) (by decide) (fun _ _ _ _ _ => (g_name (i := 1) sc_is_turn.nd rfl (.inl rfl))) (fun _ _ _ _ _ => ts_nil) (fun _ _ _ _ _ => (e_call ((c_is_whole Z).mono (by omega)) hr LamX.takes0 rfl (a_cons (e_var (i := 1) rfl (.inl rfl)) (a_cons e_int (a_cons (e_op op_sub o2_sub (e_B call_len b_len rfl Z.b_len boot_len (a_cons (e_var (i := 0) rfl (.inr (.inl rfl))) a_nil)) e_int) a_nil))))))) a_nil))))))) (ss_one (s_ret e_bl)) ss_nil)
  (ss_one (s_ret (e_cmp (op_eqD (Room.units hr)) o2_eq (e_B cr_sortedB b_sorted rfl Z.b_sorted boot_sorted (a_cons (e_var (i := 0) rfl (.inr (.inl rfl))) a_nil)) (e_N (n_rgL rfl rfl Z.b_list (r_1 rfl Z.b_range (e_B call_len b_len rfl Z.b_len boot_len (a_cons (e_var (i := 0) rfl (.inr (.inl rfl))) a_nil))))))))))
/-! ### need_turn -/
theorem sc_need_turn : FnScope ["value"] ["value"] (defScope (top 12)) := ⟨rfl, rfl, rfl, by decide +kernel, rfl, by decide +kernel, by decide +kernel⟩
def b_need_turn : M Fl :=
  (mIfS (mNot (toB (mCallN 1 m_is_turn (aCons (mVar 0) aNil)))) (mRaise ⟨"InvalidTurn", none⟩) mSkip)
def m_need_turn : M D := mDef 1 b_need_turn
theorem c_need_turn (Z : Fs K mg) : Cal P w K mg base 3 "need_turn" 1 m_need_turn := by
  obtain ⟨f, fd, g, F⟩ := Z.f_need_turn
  exact cal_D g F (F.bindsN fun _ _ _ _ _ _ us hl => match us, hl with | [_], _ => rfl) sc_need_turn (by decide) (fun cdv A outer s H E hr =>
  (ss_one (s_if (t_not (t_val (e_call ((c_is_turn Z).mono (by omega)) hr (takes_of rfl rfl rfl rfl) rfl (a_cons (e_var (i := 0) rfl (.inl rfl)) a_nil)))) (ss_one (s_raise Z.x_InvalidTurn rfl (takes_of rfl rfl rfl rfl) rfl)) ss_nil)))
/-! ### number_of -/
def n_number_of_1 : M (List D) :=
  nLc [5] (iOf (mSl (mVar 0) (mPart (m2 (d2 fAdd) (mVar 2) (mC (.int 1)))) (ret none)) isAny) (gN 5) (toB (m2 (d2 fLt) (mVar 5) (mVar 3))) (mVar 5)
def o_number_of_2 : M Fl :=
  (mSeq (mSet 4 (xV (mB bLen (aCons (eN n_number_of_1) aNil))))
  (mSet 1 (xV (m2 (d2 fAdd) (m2 (d2 fMulT) (mVar 1) (m2 (d2 fSub) (mB bLen (aCons (mVar 0) aNil)) (mVar 2))) (mVar 4)))))
theorem sc_number_of : FnScope ["turn", "found", "at", "own", "lesser", "later"] ["turn"] (defScope (top 23)) := ⟨rfl, rfl, rfl, by decide +kernel, rfl, by decide +kernel, by decide +kernel⟩
def b_number_of : M Fl :=
  (mSeq (mSet 1 (xV (mC (.int 0))))
  (mSeq (mFor (iArgs (aCons (mVar 0) aNil) fEnum) (gT 2 (gsCons (gN 2) (gsCons (gN 3) gsNil))) o_number_of_2)
  (mRet (mVar 1))))
def m_number_of : M D := mDef 6 b_number_of
theorem c_number_of (Z : Fs K mg) : Cal P w K mg base 1 "number_of" 1 m_number_of := by
  obtain ⟨f, fd, g, F⟩ := Z.f_number_of
  exact cal_D g F (F.bindsN fun _ _ _ _ _ _ us hl => match us, hl with | [_], _ => rfl) sc_number_of (by decide) (fun cdv A outer s H E hr =>
  (ss_cons (s_set (i := 1) sc_number_of.nd rfl (.inl rfl) (x_E e_int))
  (ss_cons (s_for (passes_of rfl) rfl (i_enum rfl Z.b_enumerate (a_cons (e_var (i := 0) rfl (.inl rfl)) a_nil)) (g_tup rfl (gs_cons (g_name (i := 2) sc_number_of.nd rfl (.inl rfl)) (gs_cons (g_name (i := 3) sc_number_of.nd rfl (.inr rfl)) gs_nil))) (ss_cons (s_set (i := 4) sc_number_of.nd rfl (.inl rfl) (x_E (e_B call_len b_len rfl Z.b_len boot_len (a_cons (e_N (n_lc (own := [("later", 5)]) rfl sc_number_of.nd (i_any (e_sl (e_var (i := 0) rfl (.inl rfl)) (o_some (e_op or_add o2_add (e_var (i := 2) rfl (.inl rfl)) e_int)) o_none)) (blkOk_by rfl) (by decide) (fun _ _ _ _ _ => (g_name (i := 5) sc_number_of.nd rfl (.inl rfl))) (fun _ _ _ _ _ => (ts_one (t_cmp op_lt o2_lt (e_var (i := 5) rfl (.inl rfl)) (e_var (i := 3) rfl (.inr (.inl rfl)))))) (fun _ _ _ _ _ => (e_var (i := 5) rfl (.inl rfl))))) a_nil))))
  (ss_one (s_set (i := 1) sc_number_of.nd rfl (.inl rfl) (x_E (e_op or_add o2_add (e_op or_mulT o2_mulT (e_var (i := 1) rfl (.inl rfl)) (e_op op_sub o2_sub (e_B call_len b_len rfl Z.b_len boot_len (a_cons (e_var (i := 0) rfl (.inl rfl)) a_nil)) (e_var (i := 2) rfl (.inl rfl)))) (e_var (i := 4) rfl (.inl rfl))))))))
  (ss_one (s_ret (e_var (i := 1) rfl (.inl rfl)))))))
/-! ### turn_number -/
theorem sc_turn_number : FnScope ["turn"] ["turn"] (defScope (top 25)) := ⟨rfl, rfl, rfl, by decide +kernel, rfl, by decide +kernel, by decide +kernel⟩
def b_turn_number : M Fl :=
  (mSeq (mExpr (mCallN 1 m_need_turn (aCons (mVar 0) aNil)))
  (mRet (mCallN 1 m_number_of (aCons (mVar 0) aNil))))
def m_turn_number : M D := mDef 1 b_turn_number
theorem c_turn_number (Z : Fs K mg) : Cal P w K mg base 4 "turn_number" 1 m_turn_number := by
  obtain ⟨f, fd, g, F⟩ := Z.f_turn_number
  exact cal_D g F (F.bindsN fun _ _ _ _ _ _ us hl => match us, hl with | [_], _ => rfl) sc_turn_number (by decide) (fun cdv A outer s H E hr =>
  (ss_cons (s_expr (e_call ((c_need_turn Z).mono (by omega)) hr (takes_of rfl rfl rfl rfl) rfl (a_cons (e_var (i := 0) rfl (.inl rfl)) a_nil)))
  (ss_one (s_ret (e_call ((c_number_of Z).mono (by omega)) hr (takes_of rfl rfl rfl rfl) rfl (a_cons (e_var (i := 0) rfl (.inl rfl)) a_nil))))))
/-! ### turn_behind -/
def n_turn_behind_1 : M (List D) :=
  nLc [2] (iArgs (aCons (m2 (d2 fSub) (mB bLen (aCons (mVar 0) aNil)) (mC (.int 1))) aNil) fRng1) (gN 2) (toB (m2 (d2 fLt) (m2 (d2 fIx) (mVar 0) (mVar 2)) (m2 (d2 fIx) (mVar 0) (m2 (d2 fAdd) (mVar 2) (mC (.int 1)))))) (mVar 2)
def n_turn_behind_2 : M (List D) :=
  nLcO 3 [5] (gN 5) (toB (m2 (d2 fGt) (mVar 5) (m2 (d2 fIx) (mVar 0) (mVar 2)))) (mVar 5)
theorem sc_turn_behind : FnScope ["turn", "falls", "at", "tail", "own", "later"] ["turn"] (defScope (top 27)) := ⟨rfl, rfl, rfl, by decide +kernel, rfl, by decide +kernel, by decide +kernel⟩
def b_turn_behind : M Fl :=
  (mSeq (mExpr (mCallN 1 m_need_turn (aCons (mVar 0) aNil)))
  (mSeq (mSet 1 (xV (eN n_turn_behind_1)))
  (mSeq (mIfS (toB (m2 (d2 fEq) (mVar 1) (mLst aNil))) (mRet (mC .non)) mSkip)
  (mSeq (mSet 2 (xV (m2 (d2 fIx) (mVar 1) (m1 fNeg (mC (.int 1))))))
  (mSeq (mSet 3 (xN (nB nList (aCons (mSl (mVar 0) (mPart (mVar 2)) (ret none)) aNil))))
  (mSeq (mSet 4 (xV (mB bMin (aCons (eN n_turn_behind_2) aNil))))
  (mSeq (mExpr (mRem (mVar 3) (mVar 4)))
  (mRet (m2 (d2 fAdd) (m2 (d2 fAdd) (mSl (mVar 0) (ret none) (mPart (mVar 2))) (mTup (aCons (mVar 4) aNil))) (mB bTuple (aCons (mB bSorted (aCons (mVar 3) aNil)) aNil)))))))))))
def m_turn_behind : M D := mDef 6 b_turn_behind
theorem c_turn_behind (Z : Fs K mg) : Cal P w K mg base 4 "turn_behind" 1 m_turn_behind := by
  obtain ⟨f, fd, g, F⟩ := Z.f_turn_behind
  exact cal_D g F (F.bindsN fun _ _ _ _ _ _ us hl => match us, hl with | [_], _ => rfl) sc_turn_behind (by decide) (fun cdv A outer s H E hr =>
  (ss_cons (s_expr (e_call ((c_need_turn Z).mono (by omega)) hr (takes_of rfl rfl rfl rfl) rfl (a_cons (e_var (i := 0) rfl (.inr (.inl rfl))) a_nil)))
  (ss_cons (s_lc (i := 1) lc_E (own := [("at", 2)]) rfl sc_turn_behind.nd rfl rfl (i_rng1 rfl Z.b_range (a_cons (e_op op_sub o2_sub (e_B call_len b_len rfl Z.b_len boot_len (a_cons (e_var (i := 0) rfl (.inr (.inl rfl))) a_nil)) e_int) a_nil)) (blkOk_by rfl) (by decide) (fun _ _ _ _ _ => (g_name (i := 2) sc_turn_behind.nd rfl (.inl rfl))) (fun _ _ _ _ _ => (ts_one (t_cmp op_lt o2_lt (e_ix (e_var (i := 0) rfl (.inr (.inl rfl))) (e_var (i := 2) rfl (.inl rfl))) (e_ix (e_var (i := 0) rfl (.inr (.inl rfl))) (e_op or_add o2_add (e_var (i := 2) rfl (.inl rfl)) e_int))))) (fun _ _ _ _ _ => (e_var (i := 2) rfl (.inl rfl))))
  (ss_cons (s_if (t_cmp (op_eqD (Room.units hr)) o2_eq (e_var (i := 1) rfl (.inl rfl)) (e_lst a_nil)) (ss_one (s_ret e_non)) ss_nil)
  (ss_cons (s_set (i := 2) sc_turn_behind.nd rfl (.inr rfl) (x_E (e_ix (e_var (i := 1) rfl (.inl rfl)) (e_neg e_int))))
  (ss_cons (s_set (i := 3) sc_turn_behind.nd rfl (.inl rfl) (x_N (n_list rfl Z.b_list (a_cons (e_sl (e_var (i := 0) rfl (.inr (.inl rfl))) (o_some (e_var (i := 2) rfl (.inr (.inl rfl)))) o_none) a_nil))))
  (ss_cons (s_set (i := 4) sc_turn_behind.nd rfl (.inl rfl) (x_E (e_B (cr_min rfl) b_min rfl Z.b_min boot_min (a_cons (e_N (n_lcO (own := [("later", 5)]) (o := 3) rfl (.inl rfl) (by decide) rfl sc_turn_behind.nd (blkOk_by rfl) (by decide) (fun _ _ _ _ _ => (g_name (i := 5) sc_turn_behind.nd rfl (.inl rfl))) (fun _ _ _ _ _ => (ts_one (t_cmp op_gt o2_gt (e_var (i := 5) rfl (.inl rfl)) (e_ix (e_var (i := 0) rfl (.inr (.inl rfl))) (e_var (i := 2) rfl (.inr (.inl rfl))))))) (fun _ _ _ _ _ => (e_var (i := 5) rfl (.inl rfl))))) a_nil))))
  (ss_cons (s_expr (e_rem rfl (takes_of rfl rfl rfl rfl) (e_var (i := 3) rfl (.inl rfl)) (e_var (i := 4) rfl (.inl rfl))))
  (ss_one (s_ret (e_op or_add o2_add (e_op or_add o2_add (e_sl (e_var (i := 0) rfl (.inr (.inl rfl))) o_none (o_some (e_var (i := 2) rfl (.inr (.inl rfl))))) (e_tup (a_cons (e_var (i := 4) rfl (.inl rfl)) a_nil))) (e_Ty call_tuple_of b_tuple rfl Z.b_tuple boot_tuple (a_cons (e_B cr_sortedB b_sorted rfl Z.b_sorted boot_sorted (a_cons (e_var (i := 3) rfl (.inl rfl)) a_nil)) a_nil)))))))))))))
/-! ### turn_exchanges -/
def n_turn_exchanges_1 : M (List D) :=
  nLc [3] (iOf (mSl (mVar 0) (mPart (m2 (d2 fAdd) (mVar 1) (mC (.int 1)))) (ret none)) isAny) (gN 3) (toB (m2 (d2 fLt) (mVar 3) (mVar 2))) (mVar 3)
def n_turn_exchanges_2 : M (List D) :=
  nLc [1, 2] (iArgs (aCons (mVar 0) aNil) fEnum) (gT 2 (gsCons (gN 1) (gsCons (gN 2) gsNil))) (ret true) (mB bLen (aCons (eN n_turn_exchanges_1) aNil))
theorem sc_turn_exchanges : FnScope ["turn", "at", "own", "later"] ["turn"] (defScope (top 28)) := ⟨rfl, rfl, rfl, by decide +kernel, rfl, by decide +kernel, by decide +kernel⟩
def b_turn_exchanges : M Fl :=
  (mSeq (mExpr (mCallN 1 m_need_turn (aCons (mVar 0) aNil)))
  (mRet (mB bSum (aCons (eN n_turn_exchanges_2) aNil))))
def m_turn_exchanges : M D := mDef 4 b_turn_exchanges
theorem c_turn_exchanges (Z : Fs K mg) : Cal P w K mg base 4 "turn_exchanges" 1 m_turn_exchanges := by
  obtain ⟨f, fd, g, F⟩ := Z.f_turn_exchanges
  exact cal_D g F (F.bindsN fun _ _ _ _ _ _ us hl => match us, hl with | [_], _ => rfl) sc_turn_exchanges (by decide) (fun cdv A outer s H E hr =>
  (ss_cons (s_expr (e_call ((c_need_turn Z).mono (by omega)) hr (takes_of rfl rfl rfl rfl) rfl (a_cons (e_var (i := 0) rfl (.inr (.inl rfl))) a_nil)))
  (ss_one (s_ret (e_B (cr_sum rfl) b_sum rfl Z.b_sum boot_sum (a_cons (e_N (n_lc (own := [("at", 1), ("own", 2)]) rfl sc_turn_exchanges.nd (i_enum rfl Z.b_enumerate (a_cons (e_var (i := 0) rfl (.inr (.inl rfl))) a_nil)) (blkOk_by rfl) (by decide) (fun _ _ _ _ _ => (g_tup rfl (gs_cons (g_name (i := 1) sc_turn_exchanges.nd rfl (.inl rfl)) (gs_cons (g_name (i := 2) sc_turn_exchanges.nd rfl (.inr rfl)) gs_nil)))) (fun _ _ _ _ _ => ts_nil) (fun _ _ _ _ _ => (e_B call_len b_len rfl Z.b_len boot_len (a_cons (e_N (n_lc (own := [("later", 3)]) rfl sc_turn_exchanges.nd (i_any (e_sl (e_var (i := 0) rfl (.inr (.inl rfl))) (o_some (e_op or_add o2_add (e_var (i := 1) rfl (.inl rfl)) e_int)) o_none)) (blkOk_by rfl) (by decide) (fun _ _ _ _ _ => (g_name (i := 3) sc_turn_exchanges.nd rfl (.inl rfl))) (fun _ _ _ _ _ => (ts_one (t_cmp op_lt o2_lt (e_var (i := 3) rfl (.inl rfl)) (e_var (i := 2) rfl (.inr (.inl rfl)))))) (fun _ _ _ _ _ => (e_var (i := 3) rfl (.inl rfl))))) a_nil))))) a_nil))))))
/-! ### _law_times -/
def o__law_times_1 : M Fl :=
  (mSet 1 (xV (m2 (d2 fMulT) (mVar 1) (mVar 2))))
theorem sc__law_times : FnScope ["many", "found", "own"] ["many"] (defScope (top 38)) := ⟨rfl, rfl, rfl, by decide +kernel, rfl, by decide +kernel, by decide +kernel⟩
def b__law_times : M Fl :=
  (mSeq (mSet 1 (xV (mC (.int 1))))
  (mSeq (mFor (iArgs (aCons (mC (.int 2)) (aCons (m2 (d2 fAdd) (mVar 0) (mC (.int 1))) aNil)) fRng2) (gN 2) o__law_times_1)
  (mRet (mVar 1))))
def m__law_times : M D := mDef 3 b__law_times
theorem c__law_times (Z : Fs K mg) : Cal P w K mg base 1 "_law_times" 1 m__law_times := by
  obtain ⟨f, fd, g, F⟩ := Z.f__law_times
  exact cal_D g F (F.bindsN fun _ _ _ _ _ _ us hl => match us, hl with | [_], _ => rfl) sc__law_times (by decide) (fun cdv A outer s H E hr =>
  (ss_cons (s_set (i := 1) sc__law_times.nd rfl (.inl rfl) (x_E e_int))
  (ss_cons (s_for (passes_of rfl) rfl (i_rng2 rfl Z.b_range (a_cons e_int (a_cons (e_op or_add o2_add (e_var (i := 0) rfl (.inl rfl)) e_int) a_nil))) (g_name (i := 2) sc__law_times.nd rfl (.inl rfl)) (ss_one (s_set (i := 1) sc__law_times.nd rfl (.inl rfl) (x_E (e_op or_mulT o2_mulT (e_var (i := 1) rfl (.inl rfl)) (e_var (i := 2) rfl (.inl rfl)))))))
  (ss_one (s_ret (e_var (i := 1) rfl (.inl rfl)))))))
/-! ### need_whole -/
theorem sc_need_whole : FnScope ["value", "low", "high"] ["value", "low", "high"] (defScope (top 6)) := ⟨rfl, rfl, rfl, by decide +kernel, rfl, by decide +kernel, by decide +kernel⟩
def b_need_whole : M Fl :=
  (mIfS (mNot (toB (mCallN 3 m_is_whole (aCons (mVar 0) (aCons (mVar 1) (aCons (mVar 2) aNil)))))) (mRaise ⟨"InvalidNumber", none⟩) mSkip)
def m_need_whole : M D := mDef 3 b_need_whole
theorem c_need_whole (Z : Fs K mg) : Cal P w K mg base 2 "need_whole" 3 m_need_whole := by
  obtain ⟨f, fd, g, F⟩ := Z.f_need_whole
  exact cal_D g F (F.bindsN fun _ _ _ _ _ _ us hl => match us, hl with | [_, _, _], _ => rfl) sc_need_whole (by decide) (fun cdv A outer s H E hr =>
  (ss_one (s_if (t_not (t_val (e_call ((c_is_whole Z).mono (by omega)) hr (takes_of rfl rfl rfl rfl) rfl (a_cons (e_var (i := 0) rfl (.inl rfl)) (a_cons (e_var (i := 1) rfl (.inl rfl)) (a_cons (e_var (i := 2) rfl (.inl rfl)) a_nil)))))) (ss_one (s_raise Z.x_InvalidNumber rfl (takes_of rfl rfl rfl rfl) rfl)) ss_nil)))
/-! ### turns_in_all -/
def o_turns_in_all_1 : M Fl :=
  (mSet 1 (xV (m2 (d2 fMulT) (mVar 1) (mVar 2))))
theorem sc_turns_in_all : FnScope ["many", "found", "own"] ["many"] (defScope (top 22)) := ⟨rfl, rfl, rfl, by decide +kernel, rfl, by decide +kernel, by decide +kernel⟩
def b_turns_in_all : M Fl :=
  (mSeq (mSet 1 (xV (mC (.int 1))))
  (mSeq (mFor (iArgs (aCons (mC (.int 2)) (aCons (m2 (d2 fAdd) (mVar 0) (mC (.int 1))) aNil)) fRng2) (gN 2) o_turns_in_all_1)
  (mRet (mVar 1))))
def m_turns_in_all : M D := mDef 3 b_turns_in_all
theorem c_turns_in_all (Z : Fs K mg) : Cal P w K mg base 1 "turns_in_all" 1 m_turns_in_all := by
  obtain ⟨f, fd, g, F⟩ := Z.f_turns_in_all
  exact cal_D g F (F.bindsN fun _ _ _ _ _ _ us hl => match us, hl with | [_], _ => rfl) sc_turns_in_all (by decide) (fun cdv A outer s H E hr =>
  (ss_cons (s_set (i := 1) sc_turns_in_all.nd rfl (.inl rfl) (x_E e_int))
  (ss_cons (s_for (passes_of rfl) rfl (i_rng2 rfl Z.b_range (a_cons e_int (a_cons (e_op or_add o2_add (e_var (i := 0) rfl (.inl rfl)) e_int) a_nil))) (g_name (i := 2) sc_turns_in_all.nd rfl (.inl rfl)) (ss_one (s_set (i := 1) sc_turns_in_all.nd rfl (.inl rfl) (x_E (e_op or_mulT o2_mulT (e_var (i := 1) rfl (.inl rfl)) (e_var (i := 2) rfl (.inl rfl)))))))
  (ss_one (s_ret (e_var (i := 1) rfl (.inl rfl)))))))
/-! ### turn_of -/
def o_turn_of_1 : M Fl :=
  (mSeq (mSet 5 (xV (mCallN 1 m_turns_in_all (aCons (m2 (d2 fSub) (m2 (d2 fSub) (mVar 0) (mC (.int 1))) (mVar 4)) aNil))))
  (mSeq (mExpr (mM fAppend (mVar 3) (aCons (mM fPopAt (mVar 2) (aCons (m2 (d2 fDiv) (mVar 1) (mVar 5)) aNil)) aNil)))
  (mSet 1 (xV (m2 (d2 fMod) (mVar 1) (mVar 5))))))
theorem sc_turn_of : FnScope ["things", "number", "left", "found", "at", "block"] ["things", "number"] (defScope (top 24)) := ⟨rfl, rfl, rfl, by decide +kernel, rfl, by decide +kernel, by decide +kernel⟩
def b_turn_of : M Fl :=
  (mSeq (mPar2 2 3 (xN (nRgL (mRg1 (mVar 0)))) (xN (nLst aNil)))
  (mSeq (mFor (iArgs (aCons (mVar 0) aNil) fRng1) (gN 4) o_turn_of_1)
  (mRet (mB bTuple (aCons (mVar 3) aNil)))))
def m_turn_of : M D := mDef 6 b_turn_of
theorem c_turn_of (Z : Fs K mg) : Cal P w K mg base 2 "turn_of" 2 m_turn_of := by
  obtain ⟨f, fd, g, F⟩ := Z.f_turn_of
  exact cal_D g F (F.bindsN fun _ _ _ _ _ _ us hl => match us, hl with | [_, _], _ => rfl) sc_turn_of (by decide) (fun cdv A outer s H E hr =>
  (ss_cons (s_par2 (i := 2) (j := 3) rfl sc_turn_of.nd rfl rfl (by decide) rfl rfl (x_N (n_rgL rfl rfl Z.b_list (r_1 rfl Z.b_range (e_var (i := 0) rfl (.inl rfl))))) (x_N (n_lst a_nil)) rfl)
  (ss_cons (s_for (passes_of rfl) rfl (i_rng1 rfl Z.b_range (a_cons (e_var (i := 0) rfl (.inl rfl)) a_nil)) (g_name (i := 4) sc_turn_of.nd rfl (.inl rfl)) (ss_cons (s_set (i := 5) sc_turn_of.nd rfl (.inl rfl) (x_E (e_call ((c_turns_in_all Z).mono (by omega)) hr (takes_of rfl rfl rfl rfl) rfl (a_cons (e_op op_sub o2_sub (e_op op_sub o2_sub (e_var (i := 0) rfl (.inl rfl)) e_int) (e_var (i := 4) rfl (.inl rfl))) a_nil))))
  (ss_cons (s_expr (e_M PySem.F.slot_list_append PySem.F.type_list_append mt_append m_append (e_var (i := 3) rfl (.inl rfl)) (a_cons (e_M PySem.F.slot_list_pop PySem.F.type_list_pop mt_popAt m_popAt (e_var (i := 2) rfl (.inl rfl)) (a_cons (e_op op_fdivW o2_div (e_var (i := 1) rfl (.inl rfl)) (e_var (i := 5) rfl (.inl rfl))) a_nil)) a_nil)))
  (ss_one (s_set (i := 1) sc_turn_of.nd rfl (.inl rfl) (x_E (e_op op_mod o2_mod (e_var (i := 1) rfl (.inl rfl)) (e_var (i := 5) rfl (.inl rfl)))))))))
  (ss_one (s_ret (e_Ty call_tuple_of b_tuple rfl Z.b_tuple boot_tuple (a_cons (e_var (i := 3) rfl (.inl rfl)) a_nil)))))))
/-! ### turn_of_number -/
theorem sc_turn_of_number : FnScope ["things", "number"] ["things", "number"] (defScope (top 26)) := ⟨rfl, rfl, rfl, by decide +kernel, rfl, by decide +kernel, by decide +kernel⟩
def b_turn_of_number : M Fl :=
  (mSeq (mExpr (mCallN 3 m_need_whole (aCons (mVar 0) (aCons (mC (.int 1)) (aCons (mC (.int 60)) aNil)))))
  (mSeq (mExpr (mCallN 3 m_need_whole (aCons (mVar 1) (aCons (mC (.int 0)) (aCons (m2 (d2 fSub) (mCallN 1 m_turns_in_all (aCons (mVar 0) aNil)) (mC (.int 1))) aNil)))))
  (mRet (mCallN 2 m_turn_of (aCons (mVar 0) (aCons (mVar 1) aNil))))))
def m_turn_of_number : M D := mDef 2 b_turn_of_number
theorem c_turn_of_number (Z : Fs K mg) : Cal P w K mg base 3 "turn_of_number" 2 m_turn_of_number := by
  obtain ⟨f, fd, g, F⟩ := Z.f_turn_of_number
  exact cal_D g F (F.bindsN fun _ _ _ _ _ _ us hl => match us, hl with | [_, _], _ => rfl) sc_turn_of_number (by decide) (fun cdv A outer s H E hr =>
  (ss_cons (s_expr (e_call ((c_need_whole Z).mono (by omega)) hr (takes_of rfl rfl rfl rfl) rfl (a_cons (e_var (i := 0) rfl (.inl rfl)) (a_cons e_int (a_cons (e_globI rfl Z.i_THINGS) a_nil)))))
  (ss_cons (s_expr (e_call ((c_need_whole Z).mono (by omega)) hr (takes_of rfl rfl rfl rfl) rfl (a_cons (e_var (i := 1) rfl (.inl rfl)) (a_cons e_int (a_cons (e_op op_sub o2_sub (e_call ((c_turns_in_all Z).mono (by omega)) hr (takes_of rfl rfl rfl rfl) rfl (a_cons (e_var (i := 0) rfl (.inl rfl)) a_nil)) e_int) a_nil)))))
  (ss_one (s_ret (e_call ((c_turn_of Z).mono (by omega)) hr (takes_of rfl rfl rfl rfl) rfl (a_cons (e_var (i := 0) rfl (.inl rfl)) (a_cons (e_var (i := 1) rfl (.inl rfl)) a_nil))))))))
/-! ### are_turn_rows -/
def n_are_turn_rows_1 : M (List D) :=
  nLc [1] (iOf (mVar 0) isAny) (gN 1) (ret true) (mAndV (mCallN 1 m_is_turn (aCons (mVar 1) aNil)) (m2 (d2 fEq) (mB bLen (aCons (mVar 1) aNil)) (mB bLen (aCons (mVar 0) aNil))))
theorem sc_are_turn_rows : FnScope ["value", "row"] ["value"] (defScope (top 18)) := ⟨rfl, rfl, rfl, by decide +kernel, rfl, by decide +kernel, by decide +kernel⟩
def b_are_turn_rows : M Fl :=
  (mSeq (mIfS (mNot (toB (mCallN 3 m_is_tuple_of (aCons (mVar 0) (aCons (mC (.int 1)) (aCons (mC (.int 16)) aNil)))))) (mRet (mC (.bl false))) mSkip)
  (mRet (mB bAll (aCons (eN n_are_turn_rows_1) aNil))))
def m_are_turn_rows : M D := mDef 2 b_are_turn_rows
theorem c_are_turn_rows (Z : Fs K mg) : Cal P w K mg base 3 "are_turn_rows" 1 m_are_turn_rows := by
  obtain ⟨f, fd, g, F⟩ := Z.f_are_turn_rows
  exact cal_D g F (F.bindsN fun _ _ _ _ _ _ us hl => match us, hl with | [_], _ => rfl) sc_are_turn_rows (by decide) (fun cdv A outer s H E hr =>
  (ss_cons (s_if (t_not (t_val (e_call ((c_is_tuple_of Z).mono (by omega)) hr (takes_of rfl rfl rfl rfl) rfl (a_cons (e_var (i := 0) rfl (.inr (.inl rfl))) (a_cons e_int (a_cons (e_globI rfl Z.i_LETTERS) a_nil)))))) (ss_one (s_ret e_bl)) ss_nil)
  (ss_one (s_ret (e_B (cr_all rfl) b_all rfl Z.b_all boot_all (a_cons (e_N (n_lc (own := [("row", 1)]) rfl sc_are_turn_rows.nd (i_any (e_var (i := 0) rfl (.inr (.inl rfl)))) (blkOk_by rfl) (by decide) (fun _ _ _ _ _ => (g_name (i := 1) sc_are_turn_rows.nd rfl (.inl rfl))) (fun _ _ _ _ _ => ts_nil) (fun _ _ _ _ _ => (e_and (e_call ((c_is_turn Z).mono (by omega)) hr LamX.takes0 rfl (a_cons (e_var (i := 1) rfl (.inl rfl)) a_nil)) (e_one (e_cmp (op_eqD (Room.units hr)) o2_eq (e_B call_len b_len rfl Z.b_len boot_len (a_cons (e_var (i := 1) rfl (.inl rfl)) a_nil)) (e_B call_len b_len rfl Z.b_len boot_len (a_cons (e_var (i := 0) rfl (.inr (.inl rfl))) a_nil)))))))) a_nil))))))
/-! ### need_turn_rows -/
theorem sc_need_turn_rows : FnScope ["value"] ["value"] (defScope (top 20)) := ⟨rfl, rfl, rfl, by decide +kernel, rfl, by decide +kernel, by decide +kernel⟩
def b_need_turn_rows : M Fl :=
  (mIfS (mNot (toB (mCallN 1 m_are_turn_rows (aCons (mVar 0) aNil)))) (mRaise ⟨"InvalidTurn", none⟩) mSkip)
def m_need_turn_rows : M D := mDef 1 b_need_turn_rows
theorem c_need_turn_rows (Z : Fs K mg) : Cal P w K mg base 4 "need_turn_rows" 1 m_need_turn_rows := by
  obtain ⟨f, fd, g, F⟩ := Z.f_need_turn_rows
  exact cal_D g F (F.bindsN fun _ _ _ _ _ _ us hl => match us, hl with | [_], _ => rfl) sc_need_turn_rows (by decide) (fun cdv A outer s H E hr =>
  (ss_one (s_if (t_not (t_val (e_call ((c_are_turn_rows Z).mono (by omega)) hr (takes_of rfl rfl rfl rfl) rfl (a_cons (e_var (i := 0) rfl (.inl rfl)) a_nil)))) (ss_one (s_raise Z.x_InvalidTurn rfl (takes_of rfl rfl rfl rfl) rfl)) ss_nil)))
/-! ### rows_number -/
def o_rows_number_1 : M Fl :=
  (mSet 1 (xV (m2 (d2 fAdd) (m2 (d2 fMulT) (mVar 1) (mVar 2)) (mCallN 1 m_number_of (aCons (mVar 3) aNil)))))
theorem sc_rows_number : FnScope ["rows", "found", "block", "row"] ["rows"] (defScope (top 29)) := ⟨rfl, rfl, rfl, by decide +kernel, rfl, by decide +kernel, by decide +kernel⟩
def b_rows_number : M Fl :=
  (mSeq (mExpr (mCallN 1 m_need_turn_rows (aCons (mVar 0) aNil)))
  (mSeq (mPar2 1 2 (xV (mC (.int 0))) (xV (mCallN 1 m_turns_in_all (aCons (mB bLen (aCons (mVar 0) aNil)) aNil))))
  (mSeq (mFor (iOf (mVar 0) isAny) (gN 3) o_rows_number_1)
  (mRet (mVar 1)))))
def m_rows_number : M D := mDef 4 b_rows_number
theorem c_rows_number (Z : Fs K mg) : Cal P w K mg base 5 "rows_number" 1 m_rows_number := by
  obtain ⟨f, fd, g, F⟩ := Z.f_rows_number
  exact cal_D g F (F.bindsN fun _ _ _ _ _ _ us hl => match us, hl with | [_], _ => rfl) sc_rows_number (by decide) (fun cdv A outer s H E hr =>
  (ss_cons (s_expr (e_call ((c_need_turn_rows Z).mono (by omega)) hr (takes_of rfl rfl rfl rfl) rfl (a_cons (e_var (i := 0) rfl (.inl rfl)) a_nil)))
  (ss_cons (s_par2 (i := 1) (j := 2) rfl sc_rows_number.nd rfl rfl (by decide) rfl rfl (x_E e_int) (x_E (e_call ((c_turns_in_all Z).mono (by omega)) hr (takes_of rfl rfl rfl rfl) rfl (a_cons (e_B call_len b_len rfl Z.b_len boot_len (a_cons (e_var (i := 0) rfl (.inl rfl)) a_nil)) a_nil))) rfl)
  (ss_cons (s_for (passes_of rfl) rfl (i_any (e_var (i := 0) rfl (.inl rfl))) (g_name (i := 3) sc_rows_number.nd rfl (.inl rfl)) (ss_one (s_set (i := 1) sc_rows_number.nd rfl (.inl rfl) (x_E (e_op or_add o2_add (e_op or_mulT o2_mulT (e_var (i := 1) rfl (.inl rfl)) (e_var (i := 2) rfl (.inl rfl))) (e_call ((c_number_of Z).mono (by omega)) hr (takes_of rfl rfl rfl rfl) rfl (a_cons (e_var (i := 3) rfl (.inl rfl)) a_nil)))))))
  (ss_one (s_ret (e_var (i := 1) rfl (.inl rfl))))))))
/-! ### rows_of_number -/
def o_rows_of_number_1 : M Fl :=
  (mSet 3 (xV (m2 (d2 fMulT) (mVar 3) (mVar 2))))
def o_rows_of_number_2 : M Fl :=
  (mSeq (mExpr (mM fAppend (mVar 5) (aCons (mCallN 2 m_turn_of (aCons (mVar 0) (aCons (m2 (d2 fMod) (mVar 1) (mVar 2)) aNil))) aNil)))
  (mSet 1 (xV (m2 (d2 fDiv) (mVar 1) (mVar 2)))))
theorem sc_rows_of_number : FnScope ["letters", "number", "block", "most", "step", "rows"] ["letters", "number"] (defScope (top 30)) := ⟨rfl, rfl, rfl, by decide +kernel, rfl, by decide +kernel, by decide +kernel⟩
def b_rows_of_number : M Fl :=
  (mSeq (mExpr (mCallN 3 m_need_whole (aCons (mVar 0) (aCons (mC (.int 1)) (aCons (mC (.int 16)) aNil)))))
  (mSeq (mSet 2 (xV (mCallN 1 m_turns_in_all (aCons (mVar 0) aNil))))
  (mSeq (mSet 3 (xV (mC (.int 1))))
  (mSeq (mFor (iArgs (aCons (mVar 0) aNil) fRng1) (gN 4) o_rows_of_number_1)
  (mSeq (mExpr (mCallN 3 m_need_whole (aCons (mVar 1) (aCons (mC (.int 0)) (aCons (m2 (d2 fSub) (mVar 3) (mC (.int 1))) aNil)))))
  (mSeq (mSet 5 (xN (nLst aNil)))
  (mSeq (mFor (iArgs (aCons (mVar 0) aNil) fRng1) (gN 4) o_rows_of_number_2)
  (mRet (mB bTuple (aCons (m1 fRev (mVar 5)) aNil))))))))))
def m_rows_of_number : M D := mDef 6 b_rows_of_number
theorem c_rows_of_number (Z : Fs K mg) : Cal P w K mg base 3 "rows_of_number" 2 m_rows_of_number := by
  obtain ⟨f, fd, g, F⟩ := Z.f_rows_of_number
  exact cal_D g F (F.bindsN fun _ _ _ _ _ _ us hl => match us, hl with | [_, _], _ => rfl) sc_rows_of_number (by decide) (fun cdv A outer s H E hr =>
  (ss_cons (s_expr (e_call ((c_need_whole Z).mono (by omega)) hr (takes_of rfl rfl rfl rfl) rfl (a_cons (e_var (i := 0) rfl (.inl rfl)) (a_cons e_int (a_cons (e_globI rfl Z.i_LETTERS) a_nil)))))
  (ss_cons (s_set (i := 2) sc_rows_of_number.nd rfl (.inl rfl) (x_E (e_call ((c_turns_in_all Z).mono (by omega)) hr (takes_of rfl rfl rfl rfl) rfl (a_cons (e_var (i := 0) rfl (.inl rfl)) a_nil))))
  (ss_cons (s_set (i := 3) sc_rows_of_number.nd rfl (.inl rfl) (x_E e_int))
  (ss_cons (s_for (passes_of rfl) rfl (i_rng1 rfl Z.b_range (a_cons (e_var (i := 0) rfl (.inl rfl)) a_nil)) (g_name (i := 4) sc_rows_of_number.nd rfl (.inl rfl)) (ss_one (s_set (i := 3) sc_rows_of_number.nd rfl (.inl rfl) (x_E (e_op or_mulT o2_mulT (e_var (i := 3) rfl (.inl rfl)) (e_var (i := 2) rfl (.inl rfl)))))))
  (ss_cons (s_expr (e_call ((c_need_whole Z).mono (by omega)) hr (takes_of rfl rfl rfl rfl) rfl (a_cons (e_var (i := 1) rfl (.inl rfl)) (a_cons e_int (a_cons (e_op op_sub o2_sub (e_var (i := 3) rfl (.inl rfl)) e_int) a_nil)))))
  (ss_cons (s_set (i := 5) sc_rows_of_number.nd rfl (.inl rfl) (x_N (n_lst a_nil)))
  (ss_cons (s_for (passes_of rfl) rfl (i_rng1 rfl Z.b_range (a_cons (e_var (i := 0) rfl (.inl rfl)) a_nil)) (g_name (i := 4) sc_rows_of_number.nd rfl (.inl rfl)) (ss_cons (s_expr (e_M PySem.F.slot_list_append PySem.F.type_list_append mt_append m_append (e_var (i := 5) rfl (.inl rfl)) (a_cons (e_call ((c_turn_of Z).mono (by omega)) hr (takes_of rfl rfl rfl rfl) rfl (a_cons (e_var (i := 0) rfl (.inl rfl)) (a_cons (e_op op_mod o2_mod (e_var (i := 1) rfl (.inl rfl)) (e_var (i := 2) rfl (.inl rfl))) a_nil))) a_nil)))
  (ss_one (s_set (i := 1) sc_rows_of_number.nd rfl (.inl rfl) (x_E (e_op op_fdivW o2_div (e_var (i := 1) rfl (.inl rfl)) (e_var (i := 2) rfl (.inl rfl))))))))
  (ss_one (s_ret (e_Ty call_tuple_of b_tuple rfl Z.b_tuple boot_tuple (a_cons (e_rev (e_var (i := 5) rfl (.inl rfl))) a_nil))))))))))))
/-! ### _law_sort -/
theorem sc__law_sort : FnScope ["value"] ["value"] (defScope (top 35)) := ⟨rfl, rfl, rfl, by decide +kernel, rfl, by decide +kernel, by decide +kernel⟩
def b__law_sort : M Fl :=
  (mSeq (mIfS (mOr (toB (m2 (d2 fIs) (mVar 0) (mC .non))) (toB (m1 (fIsi "bool") (mVar 0)))) (mRet (mIf (toB (m2 (d2 fIs) (mVar 0) (mC .non))) (mC (.int 0)) (mC (.int 1)))) mSkip)
  (mSeq (mIfS (mOr (toB (m1 (fIsi "int") (mVar 0))) (toB (m1 (fIsi "str") (mVar 0)))) (mRet (mIf (toB (m1 (fIsi "int") (mVar 0))) (mC (.int 2)) (mC (.int 3)))) mSkip)
  (mRet (mIf (toB (m1 (fIsi "tuple") (mVar 0))) (mC (.int 4)) (mIf (toB (m1 (fIsi "list") (mVar 0))) (mC (.int 5)) (mC (.int 6)))))))
def m__law_sort : M D := mDef 1 b__law_sort
theorem c__law_sort (Z : Fs K mg) : Cal P w K mg base 1 "_law_sort" 1 m__law_sort := by
  obtain ⟨f, fd, g, F⟩ := Z.f__law_sort
  exact cal_D g F (F.bindsN fun _ _ _ _ _ _ us hl => match us, hl with | [_], _ => rfl) sc__law_sort (by decide) (fun cdv A outer s H E hr =>
  (ss_cons (s_if (t_w (w_or (t_cmp op_isN o2_is (e_var (i := 0) rfl (.inl rfl)) e_non) (w_or1 (t_val (e_isi (T := "bool") rfl rfl Z.b_isinstance rfl Z.b_bool boot_bool (e_var (i := 0) rfl (.inl rfl))))))) (ss_one (s_ret (e_if (t_cmp op_isN o2_is (e_var (i := 0) rfl (.inl rfl)) e_non) e_int e_int))) ss_nil)
  (ss_cons (s_if (t_w (w_or (t_val (e_isi (T := "int") rfl rfl Z.b_isinstance rfl Z.b_int boot_int (e_var (i := 0) rfl (.inl rfl)))) (w_or1 (t_val (e_isi (T := "str") rfl rfl Z.b_isinstance rfl Z.b_str boot_str (e_var (i := 0) rfl (.inl rfl))))))) (ss_one (s_ret (e_if (t_val (e_isi (T := "int") rfl rfl Z.b_isinstance rfl Z.b_int boot_int (e_var (i := 0) rfl (.inl rfl)))) e_int e_int))) ss_nil)
  (ss_one (s_ret (e_if (t_val (e_isi (T := "tuple") rfl rfl Z.b_isinstance rfl Z.b_tuple boot_tuple (e_var (i := 0) rfl (.inl rfl)))) e_int (e_if (t_val (e_isi (T := "list") rfl rfl Z.b_isinstance rfl Z.b_list boot_list (e_var (i := 0) rfl (.inl rfl)))) e_int e_int)))))))
/-! ### _law_like -/
def n__law_like_1 (rc : M D) : M (List D) :=
  nLc [3, 4] (iArgs (aCons (mVar 0) (aCons (mVar 1) aNil)) fZip) (gT 2 (gsCons (gN 3) (gsCons (gN 4) gsNil))) (mNot (toB (mCallN 2 rc (aCons (mVar 3) (aCons (mVar 4) aNil))))) (mC (.int 1))
theorem sc__law_like : FnScope ["one", "other", "sort", "first", "second"] ["one", "other"] (defScope (top 36)) := ⟨rfl, rfl, rfl, by decide +kernel, rfl, by decide +kernel, by decide +kernel⟩
def b__law_like (rc : M D) : M Fl :=
  (mSeq (mSet 2 (xV (mCallN 1 m__law_sort (aCons (mVar 1) aNil))))
  (mSeq (mIfS (mOr (toB (m2 (d2 fNe) (mCallN 1 m__law_sort (aCons (mVar 0) aNil)) (mVar 2))) (toB (m2 (d2 fEq) (mVar 2) (mC (.int 6))))) (mRet (mC (.bl false))) mSkip)
  (mSeq (mIfS (toB (m2 (d2 fIn) (mVar 2) (mTup (aCons (mC (.int 4)) (aCons (mC (.int 5)) aNil))))) (mRet (mAndV (m2 (d2 fEq) (mB bLen (aCons (mVar 0) aNil)) (mB bLen (aCons (mVar 1) aNil))) (m2 (d2 fEq) (eN (n__law_like_1 rc)) (mLst aNil)))) mSkip)
  (mRet (m2 (d2 fEq) (mVar 0) (mVar 1))))))
def m__law_like : Nat → M D
  | 0 => mStuck
  | n + 1 => mDef 5 (b__law_like (m__law_like n))
theorem r__law_like (Z : Fs K mg) : ∀ n : Nat, Cal P w K mg base (n + 2) "_law_like" 2 (m__law_like n)
  | 0 => by
    obtain ⟨f, fd, g, F⟩ := Z.f__law_like
    exact cal_stuck (ps := ["one", "other"]) g F.kp (F.bindsN fun _ _ _ _ _ _ us hl => match us, hl with | [_, _], _ => rfl) rfl
  | n + 1 => by
    obtain ⟨f, fd, g, F⟩ := Z.f__law_like
    have cr := r__law_like Z n
    exact cal_D g F (F.bindsN fun _ _ _ _ _ _ us hl => match us, hl with | [_, _], _ => rfl) sc__law_like (by decide) (fun cdv A outer s H E hr =>
  (ss_cons (s_set (i := 2) sc__law_like.nd rfl (.inl rfl) (x_E (e_call ((c__law_sort Z).mono (by omega)) hr (takes_of rfl rfl rfl rfl) rfl (a_cons (e_var (i := 1) rfl (.inl rfl)) a_nil))))
  (ss_cons (s_if (t_w (w_or (t_cmp (op_neD (Room.units hr)) o2_ne (e_call ((c__law_sort Z).mono (by omega)) hr (takes_of rfl rfl rfl rfl) rfl (a_cons (e_var (i := 0) rfl (.inl rfl)) a_nil)) (e_var (i := 2) rfl (.inl rfl))) (w_or1 (t_cmp (op_eqD (Room.units hr)) o2_eq (e_var (i := 2) rfl (.inl rfl)) e_int)))) (ss_one (s_ret e_bl)) ss_nil)
  (ss_cons (s_if (t_cmp op_in_seq o2_in (e_var (i := 2) rfl (.inl rfl)) (e_tup (a_cons e_int (a_cons e_int a_nil)))) (ss_one (s_ret (e_and (e_cmp (op_eqD (Room.units hr)) o2_eq (e_B call_len b_len rfl Z.b_len boot_len (a_cons (e_var (i := 0) rfl (.inl rfl)) a_nil)) (e_B call_len b_len rfl Z.b_len boot_len (a_cons (e_var (i := 1) rfl (.inl rfl)) a_nil))) (e_one (e_cmp (op_eqD (Room.units hr)) o2_eq (e_N (n_lc (own := [("first", 3), ("second", 4)]) rfl sc__law_like.nd (i_zip rfl Z.b_zip (a_cons (e_var (i := 0) rfl (.inl rfl)) (a_cons (e_var (i := 1) rfl (.inl rfl)) a_nil))) (blkOk_by rfl) (by decide) (fun _ _ _ _ _ => (g_tup rfl (gs_cons (g_name (i := 3) sc__law_like.nd rfl (.inl rfl)) (gs_cons (g_name (i := 4) sc__law_like.nd rfl (.inl rfl)) gs_nil)))) (fun _ _ _ _ _ => (ts_one (t_not (t_val (e_call cr hr LamX.takes0 rfl (a_cons (e_var (i := 3) rfl (.inl rfl)) (a_cons (e_var (i := 4) rfl (.inl rfl)) a_nil))))))) (fun _ _ _ _ _ => e_int))) (e_lst a_nil)))))) ss_nil)
  (ss_one (s_ret (e_cmp (op_eqD (Room.units hr)) o2_eq (e_var (i := 0) rfl (.inl rfl)) (e_var (i := 1) rfl (.inl rfl)))))))))
theorem c__law_like (Z : Fs K mg) : Cal P w K mg base 14 "_law_like" 2 (m__law_like 12) := r__law_like Z 12
/-! ### _law_written_right -/
theorem sc__law_written_right : FnScope ["plain", "last", "told", "due"] [] (defScope (top 45)) := ⟨rfl, rfl, rfl, by decide +kernel, rfl, by decide +kernel, by decide +kernel⟩
def b__law_written_right : M Fl :=
  (mSeq (mPar2 0 1 (xV (mRgT (mRg1 (mC (.int 60))))) (xV (mRgT3 (aCons (mC (.int 59)) (aCons (m1 fNeg (mC (.int 1))) (aCons (m1 fNeg (mC (.int 1))) aNil))))))
  (mSeq (mSet 2 (xV (mLst (aCons (mCallN 1 m_turn_number (aCons (m2 (d2 fAdd) (mSl (mVar 0) (ret none) (mPart (mC (.int 58)))) (mTup (aCons (mC (.int 59)) (aCons (mC (.int 58)) aNil)))) aNil)) (aCons (mCallN 1 m_turn_behind (aCons (mVar 0) aNil)) (aCons (mCallN 1 m_turn_behind (aCons (mVar 1) aNil)) (aCons (mCallN 1 m_turn_exchanges (aCons (mVar 1) aNil)) (aCons (mCallN 1 m_turn_number (aCons (m2 (d2 fAdd) (mTup (aCons (mC (.int 1)) (aCons (mC (.int 0)) aNil))) (mSl (mVar 0) (mPart (mC (.int 2))) (ret none))) aNil)) (aCons (mCallN 1 m_turn_number (aCons (m2 (d2 fAdd) (mTup (aCons (mC (.int 0)) (aCons (mC (.int 59)) aNil))) (mSl (mVar 0) (mPart (mC (.int 1))) (mPart (mC (.int 59))))) aNil)) aNil)))))))))
  (mSeq (mSet 3 (xV (mLst (aCons (mC (.int 1)) (aCons (m2 (d2 fAdd) (mSl (mVar 0) (ret none) (mPart (mC (.int 58)))) (mTup (aCons (mC (.int 59)) (aCons (mC (.int 58)) aNil)))) (aCons (mC .non) (aCons (mC (.int 1770)) (aCons (mCallN 1 m__law_times (aCons (mC (.int 59)) aNil)) (aCons (m2 (d2 fMulT) (mC (.int 58)) (mCallN 1 m__law_times (aCons (mC (.int 58)) aNil))) aNil)))))))))
  (mSeq (mSet 2 (xV (m2 (d2 fAdd) (mVar 2) (mLst (aCons (mCallN 2 m_turn_of_number (aCons (mC (.int 60)) (aCons (mCallN 1 m__law_times (aCons (mC (.int 59)) aNil)) aNil))) (aCons (m2 (d2 fEq) (m2 (d2 fAdd) (mCallN 1 m_turn_number (aCons (mVar 1) aNil)) (mC (.int 1))) (mCallN 1 m__law_times (aCons (mC (.int 60)) aNil))) (aCons (mCallN 1 m_rows_number (aCons (m2 (d2 fMulT) (mTup (aCons (mTup (aCons (mC (.int 1)) (aCons (mC (.int 0)) aNil))) aNil)) (mC (.int 2))) aNil)) (aCons (mCallN 2 m_rows_of_number (aCons (mC (.int 3)) (aCons (mC (.int 41)) aNil))) (aCons (mCallN 2 m_turn_of_number (aCons (mC (.int 1)) (aCons (mC (.int 0)) aNil))) aNil)))))))))
  (mSeq (mSet 3 (xV (m2 (d2 fAdd) (mVar 3) (mLst (aCons (m2 (d2 fAdd) (mTup (aCons (mC (.int 1)) (aCons (mC (.int 0)) aNil))) (mSl (mVar 0) (mPart (mC (.int 2))) (ret none))) (aCons (mC (.bl true)) (aCons (mC (.int 3)) (aCons (mTup (aCons (mTup (aCons (mC (.int 0)) (aCons (mC (.int 2)) (aCons (mC (.int 1)) aNil)))) (aCons (mTup (aCons (mC (.int 0)) (aCons (mC (.int 1)) (aCons (mC (.int 2)) aNil)))) (aCons (mTup (aCons (mC (.int 2)) (aCons (mC (.int 1)) (aCons (mC (.int 0)) aNil)))) aNil)))) (aCons (mTup (aCons (mC (.int 0)) aNil)) aNil)))))))))
  (mRet (mAndV (mCallN 2 (m__law_like 12) (aCons (mVar 2) (aCons (mVar 3) aNil))) (m2 (d2 fEq) (mCallN 1 m__law_times (aCons (mC (.int 21)) aNil)) (mC (.int 51090942171709440000))))))))))
def m__law_written_right : M D := mDef 4 b__law_written_right
theorem c__law_written_right (Z : Fs K mg) : Cal P w K mg base 15 "_law_written_right" 0 m__law_written_right := by
  obtain ⟨f, fd, g, F⟩ := Z.f__law_written_right
  exact cal_D g F (F.bindsN fun _ _ _ _ _ _ us hl => match us, hl with | [], _ => rfl) sc__law_written_right (by decide) (fun cdv A outer s H E hr =>
  (ss_cons (s_par2 (i := 0) (j := 1) rfl sc__law_written_right.nd rfl rfl (by decide) rfl rfl (x_E (e_rgT rfl rfl Z.b_tuple (r_1 rfl Z.b_range e_int))) (x_E (e_rgT3 rfl rfl Z.b_tuple rfl Z.b_range (a_cons e_int (a_cons (e_neg e_int) (a_cons (e_neg e_int) a_nil))))) rfl)
  (ss_cons (s_set (i := 2) sc__law_written_right.nd rfl (.inl rfl) (x_E (e_lst (a_cons (e_call ((c_turn_number Z).mono (by omega)) hr (takes_of rfl rfl rfl rfl) rfl (a_cons (e_op or_add o2_add (e_sl (e_var (i := 0) rfl (.inl rfl)) o_none (o_some e_int)) (e_tup (a_cons e_int (a_cons e_int a_nil)))) a_nil)) (a_cons (e_call ((c_turn_behind Z).mono (by omega)) hr (takes_of rfl rfl rfl rfl) rfl (a_cons (e_var (i := 0) rfl (.inl rfl)) a_nil)) (a_cons (e_call ((c_turn_behind Z).mono (by omega)) hr (takes_of rfl rfl rfl rfl) rfl (a_cons (e_var (i := 1) rfl (.inl rfl)) a_nil)) (a_cons (e_call ((c_turn_exchanges Z).mono (by omega)) hr (takes_of rfl rfl rfl rfl) rfl (a_cons (e_var (i := 1) rfl (.inl rfl)) a_nil)) (a_cons (e_call ((c_turn_number Z).mono (by omega)) hr (takes_of rfl rfl rfl rfl) rfl (a_cons (e_op or_add o2_add (e_tup (a_cons e_int (a_cons e_int a_nil))) (e_sl (e_var (i := 0) rfl (.inl rfl)) (o_some e_int) o_none)) a_nil)) (a_cons (e_call ((c_turn_number Z).mono (by omega)) hr (takes_of rfl rfl rfl rfl) rfl (a_cons (e_op or_add o2_add (e_tup (a_cons e_int (a_cons e_int a_nil))) (e_sl (e_var (i := 0) rfl (.inl rfl)) (o_some e_int) (o_some e_int))) a_nil)) a_nil)))))))))
  (ss_cons (s_set (i := 3) sc__law_written_right.nd rfl (.inl rfl) (x_E (e_lst (a_cons e_int (a_cons (e_op or_add o2_add (e_sl (e_var (i := 0) rfl (.inl rfl)) o_none (o_some e_int)) (e_tup (a_cons e_int (a_cons e_int a_nil)))) (a_cons e_non (a_cons e_int (a_cons (e_call ((c__law_times Z).mono (by omega)) hr (takes_of rfl rfl rfl rfl) rfl (a_cons e_int a_nil)) (a_cons (e_op or_mulT o2_mulT e_int (e_call ((c__law_times Z).mono (by omega)) hr (takes_of rfl rfl rfl rfl) rfl (a_cons e_int a_nil))) a_nil)))))))))
  (ss_cons (s_set (i := 2) sc__law_written_right.nd rfl (.inl rfl) (x_E (e_op or_add o2_add (e_var (i := 2) rfl (.inl rfl)) (e_lst (a_cons (e_call ((c_turn_of_number Z).mono (by omega)) hr (takes_of rfl rfl rfl rfl) rfl (a_cons e_int (a_cons (e_call ((c__law_times Z).mono (by omega)) hr (takes_of rfl rfl rfl rfl) rfl (a_cons e_int a_nil)) a_nil))) (a_cons (e_cmp (op_eqD (Room.units hr)) o2_eq (e_op or_add o2_add (e_call ((c_turn_number Z).mono (by omega)) hr (takes_of rfl rfl rfl rfl) rfl (a_cons (e_var (i := 1) rfl (.inl rfl)) a_nil)) e_int) (e_call ((c__law_times Z).mono (by omega)) hr (takes_of rfl rfl rfl rfl) rfl (a_cons e_int a_nil))) (a_cons (e_call ((c_rows_number Z).mono (by omega)) hr (takes_of rfl rfl rfl rfl) rfl (a_cons (e_op or_mulT o2_mulT (e_tup (a_cons (e_tup (a_cons e_int (a_cons e_int a_nil))) a_nil)) e_int) a_nil)) (a_cons (e_call ((c_rows_of_number Z).mono (by omega)) hr (takes_of rfl rfl rfl rfl) rfl (a_cons e_int (a_cons e_int a_nil))) (a_cons (e_call ((c_turn_of_number Z).mono (by omega)) hr (takes_of rfl rfl rfl rfl) rfl (a_cons e_int (a_cons e_int a_nil))) a_nil)))))))))
  (ss_cons (s_set (i := 3) sc__law_written_right.nd rfl (.inl rfl) (x_E (e_op or_add o2_add (e_var (i := 3) rfl (.inl rfl)) (e_lst (a_cons (e_op or_add o2_add (e_tup (a_cons e_int (a_cons e_int a_nil))) (e_sl (e_var (i := 0) rfl (.inl rfl)) (o_some e_int) o_none)) (a_cons e_bl (a_cons e_int (a_cons (e_tup (a_cons (e_tup (a_cons e_int (a_cons e_int (a_cons e_int a_nil)))) (a_cons (e_tup (a_cons e_int (a_cons e_int (a_cons e_int a_nil)))) (a_cons (e_tup (a_cons e_int (a_cons e_int (a_cons e_int a_nil)))) a_nil)))) (a_cons (e_tup (a_cons e_int a_nil)) a_nil)))))))))
  (ss_one (s_ret (e_and (e_call ((c__law_like Z).mono (by omega)) hr (takes_of rfl rfl rfl rfl) rfl (a_cons (e_var (i := 2) rfl (.inl rfl)) (a_cons (e_var (i := 3) rfl (.inl rfl)) a_nil))) (e_one (e_cmp (op_eqD (Room.units hr)) o2_eq (e_call ((c__law_times Z).mono (by omega)) hr (takes_of rfl rfl rfl rfl) rfl (a_cons e_int a_nil)) e_int)))))))))))
/-! ### _law_roll -/
theorem sc__law_roll : FnScope ["cup", "many", "found"] ["cup", "many"] (defScope (top 33)) := ⟨rfl, rfl, rfl, by decide +kernel, rfl, by decide +kernel, by decide +kernel⟩
def b__law_roll : M Fl :=
  (mSeq (mIfS (toB (m2 (d2 fGt) (m2 (d2 fIx) (mVar 0) (mC (.int 0))) (mC (.int 0)))) (mSeq (mSet 2 (xV (m2 (d2 fMod) (mB bInt (aCons (m2 (d2 fIx) (mVar 0) (mC (.int 0))) aNil)) (mVar 1))))
  (mSeq (mAsg (m2 (d2 fDiv) (m2 (d2 fIx) (mVar 0) (mC (.int 0))) (mVar 1)) (gIx (mVar 0) (mC (.int 0))))
  (mRet (mVar 2)))) mSkip)
  (mSeq (mAsg (m2 (d2 fMod) (mB bInt (aCons (m2 (d2 fAdd) (m2 (d2 fMulT) (m2 (d2 fIx) (mVar 0) (mC (.int 1))) (mC (.int 24781))) (mC (.int 51157))) aNil)) (mC (.int 1048576))) (gIx (mVar 0) (mC (.int 1))))
  (mRet (m2 (d2 fMod) (mB bInt (aCons (m2 (d2 fDiv) (m2 (d2 fIx) (mVar 0) (mC (.int 1))) (mC (.int 157))) aNil)) (mVar 1)))))
def m__law_roll : M D := mDef 3 b__law_roll
theorem c__law_roll (Z : Fs K mg) : Cal P w K mg base 1 "_law_roll" 2 m__law_roll := by
  obtain ⟨f, fd, g, F⟩ := Z.f__law_roll
  exact cal_D g F (F.bindsN fun _ _ _ _ _ _ us hl => match us, hl with | [_, _], _ => rfl) sc__law_roll (by decide) (fun cdv A outer s H E hr =>
  (ss_cons (s_if (t_cmp op_gt o2_gt (e_ix (e_var (i := 0) rfl (.inl rfl)) e_int) e_int) (ss_cons (s_set (i := 2) sc__law_roll.nd rfl (.inl rfl) (x_E (e_op op_mod o2_mod (e_Ty call_int1 b_int rfl Z.b_int boot_int (a_cons (e_ix (e_var (i := 0) rfl (.inl rfl)) e_int) a_nil)) (e_var (i := 1) rfl (.inl rfl)))))
  (ss_cons (s_asg (e_op op_fdivW o2_div (e_ix (e_var (i := 0) rfl (.inl rfl)) e_int) (e_var (i := 1) rfl (.inl rfl))) (g_ix (e_var (i := 0) rfl (.inl rfl)) e_int))
  (ss_one (s_ret (e_var (i := 2) rfl (.inl rfl)))))) ss_nil)
  (ss_cons (s_asg (e_op op_mod o2_mod (e_Ty call_int1 b_int rfl Z.b_int boot_int (a_cons (e_op or_add o2_add (e_op or_mulT o2_mulT (e_ix (e_var (i := 0) rfl (.inl rfl)) e_int) e_int) e_int) a_nil)) e_int) (g_ix (e_var (i := 0) rfl (.inl rfl)) e_int))
  (ss_one (s_ret (e_op op_mod o2_mod (e_Ty call_int1 b_int rfl Z.b_int boot_int (a_cons (e_op op_fdivW o2_div (e_ix (e_var (i := 0) rfl (.inl rfl)) e_int) e_int) a_nil)) (e_var (i := 1) rfl (.inl rfl))))))))
/-! ### _law_some -/
theorem sc__law_some : FnScope ["cup", "things"] ["cup", "things"] (defScope (top 34)) := ⟨rfl, rfl, rfl, by decide +kernel, rfl, by decide +kernel, by decide +kernel⟩
def b__law_some : M Fl :=
  (mRet (m2 (d2 fIx) (mVar 1) (mCall1N 2 m__law_roll (aCons (mVar 0) (aCons (mB bLen (aCons (mVar 1) aNil)) aNil)))))
def m__law_some : M D := mDef 2 b__law_some
theorem c__law_some (Z : Fs K mg) : Cal P w K mg base 2 "_law_some" 2 m__law_some := by
  obtain ⟨f, fd, g, F⟩ := Z.f__law_some
  exact cal_D g F (F.bindsN fun _ _ _ _ _ _ us hl => match us, hl with | [_, _], _ => rfl) sc__law_some (by decide) (fun cdv A outer s H E hr =>
  (ss_one (s_ret (e_ix (e_var (i := 1) rfl (.inl rfl)) (e_call1 ((c__law_roll Z).mono (by omega)) hr (takes_of rfl rfl rfl rfl) rfl (a_cons (e_var (i := 0) rfl (.inl rfl)) (a_cons (e_B call_len b_len rfl Z.b_len boot_len (a_cons (e_var (i := 1) rfl (.inl rfl)) a_nil)) a_nil)))))))
/-! ### _law_turn -/
def o__law_turn_1 : M Fl :=
  (mSeq (mSet 6 (xV (mCall1N 2 m__law_roll (aCons (mVar 0) (aCons (mB bLen (aCons (mVar 3) aNil)) aNil)))))
  (mSeq (mIfS (mAnd (toB (m2 (d2 fEq) (mVar 2) (mC (.int 0)))) (toB (m2 (d2 fLt) (mVar 5) (m2 (d2 fSub) (mVar 1) (mC (.int 4)))))) (mSet 6 (xV (mC (.int 0)))) mSkip)
  (mSeq (mIfS (mAnd (toB (m2 (d2 fEq) (mVar 2) (mC (.int 1)))) (toB (m2 (d2 fLt) (mVar 5) (m2 (d2 fSub) (mVar 1) (mC (.int 4)))))) (mSet 6 (xV (m2 (d2 fSub) (mB bLen (aCons (mVar 3) aNil)) (mC (.int 1))))) mSkip)
  (mPar2 4 3 (xV (m2 (d2 fAdd) (mVar 4) (mLst (aCons (m2 (d2 fIx) (mVar 3) (mVar 6)) aNil)))) (xV (m2 (d2 fAdd) (mSl (mVar 3) (ret none) (mPart (mVar 6))) (mSl (mVar 3) (mPart (m2 (d2 fAdd) (mVar 6) (mC (.int 1)))) (ret none))))))))
theorem sc__law_turn : FnScope ["cup", "many", "kind", "left", "found", "step", "at"] ["cup", "many"] (defScope (top 39)) := ⟨rfl, rfl, rfl, by decide +kernel, rfl, by decide +kernel, by decide +kernel⟩
def b__law_turn : M Fl :=
  (mSeq (mPar3 2 3 4 (xV (mCall1N 2 m__law_roll (aCons (mVar 0) (aCons (mC (.int 4)) aNil)))) (xV (eN (nRgL (mRg1 (mVar 1))))) (xV (mLst aNil)))
  (mSeq (mFor (iArgs (aCons (mVar 1) aNil) fRng1) (gN 5) o__law_turn_1)
  (mRet (mB bTuple (aCons (mVar 4) aNil)))))
def m__law_turn : M D := mDef 7 b__law_turn
theorem c__law_turn (Z : Fs K mg) : Cal P w K mg base 2 "_law_turn" 2 m__law_turn := by
  obtain ⟨f, fd, g, F⟩ := Z.f__law_turn
  exact cal_D g F (F.bindsN fun _ _ _ _ _ _ us hl => match us, hl with | [_, _], _ => rfl) sc__law_turn (by decide) (fun cdv A outer s H E hr =>
  (ss_cons (s_par3 (i := 2) (j := 3) (l := 4) rfl sc__law_turn.nd rfl rfl rfl (by decide) (by decide) (by decide) rfl rfl rfl (x_E (e_call1 ((c__law_roll Z).mono (by omega)) hr (takes_of rfl rfl rfl rfl) rfl (a_cons (e_var (i := 0) rfl (.inl rfl)) (a_cons e_int a_nil)))) (x_E (e_N (n_rgL rfl rfl Z.b_list (r_1 rfl Z.b_range (e_var (i := 1) rfl (.inl rfl)))))) (x_E (e_lst a_nil)) rfl)
  (ss_cons (s_for (passes_of rfl) rfl (i_rng1 rfl Z.b_range (a_cons (e_var (i := 1) rfl (.inl rfl)) a_nil)) (g_name (i := 5) sc__law_turn.nd rfl (.inl rfl)) (ss_cons (s_set (i := 6) sc__law_turn.nd rfl (.inl rfl) (x_E (e_call1 ((c__law_roll Z).mono (by omega)) hr (takes_of rfl rfl rfl rfl) rfl (a_cons (e_var (i := 0) rfl (.inl rfl)) (a_cons (e_B call_len b_len rfl Z.b_len boot_len (a_cons (e_var (i := 3) rfl (.inl rfl)) a_nil)) a_nil)))))
  (ss_cons (s_if (t_w (w_and (t_cmp (op_eqD (Room.units hr)) o2_eq (e_var (i := 2) rfl (.inl rfl)) e_int) (w_and1 (t_cmp op_lt o2_lt (e_var (i := 5) rfl (.inl rfl)) (e_op op_sub o2_sub (e_var (i := 1) rfl (.inl rfl)) e_int))))) (ss_one (s_set (i := 6) sc__law_turn.nd rfl (.inl rfl) (x_E e_int))) ss_nil)
  (ss_cons (s_if (t_w (w_and (t_cmp (op_eqD (Room.units hr)) o2_eq (e_var (i := 2) rfl (.inl rfl)) e_int) (w_and1 (t_cmp op_lt o2_lt (e_var (i := 5) rfl (.inl rfl)) (e_op op_sub o2_sub (e_var (i := 1) rfl (.inl rfl)) e_int))))) (ss_one (s_set (i := 6) sc__law_turn.nd rfl (.inl rfl) (x_E (e_op op_sub o2_sub (e_B call_len b_len rfl Z.b_len boot_len (a_cons (e_var (i := 3) rfl (.inl rfl)) a_nil)) e_int)))) ss_nil)
  (ss_one (s_par2 (i := 4) (j := 3) rfl sc__law_turn.nd rfl rfl (by decide) rfl rfl (x_E (e_op or_add o2_add (e_var (i := 4) rfl (.inl rfl)) (e_lst (a_cons (e_ix (e_var (i := 3) rfl (.inl rfl)) (e_var (i := 6) rfl (.inl rfl))) a_nil)))) (x_E (e_op or_add o2_add (e_sl (e_var (i := 3) rfl (.inl rfl)) o_none (o_some (e_var (i := 6) rfl (.inl rfl)))) (e_sl (e_var (i := 3) rfl (.inl rfl)) (o_some (e_op or_add o2_add (e_var (i := 6) rfl (.inl rfl)) e_int)) o_none))) rfl))))))
  (ss_one (s_ret (e_Ty call_tuple_of b_tuple rfl Z.b_tuple boot_tuple (a_cons (e_var (i := 4) rfl (.inl rfl)) a_nil)))))))
/-! ### _law_number -/
def n__law_number_1 : M (List D) :=
  nLc [4] (iOf (mVar 2) isAny) (gN 4) (toB (m2 (d2 fNe) (mVar 4) (mVar 3))) (mVar 4)
def o__law_number_2 : M Fl :=
  (mPar2 1 2 (xV (m2 (d2 fAdd) (m2 (d2 fMulT) (mVar 1) (mB bLen (aCons (mVar 2) aNil))) (mQ "list" fIndex (mVar 2) (aCons (mVar 3) aNil)))) (xV (eN n__law_number_1)))
theorem sc__law_number : FnScope ["turn", "found", "left", "own", "one"] ["turn"] (defScope (top 40)) := ⟨rfl, rfl, rfl, by decide +kernel, rfl, by decide +kernel, by decide +kernel⟩
def b__law_number : M Fl :=
  (mSeq (mPar2 1 2 (xV (mC (.int 0))) (xV (mB bSorted (aCons (mVar 0) aNil))))
  (mSeq (mFor (iOf (mVar 0) isAny) (gN 3) o__law_number_2)
  (mRet (mVar 1))))
def m__law_number : M D := mDef 5 b__law_number
theorem c__law_number (Z : Fs K mg) : Cal P w K mg base 1 "_law_number" 1 m__law_number := by
  obtain ⟨f, fd, g, F⟩ := Z.f__law_number
  exact cal_D g F (F.bindsN fun _ _ _ _ _ _ us hl => match us, hl with | [_], _ => rfl) sc__law_number (by decide) (fun cdv A outer s H E hr =>
  (ss_cons (s_par2 (i := 1) (j := 2) rfl sc__law_number.nd rfl rfl (by decide) rfl rfl (x_E e_int) (x_E (e_B cr_sortedB b_sorted rfl Z.b_sorted boot_sorted (a_cons (e_var (i := 0) rfl (.inl rfl)) a_nil))) rfl)
  (ss_cons (s_for (passes_of rfl) rfl (i_any (e_var (i := 0) rfl (.inl rfl))) (g_name (i := 3) sc__law_number.nd rfl (.inr rfl)) (ss_one (s_par2 (i := 1) (j := 2) rfl sc__law_number.nd rfl rfl (by decide) rfl rfl (x_E (e_op or_add o2_add (e_op or_mulT o2_mulT (e_var (i := 1) rfl (.inl rfl)) (e_B call_len b_len rfl Z.b_len boot_len (a_cons (e_var (i := 2) rfl (.inl rfl)) a_nil))) (e_Q PySem.F.plainAttrs_list (.inl rfl) PySem.F.slot_list_index PySem.F.type_list_index (mt_indexD (units65 hr)) q_index (e_var (i := 2) rfl (.inl rfl)) (a_cons (e_var (i := 3) rfl (.inr (.inl rfl))) a_nil)))) (x_E (e_N (n_lc (own := [("one", 4)]) rfl sc__law_number.nd (i_any (e_var (i := 2) rfl (.inl rfl))) (blkOk_by rfl) (by decide) (fun _ _ _ _ _ => (g_name (i := 4) sc__law_number.nd rfl (.inl rfl))) (fun _ _ _ _ _ => (ts_one (t_cmp (op_neD (Room.units hr)) o2_ne (e_var (i := 4) rfl (.inl rfl)) (e_var (i := 3) rfl (.inr (.inl rfl)))))) (fun _ _ _ _ _ => (e_var (i := 4) rfl (.inl rfl)))))) rfl)))
  (ss_one (s_ret (e_var (i := 1) rfl (.inl rfl)))))))
/-! ### _law_behind -/
def n__law_behind_1 : M (List D) :=
  nLc [2] (iArgs (aCons (m2 (d2 fSub) (mB bLen (aCons (mVar 0) aNil)) (mC (.int 1))) aNil) fRng1) (gN 2) (toB (m2 (d2 fLt) (m2 (d2 fIx) (mVar 0) (mVar 2)) (m2 (d2 fIx) (mVar 0) (m2 (d2 fAdd) (mVar 2) (mC (.int 1)))))) (mVar 2)
def n__law_behind_2 : M (List D) :=
  nLc [4] (iOf (mSl (mVar 0) (mPart (m2 (d2 fAdd) (mVar 2) (mC (.int 1)))) (ret none)) isAny) (gN 4) (toB (m2 (d2 fGt) (mVar 4) (m2 (d2 fIx) (mVar 0) (mVar 2)))) (mVar 4)
def n__law_behind_3 : M (List D) :=
  nLc [4] (iOf (mSl (mVar 0) (mPart (mVar 2)) (ret none)) isAny) (gN 4) (toB (m2 (d2 fNe) (mVar 4) (mVar 3))) (mVar 4)
theorem sc__law_behind : FnScope ["turn", "spots", "at", "own", "one"] ["turn"] (defScope (top 41)) := ⟨rfl, rfl, rfl, by decide +kernel, rfl, by decide +kernel, by decide +kernel⟩
def b__law_behind : M Fl :=
  (mSeq (mSet 1 (xV (eN n__law_behind_1)))
  (mSeq (mIfS (toB (m2 (d2 fEq) (mVar 1) (mLst aNil))) (mRet (mC .non)) mSkip)
  (mSeq (mSet 2 (xV (m2 (d2 fIx) (mVar 1) (m1 fNeg (mC (.int 1))))))
  (mSeq (mSet 3 (xV (mB bMin (aCons (eN n__law_behind_2) aNil))))
  (mRet (m2 (d2 fAdd) (m2 (d2 fAdd) (mSl (mVar 0) (ret none) (mPart (mVar 2))) (mTup (aCons (mVar 3) aNil))) (mB bTuple (aCons (mB bSorted (aCons (eN n__law_behind_3) aNil)) aNil))))))))
def m__law_behind : M D := mDef 5 b__law_behind
theorem c__law_behind (Z : Fs K mg) : Cal P w K mg base 1 "_law_behind" 1 m__law_behind := by
  obtain ⟨f, fd, g, F⟩ := Z.f__law_behind
  exact cal_D g F (F.bindsN fun _ _ _ _ _ _ us hl => match us, hl with | [_], _ => rfl) sc__law_behind (by decide) (fun cdv A outer s H E hr =>
  (ss_cons (s_lc (i := 1) lc_E (own := [("at", 2)]) rfl sc__law_behind.nd rfl rfl (i_rng1 rfl Z.b_range (a_cons (e_op op_sub o2_sub (e_B call_len b_len rfl Z.b_len boot_len (a_cons (e_var (i := 0) rfl (.inr (.inl rfl))) a_nil)) e_int) a_nil)) (blkOk_by rfl) (by decide) (fun _ _ _ _ _ => (g_name (i := 2) sc__law_behind.nd rfl (.inl rfl))) (fun _ _ _ _ _ => (ts_one (t_cmp op_lt o2_lt (e_ix (e_var (i := 0) rfl (.inr (.inl rfl))) (e_var (i := 2) rfl (.inl rfl))) (e_ix (e_var (i := 0) rfl (.inr (.inl rfl))) (e_op or_add o2_add (e_var (i := 2) rfl (.inl rfl)) e_int))))) (fun _ _ _ _ _ => (e_var (i := 2) rfl (.inl rfl))))
  (ss_cons (s_if (t_cmp (op_eqD (Room.units hr)) o2_eq (e_var (i := 1) rfl (.inl rfl)) (e_lst a_nil)) (ss_one (s_ret e_non)) ss_nil)
  (ss_cons (s_set (i := 2) sc__law_behind.nd rfl (.inr rfl) (x_E (e_ix (e_var (i := 1) rfl (.inl rfl)) (e_neg e_int))))
  (ss_cons (s_set (i := 3) sc__law_behind.nd rfl (.inr rfl) (x_E (e_B (cr_min rfl) b_min rfl Z.b_min boot_min (a_cons (e_N (n_lc (own := [("one", 4)]) rfl sc__law_behind.nd (i_any (e_sl (e_var (i := 0) rfl (.inr (.inl rfl))) (o_some (e_op or_add o2_add (e_var (i := 2) rfl (.inr (.inl rfl))) e_int)) o_none)) (blkOk_by rfl) (by decide) (fun _ _ _ _ _ => (g_name (i := 4) sc__law_behind.nd rfl (.inl rfl))) (fun _ _ _ _ _ => (ts_one (t_cmp op_gt o2_gt (e_var (i := 4) rfl (.inl rfl)) (e_ix (e_var (i := 0) rfl (.inr (.inl rfl))) (e_var (i := 2) rfl (.inr (.inl rfl))))))) (fun _ _ _ _ _ => (e_var (i := 4) rfl (.inl rfl))))) a_nil))))
  (ss_one (s_ret (e_op or_add o2_add (e_op or_add o2_add (e_sl (e_var (i := 0) rfl (.inr (.inl rfl))) o_none (o_some (e_var (i := 2) rfl (.inr (.inl rfl))))) (e_tup (a_cons (e_var (i := 3) rfl (.inr (.inl rfl))) a_nil))) (e_Ty call_tuple_of b_tuple rfl Z.b_tuple boot_tuple (a_cons (e_B cr_sortedB b_sorted rfl Z.b_sorted boot_sorted (a_cons (e_N (n_lc (own := [("one", 4)]) rfl sc__law_behind.nd (i_any (e_sl (e_var (i := 0) rfl (.inr (.inl rfl))) (o_some (e_var (i := 2) rfl (.inr (.inl rfl)))) o_none)) (blkOk_by rfl) (by decide) (fun _ _ _ _ _ => (g_name (i := 4) sc__law_behind.nd rfl (.inl rfl))) (fun _ _ _ _ _ => (ts_one (t_cmp (op_neD (Room.units hr)) o2_ne (e_var (i := 4) rfl (.inl rfl)) (e_var (i := 3) rfl (.inr (.inl rfl)))))) (fun _ _ _ _ _ => (e_var (i := 4) rfl (.inl rfl))))) a_nil)) a_nil))))))))))
/-! ### back_of -/
def o_back_of_1 : M Fl :=
  (mAsg (mVar 2) (gIx (mVar 1) (mVar 3)))
theorem sc_back_of : FnScope ["turn", "found", "at", "own"] ["turn"] (defScope (top 14)) := ⟨rfl, rfl, rfl, by decide +kernel, rfl, by decide +kernel, by decide +kernel⟩
def b_back_of : M Fl :=
  (mSeq (mSet 1 (xN (nRep (mLst (aCons (mC (.int 0)) aNil)) (mB bLen (aCons (mVar 0) aNil)))))
  (mSeq (mFor (iArgs (aCons (mVar 0) aNil) fEnum) (gT 2 (gsCons (gN 2) (gsCons (gN 3) gsNil))) o_back_of_1)
  (mRet (mB bTuple (aCons (mVar 1) aNil)))))
def m_back_of : M D := mDef 4 b_back_of
theorem c_back_of (Z : Fs K mg) : Cal P w K mg base 1 "back_of" 1 m_back_of := by
  obtain ⟨f, fd, g, F⟩ := Z.f_back_of
  exact cal_D g F (F.bindsN fun _ _ _ _ _ _ us hl => match us, hl with | [_], _ => rfl) sc_back_of (by decide) (fun cdv A outer s H E hr =>
  (ss_cons (s_set (i := 1) sc_back_of.nd rfl (.inl rfl) (x_N (n_rep (e_lst (a_cons e_int a_nil)) (e_B call_len b_len rfl Z.b_len boot_len (a_cons (e_var (i := 0) rfl (.inl rfl)) a_nil)))))
  (ss_cons (s_for (passes_of rfl) rfl (i_enum rfl Z.b_enumerate (a_cons (e_var (i := 0) rfl (.inl rfl)) a_nil)) (g_tup rfl (gs_cons (g_name (i := 2) sc_back_of.nd rfl (.inl rfl)) (gs_cons (g_name (i := 3) sc_back_of.nd rfl (.inl rfl)) gs_nil))) (ss_one (s_asg (e_var (i := 2) rfl (.inl rfl)) (g_ix (e_var (i := 1) rfl (.inl rfl)) (e_var (i := 3) rfl (.inl rfl))))))
  (ss_one (s_ret (e_Ty call_tuple_of b_tuple rfl Z.b_tuple boot_tuple (a_cons (e_var (i := 1) rfl (.inl rfl)) a_nil)))))))
/-! ### turn_back -/
theorem sc_turn_back : FnScope ["turn"] ["turn"] (defScope (top 16)) := ⟨rfl, rfl, rfl, by decide +kernel, rfl, by decide +kernel, by decide +kernel⟩
def b_turn_back : M Fl :=
  (mSeq (mExpr (mCallN 1 m_need_turn (aCons (mVar 0) aNil)))
  (mRet (mCallN 1 m_back_of (aCons (mVar 0) aNil))))
def m_turn_back : M D := mDef 1 b_turn_back
theorem c_turn_back (Z : Fs K mg) : Cal P w K mg base 4 "turn_back" 1 m_turn_back := by
  obtain ⟨f, fd, g, F⟩ := Z.f_turn_back
  exact cal_D g F (F.bindsN fun _ _ _ _ _ _ us hl => match us, hl with | [_], _ => rfl) sc_turn_back (by decide) (fun cdv A outer s H E hr =>
  (ss_cons (s_expr (e_call ((c_need_turn Z).mono (by omega)) hr (takes_of rfl rfl rfl rfl) rfl (a_cons (e_var (i := 0) rfl (.inl rfl)) a_nil)))
  (ss_one (s_ret (e_call ((c_back_of Z).mono (by omega)) hr (takes_of rfl rfl rfl rfl) rfl (a_cons (e_var (i := 0) rfl (.inl rfl)) a_nil))))))
/-! ### _law_exchanges -/
def o__law_exchanges_1 : M Fl :=
  (mIfS (toB (m2 (d2 fGt) (m2 (d2 fIx) (mVar 1) (mVar 4)) (m2 (d2 fIx) (mVar 1) (m2 (d2 fAdd) (mVar 4) (mC (.int 1)))))) (mAsg (mTup (aCons (m2 (d2 fIx) (mVar 1) (m2 (d2 fAdd) (mVar 4) (mC (.int 1)))) (aCons (m2 (d2 fIx) (mVar 1) (mVar 4)) (aCons (m2 (d2 fAdd) (mVar 2) (mC (.int 1))) aNil)))) (gT 3 (gsCons (gIx (mVar 1) (mVar 4)) (gsCons (gIx (mVar 1) (m2 (d2 fAdd) (mVar 4) (mC (.int 1)))) (gsCons (gN 2) gsNil))))) mSkip)
def o__law_exchanges_2 : M Fl :=
  (mFor (iArgs (aCons (m2 (d2 fSub) (mB bLen (aCons (mVar 1) aNil)) (mC (.int 1))) aNil) fRng1) (gN 4) o__law_exchanges_1)
theorem sc__law_exchanges : FnScope ["turn", "row", "many", "turning", "at"] ["turn"] (defScope (top 42)) := ⟨rfl, rfl, rfl, by decide +kernel, rfl, by decide +kernel, by decide +kernel⟩
def b__law_exchanges : M Fl :=
  (mSeq (mPar2 1 2 (xN (nB nList (aCons (mVar 0) aNil))) (xV (mC (.int 0))))
  (mSeq (mFor (iArgs (aCons (mB bLen (aCons (mVar 1) aNil)) aNil) fRng1) (gN 3) o__law_exchanges_2)
  (mRet (mVar 2))))
def m__law_exchanges : M D := mDef 5 b__law_exchanges
theorem c__law_exchanges (Z : Fs K mg) : Cal P w K mg base 1 "_law_exchanges" 1 m__law_exchanges := by
  obtain ⟨f, fd, g, F⟩ := Z.f__law_exchanges
  exact cal_D g F (F.bindsN fun _ _ _ _ _ _ us hl => match us, hl with | [_], _ => rfl) sc__law_exchanges (by decide) (fun cdv A outer s H E hr =>
  (ss_cons (s_par2 (i := 1) (j := 2) rfl sc__law_exchanges.nd rfl rfl (by decide) rfl rfl (x_N (n_list rfl Z.b_list (a_cons (e_var (i := 0) rfl (.inl rfl)) a_nil))) (x_E e_int) rfl)
  (ss_cons (s_for (passes_of rfl) rfl (i_rng1 rfl Z.b_range (a_cons (e_B call_len b_len rfl Z.b_len boot_len (a_cons (e_var (i := 1) rfl (.inl rfl)) a_nil)) a_nil)) (g_name (i := 3) sc__law_exchanges.nd rfl (.inl rfl)) (ss_one (s_for (passes_of rfl) rfl (i_rng1 rfl Z.b_range (a_cons (e_op op_sub o2_sub (e_B call_len b_len rfl Z.b_len boot_len (a_cons (e_var (i := 1) rfl (.inl rfl)) a_nil)) e_int) a_nil)) (g_name (i := 4) sc__law_exchanges.nd rfl (.inl rfl)) (ss_one (s_if (t_cmp op_gt o2_gt (e_ix (e_var (i := 1) rfl (.inl rfl)) (e_var (i := 4) rfl (.inl rfl))) (e_ix (e_var (i := 1) rfl (.inl rfl)) (e_op or_add o2_add (e_var (i := 4) rfl (.inl rfl)) e_int))) (ss_one (s_asg (e_tup (a_cons (e_ix (e_var (i := 1) rfl (.inl rfl)) (e_op or_add o2_add (e_var (i := 4) rfl (.inl rfl)) e_int)) (a_cons (e_ix (e_var (i := 1) rfl (.inl rfl)) (e_var (i := 4) rfl (.inl rfl))) (a_cons (e_op or_add o2_add (e_var (i := 2) rfl (.inl rfl)) e_int) a_nil)))) (g_tup rfl (gs_cons (g_ix (e_var (i := 1) rfl (.inl rfl)) (e_var (i := 4) rfl (.inl rfl))) (gs_cons (g_ix (e_var (i := 1) rfl (.inl rfl)) (e_op or_add o2_add (e_var (i := 4) rfl (.inl rfl)) e_int)) (gs_cons (g_name (i := 2) sc__law_exchanges.nd rfl (.inl rfl)) gs_nil)))))) ss_nil)))))
  (ss_one (s_ret (e_var (i := 2) rfl (.inl rfl)))))))
/-! ### joined_of -/
def n_joined_of_1 : M (List D) :=
  nLc [2] (iOf (mVar 1) isAny) (gN 2) (ret true) (m2 (d2 fIx) (mVar 0) (mVar 2))
theorem sc_joined_of : FnScope ["one", "other", "own"] ["one", "other"] (defScope (top 13)) := ⟨rfl, rfl, rfl, by decide +kernel, rfl, by decide +kernel, by decide +kernel⟩
def b_joined_of : M Fl :=
  (mRet (mB bTuple (aCons (eN n_joined_of_1) aNil)))
def m_joined_of : M D := mDef 3 b_joined_of
theorem c_joined_of (Z : Fs K mg) : Cal P w K mg base 1 "joined_of" 2 m_joined_of := by
  obtain ⟨f, fd, g, F⟩ := Z.f_joined_of
  exact cal_D g F (F.bindsN fun _ _ _ _ _ _ us hl => match us, hl with | [_, _], _ => rfl) sc_joined_of (by decide) (fun cdv A outer s H E hr =>
  (ss_one (s_ret (e_Ty call_tuple_of b_tuple rfl Z.b_tuple boot_tuple (a_cons (e_N (n_lc (own := [("own", 2)]) rfl sc_joined_of.nd (i_any (e_var (i := 1) rfl (.inl rfl))) (blkOk_by rfl) (by decide) (fun _ _ _ _ _ => (g_name (i := 2) sc_joined_of.nd rfl (.inl rfl))) (fun _ _ _ _ _ => ts_nil) (fun _ _ _ _ _ => (e_ix (e_var (i := 0) rfl (.inr (.inl rfl))) (e_var (i := 2) rfl (.inl rfl)))))) a_nil)))))
/-! ### turn_joined -/
theorem sc_turn_joined : FnScope ["one", "other"] ["one", "other"] (defScope (top 15)) := ⟨rfl, rfl, rfl, by decide +kernel, rfl, by decide +kernel, by decide +kernel⟩
def b_turn_joined : M Fl :=
  (mSeq (mExpr (mCallN 1 m_need_turn (aCons (mVar 0) aNil)))
  (mSeq (mExpr (mCallN 1 m_need_turn (aCons (mVar 1) aNil)))
  (mSeq (mIfS (toB (m2 (d2 fNe) (mB bLen (aCons (mVar 0) aNil)) (mB bLen (aCons (mVar 1) aNil)))) (mRaise ⟨"InvalidTurn", none⟩) mSkip)
  (mRet (mCallN 2 m_joined_of (aCons (mVar 0) (aCons (mVar 1) aNil)))))))
def m_turn_joined : M D := mDef 2 b_turn_joined
theorem c_turn_joined (Z : Fs K mg) : Cal P w K mg base 4 "turn_joined" 2 m_turn_joined := by
  obtain ⟨f, fd, g, F⟩ := Z.f_turn_joined
  exact cal_D g F (F.bindsN fun _ _ _ _ _ _ us hl => match us, hl with | [_, _], _ => rfl) sc_turn_joined (by decide) (fun cdv A outer s H E hr =>
  (ss_cons (s_expr (e_call ((c_need_turn Z).mono (by omega)) hr (takes_of rfl rfl rfl rfl) rfl (a_cons (e_var (i := 0) rfl (.inl rfl)) a_nil)))
  (ss_cons (s_expr (e_call ((c_need_turn Z).mono (by omega)) hr (takes_of rfl rfl rfl rfl) rfl (a_cons (e_var (i := 1) rfl (.inl rfl)) a_nil)))
  (ss_cons (s_if (t_cmp (op_neD (Room.units hr)) o2_ne (e_B call_len b_len rfl Z.b_len boot_len (a_cons (e_var (i := 0) rfl (.inl rfl)) a_nil)) (e_B call_len b_len rfl Z.b_len boot_len (a_cons (e_var (i := 1) rfl (.inl rfl)) a_nil))) (ss_one (s_raise Z.x_InvalidTurn rfl (takes_of rfl rfl rfl rfl) rfl)) ss_nil)
  (ss_one (s_ret (e_call ((c_joined_of Z).mono (by omega)) hr (takes_of rfl rfl rfl rfl) rfl (a_cons (e_var (i := 0) rfl (.inl rfl)) (a_cons (e_var (i := 1) rfl (.inl rfl)) a_nil)))))))))
/-! ### _law_error -/
def tc__law_error : List (Str × Str) := [("InvalidNumber", "number"), ("InvalidTurn", "turn")]
def tf__law_error : Xc → Option Str := byCls tc__law_error
def tl__law_error : Option Str := some "none"
theorem sc__law_error : FnScope ["call", "e"] ["call"] (defScope (top 37)) := ⟨rfl, rfl, rfl, by decide +kernel, rfl, by decide +kernel, by decide +kernel⟩
theorem t__law_error (Z : Fs K mg) : Told P w K mg base "_law_error" tf__law_error (lqOf tl__law_error) := by
  obtain ⟨g, fd, gm, F⟩ := Z.f__law_error
  have bF := F.bindsN (ps := ["call"]) fun _ _ _ _ _ _ us hl => match us, hl with | [_], _ => rfl
  obtain ⟨oc, od, dV, kV, doc, pm, an, cdv, ct, osl, rfl, lk, hcd, _, _⟩ := F.ex
  refine ⟨g, "call", ["call", "e"], _, _, _, dV, kV, doc, pm, cdv, ct, oc, an, od, osl, gm, F.kp, lk, hcd, bF, sc__law_error, rfl, .inl rfl, by decide, by decide, fun X r e1 e2 e3 e4 e5 => ?_⟩
  subst e3 e4
  obtain ⟨CS, hCS⟩ := Z.d_SwapError
  refine gives_try (f := tf__law_error) (CS := CS) (i := 1) (by decide) (by decide) rfl (by decide) rfl rfl hCS (by decide) (fun z s h => ?_) (fun s0 H0 z s h b oe C pn hC hz hf => ?_) fun z s h => byCls_fld h
  · have m := byCls_mem h
    simp only [tc__law_error, List.mem_cons, Prod.mk.injEq, List.not_mem_nil, or_false] at m
    rcases m with ⟨e1, e2⟩ | ⟨e1, e2⟩
    · intro C hC; rw [e1] at hC; exact Z.m_InvalidNumber_SwapError C CS hC hCS
    · intro C hC; rw [e1] at hC; exact Z.m_InvalidTurn_SwapError C CS hC hCS
  · have m := byCls_mem h
    simp only [tc__law_error, List.mem_cons, Prod.mk.injEq, List.not_mem_nil, or_false] at m
    rcases m with ⟨e1, e2⟩ | ⟨e1, e2⟩
    · rw [e1] at hC; subst e2; exact (ss_ret (se_if (st_is (X := (cxOf C8.CX0 X.prog X.w X.K X.mg X.base ["call", "e"] "_law_error" (defScope (top 37)) g cdv X.A X.stack s0 H0 C8.E0).nox) Z.k_InvalidNumber hC Z.q_InvalidNumber_InvalidNumber hz hf rfl (.inl rfl) rfl Z.b_isinstance rfl) se_str (se_if (st_is (X := (cxOf C8.CX0 X.prog X.w X.K X.mg X.base ["call", "e"] "_law_error" (defScope (top 37)) g cdv X.A X.stack s0 H0 C8.E0).nox) Z.k_InvalidNumber hC Z.q_InvalidNumber_InvalidTurn hz hf rfl (.inl rfl) rfl Z.b_isinstance rfl) se_str se_str)))
    · rw [e1] at hC; subst e2; exact (ss_ret (se_if (st_is (X := (cxOf C8.CX0 X.prog X.w X.K X.mg X.base ["call", "e"] "_law_error" (defScope (top 37)) g cdv X.A X.stack s0 H0 C8.E0).nox) Z.k_InvalidTurn hC Z.q_InvalidTurn_InvalidNumber hz hf rfl (.inl rfl) rfl Z.b_isinstance rfl) se_str (se_if (st_is (X := (cxOf C8.CX0 X.prog X.w X.K X.mg X.base ["call", "e"] "_law_error" (defScope (top 37)) g cdv X.A X.stack s0 H0 C8.E0).nox) Z.k_InvalidTurn hC Z.q_InvalidTurn_InvalidTurn hz hf rfl (.inl rfl) rfl Z.b_isinstance rfl) se_str se_str)))
/-! ### _law_turns_right -/
def n__law_turns_right_1 : M (List D) :=
  nLc [13] (iOf (mVar 2) isAny) (gN 13) (ret true) (m2 (d2 fSub) (m2 (d2 fSub) (mVar 1) (mC (.int 1))) (mVar 13))
def n__law_turns_right_2 : M (List D) :=
  nLc [12] (iOf (mTup (aCons (mVar 5) (aCons (m1 fNeg (mC (.int 1))) (aCons (m2 (d2 fMulT) (mVar 5) (mC (.int 60))) (aCons (mC (.bl true)) (aCons (mC .non) (aCons (mC (.str "0")) aNil))))))) isAny) (gN 12) (ret true) (mTold tf__law_error tl__law_error (mCallN 2 m_turn_of_number (aCons (mVar 1) (aCons (mVar 12) aNil))))
theorem sc__law_turns_right : FnScope ["cup", "many", "turn", "number", "behind", "every", "told", "mirrored", "other", "far", "words", "joined", "odd", "own"] ["cup"] (defScope (top 43)) := ⟨rfl, rfl, rfl, by decide +kernel, rfl, by decide +kernel, by decide +kernel⟩
def b__law_turns_right : M Fl :=
  (mSeq (mSet 1 (xV (mCall1N 2 m__law_some (aCons (mVar 0) (aCons (mLst (aCons (mC (.int 1)) (aCons (mC (.int 2)) (aCons (mC (.int 3)) (aCons (mC (.int 5)) (aCons (mC (.int 12)) (aCons (mC (.int 20)) (aCons (mC (.int 21)) (aCons (mC (.int 22)) (aCons (mC (.int 59)) (aCons (mC (.int 60)) aNil))))))))))) aNil)))))
  (mSeq (mSet 2 (xV (mCall1N 2 m__law_turn (aCons (mVar 0) (aCons (mVar 1) aNil)))))
  (mSeq (mPar3 3 4 5 (xV (mCallN 1 m__law_number (aCons (mVar 2) aNil))) (xV (mCallN 1 m__law_behind (aCons (mVar 2) aNil))) (xV (mCallN 1 m__law_times (aCons (mVar 1) aNil))))
  (mSeq (mSet 6 (xV (mLst (aCons (mCallN 1 m_turn_number (aCons (mVar 2) aNil)) (aCons (mCallN 2 m_turn_of_number (aCons (mVar 1) (aCons (mVar 3) aNil))) (aCons (mCallN 1 m_turn_behind (aCons (mVar 2) aNil)) (aCons (mCallN 1 m_turn_exchanges (aCons (mVar 2) aNil)) (aCons (mCallN 1 m_turn_exchanges (aCons (mCallN 1 m_turn_back (aCons (mVar 2) aNil)) aNil)) aNil))))))))
  (mSeq (mIfS (mNot (toB (mCallN 2 (m__law_like 12) (aCons (mVar 6) (aCons (mLst (aCons (mVar 3) (aCons (mVar 2) (aCons (mVar 4) (aCons (mCallN 1 m__law_exchanges (aCons (mVar 2) aNil)) (aCons (mCallN 1 m__law_exchanges (aCons (mVar 2) aNil)) aNil)))))) aNil))))) (mRet (mC (.bl false))) mSkip)
  (mSeq (mIfS (mOr (mAnd (toB (m2 (d2 fIsNot) (mVar 4) (mC .non))) (toB (m2 (d2 fNe) (mCallN 1 m_turn_number (aCons (mVar 4) aNil)) (m2 (d2 fAdd) (mVar 3) (mC (.int 1)))))) (mAnd (toB (m2 (d2 fIs) (mVar 4) (mC .non))) (toB (m2 (d2 fNe) (mVar 3) (m2 (d2 fSub) (mVar 5) (mC (.int 1))))))) (mRet (mC (.bl false))) mSkip)
  (mSeq (mSet 7 (xV (mB bTuple (aCons (eN n__law_turns_right_1) aNil))))
  (mSeq (mIfS (mNot (toB (mCallN 2 (m__law_like 12) (aCons (mLst (aCons (mCallN 1 m_turn_number (aCons (mVar 7) aNil)) (aCons (mCallN 1 m_turn_exchanges (aCons (mVar 7) aNil)) aNil))) (aCons (mLst (aCons (m2 (d2 fSub) (m2 (d2 fSub) (mVar 5) (mC (.int 1))) (mVar 3)) (aCons (m2 (d2 fSub) (m2 (d2 fDiv) (m2 (d2 fMulT) (mVar 1) (m2 (d2 fSub) (mVar 1) (mC (.int 1)))) (mC (.int 2))) (mCallN 1 m_turn_exchanges (aCons (mVar 2) aNil))) aNil))) aNil))))) (mRet (mC (.bl false))) mSkip)
  (mSeq (mSet 8 (xV (mCall1N 2 m__law_some (aCons (mVar 0) (aCons (mLst (aCons (mC (.int 0)) (aCons (mC (.int 1)) (aCons (m2 (d2 fSub) (mVar 5) (mC (.int 1))) (aCons (m2 (d2 fDiv) (mVar 5) (mC (.int 2))) (aCons (mIf (toB (m2 (d2 fGt) (mVar 5) (mC (.int 1)))) (m2 (d2 fSub) (mVar 5) (mC (.int 2))) (mC (.int 0))) aNil)))))) aNil)))))
  (mSeq (mSet 9 (xV (mCallN 2 m_turn_of_number (aCons (mVar 1) (aCons (m2 (d2 fMod) (mB bInt (aCons (mVar 8) aNil)) (mVar 5)) aNil)))))
  (mSeq (mIfS (mOr (toB (m2 (d2 fNe) (mB bSorted (aCons (mVar 9) aNil)) (eN (nRgL (mRg1 (mVar 1)))))) (toB (m2 (d2 fNe) (mCallN 1 m__law_number (aCons (mVar 9) aNil)) (m2 (d2 fMod) (mB bInt (aCons (mVar 8) aNil)) (mVar 5))))) (mRet (mC (.bl false))) mSkip)
  (mSeq (mSet 10 (xV (eN n__law_turns_right_2)))
  (mSeq (mSet 11 (xV (mCallN 2 m_turn_joined (aCons (mVar 2) (aCons (mVar 9) aNil)))))
  (mRet (mAndV (m2 (d2 fEq) (mVar 10) (m2 (d2 fMulT) (mLst (aCons (mC (.str "number")) aNil)) (mC (.int 6)))) (m2 (d2 fEq) (m2 (d2 fMod) (mB bInt (aCons (m2 (d2 fSub) (m2 (d2 fSub) (mCallN 1 m_turn_exchanges (aCons (mVar 11) aNil)) (mCallN 1 m_turn_exchanges (aCons (mVar 2) aNil))) (mCallN 1 m_turn_exchanges (aCons (mVar 9) aNil))) aNil)) (mC (.int 2))) (mC (.int 0))))))))))))))))))
def m__law_turns_right : M D := mDef 14 b__law_turns_right
theorem c__law_turns_right (Z : Fs K mg) (Y : Ys K mg base) : Cal P w K mg base 15 "_law_turns_right" 1 m__law_turns_right := by
  obtain ⟨f, fd, g, F⟩ := Z.f__law_turns_right
  exact cal_DL g F (F.bindsN fun _ _ _ _ _ _ us hl => match us, hl with | [_], _ => rfl) sc__law_turns_right (by decide) Y.y__law_turns_right (fun c T tb h1 h2 A outer s H E hr =>
  (ss_cons (s_set (i := 1) sc__law_turns_right.nd rfl (.inr rfl) (x_E (e_call1 ((c__law_some Z).mono (by omega)) hr (takes_of rfl rfl rfl rfl) rfl (a_cons (e_var (i := 0) rfl (.inl rfl)) (a_cons (e_lst (a_cons e_int (a_cons e_int (a_cons e_int (a_cons e_int (a_cons e_int (a_cons e_int (a_cons e_int (a_cons e_int (a_cons e_int (a_cons e_int a_nil))))))))))) a_nil)))))
  (ss_cons (s_set (i := 2) sc__law_turns_right.nd rfl (.inl rfl) (x_E (e_call1 ((c__law_turn Z).mono (by omega)) hr (takes_of rfl rfl rfl rfl) rfl (a_cons (e_var (i := 0) rfl (.inl rfl)) (a_cons (e_var (i := 1) rfl (.inr (.inl rfl))) a_nil)))))
  (ss_cons (s_par3 (i := 3) (j := 4) (l := 5) rfl sc__law_turns_right.nd rfl rfl rfl (by decide) (by decide) (by decide) rfl rfl rfl (x_E (e_call ((c__law_number Z).mono (by omega)) hr (takes_of rfl rfl rfl rfl) rfl (a_cons (e_var (i := 2) rfl (.inl rfl)) a_nil))) (x_E (e_call ((c__law_behind Z).mono (by omega)) hr (takes_of rfl rfl rfl rfl) rfl (a_cons (e_var (i := 2) rfl (.inl rfl)) a_nil))) (x_E (e_call ((c__law_times Z).mono (by omega)) hr (takes_of rfl rfl rfl rfl) rfl (a_cons (e_var (i := 1) rfl (.inr (.inl rfl))) a_nil))) rfl)
  (ss_cons (s_set (i := 6) sc__law_turns_right.nd rfl (.inl rfl) (x_E (e_lst (a_cons (e_call ((c_turn_number Z).mono (by omega)) hr (takes_of rfl rfl rfl rfl) rfl (a_cons (e_var (i := 2) rfl (.inl rfl)) a_nil)) (a_cons (e_call ((c_turn_of_number Z).mono (by omega)) hr (takes_of rfl rfl rfl rfl) rfl (a_cons (e_var (i := 1) rfl (.inr (.inl rfl))) (a_cons (e_var (i := 3) rfl (.inl rfl)) a_nil))) (a_cons (e_call ((c_turn_behind Z).mono (by omega)) hr (takes_of rfl rfl rfl rfl) rfl (a_cons (e_var (i := 2) rfl (.inl rfl)) a_nil)) (a_cons (e_call ((c_turn_exchanges Z).mono (by omega)) hr (takes_of rfl rfl rfl rfl) rfl (a_cons (e_var (i := 2) rfl (.inl rfl)) a_nil)) (a_cons (e_call ((c_turn_exchanges Z).mono (by omega)) hr (takes_of rfl rfl rfl rfl) rfl (a_cons (e_call ((c_turn_back Z).mono (by omega)) hr (takes_of rfl rfl rfl rfl) rfl (a_cons (e_var (i := 2) rfl (.inl rfl)) a_nil)) a_nil)) a_nil))))))))
  (ss_cons (s_if (t_not (t_val (e_call ((c__law_like Z).mono (by omega)) hr (takes_of rfl rfl rfl rfl) rfl (a_cons (e_var (i := 6) rfl (.inl rfl)) (a_cons (e_lst (a_cons (e_var (i := 3) rfl (.inl rfl)) (a_cons (e_var (i := 2) rfl (.inl rfl)) (a_cons (e_var (i := 4) rfl (.inl rfl)) (a_cons (e_call ((c__law_exchanges Z).mono (by omega)) hr (takes_of rfl rfl rfl rfl) rfl (a_cons (e_var (i := 2) rfl (.inl rfl)) a_nil)) (a_cons (e_call ((c__law_exchanges Z).mono (by omega)) hr (takes_of rfl rfl rfl rfl) rfl (a_cons (e_var (i := 2) rfl (.inl rfl)) a_nil)) a_nil)))))) a_nil))))) (ss_one (s_ret e_bl)) ss_nil)
  (ss_cons (s_if (t_w (w_or (t_w (w_and (t_cmp op_notN o2_isnot (e_var (i := 4) rfl (.inl rfl)) e_non) (w_and1 (t_cmp (op_neD (Room.units hr)) o2_ne (e_call ((c_turn_number Z).mono (by omega)) hr (takes_of rfl rfl rfl rfl) rfl (a_cons (e_var (i := 4) rfl (.inl rfl)) a_nil)) (e_op or_add o2_add (e_var (i := 3) rfl (.inl rfl)) e_int))))) (w_or1 (t_w (w_and (t_cmp op_isN o2_is (e_var (i := 4) rfl (.inl rfl)) e_non) (w_and1 (t_cmp (op_neD (Room.units hr)) o2_ne (e_var (i := 3) rfl (.inl rfl)) (e_op op_sub o2_sub (e_var (i := 5) rfl (.inl rfl)) e_int)))))))) (ss_one (s_ret e_bl)) ss_nil)
  (ss_cons (s_set (i := 7) sc__law_turns_right.nd rfl (.inl rfl) (x_E (e_Ty call_tuple_of b_tuple rfl Z.b_tuple boot_tuple (a_cons (e_N (n_lc (own := [("own", 13)]) rfl sc__law_turns_right.nd (i_any (e_var (i := 2) rfl (.inl rfl))) (blkOk_by rfl) (by decide) (fun _ _ _ _ _ => (g_name (i := 13) sc__law_turns_right.nd rfl (.inl rfl))) (fun _ _ _ _ _ => ts_nil) (fun _ _ _ _ _ => (e_op op_sub o2_sub (e_op op_sub o2_sub (e_var (i := 1) rfl (.inr (.inl rfl))) e_int) (e_var (i := 13) rfl (.inl rfl)))))) a_nil))))
  (ss_cons (s_if (t_not (t_val (e_call ((c__law_like Z).mono (by omega)) hr (takes_of rfl rfl rfl rfl) rfl (a_cons (e_lst (a_cons (e_call ((c_turn_number Z).mono (by omega)) hr (takes_of rfl rfl rfl rfl) rfl (a_cons (e_var (i := 7) rfl (.inl rfl)) a_nil)) (a_cons (e_call ((c_turn_exchanges Z).mono (by omega)) hr (takes_of rfl rfl rfl rfl) rfl (a_cons (e_var (i := 7) rfl (.inl rfl)) a_nil)) a_nil))) (a_cons (e_lst (a_cons (e_op op_sub o2_sub (e_op op_sub o2_sub (e_var (i := 5) rfl (.inl rfl)) e_int) (e_var (i := 3) rfl (.inl rfl))) (a_cons (e_op op_sub o2_sub (e_op op_fdivW o2_div (e_op or_mulT o2_mulT (e_var (i := 1) rfl (.inr (.inl rfl))) (e_op op_sub o2_sub (e_var (i := 1) rfl (.inr (.inl rfl))) e_int)) e_int) (e_call ((c_turn_exchanges Z).mono (by omega)) hr (takes_of rfl rfl rfl rfl) rfl (a_cons (e_var (i := 2) rfl (.inl rfl)) a_nil))) a_nil))) a_nil))))) (ss_one (s_ret e_bl)) ss_nil)
  (ss_cons (s_set (i := 8) sc__law_turns_right.nd rfl (.inl rfl) (x_E (e_call1 ((c__law_some Z).mono (by omega)) hr (takes_of rfl rfl rfl rfl) rfl (a_cons (e_var (i := 0) rfl (.inl rfl)) (a_cons (e_lst (a_cons e_int (a_cons e_int (a_cons (e_op op_sub o2_sub (e_var (i := 5) rfl (.inl rfl)) e_int) (a_cons (e_op op_fdivW o2_div (e_var (i := 5) rfl (.inl rfl)) e_int) (a_cons (e_if (t_cmp op_gt o2_gt (e_var (i := 5) rfl (.inl rfl)) e_int) (e_op op_sub o2_sub (e_var (i := 5) rfl (.inl rfl)) e_int) e_int) a_nil)))))) a_nil)))))
  (ss_cons (s_set (i := 9) sc__law_turns_right.nd rfl (.inl rfl) (x_E (e_call ((c_turn_of_number Z).mono (by omega)) hr (takes_of rfl rfl rfl rfl) rfl (a_cons (e_var (i := 1) rfl (.inr (.inl rfl))) (a_cons (e_op op_mod o2_mod (e_Ty call_int1 b_int rfl Z.b_int boot_int (a_cons (e_var (i := 8) rfl (.inl rfl)) a_nil)) (e_var (i := 5) rfl (.inl rfl))) a_nil)))))
  (ss_cons (s_if (t_w (w_or (t_cmp (op_neD (Room.units hr)) o2_ne (e_B cr_sortedB b_sorted rfl Z.b_sorted boot_sorted (a_cons (e_var (i := 9) rfl (.inl rfl)) a_nil)) (e_N (n_rgL rfl rfl Z.b_list (r_1 rfl Z.b_range (e_var (i := 1) rfl (.inr (.inl rfl))))))) (w_or1 (t_cmp (op_neD (Room.units hr)) o2_ne (e_call ((c__law_number Z).mono (by omega)) hr (takes_of rfl rfl rfl rfl) rfl (a_cons (e_var (i := 9) rfl (.inl rfl)) a_nil)) (e_op op_mod o2_mod (e_Ty call_int1 b_int rfl Z.b_int boot_int (a_cons (e_var (i := 8) rfl (.inl rfl)) a_nil)) (e_var (i := 5) rfl (.inl rfl))))))) (ss_one (s_ret e_bl)) ss_nil)
  (ss_cons (s_lc (i := 10) lc_E (own := [("odd", 12)]) rfl sc__law_turns_right.nd rfl rfl (i_any (e_tup (a_cons (e_var (i := 5) rfl (.inl rfl)) (a_cons (e_neg e_int) (a_cons (e_op or_mulT o2_mulT (e_var (i := 5) rfl (.inl rfl)) e_int) (a_cons e_bl (a_cons e_non (a_cons e_str a_nil)))))))) (blkOk_by rfl) (by decide) (fun _ _ _ _ _ => (g_name (i := 12) sc__law_turns_right.nd rfl (.inr rfl))) (fun _ _ _ _ _ => ts_nil) (fun _ _ _ _ _ => (e_lam (k := 3) (t__law_error Z) rfl tb rfl h1 h2 (hr.mono (by omega)) (LamX.lamS_by rfl) (fun A outer s H E fa c2 hr1 => (e_call ((c_turn_of_number Z).mono (by omega)) hr1 (takes_of rfl rfl rfl rfl) rfl (a_cons (e_var (i := 1) rfl (.inr (.inr rfl))) (a_cons (e_var (i := 12) rfl (.inr (.inr rfl))) a_nil)))))))
  (ss_cons (s_set (i := 11) sc__law_turns_right.nd rfl (.inl rfl) (x_E (e_call ((c_turn_joined Z).mono (by omega)) hr (takes_of rfl rfl rfl rfl) rfl (a_cons (e_var (i := 2) rfl (.inl rfl)) (a_cons (e_var (i := 9) rfl (.inl rfl)) a_nil)))))
  (ss_one (s_ret (e_and (e_cmp (op_eqD (Room.units hr)) o2_eq (e_var (i := 10) rfl (.inl rfl)) (e_op or_mulT o2_mulT (e_lst (a_cons e_str a_nil)) e_int)) (e_one (e_cmp (op_eqD (Room.units hr)) o2_eq (e_op op_mod o2_mod (e_Ty call_int1 b_int rfl Z.b_int boot_int (a_cons (e_op op_sub o2_sub (e_op op_sub o2_sub (e_call ((c_turn_exchanges Z).mono (by omega)) hr (takes_of rfl rfl rfl rfl) rfl (a_cons (e_var (i := 11) rfl (.inl rfl)) a_nil)) (e_call ((c_turn_exchanges Z).mono (by omega)) hr (takes_of rfl rfl rfl rfl) rfl (a_cons (e_var (i := 2) rfl (.inl rfl)) a_nil))) (e_call ((c_turn_exchanges Z).mono (by omega)) hr (takes_of rfl rfl rfl rfl) rfl (a_cons (e_var (i := 9) rfl (.inl rfl)) a_nil))) a_nil)) e_int) e_int)))))))))))))))))))
/-! ### _law_rows_right -/
def n__law_rows_right_1 : M (List D) :=
  nLc [7] (iArgs (aCons (mVar 1) aNil) fRng1) (gN 7) (ret true) (mCall1N 2 m__law_turn (aCons (mVar 0) (aCons (mVar 1) aNil)))
def o__law_rows_right_2 : M Fl :=
  (mSet 4 (xV (m2 (d2 fAdd) (m2 (d2 fMulT) (mVar 4) (mVar 3)) (mCallN 1 m__law_number (aCons (mVar 5) aNil)))))
def o__law_rows_right_3 : M Fl :=
  (mSet 6 (xV (m2 (d2 fMulT) (mVar 6) (mVar 3))))
def n__law_rows_right_4 : M (List D) :=
  nLc [10] (iOf (mTup (aCons (mVar 6) (aCons (m2 (d2 fMulT) (mVar 6) (mVar 6)) (aCons (m1 fNeg (mC (.int 1))) (aCons (mC (.bl false)) (aCons (mC .non) aNil)))))) isAny) (gN 10) (ret true) (mTold tf__law_error tl__law_error (mCallN 2 m_rows_of_number (aCons (mVar 1) (aCons (mVar 10) aNil))))
theorem sc__law_rows_right : FnScope ["cup", "letters", "rows", "base", "number", "row", "every", "own", "last", "told", "odd"] ["cup"] (defScope (top 44)) := ⟨rfl, rfl, rfl, by decide +kernel, rfl, by decide +kernel, by decide +kernel⟩
def b__law_rows_right : M Fl :=
  (mSeq (mSet 1 (xV (mCall1N 2 m__law_some (aCons (mVar 0) (aCons (mLst (aCons (mC (.int 1)) (aCons (mC (.int 2)) (aCons (mC (.int 3)) (aCons (mC (.int 4)) (aCons (mC (.int 8)) (aCons (mC (.int 15)) (aCons (mC (.int 16)) aNil)))))))) aNil)))))
  (mSeq (mSet 2 (xV (mB bTuple (aCons (eN n__law_rows_right_1) aNil))))
  (mSeq (mPar2 3 4 (xV (mCallN 1 m__law_times (aCons (mVar 1) aNil))) (xV (mC (.int 0))))
  (mSeq (mFor (iOf (mVar 2) isAny) (gN 5) o__law_rows_right_2)
  (mSeq (mIfS (mNot (toB (mCallN 2 (m__law_like 12) (aCons (mLst (aCons (mCallN 1 m_rows_number (aCons (mVar 2) aNil)) (aCons (mCallN 2 m_rows_of_number (aCons (mVar 1) (aCons (mVar 4) aNil))) aNil))) (aCons (mLst (aCons (mVar 4) (aCons (mVar 2) aNil))) aNil))))) (mRet (mC (.bl false))) mSkip)
  (mSeq (mSet 6 (xV (mC (.int 1))))
  (mSeq (mFor (iArgs (aCons (mVar 1) aNil) fRng1) (gN 7) o__law_rows_right_3)
  (mSeq (mSet 8 (xV (mRgT3 (aCons (m2 (d2 fSub) (mVar 1) (mC (.int 1))) (aCons (m1 fNeg (mC (.int 1))) (aCons (m1 fNeg (mC (.int 1))) aNil))))))
  (mSeq (mSet 9 (xV (mLst (aCons (mCallN 2 m_rows_of_number (aCons (mVar 1) (aCons (mC (.int 0)) aNil))) (aCons (mCallN 2 m_rows_of_number (aCons (mVar 1) (aCons (m2 (d2 fSub) (mVar 6) (mC (.int 1))) aNil))) (aCons (mCallN 1 m_rows_number (aCons (m2 (d2 fMulT) (mTup (aCons (mVar 8) aNil)) (mVar 1)) aNil)) aNil))))))
  (mSeq (mIfS (mNot (toB (mCallN 2 (m__law_like 12) (aCons (mVar 9) (aCons (mLst (aCons (m2 (d2 fMulT) (mTup (aCons (mRgT (mRg1 (mVar 1))) aNil)) (mVar 1)) (aCons (m2 (d2 fMulT) (mTup (aCons (mVar 8) aNil)) (mVar 1)) (aCons (m2 (d2 fSub) (mVar 6) (mC (.int 1))) aNil)))) aNil))))) (mRet (mC (.bl false))) mSkip)
  (mRet (m2 (d2 fEq) (eN n__law_rows_right_4) (m2 (d2 fMulT) (mLst (aCons (mC (.str "number")) aNil)) (mC (.int 5)))))))))))))))
def m__law_rows_right : M D := mDef 11 b__law_rows_right
theorem c__law_rows_right (Z : Fs K mg) (Y : Ys K mg base) : Cal P w K mg base 15 "_law_rows_right" 1 m__law_rows_right := by
  obtain ⟨f, fd, g, F⟩ := Z.f__law_rows_right
  exact cal_DL g F (F.bindsN fun _ _ _ _ _ _ us hl => match us, hl with | [_], _ => rfl) sc__law_rows_right (by decide) Y.y__law_rows_right (fun c T tb h1 h2 A outer s H E hr =>
  (ss_cons (s_set (i := 1) sc__law_rows_right.nd rfl (.inr rfl) (x_E (e_call1 ((c__law_some Z).mono (by omega)) hr (takes_of rfl rfl rfl rfl) rfl (a_cons (e_var (i := 0) rfl (.inr (.inl rfl))) (a_cons (e_lst (a_cons e_int (a_cons e_int (a_cons e_int (a_cons e_int (a_cons e_int (a_cons e_int (a_cons e_int a_nil)))))))) a_nil)))))
  (ss_cons (s_set (i := 2) sc__law_rows_right.nd rfl (.inl rfl) (x_E (e_Ty call_tuple_of b_tuple rfl Z.b_tuple boot_tuple (a_cons (e_N (n_lc (own := [("own", 7)]) rfl sc__law_rows_right.nd (i_rng1 rfl Z.b_range (a_cons (e_var (i := 1) rfl (.inr (.inl rfl))) a_nil)) (blkOk_by rfl) (by decide) (fun _ _ _ _ _ => (g_name (i := 7) sc__law_rows_right.nd rfl (.inl rfl))) (fun _ _ _ _ _ => ts_nil) (fun _ _ _ _ _ => (e_call1 ((c__law_turn Z).mono (by omega)) hr LamX.takes0 rfl (a_cons (e_var (i := 0) rfl (.inr (.inl rfl))) (a_cons (e_var (i := 1) rfl (.inr (.inl rfl))) a_nil)))))) a_nil))))
  (ss_cons (s_par2 (i := 3) (j := 4) rfl sc__law_rows_right.nd rfl rfl (by decide) rfl rfl (x_E (e_call ((c__law_times Z).mono (by omega)) hr (takes_of rfl rfl rfl rfl) rfl (a_cons (e_var (i := 1) rfl (.inr (.inl rfl))) a_nil))) (x_E e_int) rfl)
  (ss_cons (s_for (passes_of rfl) rfl (i_any (e_var (i := 2) rfl (.inl rfl))) (g_name (i := 5) sc__law_rows_right.nd rfl (.inl rfl)) (ss_one (s_set (i := 4) sc__law_rows_right.nd rfl (.inl rfl) (x_E (e_op or_add o2_add (e_op or_mulT o2_mulT (e_var (i := 4) rfl (.inl rfl)) (e_var (i := 3) rfl (.inl rfl))) (e_call ((c__law_number Z).mono (by omega)) hr (takes_of rfl rfl rfl rfl) rfl (a_cons (e_var (i := 5) rfl (.inl rfl)) a_nil)))))))
  (ss_cons (s_if (t_not (t_val (e_call ((c__law_like Z).mono (by omega)) hr (takes_of rfl rfl rfl rfl) rfl (a_cons (e_lst (a_cons (e_call ((c_rows_number Z).mono (by omega)) hr (takes_of rfl rfl rfl rfl) rfl (a_cons (e_var (i := 2) rfl (.inl rfl)) a_nil)) (a_cons (e_call ((c_rows_of_number Z).mono (by omega)) hr (takes_of rfl rfl rfl rfl) rfl (a_cons (e_var (i := 1) rfl (.inr (.inl rfl))) (a_cons (e_var (i := 4) rfl (.inl rfl)) a_nil))) a_nil))) (a_cons (e_lst (a_cons (e_var (i := 4) rfl (.inl rfl)) (a_cons (e_var (i := 2) rfl (.inl rfl)) a_nil))) a_nil))))) (ss_one (s_ret e_bl)) ss_nil)
  (ss_cons (s_set (i := 6) sc__law_rows_right.nd rfl (.inl rfl) (x_E e_int))
  (ss_cons (s_for (passes_of rfl) rfl (i_rng1 rfl Z.b_range (a_cons (e_var (i := 1) rfl (.inr (.inl rfl))) a_nil)) (g_name (i := 7) sc__law_rows_right.nd rfl (.inl rfl)) (ss_one (s_set (i := 6) sc__law_rows_right.nd rfl (.inl rfl) (x_E (e_op or_mulT o2_mulT (e_var (i := 6) rfl (.inl rfl)) (e_var (i := 3) rfl (.inl rfl)))))))
  (ss_cons (s_set (i := 8) sc__law_rows_right.nd rfl (.inl rfl) (x_E (e_rgT3 rfl rfl Z.b_tuple rfl Z.b_range (a_cons (e_op op_sub o2_sub (e_var (i := 1) rfl (.inr (.inl rfl))) e_int) (a_cons (e_neg e_int) (a_cons (e_neg e_int) a_nil))))))
  (ss_cons (s_set (i := 9) sc__law_rows_right.nd rfl (.inl rfl) (x_E (e_lst (a_cons (e_call ((c_rows_of_number Z).mono (by omega)) hr (takes_of rfl rfl rfl rfl) rfl (a_cons (e_var (i := 1) rfl (.inr (.inl rfl))) (a_cons e_int a_nil))) (a_cons (e_call ((c_rows_of_number Z).mono (by omega)) hr (takes_of rfl rfl rfl rfl) rfl (a_cons (e_var (i := 1) rfl (.inr (.inl rfl))) (a_cons (e_op op_sub o2_sub (e_var (i := 6) rfl (.inl rfl)) e_int) a_nil))) (a_cons (e_call ((c_rows_number Z).mono (by omega)) hr (takes_of rfl rfl rfl rfl) rfl (a_cons (e_op or_mulT o2_mulT (e_tup (a_cons (e_var (i := 8) rfl (.inl rfl)) a_nil)) (e_var (i := 1) rfl (.inr (.inl rfl)))) a_nil)) a_nil))))))
  (ss_cons (s_if (t_not (t_val (e_call ((c__law_like Z).mono (by omega)) hr (takes_of rfl rfl rfl rfl) rfl (a_cons (e_var (i := 9) rfl (.inl rfl)) (a_cons (e_lst (a_cons (e_op or_mulT o2_mulT (e_tup (a_cons (e_rgT rfl rfl Z.b_tuple (r_1 rfl Z.b_range (e_var (i := 1) rfl (.inr (.inl rfl))))) a_nil)) (e_var (i := 1) rfl (.inr (.inl rfl)))) (a_cons (e_op or_mulT o2_mulT (e_tup (a_cons (e_var (i := 8) rfl (.inl rfl)) a_nil)) (e_var (i := 1) rfl (.inr (.inl rfl)))) (a_cons (e_op op_sub o2_sub (e_var (i := 6) rfl (.inl rfl)) e_int) a_nil)))) a_nil))))) (ss_one (s_ret e_bl)) ss_nil)
  (ss_one (s_ret (e_cmp (op_eqD (Room.units hr)) o2_eq (e_N (n_lc (own := [("odd", 10)]) rfl sc__law_rows_right.nd (i_any (e_tup (a_cons (e_var (i := 6) rfl (.inl rfl)) (a_cons (e_op or_mulT o2_mulT (e_var (i := 6) rfl (.inl rfl)) (e_var (i := 6) rfl (.inl rfl))) (a_cons (e_neg e_int) (a_cons e_bl (a_cons e_non a_nil))))))) (blkOk_by rfl) (by decide) (fun _ _ _ _ _ => (g_name (i := 10) sc__law_rows_right.nd rfl (.inr rfl))) (fun _ _ _ _ _ => ts_nil) (fun _ _ _ _ _ => (e_lam (k := 3) (t__law_error Z) rfl tb rfl h1 h2 (hr.mono (by omega)) (LamX.lamS_by rfl) (fun A outer s H E fa c2 hr2 => (e_call ((c_rows_of_number Z).mono (by omega)) hr2 (takes_of rfl rfl rfl rfl) rfl (a_cons (e_var (i := 1) rfl (.inr (.inr rfl))) (a_cons (e_var (i := 10) rfl (.inr (.inr rfl))) a_nil)))))))) (e_op or_mulT o2_mulT (e_lst (a_cons e_str a_nil)) e_int)))))))))))))))
/-! ### law -/
def o_law_1 : M Fl :=
  (mIfS (mOr (mNot (toB (mCall1N 1 m__law_turns_right (aCons (mVar 1) aNil)))) (mNot (toB (mCall1N 1 m__law_rows_right (aCons (mVar 1) aNil))))) (mRet (mC (.bl false))) mSkip)
theorem sc_law : FnScope ["script", "cup", "turn"] ["script"] (defScope (top 46)) := ⟨rfl, rfl, rfl, by decide +kernel, rfl, by decide +kernel, by decide +kernel⟩
def b_law : M Fl :=
  (mSeq (mSet 1 (xN (nCall 1 m__law_cup (aCons (mVar 0) aNil))))
  (mSeq (mIfS (mNot (toB (mCallN 0 m__law_written_right aNil))) (mRet (mC (.bl false))) mSkip)
  (mSeq (mFor (iArgs (aCons (mC (.int 14)) aNil) fRng1) (gN 2) o_law_1)
  (mRet (mC (.bl true))))))
def m_law : M D := mDef 3 b_law
theorem c_law (Z : Fs K mg) (Y : Ys K mg base) {f : Addr} {fd : FuncData} (F : FnP K "law" (top 46) f fd) : FnOk P w K mg base (L2.CX P w) 16 f fd ["script"] (spZ K mg 1 m_law) :=
  fn_D F sc_law (by decide) (fun cdv A outer s H E hr =>
  (ss_cons (s_set (i := 1) sc_law.nd rfl (.inl rfl) (x_N (n_call ((c__law_cup Z).mono (by omega)) hr (takes_of rfl rfl rfl rfl) rfl (a_cons (e_var (i := 0) rfl (.inl rfl)) a_nil))))
  (ss_cons (s_if (t_not (t_val (e_callN ((c__law_written_right Z).mono (by omega)) hr (takes_of rfl rfl rfl rfl) rfl))) (ss_one (s_ret e_bl)) ss_nil)
  (ss_cons (s_for (passes_of rfl) rfl (i_rng1 rfl Z.b_range (a_cons e_int a_nil)) (g_name (i := 2) sc_law.nd rfl (.inl rfl)) (ss_one (s_if (t_w (w_or (t_not (t_val (e_call1 ((c__law_turns_right Z Y).mono (by omega)) hr (takes_of rfl rfl rfl rfl) rfl (a_cons (e_var (i := 1) rfl (.inl rfl)) a_nil)))) (w_or1 (t_not (t_val (e_call1 ((c__law_rows_right Z Y).mono (by omega)) hr (takes_of rfl rfl rfl rfl) rfl (a_cons (e_var (i := 1) rfl (.inl rfl)) a_nil))))))) (ss_one (s_ret e_bl)) ss_nil)))
  (ss_one (s_ret e_bl))))))
end G
set_option maxHeartbeats 4000000
namespace G
open PySem PySem.Spec PyProof.Rows L2 Z
variable [Z.LT]
abbrev T (l : List Int) : D := .tup (zl l)
/-! ### whole numbers -/
theorem whole_int (i lo hi : Int) : m_is_whole [.sh (.int i), .sh (.int lo), .sh (.int hi)] = .ok (.bl (decide (lo ≤ i ∧ i ≤ hi))) [.sh (.int i), .sh (.int lo), .sh (.int hi)] := by
  unfold m_is_whole mDef b_is_whole
  by_cases h : lo ≤ i <;> simp [mVar, chkP, Sl.isSh, uns, fIsi, isT, fLe, back, h]
theorem whole_bl (b : Bool) (lo hi : Int) : m_is_whole [.sh (.bl b), .sh (.int lo), .sh (.int hi)] = .ok (.bl false) [.sh (.bl b), .sh (.int lo), .sh (.int hi)] := by
  unfold m_is_whole mDef b_is_whole
  simp [mVar, chkP, Sl.isSh, uns, fIsi, isT, fLe, back]
theorem whole_non (lo hi : Int) : m_is_whole [.sh .non, .sh (.int lo), .sh (.int hi)] = .ok (.bl false) [.sh .non, .sh (.int lo), .sh (.int hi)] := by
  unfold m_is_whole mDef b_is_whole
  simp [mVar, chkP, Sl.isSh, uns, fIsi, isT, fLe, back]
theorem whole_str (x : Str) (lo hi : Int) : m_is_whole [.sh (.str x), .sh (.int lo), .sh (.int hi)] = .ok (.bl false) [.sh (.str x), .sh (.int lo), .sh (.int hi)] := by
  unfold m_is_whole mDef b_is_whole
  simp [mVar, chkP, Sl.isSh, uns, fIsi, isT, fLe, back]
theorem need_ok {v : D} {lo hi : Int} (h : m_is_whole [.sh v, .sh (.int lo), .sh (.int hi)] = .ok (.bl true) [.sh v, .sh (.int lo), .sh (.int hi)]) : m_need_whole [.sh v, .sh (.int lo), .sh (.int hi)] = .ok .non [.sh v, .sh (.int lo), .sh (.int hi)] := by
  unfold m_need_whole mDef b_need_whole
  simp [mVar, chkP, Sl.isSh, uns, back, h]
theorem need_bad {v : D} {lo hi : Int} (h : m_is_whole [.sh v, .sh (.int lo), .sh (.int hi)] = .ok (.bl false) [.sh v, .sh (.int lo), .sh (.int hi)]) : m_need_whole [.sh v, .sh (.int lo), .sh (.int hi)] = .exc ⟨"InvalidNumber", none⟩ [.sh v, .sh (.int lo), .sh (.int hi)] := by
  unfold m_need_whole mDef b_need_whole
  simp [mVar, chkP, Sl.isSh, uns, back, h]
/-! ### turns -/
def iota (n : Nat) : List Int := (List.range n).map fun i => ((i : Nat) : Int)
structure Turn (n : Nat) (l : List Int) : Prop where
  perm : l.Perm (iota n)
theorem iota_length (n : Nat) : (iota n).length = n := by simp [iota]
theorem Turn.len {n : Nat} {l : List Int} (h : Turn n l) : l.length = n := by rw [h.perm.length_eq, iota_length]
theorem iota_mem {n : Nat} {i : Int} : i ∈ iota n ↔ 0 ≤ i ∧ i < n := by
  simp only [iota, List.mem_map, List.mem_range]
  constructor
  · rintro ⟨k, hk, rfl⟩; omega
  · rintro ⟨h1, h2⟩; exact ⟨i.toNat, by omega, by omega⟩
theorem Turn.mem {n : Nat} {l : List Int} (h : Turn n l) {i : Int} : i ∈ l ↔ 0 ≤ i ∧ i < n := by rw [h.perm.mem_iff, iota_mem]
theorem iota_lt (n : Nat) : (iota n).Pairwise (· < ·) := by
  unfold iota
  rw [List.pairwise_map]
  exact List.pairwise_lt_range.imp fun h => by omega
theorem iota_sorted (n : Nat) : (iota n).Pairwise (· ≤ ·) := (iota_lt n).imp fun h => by omega
theorem iota_nodup (n : Nat) : (iota n).Nodup := (iota_lt n).imp fun h => by omega
theorem Turn.nodup {n : Nat} {l : List Int} (h : Turn n l) : l.Nodup := h.perm.nodup_iff.mpr (iota_nodup n)
theorem Turn.sort {n : Nat} {l : List Int} (h : Turn n l) : sortI l = iota n := sorted_uniq ((sortI_perm l).trans h.perm) (sortI_sorted l) (iota_sorted n)
theorem rng_iota (n : Nat) : rngD 0 1 n = zl (iota n) := by
  unfold rngD iota zl
  rw [List.map_map]
  refine List.map_congr_left fun i _ => ?_
  simp
theorem tuple_of (xs : List D) (lo hi : Int) : m_is_tuple_of [.sh (.tup xs), .sh (.int lo), .sh (.int hi)] = .ok (.bl (decide (lo ≤ xs.length ∧ (xs.length : Int) ≤ hi))) [.sh (.tup xs), .sh (.int lo), .sh (.int hi)] := by
  unfold m_is_tuple_of mDef b_is_tuple_of
  by_cases h : lo ≤ (xs.length : Int) <;> simp [mVar, chkP, Sl.isSh, uns, fIsi, isT, fLe, back, bLen, h]
theorem bls_true : ∀ l : List Int, D.bls (l.map fun _ => D.bl true) = some (l.map fun _ => true)
  | [] => rfl
  | i :: l => by
    rw [List.map_cons, D.bls, bls_true l]
    rfl

theorem n_is_turn {n : Nat} {l : List Int} (h : Turn n l) (h2 : n ≤ 60) : n_is_turn_1 [.sh (T l), .un] = .ok (l.map fun _ => D.bl true) [.sh (T l), .un] := by
  have hl := h.len
  unfold n_is_turn_1
  refine nLc_map (s := .un) (fun _ => .bl true) (by simp [mVar, isAny]) rfl (fun i hi => ?_) (by omega)
  have := (h.mem (i := i)).mp hi
  simp [mVar, bLen, fSub, hl, whole_int]
  omega
theorem q3 {n : Nat} {l : List Int} (h : Turn n l) (h2 : n ≤ 60) : nRgL (mRg1 (mB bLen (aCons (mVar 0) aNil))) [.sh (T l), .un] = .ok (zl (iota n)) [.sh (T l), .un] := by
  have := nRgL_ok (m := mRg1 (mB bLen (aCons (mVar 0) aNil))) (S := [.sh (T l), .un]) (S1 := [.sh (T l), .un]) (a := 0) (b := n) (by simp [mRg1, mVar, bLen, h.len]) (RgOk.of_le (by omega) (by omega) (by omega) (by omega))
  rw [this]
  simp [rng_iota]
theorem q4 (n : Nat) : fEq (.lst (zl (iota n))) (.lst (zl (iota n))) = some (.bl true) := by
    unfold fEq
    rw [if_pos ⟨(pl_lst pl_zl).shp (by omega), (pl_lst pl_zl).shp (by omega)⟩, deq_refl (pl_lst pl_zl)]
theorem q5 {n : Nat} {l : List Int} (h : Turn n l) : bSorted [.tup (zl l)] = some (.lst (zl (iota n))) := by
    show (D.ints (zl l)).bind _ = _
    rw [ints_zl]
    show some (D.lst ((sortI l).map .int)) = _
    rw [h.sort]
    rfl

theorem is_turn {n : Nat} {l : List Int} (h : Turn n l) (h1 : 1 ≤ n) (h2 : n ≤ 60) : m_is_turn [.sh (T l)] = .ok (.bl true) [.sh (T l)] := by
  have a1 : (1 : Int) ≤ n := by omega
  have a2 : (n : Int) ≤ 60 := by omega
  have t1 := tuple_of (zl l) 1 60
  rw [zl_length, h.len, decide_eq_true ⟨a1, a2⟩] at t1
  have b1 : bAll [.lst (l.map fun _ => D.bl true)] = some (.bl true) := by
    show (D.bls (l.map fun _ => D.bl true)).bind _ = _
    rw [bls_true]
    simp
  unfold m_is_turn mDef b_is_turn
  simp [mVar, chkP, Sl.isSh, uns, t1, n_is_turn h h2, b1, q3 h h2, q5 h, q4, back]
theorem need_turn {n : Nat} {l : List Int} (h : Turn n l) (h1 : 1 ≤ n) (h2 : n ≤ 60) : m_need_turn [.sh (T l)] = .ok .non [.sh (T l)] := by
  unfold m_need_turn mDef b_need_turn
  simp [mVar, chkP, Sl.isSh, uns, back, is_turn h h1 h2]
/-! ### the number of a turn -/
open M3 in
theorem fac60 : fac 60 < 2 ^ 300 := by decide
open M3 in
theorem fac_mono : ∀ {a b : Nat}, a ≤ b → fac a ≤ fac b
  | a, 0, h => by
    have e : a = 0 := by omega
    subst e
    exact Int.le_refl _
  | a, b + 1, h => by
    by_cases e : a = b + 1
    · subst e; exact Int.le_refl _
    · have h1 := fac_mono (a := a) (b := b) (by omega)
      have h2 := fac_pos b
      show fac a ≤ ((b : Int) + 1) * fac b
      have h3 : 1 * fac b ≤ ((b : Int) + 1) * fac b := Int.mul_le_mul_of_nonneg_right (by omega) (by omega)
      omega
theorem small_log {k : Int} (h0 : 0 ≤ k) (h : k < 2 ^ 300) : k.natAbs.log2 < 65000000 := by
  have h1 : k.natAbs < 2 ^ (299 + 1) := by omega
  have := log_lt h1
  omega
theorem pairs_zl (i : Nat) (l : List Int) (j : Nat) {d : D} (h : (pairs i (zl l))[j]? = some d) : ∃ x, l[j]? = some x ∧ d = .tup [.int ((i + j : Nat) : Int), .int x] := by
  obtain ⟨d', e1, e2⟩ := pairs_get h
  rw [zl_get] at e1
  cases q : l[j]? with
  | none => rw [q] at e1; cases e1
  | some x =>
    rw [q] at e1
    cases e1
    exact ⟨x, rfl, e2⟩
open M3 in
theorem number_of {l : List Int} (hn : l.length ≤ 60) : m_number_of [.sh (T l)] = .ok (.int (num l)) [.sh (T l)] := by
  have hb : ∀ k : Int, 0 ≤ k → k ≤ num l → k < 2 ^ 300 := fun k h0 h => by
    have h1 := (num_lt l).2
    have h2 := fac_mono hn
    have h3 := fac60
    omega
  obtain ⟨S', e1, k, s2, s3, s4, rfl, n2, n3, n4, k0, hk⟩ := forL_run (g := gT 2 (gsCons (gN 2) (gsCons (gN 3) gsNil))) (body := o_number_of_2)
    (fun i S => ∃ (k : Int) (s2 s3 s4 : Sl), S = [.sh (T l), .sh (.int k), s2, s3, s4, .un] ∧ nio s2 ∧ nio s3 ∧ nio s4 ∧ 0 ≤ k ∧ k * fac (l.length - i) + num (l.drop i) = num l)
    (ds := pairs 0 (zl l)) (S0 := [.sh (T l), .sh (.int 0), .un, .un, .un, .un]) ⟨0, .un, .un, .un, rfl, trivial, trivial, trivial, by omega, by simp⟩ (fun i d S hd ⟨k, s2, s3, s4, e, n2, n3, n4, k0, hk⟩ => by
      subst e
      obtain ⟨x, hx, rfl⟩ := pairs_zl 0 l i hd
      have hi : i < l.length := (List.getElem?_eq_some_iff.mp hx).1
      have hdrop : l.drop i = x :: l.drop (i + 1) := by
        rw [List.drop_eq_getElem_cons hi]
        congr 1
        exact (List.getElem?_eq_some_iff.mp hx).2
      have hf : fac (l.length - i) = ((l.length : Int) - i) * fac (l.length - (i + 1)) := by
        rw [show l.length - i = (l.length - (i + 1)) + 1 by omega]
        show (((l.length - (i + 1) : Nat) : Int) + 1) * _ = _
        congr 1
        omega
      have hfp := fac_pos (l.length - i)
      have hkl : k ≤ num l := by
        have h1 := (num_lt (l.drop i)).1
        have h2 : k * 1 ≤ k * fac (l.length - i) := Int.mul_le_mul_of_nonneg_left (by omega) k0
        omega
      have hm : fMul (.int k) (.int ((l.length : Int) - i)) = some (.int (k * ((l.length : Int) - i))) := fMul_int (small_log k0 (hb k k0 hkl)) (small_log (by omega) (by omega))
      have hcut : cutD (zl l) (some ((i : Int) + 1)) none = zl (l.drop (i + 1)) := by
        rw [show (i : Int) + 1 = ((i + 1 : Nat) : Int) by omega, cut_from (by rw [zl_length]; omega)]
        unfold zl
        rw [List.map_drop]
      have hcomp : ∀ s4, n_number_of_1 [.sh (T l), .sh (.int k), .sh (.int (i : Nat)), .sh (.int x), s4, .un] =
          .ok (zl ((l.drop (i + 1)).filter fun y => decide (y < x))) [.sh (T l), .sh (.int k), .sh (.int (i : Nat)), .sh (.int x), s4, .un] := fun s4 =>
        nLc_filter (s := .un) (fun y => decide (y < x)) (by simp [mVar, fAdd, fSl, isAny, hcut]) rfl (fun y hy => by simp [mVar, fLt]) (by rw [List.length_drop]; omega)
      refine ⟨.next, [.sh (T l), .sh (.int (k * ((l.length : Int) - i) + lt x (l.drop (i + 1)))), .sh (.int (i : Nat)), .sh (.int x), .sh (.int (lt x (l.drop (i + 1)))), .un], ?_, .inl rfl, _, _, _, _, rfl, trivial, trivial, trivial, ?_, ?_⟩
      · simp [o_number_of_2, n2, n3, n4, hcomp, bLen, mVar, fSub, fMulT, hm, fAdd]
        rfl
      · have : 0 ≤ k * ((l.length : Int) - i) := Int.mul_nonneg k0 (by omega)
        omega
      · rw [hdrop, hf] at hk
        have e : num (x :: l.drop (i + 1)) = (lt x (l.drop (i + 1)) : Int) * fac (l.length - (i + 1)) + num (l.drop (i + 1)) := by
          show (lt x (l.drop (i + 1)) : Int) * fac (l.drop (i + 1)).length + _ = _
          rw [List.length_drop]
        rw [e, ← Int.mul_assoc] at hk
        rw [Int.add_mul]
        omega)
  rw [pairs_length, zl_length, Nat.sub_self, List.drop_length] at hk
  have hk : k * 1 + 0 = num l := hk
  have ek : k = num l := by omega
  subst ek
  have hI : iArgs (aCons (mVar 0) aNil) fEnum [.sh (T l), .sh (.int 0), .un, .un, .un, .un] = .ok (pairs 0 (zl l)) [.sh (T l), .sh (.int 0), .un, .un, .un, .un] := iArgs_ok (by simp [mVar]; exact ⟨rfl, rfl⟩) (by simp; rfl) rfl
  unfold m_number_of mDef b_number_of
  simp [mVar, chkP, Sl.isSh, uns, hI, back, e1]
theorem turn_number {n : Nat} {l : List Int} (h : Turn n l) (h1 : 1 ≤ n) (h2 : n ≤ 60) : m_turn_number [.sh (T l)] = .ok (.int (M3.num l)) [.sh (T l)] := by
  unfold m_turn_number mDef b_turn_number
  simp [mVar, chkP, Sl.isSh, uns, back, need_turn h h1 h2, number_of (show l.length ≤ 60 by rw [h.len]; exact h2)]
end G
set_option maxHeartbeats 4000000
namespace G
open PySem PySem.Spec PyProof.Rows L2 Z M3
variable [Z.LT]
/-! ### how many turns -/
theorem fac_small {i : Nat} (h : i ≤ 60) : (fac i).natAbs.log2 < 65000000 := by
  have h1 := fac_pos i
  have h2 := fac_mono h
  have h3 := fac60
  exact small_log (by omega) (by omega)
theorem times_run {body : M Fl} {n : Nat} (hn : n ≤ 60) (hb : ∀ (i : Nat) (s : Sl), nio s → i + 2 ≤ 60 → (bnd (gN 2 (.int (2 + (i : Int) * 1))) fun _ => body) [.sh (.int n), .sh (.int (fac (i + 1))), s] = .ok .next [.sh (.int n), .sh (.int (fac (i + 2))), .sh (.int (2 + (i : Int) * 1))]) :
    ∃ s, forL (gN 2) body (rngD 2 1 ((n : Int) + 1 - 2).toNat) [.sh (.int n), .sh (.int 1), .un] = .ok .next [.sh (.int n), .sh (.int (fac n)), s] := by
  obtain ⟨S', e1, s, rfl, h⟩ := forL_run (g := gN 2) (body := body) (fun i S => ∃ s, S = [.sh (.int n), .sh (.int (fac (i + 1))), s] ∧ nio s) (ds := rngD 2 1 ((n : Int) + 1 - 2).toNat) (S0 := [.sh (.int n), .sh (.int 1), .un]) ⟨.un, rfl, trivial⟩ (fun i d S hd ⟨s, e, ns⟩ => by
    subst e
    obtain ⟨hi, rfl⟩ := rngD_get hd
    exact ⟨.next, _, hb i s ns (by omega), .inl rfl, _, rfl, trivial⟩)
  refine ⟨s, ?_⟩
  rw [e1, rngD_length]
  have e : fac (((n : Int) + 1 - 2).toNat + 1) = fac n := by
    cases n with
    | zero => rfl
    | succ n => rw [show (((n + 1 : Nat) : Int) + 1 - 2).toNat = n by omega]
  rw [e]
theorem fac_step (i : Nat) : fac (i + 1) * (2 + (i : Int) * 1) = fac (i + 2) := by
  show fac (i + 1) * _ = (((i + 1 : Nat) : Int) + 1) * fac (i + 1)
  rw [Int.mul_comm]
  congr 1
  omega

theorem law_times_1 (i n : Nat) (s : Sl) (ns : nio s) (hi : i + 2 ≤ 60) : (bnd (gN 2 (.int (2 + (i : Int) * 1))) fun _ => o__law_times_1) [.sh (.int n), .sh (.int (fac (i + 1))), s] = .ok .next [.sh (.int n), .sh (.int (fac (i + 2))), .sh (.int (2 + (i : Int) * 1))] := by
    have hm : fMul (.int (fac (i + 1))) (.int (2 + (i : Int))) = some (.int (fac (i + 1) * (2 + (i : Int)))) := fMul_int (fac_small (by omega)) (small_log (by omega) (by omega))
    have := fac_step i
    rw [Int.mul_one] at this
    simp [o__law_times_1, ns, mVar, fMulT, hm, this]
theorem law_times_2 {n : Nat} (hn : n ≤ 60) : iArgs (aCons (mC (.int 2)) (aCons (m2 (d2 fAdd) (mVar 0) (mC (.int 1))) aNil)) fRng2 [.sh (.int n), .sh (.int 1), .un] = .ok (rngD 2 1 ((n : Int) + 1 - 2).toNat) [.sh (.int n), .sh (.int 1), .un] :=
  iArgs_ok (xs := [.val (.int 2), .val (.int (n + 1))]) (S1 := [.sh (.int n), .sh (.int 1), .un]) (ds := [.int 2, .int (n + 1)]) (by simp [mVar, fAdd]) (by simp) (fRng2_ok (by omega) (by omega) (by omega) (by omega))

theorem law_times_3 {n : Nat} (hn : n ≤ 60) : ∃ S', b__law_times [.sh (.int n), .un, .un] = .ok (.ret (.int (fac n))) S' := by
  obtain ⟨s, e1⟩ := times_run (body := o__law_times_1) hn fun i s ns hi => law_times_1 i n s ns hi
  refine ⟨[.sh (.int n), .sh (.int (fac n)), s], ?_⟩
  unfold b__law_times
  rw [mSeq_ap, mSet_ap, xV_ap, mC_ap, bind_ok, ret_ap, bind_ok, bnd_ap, settle_v, esc_val, bind_ok, ret_ap, bind_ok]
  rw [setSl_succ, setSl_zero nio_un, rcons_ok, bind_ok]
  show mSeq _ _ _ = _
  rw [mSeq_ap, mFor_ap, law_times_2 hn, bind_ok, e1, bind_ok]
  simp [mVar]
theorem law_times {n : Nat} (hn : n ≤ 60) : m__law_times [.sh (.int n)] = .ok (.int (fac n)) [.sh (.int n)] := by
  obtain ⟨S', h⟩ := law_times_3 hn
  exact defN rfl h
theorem turns_in_all_1 (i n : Nat) (s : Sl) (ns : nio s) (hi : i + 2 ≤ 60) : (bnd (gN 2 (.int (2 + (i : Int) * 1))) fun _ => o_turns_in_all_1) [.sh (.int n), .sh (.int (fac (i + 1))), s] = .ok .next [.sh (.int n), .sh (.int (fac (i + 2))), .sh (.int (2 + (i : Int) * 1))] := by
    have hm : fMul (.int (fac (i + 1))) (.int (2 + (i : Int))) = some (.int (fac (i + 1) * (2 + (i : Int)))) := fMul_int (fac_small (by omega)) (small_log (by omega) (by omega))
    have := fac_step i
    rw [Int.mul_one] at this
    simp [o_turns_in_all_1, ns, mVar, fMulT, hm, this]
theorem turns_in_all_2 {n : Nat} (hn : n ≤ 60) : iArgs (aCons (mC (.int 2)) (aCons (m2 (d2 fAdd) (mVar 0) (mC (.int 1))) aNil)) fRng2 [.sh (.int n), .sh (.int 1), .un] = .ok (rngD 2 1 ((n : Int) + 1 - 2).toNat) [.sh (.int n), .sh (.int 1), .un] :=
  iArgs_ok (xs := [.val (.int 2), .val (.int (n + 1))]) (S1 := [.sh (.int n), .sh (.int 1), .un]) (ds := [.int 2, .int (n + 1)]) (by simp [mVar, fAdd]) (by simp) (fRng2_ok (by omega) (by omega) (by omega) (by omega))

theorem turns_in_all_3 {n : Nat} (hn : n ≤ 60) : ∃ S', b_turns_in_all [.sh (.int n), .un, .un] = .ok (.ret (.int (fac n))) S' := by
  obtain ⟨s, e1⟩ := times_run (body := o_turns_in_all_1) hn fun i s ns hi => turns_in_all_1 i n s ns hi
  refine ⟨[.sh (.int n), .sh (.int (fac n)), s], ?_⟩
  unfold b_turns_in_all
  rw [mSeq_ap, mSet_ap, xV_ap, mC_ap, bind_ok, ret_ap, bind_ok, bnd_ap, settle_v, esc_val, bind_ok, ret_ap, bind_ok]
  rw [setSl_succ, setSl_zero nio_un, rcons_ok, bind_ok]
  show mSeq _ _ _ = _
  rw [mSeq_ap, mFor_ap, turns_in_all_2 hn, bind_ok, e1, bind_ok]
  simp [mVar]
theorem turns_in_all {n : Nat} (hn : n ≤ 60) : m_turns_in_all [.sh (.int n)] = .ok (.int (fac n)) [.sh (.int n)] := by
  obtain ⟨S', h⟩ := turns_in_all_3 hn
  exact defN rfl h
/-! ### a turn told by its number -/
theorem dec_length : ∀ (m : Nat) (left : List Int) (k : Int), left.length = m → 0 ≤ k → k < fac m → (dec m left k).length = m
  | 0, _, _, _, _, _ => rfl
  | m + 1, left, k, hl, h0, h1 => by
    have hb := fac_pos m
    obtain ⟨h2, h3⟩ := div_lt (m := m) h0 h1 hb
    have hi : (k / fac m).toNat < left.length := by omega
    have e : dec (m + 1) left k = left[(k / fac m).toNat] :: dec m (left.eraseIdx (k / fac m).toNat) (k % fac m) := by
      show (match left[(k / fac m).toNat]? with | some x => _ | none => _) = _
      rw [List.getElem?_eq_getElem hi]
    rw [e, List.length_cons, dec_length m _ _ (by rw [List.length_eraseIdx_of_lt hi]; omega) (Int.emod_nonneg _ (by omega)) (Int.emod_lt_of_pos _ hb)]
theorem zl_erase (l : List Int) (i : Nat) : (zl l).eraseIdx i = zl (l.eraseIdx i) := by
  induction l generalizing i with
  | nil => simp [zl]
  | cons a l ih =>
    cases i with
    | zero => rfl
    | succ i => rw [zl_cons, List.eraseIdx_cons_succ, List.eraseIdx_cons_succ, ih, zl_cons]
theorem turn_of {n : Nat} {k : Int} (hn : n ≤ 60) (h0 : 0 ≤ k) (h1 : k < fac n) : m_turn_of [.sh (.int n), .sh (.int k)] = .ok (T (dec n (iota n) k)) [.sh (.int n), .sh (.int k)] := by
  obtain ⟨S', e1, k', left, found, s4, s5, rfl, n4, n5, hl, h2, h3, h4⟩ := forL_run (g := gN 4) (body := o_turn_of_1)
    (fun i S => ∃ (k' : Int) (left found : List Int) (s4 s5 : Sl), S = [.sh (.int n), .sh (.int k'), .ow (zl left), .ow (zl found), s4, s5] ∧ nio s4 ∧ nio s5 ∧ left.length = n - i ∧ 0 ≤ k' ∧ k' < fac (n - i) ∧ found ++ dec (n - i) left k' = dec n (iota n) k)
    (ds := rngD 0 1 n) (S0 := [.sh (.int n), .sh (.int k), .ow (zl (iota n)), .ow (zl []), .un, .un]) ⟨k, iota n, [], .un, .un, rfl, trivial, trivial, iota_length n, h0, h1, rfl⟩ (fun i d S hd ⟨k', left, found, s4, s5, e, n4, n5, hl, h2, h3, h4⟩ => by
      subst e
      obtain ⟨hi, rfl⟩ := rngD_get hd
      have em : n - i = (n - (i + 1)) + 1 := by omega
      have hb := fac_pos (n - (i + 1))
      rw [em] at h3 h4
      obtain ⟨h5, h6⟩ := div_lt (m := n - (i + 1)) h2 h3 hb
      have hix : (k' / fac (n - (i + 1))).toNat < left.length := by omega
      have hx := List.getElem?_eq_getElem hix
      generalize hxx : left[(k' / fac (n - (i + 1))).toNat] = x at hx
      have ht : m_turns_in_all [.sh (.int ((n : Int) - 1 - (i : Nat)))] = .ok (.int (fac (n - (i + 1)))) [.sh (.int ((n : Int) - 1 - (i : Nat)))] := by
        have := turns_in_all (n := n - (i + 1)) (by omega)
        rw [show ((n - (i + 1) : Nat) : Int) = (n : Int) - 1 - (i : Nat) by omega] at this
        exact this
      have hd : fDiv (.int k') (.int (fac (n - (i + 1)))) = some (.int (k' / fac (n - (i + 1)))) := fDiv_ok hb (by
        have h2 := fac_mono (show n - (i + 1) ≤ 60 by omega)
        have h3 := fac60
        have h4 : (fac (n - (i + 1))).natAbs < 2 ^ (299 + 1) := by omega
        have := log_lt h4
        omega)
      have hm : fMod (.int k') (.int (fac (n - (i + 1)))) = some (.int (k' % fac (n - (i + 1)))) := fMod_ok hb
      have hp : fPopAt (zl left) [.int (k' / fac (n - (i + 1)))] = some (.int x, zl (left.eraseIdx (k' / fac (n - (i + 1))).toNat)) := by
        rw [fPopAt_ok h5 (by rw [zl_get, hx]; rfl) (by rw [zl_length]; omega), zl_erase]
      have hfl : found.length ≤ n := by
        have e1 := dec_length n (iota n) k (iota_length n) h0 h1
        rw [← h4, List.length_append] at e1
        omega
      have ha : fAppend (zl found) [.int x] = some (.non, zl (found ++ [x])) := by
        rw [fAppend_ok (by rw [zl_length]; omega), zl_append]
        rfl
      refine ⟨.next, [.sh (.int n), .sh (.int (k' % fac (n - (i + 1)))), .ow (zl (left.eraseIdx (k' / fac (n - (i + 1))).toNat)), .ow (zl (found ++ [x])), .sh (.int (i : Nat)), .sh (.int (fac (n - (i + 1))))], ?_, .inl rfl, _, _, _, _, _, rfl, trivial, trivial, ?_, Int.emod_nonneg _ (by omega), Int.emod_lt_of_pos _ hb, ?_⟩
      · simp [o_turn_of_1, n4, n5, mVar, fSub, ht, hd, hm, chkOwn, isOwn, mutate, Sl.owned, Sl.wr, hp, ha]
      · rw [List.length_eraseIdx_of_lt hix]; omega
      · rw [List.append_assoc]
        have e : dec (n - (i + 1) + 1) left k' = x :: dec (n - (i + 1)) (left.eraseIdx (k' / fac (n - (i + 1))).toNat) (k' % fac (n - (i + 1))) := by
          show (match left[(k' / fac (n - (i + 1))).toNat]? with | some x => _ | none => _) = _
          rw [hx]
        rw [← h4, e]
        rfl)
  rw [rngD_length, Nat.sub_self] at h4
  have ef : found = dec n (iota n) k := by simpa [dec] using h4
  subst ef
  have hr : fRng1 [.int (n : Int)] = some (rngD 0 1 n) := by rw [fRng1_ok (by omega) (by omega), Int.toNat_natCast]
  have e3 := nRgL_ok (m := mRg1 (mVar 0)) (S := [.sh (.int n), .sh (.int k), .un, .un, .un, .un]) (S1 := [.sh (.int n), .sh (.int k), .un, .un, .un, .un]) (a := 0) (b := n) (by simp [mRg1, mVar]) (RgOk.of_le (by omega) (by omega) (by omega) (by omega))
  rw [show ((n : Int) - 0).toNat = n by omega, rng_iota] at e3
  have hI : iArgs (aCons (mVar 0) aNil) fRng1 [.sh (.int n), .sh (.int k), .ow (zl (iota n)), .ow [], .un, .un] = .ok (rngD 0 1 n) [.sh (.int n), .sh (.int k), .ow (zl (iota n)), .ow [], .un, .un] :=
    iArgs_ok (xs := [.val (.int n)]) (S1 := [.sh (.int n), .sh (.int k), .ow (zl (iota n)), .ow [], .un, .un]) (ds := [.int n]) (by simp [mVar]) (by simp) hr
  have hP : mPar2 2 3 (xN (nRgL (mRg1 (mVar 0)))) (xN (nLst aNil)) [.sh (.int n), .sh (.int k), .un, .un, .un, .un] = .ok .next [.sh (.int n), .sh (.int k), .ow (zl (iota n)), .ow [], .un, .un] := by
    rw [mPar2_ap, xN_ap, e3]
    simp [nLst]
  have hb : b_turn_of [.sh (.int n), .sh (.int k), .un, .un, .un, .un] = .ok (.ret (T (dec n (iota n) k))) [.sh (.int n), .sh (.int k'), .ow (zl left), .ow (zl (dec n (iota n) k)), s4, s5] := by
    unfold b_turn_of
    rw [mSeq_ap, hP, bind_ok]
    show mSeq _ _ _ = _
    rw [mSeq_ap, mFor_ap, hI, bind_ok]
    rw [show ([] : List D) = zl [] from rfl, e1, bind_ok]
    simp [mVar, deref, derefs, bTuple]
  exact defN rfl hb
end G
set_option maxHeartbeats 4000000
namespace G
open PySem PySem.Spec PyProof.Rows L2 Z M3
variable [Z.LT]
/-! ### turn_of_number -/
theorem need_int {i lo hi : Int} (h1 : lo ≤ i) (h2 : i ≤ hi) : m_need_whole [.sh (.int i), .sh (.int lo), .sh (.int hi)] = .ok .non [.sh (.int i), .sh (.int lo), .sh (.int hi)] :=
  need_ok (by rw [whole_int, decide_eq_true ⟨h1, h2⟩])
theorem turn_of_number {n : Nat} {k : Int} (h1 : 1 ≤ n) (hn : n ≤ 60) (h0 : 0 ≤ k) (hk : k < fac n) : m_turn_of_number [.sh (.int n), .sh (.int k)] = .ok (T (dec n (iota n) k)) [.sh (.int n), .sh (.int k)] := by
  have e1 := need_int (i := n) (lo := 1) (hi := 60) (by omega) (by omega)
  have e2 := need_int (i := k) (lo := 0) (hi := fac n - 1) h0 (by omega)
  have hb : b_turn_of_number [.sh (.int n), .sh (.int k)] = .ok (.ret (T (dec n (iota n) k))) [.sh (.int n), .sh (.int k)] := by
    unfold b_turn_of_number
    simp [mVar, e1, turns_in_all hn, fSub, e2, turn_of hn h0 hk]
  exact defN rfl hb
theorem turn_of_number_bad {n : Nat} {v : D} (h1 : 1 ≤ n) (hn : n ≤ 60) (h : m_is_whole [.sh v, .sh (.int 0), .sh (.int (fac n - 1))] = .ok (.bl false) [.sh v, .sh (.int 0), .sh (.int (fac n - 1))]) :
    ∃ S', m_turn_of_number [.sh (.int n), .sh v] = .exc ⟨"InvalidNumber", none⟩ S' := by
  have e1 := need_int (i := n) (lo := 1) (hi := 60) (by omega) (by omega)
  have e2 := need_bad h
  have hb : b_turn_of_number [.sh (.int n), .sh v] = .exc ⟨"InvalidNumber", none⟩ [.sh (.int n), .sh v] := by
    unfold b_turn_of_number
    simp [mVar, e1, turns_in_all hn, fSub, e2]
  exact ⟨_, defX rfl hb⟩
/-! ### exchanges -/
theorem n_ex1 {l : List Int} (hn : l.length ≤ 60) {i : Nat} {x : Int} (hi : i < l.length) : n_turn_exchanges_1 [.sh (T l), .sh (.int (i : Nat)), .sh (.int x), .un] = .ok (zl ((l.drop (i + 1)).filter fun y => decide (y < x))) [.sh (T l), .sh (.int (i : Nat)), .sh (.int x), .un] := by
  have hcut : cutD (zl l) (some ((i : Int) + 1)) none = zl (l.drop (i + 1)) := by
    rw [show (i : Int) + 1 = ((i + 1 : Nat) : Int) by omega, cut_from (by rw [zl_length]; omega)]
    unfold zl
    rw [List.map_drop]
  exact nLc_filter (s := .un) (fun y => decide (y < x)) (by simp [mVar, fAdd, fSl, isAny, hcut]) rfl (fun y hy => by simp [mVar, fLt]) (by rw [List.length_drop]; omega)
def cntL : List Int → List Int
  | [] => []
  | x :: xs => (lt x xs : Int) :: cntL xs
theorem cntL_sum : ∀ l : List Int, (cntL l).sum = (inv l : Int)
  | [] => rfl
  | x :: xs => by
    show (cntL (x :: xs)).sum = ((lt x xs + inv xs : Nat) : Int)
    rw [cntL, List.sum_cons, cntL_sum xs]
    omega
theorem cntL_get : ∀ (l : List Int) (i : Nat), (cntL l)[i]? = (l[i]?).map fun x => (lt x (l.drop (i + 1)) : Int)
  | [], i => by simp [cntL]
  | x :: xs, 0 => by simp [cntL]
  | x :: xs, i + 1 => by
    rw [cntL, List.getElem?_cons_succ, List.getElem?_cons_succ, cntL_get xs i]
    rfl
theorem n_ex2 {l : List Int} (hn : l.length ≤ 60) : n_turn_exchanges_2 [.sh (T l), .un, .un, .un] = .ok (zl (cntL l)) [.sh (T l), .un, .un, .un] := by
  obtain ⟨ys, S', e1, e2, e3⟩ := lcL_run (vs := [1, 2]) (g := gT 2 (gsCons (gN 1) (gsCons (gN 2) gsNil))) (t := ret true) (e := mB bLen (aCons (eN n_turn_exchanges_1) aNil))
    (fun i acc S => S = [.sh (T l), .un, .un, .un] ∧ acc = zl ((cntL l).take i)) (ds := pairs 0 (zl l)) (S0 := [.sh (T l), .un, .un, .un]) ⟨rfl, rfl⟩ (fun i d acc S hd ⟨e, ea⟩ => by
      subst e
      obtain ⟨x, hx, rfl⟩ := pairs_zl 0 l i hd
      have hi : i < l.length := (List.getElem?_eq_some_iff.mp hx).1
      have h1 := n_ex1 hn (x := x) hi
      refine ⟨some (.int (lt x (l.drop (i + 1)))), [.sh (T l), .un, .un, .un], ?_, rfl, ?_⟩
      · simp [lcStep, h1, bLen, wp, wipeS]
        rfl
      · rw [ea, List.take_add_one, cntL_get, hx, zl_append]
        rfl)
  subst e2
  have hlen : (cntL l).length = l.length := by
    clear e1 e3
    induction l with
    | nil => rfl
    | cons x xs ih => rw [cntL, List.length_cons, List.length_cons, ih (by simp at hn; omega)]
  rw [pairs_length, zl_length, ← hlen, List.take_length] at e3
  subst e3
  have hI : iArgs (aCons (mVar 0) aNil) fEnum [.sh (T l), .un, .un, .un] = .ok (pairs 0 (zl l)) [.sh (T l), .un, .un, .un] :=
    iArgs_ok (xs := [.val (T l)]) (S1 := [.sh (T l), .un, .un, .un]) (ds := [T l]) (by simp [mVar]) (by simp) rfl
  exact nLc_ok hI e1 (size_le (by rw [zl_length, hlen]; omega))
theorem turn_exchanges {n : Nat} {l : List Int} (h : Turn n l) (h1 : 1 ≤ n) (h2 : n ≤ 60) : m_turn_exchanges [.sh (T l)] = .ok (.int (inv l)) [.sh (T l)] := by
  have e1 := need_turn h h1 h2
  have e2 := n_ex2 (l := l) (by rw [h.len]; exact h2)
  have e3 : bSum [.lst (zl (cntL l))] = some (.int (inv l)) := by
    show (D.ints (zl (cntL l))).bind _ = _
    rw [ints_zl]
    show some (D.int (cntL l).sum) = _
    rw [cntL_sum]
  have hb : b_turn_exchanges [.sh (T l), .un, .un, .un] = .ok (.ret (.int (inv l))) [.sh (T l), .un, .un, .un] := by
    unfold b_turn_exchanges
    simp [mVar, e1, e2, e3]
  exact defN rfl hb
end G
set_option maxHeartbeats 4000000
namespace G
open PySem PySem.Spec PyProof.Rows L2 Z M3
variable [Z.LT]
/-! ### the turn behind -/
theorem fIx_at {l : List Int} {i : Nat} {x : Int} (h : l[i]? = some x) : fIx (.tup (zl l)) (.int (i : Nat)) = some (.int x) := by
  show L2.atI (zl l) (i : Int) = _
  rw [atI_zl (j := i) (by omega) (by omega), h]
  rfl
def risesAt (l : List Int) (i : Int) : Bool := match l[i.toNat]?, l[i.toNat + 1]? with
  | some a, some b => decide (a < b)
  | _, _ => false
theorem ups_filter (l : List Int) : (iota (l.length - 1)).filter (risesAt l) = ups 0 l := by
  have h := ups_eq l 0
  rw [show ((0 : Nat) : Int) = 0 from rfl] at h
  rw [h]
  unfold iota
  rw [List.filter_map]
  have e : (risesAt l ∘ fun i : Nat => (i : Int)) = fun i => match l[i]?, l[i + 1]? with | some a, some b => decide (a < b) | _, _ => false := by
    funext i
    show risesAt l (i : Int) = _
    unfold risesAt
    rw [Int.toNat_natCast]
  rw [e]
  exact List.map_congr_left fun i _ => by omega
theorem n_tb1 {l : List Int} (hn : 1 ≤ l.length) (h2 : l.length ≤ 60) : n_turn_behind_1 [.sh (T l), .un, .un, .un, .un, .un] = .ok (zl (ups 0 l)) [.sh (T l), .un, .un, .un, .un, .un] := by
  have hr : fRng1 [.int ((l.length : Int) - 1)] = some (zl (iota (l.length - 1))) := by
    rw [fRng1_ok (by omega) (by omega), rng_iota, show ((l.length : Int) - 1).toNat = l.length - 1 by omega]
  have hI : iArgs (aCons (m2 (d2 fSub) (mB bLen (aCons (mVar 0) aNil)) (mC (.int 1))) aNil) fRng1 [.sh (T l), .un, .un, .un, .un, .un] = .ok (zl (iota (l.length - 1))) [.sh (T l), .un, .un, .un, .un, .un] :=
    iArgs_ok (xs := [.val (.int ((l.length : Int) - 1))]) (S1 := [.sh (T l), .un, .un, .un, .un, .un]) (ds := [.int ((l.length : Int) - 1)]) (by simp [mVar, bLen, fSub]) (by simp) hr
  have := nLc_filter (v := 2) (s := .un) (F := [.sh (T l), .un, .un, .un, .un, .un]) (t := toB (m2 (d2 fLt) (m2 (d2 fIx) (mVar 0) (mVar 2)) (m2 (d2 fIx) (mVar 0) (m2 (d2 fAdd) (mVar 2) (mC (.int 1)))))) (risesAt l) hI rfl (fun i hi => by
    obtain ⟨h3, h4⟩ := iota_mem.mp hi
    obtain ⟨k, rfl⟩ : ∃ k : Nat, i = (k : Int) := ⟨i.toNat, by omega⟩
    have hk : k + 1 < l.length := by omega
    have e1 := fIx_at (l := l) (i := k) (List.getElem?_eq_getElem (by omega))
    have e2 := fIx_at (l := l) (i := k + 1) (List.getElem?_eq_getElem hk)
    have e3 : risesAt l (k : Int) = decide (l[k] < l[k + 1]) := by
      unfold risesAt
      rw [Int.toNat_natCast, List.getElem?_eq_getElem (by omega), List.getElem?_eq_getElem hk]
    rw [show ((k + 1 : Nat) : Int) = (k : Int) + 1 by omega] at e2
    simp [mVar, fAdd, e1, e2, fLt, e3]) (by rw [iota_length]; omega)
  rw [ups_filter] at this
  exact this
theorem atI_last (xs : List D) : L2.atI xs (-1) = xs.getLast? := by
  unfold L2.atI ixN
  rw [if_neg (by omega)]
  cases xs with
  | nil => rfl
  | cons x xs =>
    rw [if_pos (by simp; omega), Option.bind_some, List.getLast?_eq_getElem?]
    congr 1
    simp
    omega
theorem minI_above {x : Int} {l : List Int} {o : Int} (h : above x l = some o) : minI (l.filter fun y => decide (x < y)) = some o := by
  unfold above at h
  unfold minI
  cases q : l.filter fun y => decide (x < y) with
  | nil => rw [q] at h; cases h
  | cons y ys => rw [q] at h; exact h
theorem eq_nil (l : List Int) : fEq (.lst (zl l)) (.lst []) = some (.bl (decide (l = []))) := by
  unfold fEq
  rw [if_pos ⟨(pl_lst pl_zl).shp (by omega), (pl_lst (k := 0) (xs := []) (fun d z => by cases z)).shp (by omega)⟩, deq_lst, show ([] : List D) = zl [] from rfl, deqs_zl]
end G
set_option maxHeartbeats 4000000
namespace G
open PySem PySem.Spec PyProof.Rows L2 Z M3
variable [Z.LT]
/-- what turn_behind tells -/
def nextT (l : List Int) : D := match rise l with
  | none => .non
  | some i => match l[i]? with
    | some x => match above x (l.drop i) with
      | some o => T (l.take i ++ o :: sortI ((l.drop i).erase o))
      | none => .non
    | none => .non
theorem n_tb2 {l : List Int} {i : Nat} {x : Int} {s1 : Sl} (h2 : l.length ≤ 60) (hx : l[i]? = some x) : n_turn_behind_2 [.sh (T l), s1, .sh (.int (i : Nat)), .ow (zl (l.drop i)), .un, .un] = .ok (zl ((l.drop i).filter fun y => decide (x < y))) [.sh (T l), s1, .sh (.int (i : Nat)), .ow (zl (l.drop i)), .un, .un] := by
  have e1 := fIx_at hx
  exact nLcO_filter (s := .un) (fun y => decide (x < y)) rfl (by decide) rfl (fun y hy => by simp [mVar, e1, fGt]) (by rw [List.length_drop]; omega)
theorem turn_behind {n : Nat} {l : List Int} (h : Turn n l) (h1 : 1 ≤ n) (h2 : n ≤ 60) : m_turn_behind [.sh (T l)] = .ok (nextT l) [.sh (T l)] := by
  have hl := h.len
  have e1 := need_turn h h1 h2
  have e2 := n_tb1 (l := l) (by omega) (by omega)
  have e3 := eq_nil (ups 0 l)
  have er := ups_rise l 0
  cases q : rise l with
  | none =>
    rw [q] at er
    have hu : ups 0 l = [] := by
      cases hu : ups 0 l with
      | nil => rfl
      | cons a as => rw [hu] at er; simp at er
    rw [hu] at e2 e3
    have hb : b_turn_behind [.sh (T l), .un, .un, .un, .un, .un] = .ok (.ret .non) [.sh (T l), .sh (.lst (zl [])), .un, .un, .un, .un] := by
      unfold b_turn_behind
      simp [mVar, e1, e2, e3]
    have e : nextT l = .non := by unfold nextT; rw [q]
    rw [e]
    exact defN rfl hb
  | some i =>
    rw [q] at er
    obtain ⟨x, o, k1, k2, k3, k4, k5⟩ := num_behind h.nodup q
    have hi : i < l.length := (List.getElem?_eq_some_iff.mp k1).1
    have hu : decide (ups 0 l = []) = false := by
      refine decide_eq_false fun z => ?_
      rw [z] at er
      simp at er
    rw [hu] at e3
    have e4 : fIx (.lst (zl (ups 0 l))) (.int (-1)) = some (.int (i : Nat)) := by
      show L2.atI _ _ = _
      rw [atI_last]
      unfold zl
      rw [List.getLast?_map, er]
      simp
    have e5 : cutD (zl l) (some (i : Int)) none = zl (l.drop i) := by
      rw [cut_from (by rw [zl_length]; omega)]
      unfold zl
      rw [List.map_drop]
    have e6 : cutD (zl l) none (some (i : Int)) = zl (l.take i) := by
      rw [cut_to (by rw [zl_length]; omega)]
      unfold zl
      rw [List.map_take]
    have e7 := fun s1 => n_tb2 (s1 := s1) (l := l) (by omega) k1
    have e8 : bMin [.lst (zl ((l.drop i).filter fun y => decide (x < y)))] = some (.int o) := by
      show (D.ints _).bind _ = _
      rw [ints_zl, Option.bind_some, minI_above k3]
      rfl
    have e9 : fRem (zl (l.drop i)) [.int o] = some (.non, zl ((l.drop i).erase o)) := by
      show (D.ints _).bind _ = _
      rw [ints_zl, Option.bind_some, if_pos k4]
      rfl
    have e10 : bSorted [.lst (zl ((l.drop i).erase o))] = some (.lst (zl (sortI ((l.drop i).erase o)))) := by
      show (D.ints _).bind _ = _
      rw [ints_zl]
      rfl
    have el : (sortI ((l.drop i).erase o)).length = l.length - i - 1 := by
      rw [(sortI_perm _).length_eq, List.length_erase_of_mem k4, List.length_drop]
    have a1 : fAdd (.tup (zl (l.take i))) (.tup [.int o]) = some (T (l.take i ++ [o])) := by
      rw [add_tup (by rw [zl_length, List.length_take]; simp; omega), T, zl_append]
      rfl
    have a2 : fAdd (T (l.take i ++ [o])) (.tup (zl (sortI ((l.drop i).erase o)))) = some (T (l.take i ++ o :: sortI ((l.drop i).erase o))) := by
      rw [T, add_tup (by rw [zl_length, zl_length, List.length_append, List.length_take, el]; simp; omega), ← zl_append, List.append_assoc]
      rfl
    have hb : ∃ S', b_turn_behind [.sh (T l), .un, .un, .un, .un, .un] = .ok (.ret (T (l.take i ++ o :: sortI ((l.drop i).erase o)))) S' := by
      refine ⟨[.sh (T l), .sh (.lst (zl (ups 0 l))), .sh (.int (i : Nat)), .ow (zl ((l.drop i).erase o)), .sh (.int o), .un], ?_⟩
      unfold b_turn_behind
      simp [mVar, e1, e2, e3, fNeg, e4, nB, nList, fSl, e5, e6, e7, e8, mRem, chkOwn, isOwn, mutate, Sl.owned, Sl.wr, e9, deref, derefs, e10, bTuple, a1, a2, size_le]
    obtain ⟨S', hb⟩ := hb
    have e : nextT l = T (l.take i ++ o :: sortI ((l.drop i).erase o)) := by unfold nextT; rw [q]; simp only [k1, k3]
    rw [e]
    exact defN rfl hb
end G
set_option maxHeartbeats 4000000
namespace G
open PySem PySem.Spec PyProof.Rows L2 Z M3
variable [Z.LT]
/-! ### joined turns -/
def at0 (l : List Int) (i : Int) : Int := (l[i.toNat]?).getD 0
theorem at0_get {l : List Int} {i : Int} (h0 : 0 ≤ i) (h : i < l.length) : fIx (.tup (zl l)) (.int i) = some (.int (at0 l i)) := by
  obtain ⟨k, rfl⟩ : ∃ k : Nat, i = (k : Int) := ⟨i.toNat, by omega⟩
  have e := List.getElem?_eq_getElem (l := l) (i := k) (by omega)
  rw [fIx_at e]
  unfold at0
  rw [Int.toNat_natCast, e]
  rfl
theorem joined_of {n : Nat} {l m : List Int} (hl : l.length = n) (hm : Turn n m) (h2 : n ≤ 60) : m_joined_of [.sh (T l), .sh (T m)] = .ok (T (m.map (at0 l))) [.sh (T l), .sh (T m)] := by
  have e1 : n_joined_of_1 [.sh (T l), .sh (T m), .un] = .ok (m.map fun i => D.int (at0 l i)) [.sh (T l), .sh (T m), .un] := by
    refine nLc_map (s := .un) (fun i => D.int (at0 l i)) (by simp [mVar, isAny]) rfl (fun i hi => ?_) (by rw [hm.len]; omega)
    obtain ⟨h3, h4⟩ := hm.mem.mp hi
    have := at0_get (l := l) h3 (by omega)
    simp [mVar, this]
  have hb : b_joined_of [.sh (T l), .sh (T m), .un] = .ok (.ret (T (m.map (at0 l)))) [.sh (T l), .sh (T m), .un] := by
    unfold b_joined_of
    simp [e1, bTuple, zl]
  exact defN rfl hb
theorem turn_joined {n : Nat} {l m : List Int} (hl : Turn n l) (hm : Turn n m) (h1 : 1 ≤ n) (h2 : n ≤ 60) : m_turn_joined [.sh (T l), .sh (T m)] = .ok (T (m.map (at0 l))) [.sh (T l), .sh (T m)] := by
  have e1 := need_turn hl h1 h2
  have e2 := need_turn hm h1 h2
  have e3 := joined_of hl.len hm h2
  have e4 : fNe (.int (n : Int)) (.int (n : Int)) = some (.bl false) := by
    unfold fNe
    rw [if_pos ⟨(pl_int _).shp (by omega), (pl_int _).shp (by omega)⟩, deq_int]
    simp
  have hb : b_turn_joined [.sh (T l), .sh (T m)] = .ok (.ret (T (m.map (at0 l)))) [.sh (T l), .sh (T m)] := by
    unfold b_turn_joined
    simp [mVar, e1, e2, bLen, hl.len, hm.len, e4, e3]
  exact defN rfl hb
end G
set_option maxHeartbeats 4000000
namespace G
open PySem PySem.Spec PyProof.Rows L2 Z M3
variable [Z.LT]
/-! ### turned back -/
/-- what the loop has laid behind k steps -/
def laid (l : List Int) : Nat → List Int → List Int
  | 0, b => b
  | k + 1, b => match l[k]? with
    | some x => (laid l k b).set x.toNat (k : Int)
    | none => laid l k b
theorem laid_length (l : List Int) : ∀ (k : Nat) (b : List Int), (laid l k b).length = b.length
  | 0, b => rfl
  | k + 1, b => by
    unfold laid
    cases l[k]? with
    | none => exact laid_length l k b
    | some x => simp only [List.length_set]; exact laid_length l k b
def backL (l : List Int) : List Int := laid l l.length (List.replicate l.length 0)
theorem zl_set (l : List Int) (i : Nat) (x : Int) : (zl l).set i (.int x) = zl (l.set i x) := by
  unfold zl
  rw [List.map_set]
theorem back_of {n : Nat} {l : List Int} (h : Turn n l) (h2 : n ≤ 60) : m_back_of [.sh (T l)] = .ok (T (backL l)) [.sh (T l)] := by
  have hl := h.len
  have hrep : nRep (mLst (aCons (mC (.int 0)) aNil)) (mB bLen (aCons (mVar 0) aNil)) [.sh (T l), .un, .un, .un] = .ok (zl (List.replicate n 0)) [.sh (T l), .un, .un, .un] := by
    have f : (List.replicate ((n : Int)).toNat [D.int 0]).flatten = zl (List.replicate n 0) := by
      rw [Int.toNat_natCast]
      unfold zl
      rw [List.map_replicate]
      clear hl h h2
      induction n with
      | zero => rfl
      | succ n ih => rw [List.replicate_succ, List.flatten_cons, ih]; rfl
    have c : (0 : Int) ≤ n ∧ (n : Int) ≤ 100000 ∧ [D.int 0].length ≤ 100 := ⟨by omega, by omega, by simp⟩
    unfold nRep
    simp [mVar, bLen, hl, size_le]
    rw [if_pos (by omega)]
    simpa using f
  obtain ⟨S', e1, s2, s3, rfl, n2, n3⟩ := forL_run (g := gT 2 (gsCons (gN 2) (gsCons (gN 3) gsNil))) (body := o_back_of_1)
    (fun k S => ∃ s2 s3, S = [.sh (T l), .ow (zl (laid l k (List.replicate n 0))), s2, s3] ∧ nio s2 ∧ nio s3) (ds := pairs 0 (zl l)) (S0 := [.sh (T l), .ow (zl (List.replicate n 0)), .un, .un]) ⟨.un, .un, rfl, trivial, trivial⟩ (fun k d S hd ⟨s2, s3, e, n2, n3⟩ => by
      subst e
      obtain ⟨x, hx, rfl⟩ := pairs_zl 0 l k hd
      obtain ⟨h3, h4⟩ := h.mem.mp (List.mem_of_getElem? hx)
      have hix : ixN (zl (laid l k (List.replicate n 0))).length x = some x.toNat := by
        unfold ixN
        rw [zl_length, laid_length, List.length_replicate, if_pos h3, if_pos h4]
      have e2 : laid l (k + 1) (List.replicate n 0) = (laid l k (List.replicate n 0)).set x.toNat (k : Int) := by
        rw [laid, hx]
      refine ⟨.next, [.sh (T l), .ow (zl (laid l (k + 1) (List.replicate n 0))), .sh (.int (k : Nat)), .sh (.int x)], ?_, .inl rfl, _, _, rfl, trivial, trivial⟩
      rw [zl_length, laid_length, List.length_replicate] at hix
      simp [o_back_of_1, n2, n3, mVar, gIx, Sl.owned, laid_length, hix, Sl.wr, zl_set, e2, deref])
  rw [pairs_length, zl_length, hl] at e1
  have hI : iArgs (aCons (mVar 0) aNil) fEnum [.sh (T l), .ow (zl (List.replicate n 0)), .un, .un] = .ok (pairs 0 (zl l)) [.sh (T l), .ow (zl (List.replicate n 0)), .un, .un] :=
    iArgs_ok (xs := [.val (T l)]) (S1 := [.sh (T l), .ow (zl (List.replicate n 0)), .un, .un]) (ds := [T l]) (by simp [mVar]) (by simp) rfl
  have hb : b_back_of [.sh (T l), .un, .un, .un] = .ok (.ret (T (laid l n (List.replicate n 0)))) [.sh (T l), .ow (zl (laid l n (List.replicate n 0))), s2, s3] := by
    unfold b_back_of
    simp [hrep, hI, e1, mVar, deref, derefs, bTuple]
  have e : backL l = laid l n (List.replicate n 0) := by unfold backL; rw [hl]
  rw [e]
  exact defN rfl hb
end G
set_option maxHeartbeats 4000000
namespace G
open PySem PySem.Spec PyProof.Rows L2 Z M3
variable [Z.LT]
theorem laid_get {n : Nat} {l b : List Int} (h : Turn n l) (hb : b.length = n) : ∀ k, k ≤ n → ∀ j, j < k → ∀ x, l[j]? = some x → (laid l k b)[x.toNat]? = some (j : Int)
  | 0, _, j, hj, _, _ => by omega
  | k + 1, hk, j, hj, x, hx => by
    have hl := h.len
    have hkl : k < l.length := by omega
    have hy := List.getElem?_eq_getElem hkl
    generalize hyy : l[k] = y at hy
    obtain ⟨y0, y1⟩ := h.mem.mp (List.mem_of_getElem? hy)
    obtain ⟨x0, x1⟩ := h.mem.mp (List.mem_of_getElem? hx)
    rw [laid, hy]
    show ((laid l k b).set y.toNat (k : Int))[x.toNat]? = _
    by_cases e : j = k
    · subst e
      rw [hx] at hy
      cases hy
      rw [List.getElem?_set_self (by rw [laid_length]; omega)]
    · have hne : y.toNat ≠ x.toNat := fun z => by
        have exy : x = y := by omega
        subst exy
        have := (List.getElem?_inj hkl h.nodup).mp (hy.trans hx.symm)
        omega
      rw [List.getElem?_set_ne hne]
      exact laid_get h hb k (by omega) j (by omega) x hx
theorem back_get {n : Nat} {l : List Int} (h : Turn n l) {j : Nat} {x : Int} (hx : l[j]? = some x) : (backL l)[x.toNat]? = some (j : Int) := by
  have hj := (List.getElem?_eq_some_iff.mp hx).1
  unfold backL
  rw [h.len]
  exact laid_get h (by simp) n (Nat.le_refl _) j (by rw [← h.len]; exact hj) x hx
end G
set_option maxHeartbeats 4000000
namespace G
open PySem PySem.Spec PyProof.Rows L2 Z M3
variable [Z.LT]
theorem map_at0 (b : List Int) : (iota b.length).map (at0 b) = b := by
  unfold iota
  rw [List.map_map]
  apply List.ext_getElem?
  intro i
  rw [List.getElem?_map]
  by_cases hi : i < b.length
  · rw [List.getElem?_range hi]
    show some (at0 b (i : Int)) = _
    unfold at0
    rw [Int.toNat_natCast, List.getElem?_eq_getElem hi]
    rfl
  · rw [List.getElem?_eq_none (by simpa using hi), List.getElem?_eq_none (by omega)]
    rfl
theorem back_facts {n : Nat} {l : List Int} (h : Turn n l) : Turn n (backL l) ∧ inv (backL l) = inv l := by
  have hl := h.len
  have hbl : (backL l).length = n := by unfold backL; rw [laid_length]; simp [hl]
  have e1 : (iota n).map (at0 l) = l := by have := map_at0 l; rw [hl] at this; exact this
  have e2 : (iota n).map (at0 (backL l)) = backL l := by have := map_at0 (backL l); rw [hbl] at this; exact this
  have hA : ((iota n).map fun i => (i, at0 l i)).Pairwise fun p q : Int × Int => p.1 < q.1 := by
    rw [List.pairwise_map]
    exact iota_lt n
  have hB : ((iota n).map fun i => (i, at0 (backL l) i)).Pairwise fun p q : Int × Int => p.1 < q.1 := by
    rw [List.pairwise_map]
    exact iota_lt n
  have eA : ((iota n).map fun i => (i, at0 l i)).map (fun p : Int × Int => (p.2, p.1)) = l.map fun x => (x, at0 (backL l) x) := by
    rw [List.map_map]
    have e3 : (l.map fun x => (x, at0 (backL l) x)) = (iota n).map ((fun x => (x, at0 (backL l) x)) ∘ at0 l) := by
      generalize (fun x : Int => (x, at0 (backL l) x)) = f
      rw [← List.map_map, e1]
    rw [e3]
    refine List.map_congr_left fun i hi => ?_
    obtain ⟨h3, h4⟩ := iota_mem.mp hi
    show (at0 l i, i) = (at0 l i, at0 (backL l) (at0 l i))
    congr 1
    have hx := List.getElem?_eq_getElem (l := l) (i := i.toNat) (by omega)
    have e : at0 l i = l[i.toNat] := by unfold at0; rw [hx]; rfl
    rw [e]
    unfold at0
    rw [back_get h hx]
    show i = ((i.toNat : Nat) : Int)
    omega
  have hp : ((iota n).map fun i => (i, at0 (backL l) i)).Perm (((iota n).map fun i => (i, at0 l i)).map fun p : Int × Int => (p.2, p.1)) := by
    rw [eA]
    exact (h.perm.map _).symm
  have m1 : ((iota n).map fun i => (i, at0 (backL l) i)).map (·.2) = backL l := by rw [List.map_map]; exact e2
  have m2 : ((iota n).map fun i => (i, at0 l i)).map (·.2) = l := by rw [List.map_map]; exact e1
  refine ⟨⟨?_⟩, ?_⟩
  · have := hp.map (·.2)
    rw [m1, List.map_map, List.map_map] at this
    refine this.trans ?_
    have e : (iota n).map (((fun p : Int × Int => p.2) ∘ fun p => (p.2, p.1)) ∘ fun i => (i, at0 l i)) = iota n := by
      conv => rhs; rw [← List.map_id (iota n)]
      exact List.map_congr_left fun i _ => rfl
    rw [e]
  · have := inv_swapped hA hB hp
    rw [m1, m2] at this
    exact this
theorem turn_back {n : Nat} {l : List Int} (h : Turn n l) (h1 : 1 ≤ n) (h2 : n ≤ 60) : m_turn_back [.sh (T l)] = .ok (T (backL l)) [.sh (T l)] := by
  have e1 := need_turn h h1 h2
  have e2 := back_of h h2
  have hb : b_turn_back [.sh (T l)] = .ok (.ret (T (backL l))) [.sh (T l)] := by
    unfold b_turn_back
    simp [mVar, e1, e2]
  exact defN rfl hb
end G
set_option maxHeartbeats 4000000
namespace G
open PySem PySem.Spec PyProof.Rows L2 Z M3
variable [Z.LT]
/-! ### the draws -/
/-- the draw state -/
structure Cup (xs : List D) : Prop where
  ex : ∃ a s : Int, xs = [.int a, .int s] ∧ 0 ≤ s ∧ s < 1048576
theorem roll {xs : List D} {m : Int} (c : Cup xs) (hm : 0 < m) (hl : m.natAbs.log2 < 9000) : ∃ r ys, m__law_roll [.io xs, .sh (.int m)] = .ok (.int r) [.io ys, .sh (.int m)] ∧ 0 ≤ r ∧ r < m ∧ Cup ys := by
  obtain ⟨a, s, rfl, h0, h1⟩ := c.ex
  have i0 : fIx (.lst [.int a, .int s]) (.int 0) = some (.int a) := rfl
  have i1 : fIx (.lst [.int a, .int s]) (.int 1) = some (.int s) := rfl
  by_cases ha : 0 < a
  · have hb : b__law_roll [.io [.int a, .int s], .sh (.int m), .un] = .ok (.ret (.int (a % m))) [.io [.int (a / m), .int s], .sh (.int m), .sh (.int (a % m))] := by
      have e1 := fMod_ok (a := a) hm
      have e2 := fDiv_ok (a := a) hm hl
      have x0 : ixN 2 0 = some 0 := rfl
      unfold b__law_roll
      simp [mVar, d2, deref, i0, fGt, ha, bInt, derefs, e1, e2, gIx, Sl.owned, Sl.wr, x0]
    exact ⟨a % m, [.int (a / m), .int s], defN (n := 3) (b := b__law_roll) (P := [.io [.int a, .int s], .sh (.int m)]) rfl hb, Int.emod_nonneg _ (by omega), Int.emod_lt_of_pos _ hm, ⟨⟨_, _, rfl, h0, h1⟩⟩⟩
  · have e1 : fMul (.int s) (.int 24781) = some (.int (s * 24781)) := fMul_int (small_log h0 (by omega)) (small_log (by omega) (by omega))
    have e2 := fMod_ok (a := s * 24781 + 51157) (b := 1048576) (by omega)
    have e3 : fDiv (.int ((s * 24781 + 51157) % 1048576)) (.int 157) = some (.int ((s * 24781 + 51157) % 1048576 / 157)) := fDiv_ok (by omega) (by
      have := small_log (k := 157) (by omega) (by omega)
      have h : (157 : Int).natAbs < 2 ^ (8 + 1) := by decide
      have := log_lt h
      omega)
    have e4 := fMod_ok (a := (s * 24781 + 51157) % 1048576 / 157) hm
    have x1 : ixN 2 1 = some 1 := rfl
    have i2 : fIx (.lst [.int a, .int ((s * 24781 + 51157) % 1048576)]) (.int 1) = some (.int ((s * 24781 + 51157) % 1048576)) := rfl
    have hb : b__law_roll [.io [.int a, .int s], .sh (.int m), .un] = .ok (.ret (.int ((s * 24781 + 51157) % 1048576 / 157 % m))) [.io [.int a, .int ((s * 24781 + 51157) % 1048576)], .sh (.int m), .un] := by
      unfold b__law_roll
      simp [mVar, d2, deref, i0, i1, i2, fGt, ha, bInt, derefs, fMulT, e1, e2, e3, e4, gIx, Sl.owned, Sl.wr, x1, fAdd]
    exact ⟨_, _, defN (n := 3) (b := b__law_roll) (P := [.io [.int a, .int s], .sh (.int m)]) rfl hb, Int.emod_nonneg _ (by omega), Int.emod_lt_of_pos _ hm, ⟨⟨_, _, rfl, Int.emod_nonneg _ (by omega), Int.emod_lt_of_pos _ (by omega)⟩⟩⟩
end G
set_option maxHeartbeats 4000000
namespace G
open PySem PySem.Spec PyProof.Rows L2 Z M3
variable [Z.LT]
theorem some_ {xs ds : List D} (c : Cup xs) (h1 : 1 ≤ ds.length) (h2 : ds.length ≤ 1000) : ∃ d ys, m__law_some [.io xs, .sh (.lst ds)] = .ok d [.io ys, .sh (.lst ds)] ∧ d ∈ ds ∧ Cup ys := by
  obtain ⟨r, ys, e1, h3, h4, c2⟩ := roll c (m := ds.length) (by omega) (by
    have := small_log (k := (ds.length : Int)) (by omega) (by omega)
    have h : ((ds.length : Int)).natAbs < 2 ^ (9 + 1) := by omega
    have := log_lt h
    omega)
  have hlt : r.toNat < ds.length := by omega
  have e2 : fIx (.lst ds) (.int r) = some ds[r.toNat] := by
    show L2.atI ds r = _
    unfold L2.atI ixN
    rw [if_pos h3, if_pos h4, Option.bind_some, List.getElem?_eq_getElem hlt]
  have hb : b__law_some [.io xs, .sh (.lst ds)] = .ok (.ret ds[r.toNat]) [.io ys, .sh (.lst ds)] := by
    unfold b__law_some
    simp [mVar, mCall1N, call1, bLen, Sl.owned, Sl.wr, e1, e2]
  exact ⟨ds[r.toNat], ys, defN (n := 2) (b := b__law_some) (P := [.io xs, .sh (.lst ds)]) rfl hb, List.getElem_mem hlt, c2⟩
end G
set_option maxHeartbeats 4000000
namespace G
open PySem PySem.Spec PyProof.Rows L2 Z M3
variable [Z.LT]
/-! ### the sorts of things -/
def sortOf : D → Option Int
  | .non => some 0
  | .bl _ => some 1
  | .int _ => some 2
  | .str _ => some 3
  | .tup _ => some 4
  | .lst _ => some 5
  | .frz _ => none
theorem law_sort {d : D} {k : Int} (h : sortOf d = some k) : m__law_sort [.sh d] = .ok (.int k) [.sh d] := by
  have hb : b__law_sort [.sh d] = .ok (.ret (.int k)) [.sh d] := by
    cases d <;> cases h <;> (unfold b__law_sort; simp [mVar, fIs, D.isNon, fIsi, isT])
  exact defN (n := 1) (b := b__law_sort) (P := [.sh d]) rfl hb
end G
set_option maxHeartbeats 4000000
namespace G
open PySem PySem.Spec PyProof.Rows L2 Z M3
variable [Z.LT]
/-! ### alike -/
/-- things that _law_like looks through to the depth n -/
inductive Lk : Nat → D → Prop where
  | flat {n : Nat} {d : D} : sortOf d = some 0 ∨ sortOf d = some 1 ∨ sortOf d = some 2 ∨ sortOf d = some 3 → Pl 0 d → Lk (n + 1) d
  | tup {n : Nat} {ds : List D} : (∀ d ∈ ds, Lk n d) → ds.length ≤ 1000000 → Lk (n + 1) (.tup ds)
  | lst {n : Nat} {ds : List D} : (∀ d ∈ ds, Lk n d) → ds.length ≤ 1000000 → Lk (n + 1) (.lst ds)
theorem zips_self : ∀ ds : List D, zips ds ds = ds.map fun d => .tup [d, d]
  | [] => rfl
  | d :: ds => by
    show D.tup [d, d] :: zips ds ds = _
    rw [zips_self ds]
    rfl
theorem eq_int (i : Int) : fEq (.int i) (.int i) = some (.bl true) := by
  unfold fEq
  rw [if_pos ⟨(pl_int i).shp (by omega), (pl_int i).shp (by omega)⟩, deq_refl (pl_int i)]
theorem ne_int (i : Int) : fNe (.int i) (.int i) = some (.bl false) := by
  unfold fNe
  rw [if_pos ⟨(pl_int i).shp (by omega), (pl_int i).shp (by omega)⟩, deq_refl (pl_int i)]
  rfl
theorem eq_ne {i j : Int} (h : i ≠ j) : fEq (.int i) (.int j) = some (.bl false) := by
  unfold fEq
  rw [if_pos ⟨(pl_int i).shp (by omega), (pl_int j).shp (by omega)⟩, deq_int, decide_eq_false h]
theorem like_items {n : Nat} {a : D} {ds : List D} (hz : fZip [a, a] = some (ds.map fun d => D.tup [d, d])) (ih : ∀ d ∈ ds, m__law_like n [.sh d, .sh d] = .ok (.bl true) [.sh d, .sh d]) (hl : ds.length ≤ 1000000) (k : D) :
    n__law_like_1 (m__law_like n) [.sh a, .sh a, .sh k, .un, .un] = .ok [] [.sh a, .sh a, .sh k, .un, .un] := by
  have hI : iArgs (aCons (mVar 0) (aCons (mVar 1) aNil)) fZip [.sh a, .sh a, .sh k, .un, .un] = .ok (ds.map fun d => D.tup [d, d]) [.sh a, .sh a, .sh k, .un, .un] :=
    iArgs_ok (xs := [.val a, .val a]) (S1 := [.sh a, .sh a, .sh k, .un, .un]) (ds := [a, a]) (by simp [mVar]) (by simp) hz
  have e := lcL_fm (vs := [3, 4]) (g := gT 2 (gsCons (gN 3) (gsCons (gN 4) gsNil))) (t := mNot (toB (mCallN 2 (m__law_like n) (aCons (mVar 3) (aCons (mVar 4) aNil))))) (e := mC (.int 1)) (F := [.sh a, .sh a, .sh k, .un, .un]) (fun d => D.tup [d, d]) (fun _ => none) (as := ds) (fun d hd => by
    simp [lcStep, mVar, ih d hd, wp, wipeS])
  have e2 : ds.filterMap (fun _ => (none : Option D)) = [] := by
    clear e hI hz ih hl
    induction ds with
    | nil => rfl
    | cons d ds ih => simpa using ih
  rw [e2] at e
  exact nLc_ok hI e (Nat.zero_le _)
end G
set_option maxHeartbeats 4000000
namespace G
open PySem PySem.Spec PyProof.Rows L2 Z M3
variable [Z.LT]
theorem in45 {i : Int} (h : i = 4 ∨ i = 5) : fIn (.int i) (.tup [.int 4, .int 5]) = some (.bl true) := by
  rcases h with rfl | rfl <;> rfl
theorem in45n {i : Int} (h : i = 0 ∨ i = 1 ∨ i = 2 ∨ i = 3) : fIn (.int i) (.tup [.int 4, .int 5]) = some (.bl false) := by
  rcases h with rfl | rfl | rfl | rfl <;> rfl
theorem like_flat {rc : M D} {d : D} {k : Int} (hs : sortOf d = some k) (hk : k = 0 ∨ k = 1 ∨ k = 2 ∨ k = 3) (hp : Pl 0 d) : ∃ S', b__law_like rc [.sh d, .sh d, .un, .un, .un] = .ok (.ret (.bl true)) S' := by
  have e1 := law_sort hs
  have e2 := ne_int k
  have e3 := eq_ne (i := k) (j := 6) (by omega)
  have e4 := in45n hk
  have e5 : fEq d d = some (.bl true) := by
    unfold fEq
    rw [if_pos ⟨hp.shp (by omega), hp.shp (by omega)⟩, deq_refl hp]
  refine ⟨[.sh d, .sh d, .sh (.int k), .un, .un], ?_⟩
  unfold b__law_like
  simp [mVar, e1, e2, e3, e4, e5, size_le]
theorem like_seq {n : Nat} {a : D} {ds : List D} {k : Int} (hs : sortOf a = some k) (hk : k = 4 ∨ k = 5) (hlen : bLen [a] = some (.int ds.length)) (hz : fZip [a, a] = some (ds.map fun d => D.tup [d, d])) (ih : ∀ d ∈ ds, m__law_like n [.sh d, .sh d] = .ok (.bl true) [.sh d, .sh d]) (hl : ds.length ≤ 1000000) :
    ∃ S', b__law_like (m__law_like n) [.sh a, .sh a, .un, .un, .un] = .ok (.ret (.bl true)) S' := by
  have e1 := law_sort hs
  have e2 := ne_int k
  have e3 := eq_ne (i := k) (j := 6) (by omega)
  have e4 := in45 hk
  have e5 := like_items hz ih hl (.int k)
  have e6 := eq_int (ds.length : Int)
  have e7 : fEq (.lst []) (.lst []) = some (.bl true) := by
    have := eq_nil []
    exact this
  refine ⟨[.sh a, .sh a, .sh (.int k), .un, .un], ?_⟩
  unfold b__law_like
  simp [mVar, e1, e2, e3, e4, hlen, e6, e5, e7, size_le]
theorem like_self : ∀ {n : Nat} {d : D}, Lk n d → m__law_like n [.sh d, .sh d] = .ok (.bl true) [.sh d, .sh d]
  | 0, d, h => by cases h
  | n + 1, d, h => by
    have fin : (∃ S', b__law_like (m__law_like n) [.sh d, .sh d, .un, .un, .un] = .ok (.ret (.bl true)) S') → m__law_like (n + 1) [.sh d, .sh d] = .ok (.bl true) [.sh d, .sh d] := fun ⟨S', hb⟩ =>
      defN (n := 5) (b := b__law_like (m__law_like n)) (P := [.sh d, .sh d]) rfl hb
    refine fin ?_
    cases h with
    | flat hs hp =>
      rcases hs with hs | hs | hs | hs
      · exact like_flat hs (by omega) hp
      · exact like_flat hs (by omega) hp
      · exact like_flat hs (by omega) hp
      · exact like_flat hs (by omega) hp
    | @tup _ ds hd hl =>
      exact like_seq (k := 4) rfl (.inl rfl) rfl (by show some (zips ds ds) = _; rw [zips_self]) (fun e he => like_self (hd e he)) hl
    | @lst _ ds hd hl =>
      exact like_seq (k := 5) rfl (.inr rfl) rfl (by show some (zips ds ds) = _; rw [zips_self]) (fun e he => like_self (hd e he)) hl
end G
set_option maxHeartbeats 4000000
namespace G
open PySem PySem.Spec PyProof.Rows L2 Z M3
variable [Z.LT]
/-! ### rows of turns -/
abbrev TT (rs : List (List Int)) : D := .tup (rs.map T)
theorem are_rows {n : Nat} {rs : List (List Int)} (h : ∀ r ∈ rs, Turn n r) (hn : rs.length = n) (h1 : 1 ≤ n) (h2 : n ≤ 16) : m_need_turn_rows [.sh (TT rs)] = .ok .non [.sh (TT rs)] := by
  have t1 := tuple_of (rs.map T) 1 16
  rw [List.length_map, hn, decide_eq_true ⟨by omega, by omega⟩] at t1
  have e1 : n_are_turn_rows_1 [.sh (TT rs), .un] = .ok (rs.map fun _ => D.bl true) [.sh (TT rs), .un] := by
    have e := lcL_fm (vs := [1]) (g := gN 1) (t := ret true) (e := mAndV (mCallN 1 m_is_turn (aCons (mVar 1) aNil)) (m2 (d2 fEq) (mB bLen (aCons (mVar 1) aNil)) (mB bLen (aCons (mVar 0) aNil)))) (F := [.sh (TT rs), .un]) T (fun _ => some (D.bl true)) (as := rs) (fun r hr => by
      have e1 := is_turn (h r hr) h1 (by omega)
      have e2 := eq_int (n : Int)
      simp [lcStep, mVar, e1, bLen, (h r hr).len, hn, e2, wp, wipeS])
    rw [List.filterMap_eq_map'] at e
    have := nLc_ok (vs := [1]) (g := gN 1) (t := ret true) (mi := iOf (mVar 0) isAny) (S := [.sh (TT rs), .un]) (S1 := [.sh (TT rs), .un]) (ds := rs.map T) (by simp [mVar, isAny]) e (size_le (by rw [List.length_map]; omega))
    exact this
  have b1 : bAll [.lst (rs.map fun _ => D.bl true)] = some (.bl true) := by
    have hb : D.bls (rs.map fun _ => D.bl true) = some (rs.map fun _ => true) := by
      clear t1 e1 h hn
      induction rs with
      | nil => rfl
      | cons r rs ih => rw [List.map_cons, D.bls, ih]; rfl
    show (D.bls (rs.map fun _ => D.bl true)).bind _ = _
    rw [hb]
    simp
  have hb : b_are_turn_rows [.sh (TT rs), .un] = .ok (.ret (.bl true)) [.sh (TT rs), .un] := by
    unfold b_are_turn_rows
    simp [mVar, t1, e1, b1]
  have e2 : m_are_turn_rows [.sh (TT rs)] = .ok (.bl true) [.sh (TT rs)] := defN (n := 2) (b := b_are_turn_rows) (P := [.sh (TT rs)]) rfl hb
  have hb2 : b_need_turn_rows [.sh (TT rs)] = .ok .next [.sh (TT rs)] := by
    unfold b_need_turn_rows
    simp [mVar, e2]
  exact defE (n := 1) (b := b_need_turn_rows) (P := [.sh (TT rs)]) rfl hb2
end G
set_option maxHeartbeats 4000000
set_option exponentiation.threshold 2000
namespace G
open PySem PySem.Spec PyProof.Rows L2 Z M3
variable [Z.LT]
/-! ### numbers of rows -/
theorem big_log {k : Int} (h0 : 0 ≤ k) (h : k < 2 ^ 1600) : k.natAbs.log2 < 1600 := by
  have h1 : k.natAbs < 2 ^ (1599 + 1) := by omega
  exact log_lt h1
def rowsN (b : Int) : Int → List (List Int) → Int
  | acc, [] => acc
  | acc, r :: rs => rowsN b (acc * b + num r) rs
theorem rowsN_snoc (b : Int) (r : List Int) : ∀ (rs : List (List Int)) (acc : Int), rowsN b acc (rs ++ [r]) = rowsN b acc rs * b + num r
  | [], acc => rfl
  | x :: rs, acc => rowsN_snoc b r rs _
theorem rowsN_lt {n : Nat} : ∀ {rs : List (List Int)} {acc : Int} {m : Nat}, (∀ r ∈ rs, r.length = n) → 0 ≤ acc → acc < fac n ^ m → 0 ≤ rowsN (fac n) acc rs ∧ rowsN (fac n) acc rs < fac n ^ (m + rs.length)
  | [], acc, m, _, h0, h1 => ⟨h0, h1⟩
  | r :: rs, acc, m, h, h0, h1 => by
    obtain ⟨n1, n2⟩ := num_lt r
    rw [h r List.mem_cons_self] at n2
    have hb := fac_pos n
    have a0 : 0 ≤ acc * fac n := Int.mul_nonneg h0 (by omega)
    have a1 : (acc + 1) * fac n ≤ fac n ^ m * fac n := Int.mul_le_mul_of_nonneg_right (by omega) (by omega)
    rw [Int.add_mul, Int.one_mul] at a1
    have e : fac n ^ (m + 1) = fac n ^ m * fac n := Int.pow_succ ..
    obtain ⟨h3, h4⟩ := rowsN_lt (rs := rs) (acc := acc * fac n + num r) (m := m + 1) (fun x hx => h x (List.mem_cons_of_mem _ hx)) (by omega) (by rw [e]; omega)
    refine ⟨h3, ?_⟩
    rw [List.length_cons, show m + (rs.length + 1) = m + 1 + rs.length by omega]
    exact h4
end G
set_option maxHeartbeats 4000000
set_option exponentiation.threshold 2000
namespace G
open PySem PySem.Spec PyProof.Rows L2 Z M3
variable [Z.LT]
theorem pow_base {a b : Int} (ha : 0 ≤ a) (h : a ≤ b) : ∀ i : Nat, 0 ≤ a ^ i ∧ a ^ i ≤ b ^ i
  | 0 => by simp
  | i + 1 => by
    obtain ⟨h1, h2⟩ := pow_base ha h i
    rw [Int.pow_succ, Int.pow_succ]
    refine ⟨Int.mul_nonneg h1 ha, ?_⟩
    have e1 : a ^ i * a ≤ b ^ i * a := Int.mul_le_mul_of_nonneg_right h2 ha
    have e2 : b ^ i * a ≤ b ^ i * b := Int.mul_le_mul_of_nonneg_left h (by omega)
    omega
theorem pow_exp {b : Int} (hb : 1 ≤ b) {i : Nat} : ∀ k : Nat, 1 ≤ b ^ i ∧ b ^ i ≤ b ^ (i + k)
  | 0 => by
    refine ⟨?_, Int.le_refl _⟩
    have := (pow_base (a := 1) (by omega) hb i).2
    rwa [Int.one_pow] at this
  | k + 1 => by
    obtain ⟨h1, h2⟩ := pow_exp hb (i := i) k
    refine ⟨h1, ?_⟩
    rw [show i + (k + 1) = (i + k) + 1 by omega, Int.pow_succ]
    have e1 : b ^ (i + k) * 1 ≤ b ^ (i + k) * b := Int.mul_le_mul_of_nonneg_left hb (by omega)
    omega
theorem fac16_pow {n i : Nat} (h : n ≤ 16) (hi : i ≤ 16) : fac n ^ i ≤ 2 ^ 1000 := by
  have h1 := fac_mono h
  have h2 := fac_pos n
  have h3 := (pow_base (by omega) h1 i).2
  have h4 := (pow_exp (b := fac 16) (by decide) (i := i) (16 - i)).2
  rw [show i + (16 - i) = 16 by omega] at h4
  have h5 : fac 16 ^ 16 ≤ 2 ^ 1000 := by decide
  omega
theorem rows_number {n : Nat} {rs : List (List Int)} (h : ∀ r ∈ rs, Turn n r) (hn : rs.length = n) (h1 : 1 ≤ n) (h2 : n ≤ 16) : m_rows_number [.sh (TT rs)] = .ok (.int (rowsN (fac n) 0 rs)) [.sh (TT rs)] := by
  have e0 := are_rows h hn h1 h2
  have et := turns_in_all (n := n) (by omega)
  obtain ⟨S', e1, s3, rfl, n3⟩ := forL_run (g := gN 3) (body := o_rows_number_1)
    (fun i S => ∃ s3, S = [.sh (TT rs), .sh (.int (rowsN (fac n) 0 (rs.take i))), .sh (.int (fac n)), s3] ∧ nio s3) (ds := rs.map T) (S0 := [.sh (TT rs), .sh (.int 0), .sh (.int (fac n)), .un]) ⟨.un, rfl, trivial⟩ (fun i d S hd ⟨s3, e, n3⟩ => by
      subst e
      rw [List.getElem?_map] at hd
      cases q : rs[i]? with
      | none => rw [q] at hd; cases hd
      | some r =>
        rw [q] at hd
        cases hd
        have hi := (List.getElem?_eq_some_iff.mp q).1
        have hr := h r (List.mem_of_getElem? q)
        have e1 := number_of (l := r) (by rw [hr.len]; omega)
        have ht : rs.take (i + 1) = rs.take i ++ [r] := by rw [List.take_add_one, q]; rfl
        obtain ⟨b0, b1⟩ := rowsN_lt (n := n) (rs := rs.take i) (acc := 0) (m := 0) (fun x hx => (h x (List.mem_of_mem_take hx)).len) (by omega) (by rw [Int.pow_zero]; omega)
        have b2 := fac16_pow (n := n) (i := 0 + (rs.take i).length) h2 (by rw [List.length_take]; omega)
        have b3 := fac16_pow (n := n) (i := 1) h2 (by omega)
        rw [Int.pow_one] at b3
        have b4 := fac_pos n
        have l1 := big_log (k := rowsN (fac n) 0 (rs.take i)) b0 (by omega)
        have l2 := big_log (k := fac n) (by omega) (by omega)
        have hm : fMul (.int (rowsN (fac n) 0 (rs.take i))) (.int (fac n)) = some (.int (rowsN (fac n) 0 (rs.take i) * fac n)) := fMul_int (by omega) (by omega)
        refine ⟨.next, [.sh (TT rs), .sh (.int (rowsN (fac n) 0 (rs.take (i + 1)))), .sh (.int (fac n)), .sh (T r)], ?_, .inl rfl, _, rfl, trivial⟩
        rw [ht, rowsN_snoc]
        simp [o_rows_number_1, n3, mVar, fMulT, hm, e1, fAdd])
  rw [List.length_map, List.take_length] at e1
  have hI : iOf (mVar 0) isAny [.sh (TT rs), .sh (.int 0), .sh (.int (fac n)), .un] = .ok (rs.map T) [.sh (TT rs), .sh (.int 0), .sh (.int (fac n)), .un] := by simp [mVar, isAny]
  have hb : b_rows_number [.sh (TT rs), .un, .un, .un] = .ok (.ret (.int (rowsN (fac n) 0 rs))) [.sh (TT rs), .sh (.int (rowsN (fac n) 0 rs)), .sh (.int (fac n)), s3] := by
    unfold b_rows_number
    simp [mVar, e0, bLen, hn, et, -iOf_ap, hI, e1]
  exact defN (n := 4) (b := b_rows_number) (P := [.sh (TT rs)]) rfl hb
end G
set_option maxHeartbeats 4000000
set_option exponentiation.threshold 2000
namespace G
open PySem PySem.Spec PyProof.Rows L2 Z M3
variable [Z.LT]
/-! ### rows told by their number -/
def revD (n : Nat) : Nat → Int → List (List Int)
  | 0, _ => []
  | m + 1, k => dec n (iota n) (k % fac n) :: revD n m (k / fac n)
theorem revD_length (n : Nat) : ∀ (m : Nat) (k : Int), (revD n m k).length = m
  | 0, _ => rfl
  | m + 1, k => by rw [revD, List.length_cons, revD_length n m]
theorem fac_log16 {n : Nat} (h : n ≤ 16) : (fac n).natAbs.log2 < 9000 := by
  have b3 := fac16_pow (n := n) (i := 1) h (by omega)
  rw [Int.pow_one] at b3
  have b4 := fac_pos n
  have := big_log (k := fac n) (by omega) (by omega)
  omega
theorem most_mul {n i : Nat} (h2 : n ≤ 16) (hi : i < n) : fMul (.int (fac n ^ i)) (.int (fac n)) = some (.int (fac n ^ (i + 1))) := by
  have b2 := fac16_pow (n := n) (i := i) h2 (by omega)
  have b3 := fac16_pow (n := n) (i := 1) h2 (by omega)
  rw [Int.pow_one] at b3
  have b4 := fac_pos n
  have b5 := (pow_exp (b := fac n) (by omega) (i := i) 0).1
  have l1 := big_log (k := fac n ^ i) (by omega) (by omega)
  have l2 := big_log (k := fac n) (by omega) (by omega)
  rw [Int.pow_succ]
  exact fMul_int (by omega) (by omega)
theorem most_run {n : Nat} {v : D} (h2 : n ≤ 16) : ∃ s, forL (gN 4) o_rows_of_number_1 (rngD 0 1 n) [.sh (.int n), .sh v, .sh (.int (fac n)), .sh (.int 1), .un, .un] = .ok .next [.sh (.int n), .sh v, .sh (.int (fac n)), .sh (.int (fac n ^ n)), s, .un] ∧ nio s := by
  obtain ⟨S', e1, s, rfl, n4⟩ := forL_run (g := gN 4) (body := o_rows_of_number_1) (fun i S => ∃ s, S = [.sh (.int n), .sh v, .sh (.int (fac n)), .sh (.int (fac n ^ i)), s, .un] ∧ nio s) (ds := rngD 0 1 n) (S0 := [.sh (.int n), .sh v, .sh (.int (fac n)), .sh (.int 1), .un, .un]) ⟨.un, by rw [Int.pow_zero], trivial⟩ (fun i d S hd ⟨s, e, n4⟩ => by
    subst e
    obtain ⟨hi, rfl⟩ := rngD_get hd
    have hm := most_mul h2 hi
    generalize fac n ^ i = x at hm
    generalize fac n ^ (i + 1) = y at hm
    refine ⟨.next, [.sh (.int n), .sh v, .sh (.int (fac n)), .sh (.int y), .sh (.int (0 + (i : Int) * 1)), .un], ?_, .inl rfl, _, rfl, trivial⟩
    simp [o_rows_of_number_1, n4, mVar, fMulT, hm])
  rw [rngD_length] at e1
  exact ⟨s, e1, n4⟩
theorem rows_run {n : Nat} {k M : Int} {s : Sl} (h1 : 1 ≤ n) (h2 : n ≤ 16) (h0 : 0 ≤ k) (ns : nio s) : ∃ k' s', forL (gN 4) o_rows_of_number_2 (rngD 0 1 n) [.sh (.int n), .sh (.int k), .sh (.int (fac n)), .sh (.int M), s, .ow []] = .ok .next [.sh (.int n), .sh (.int k'), .sh (.int (fac n)), .sh (.int M), s', .ow ((revD n n k).map T)] := by
  obtain ⟨S', e1, k', found, s', rfl, n4, k0, hf⟩ := forL_run (g := gN 4) (body := o_rows_of_number_2) (fun i S => ∃ (k' : Int) (found : List (List Int)) (s : Sl), S = [.sh (.int n), .sh (.int k'), .sh (.int (fac n)), .sh (.int M), s, .ow (found.map T)] ∧ nio s ∧ 0 ≤ k' ∧ found ++ revD n (n - i) k' = revD n n k) (ds := rngD 0 1 n) (S0 := [.sh (.int n), .sh (.int k), .sh (.int (fac n)), .sh (.int M), s, .ow []]) ⟨k, [], s, rfl, ns, h0, rfl⟩ (fun i d S hd ⟨k', found, s, e, n4, k0, hf⟩ => by
    subst e
    obtain ⟨hi, rfl⟩ := rngD_get hd
    have hb := fac_pos n
    have et := turn_of (n := n) (k := k' % fac n) (by omega) (Int.emod_nonneg _ (by omega)) (Int.emod_lt_of_pos _ hb)
    have e1 : fMod (.int k') (.int (fac n)) = some (.int (k' % fac n)) := fMod_ok hb
    have e2 : fDiv (.int k') (.int (fac n)) = some (.int (k' / fac n)) := fDiv_ok hb (fac_log16 h2)
    have hl : found.length ≤ n := by
      have := congrArg List.length hf
      rw [List.length_append, revD_length, revD_length] at this
      omega
    have ha : fAppend (found.map T) [T (dec n (iota n) (k' % fac n))] = some (.non, (found ++ [dec n (iota n) (k' % fac n)]).map T) := by
      rw [fAppend_ok (by rw [List.length_map]; omega), List.map_append]
      rfl
    refine ⟨.next, [.sh (.int n), .sh (.int (k' / fac n)), .sh (.int (fac n)), .sh (.int M), .sh (.int (0 + (i : Int) * 1)), .ow ((found ++ [dec n (iota n) (k' % fac n)]).map T)], ?_, .inl rfl, _, _, _, rfl, trivial, Int.ediv_nonneg k0 (by omega), ?_⟩
    · generalize dec n (iota n) (k' % fac n) = q at et ha
      generalize (found ++ [q]).map T = q2 at ha
      simp [o_rows_of_number_2, n4, mVar, e1, e2, et, chkOwn, isOwn, mutate, Sl.owned, Sl.wr, ha]
    · rw [← hf, show n - i = (n - (i + 1)) + 1 by omega, revD, List.append_assoc]
      rfl)
  rw [rngD_length] at hf
  rw [Nat.sub_self, revD, List.append_nil] at hf
  subst hf
  exact ⟨k', s', e1⟩
theorem rows_of_number {n : Nat} {k : Int} (h1 : 1 ≤ n) (h2 : n ≤ 16) (h0 : 0 ≤ k) (hk : k < fac n ^ n) : m_rows_of_number [.sh (.int n), .sh (.int k)] = .ok (TT (revD n n k).reverse) [.sh (.int n), .sh (.int k)] := by
  have e1 := need_int (i := n) (lo := 1) (hi := 16) (by omega) (by omega)
  have e2 := turns_in_all (n := n) (by omega)
  have hr : fRng1 [.int (n : Int)] = some (rngD 0 1 n) := by rw [fRng1_ok (by omega) (by omega), Int.toNat_natCast]
  have hI : ∀ a b c d e, iArgs (aCons (mVar 0) aNil) fRng1 [.sh (.int n), a, b, c, d, e] = .ok (rngD 0 1 n) [.sh (.int n), a, b, c, d, e] := fun a b c d e =>
    iArgs_ok (xs := [.val (.int n)]) (S1 := [.sh (.int n), a, b, c, d, e]) (ds := [.int n]) (by simp [mVar]) (by simp) hr
  obtain ⟨s, e3, n4⟩ := most_run (n := n) (v := .int k) h2
  have e4 := need_int (i := k) (lo := 0) (hi := fac n ^ n - 1) h0 (by omega)
  obtain ⟨k', s', e5⟩ := rows_run (M := fac n ^ n) h1 h2 h0 n4
  have e6 : fRev (.lst ((revD n n k).map T)) = some (.lst ((revD n n k).reverse.map T)) := by
    show some (D.lst ((revD n n k).map T).reverse) = _
    rw [List.map_reverse]
  generalize fac n ^ n = M at e3 e4 e5
  generalize fac n = B at e2 e3 e5
  generalize (revD n n k).map T = R at e5 e6
  have hb : ∃ S', b_rows_of_number [.sh (.int n), .sh (.int k), .un, .un, .un, .un] = .ok (.ret (TT (revD n n k).reverse)) S' := by
    refine ⟨[.sh (.int n), .sh (.int k'), .sh (.int B), .sh (.int M), s', .ow R], ?_⟩
    unfold b_rows_of_number
    simp [mVar, e1, e2, hI, e3, fSub, e4, nLst, e5, d1, deref, Sl.owned, e6, bTuple, derefs]
  obtain ⟨S', hb⟩ := hb
  exact defN (n := 6) (b := b_rows_of_number) (P := [.sh (.int n), .sh (.int k)]) rfl hb
theorem rows_of_number_bad {n : Nat} {v : D} (h1 : 1 ≤ n) (h2 : n ≤ 16) (h : m_is_whole [.sh v, .sh (.int 0), .sh (.int (fac n ^ n - 1))] = .ok (.bl false) [.sh v, .sh (.int 0), .sh (.int (fac n ^ n - 1))]) : ∃ S', m_rows_of_number [.sh (.int n), .sh v] = .exc ⟨"InvalidNumber", none⟩ S' := by
  have e1 := need_int (i := n) (lo := 1) (hi := 16) (by omega) (by omega)
  have e2 := turns_in_all (n := n) (by omega)
  have hr : fRng1 [.int (n : Int)] = some (rngD 0 1 n) := by rw [fRng1_ok (by omega) (by omega), Int.toNat_natCast]
  have hI : ∀ a b c d e, iArgs (aCons (mVar 0) aNil) fRng1 [.sh (.int n), a, b, c, d, e] = .ok (rngD 0 1 n) [.sh (.int n), a, b, c, d, e] := fun a b c d e =>
    iArgs_ok (xs := [.val (.int n)]) (S1 := [.sh (.int n), a, b, c, d, e]) (ds := [.int n]) (by simp [mVar]) (by simp) hr
  obtain ⟨s, e3, n4⟩ := most_run (n := n) (v := v) h2
  have e4 := need_bad h
  generalize fac n ^ n = M at e3 e4
  generalize fac n = B at e2 e3
  have hb : ∃ S', b_rows_of_number [.sh (.int n), .sh v, .un, .un, .un, .un] = .exc ⟨"InvalidNumber", none⟩ S' := by
    refine ⟨[.sh (.int n), .sh v, .sh (.int B), .sh (.int M), s, .un], ?_⟩
    unfold b_rows_of_number
    simp [mVar, e1, e2, hI, e3, fSub, e4]
  obtain ⟨S', hb⟩ := hb
  exact ⟨_, defX (n := 6) (b := b_rows_of_number) (P := [.sh (.int n), .sh v]) rfl hb⟩
/-! ### plainly -/
theorem rows_back {n : Nat} (hn : n ≤ 16) : ∀ (rs : List (List Int)), (∀ r ∈ rs, Turn n r) → revD n rs.length (rowsN (fac n) 0 rs) = rs.reverse := by
  intro rs
  suffices h : ∀ (l : List (List Int)), (∀ r ∈ l, Turn n r) → revD n l.length (rowsN (fac n) 0 l.reverse) = l by
    intro hr
    have := h rs.reverse (fun r h => hr r (List.mem_reverse.mp h))
    rwa [List.reverse_reverse, List.length_reverse] at this
  intro l
  induction l with
  | nil => intro _; rfl
  | cons r l ih =>
    intro hr
    have ih := ih fun x hx => hr x (List.mem_cons_of_mem _ hx)
    have hr1 := hr r List.mem_cons_self
    obtain ⟨n1, n2⟩ := num_lt r
    rw [hr1.len] at n2
    have hb := fac_pos n
    have d := dec_num n (iota n) r (iota_length n) (iota_lt n) hr1.perm
    rw [List.length_cons, List.reverse_cons, rowsN_snoc, revD]
    generalize rowsN (fac n) 0 l.reverse = x at ih ⊢
    have e1 : (x * fac n + num r) % fac n = num r := by
      rw [Int.add_comm, Int.add_mul_emod_self_right, Int.emod_eq_of_lt n1 n2]
    have e2 : (x * fac n + num r) / fac n = x := by
      rw [Int.add_comm, Int.add_mul_ediv_right _ _ (by omega), Int.ediv_eq_zero_of_lt n1 n2]
      omega
    rw [e1, e2, ih, d]
theorem rows_rep (b : Int) {r : List Int} (h : num r = b - 1) : ∀ m : Nat, rowsN b 0 (List.replicate m r) = b ^ m - 1
  | 0 => by rw [Int.pow_zero]; rfl
  | m + 1 => by
    rw [show List.replicate (m + 1) r = List.replicate m r ++ [r] from List.replicate_succ', rowsN_snoc, rows_rep b h m, h, Int.pow_succ, Int.sub_mul]
    omega
theorem rows_zero (b : Int) {r : List Int} (h : num r = 0) : ∀ m : Nat, rowsN b 0 (List.replicate m r) = 0
  | 0 => rfl
  | m + 1 => by
    rw [show List.replicate (m + 1) r = List.replicate m r ++ [r] from List.replicate_succ', rowsN_snoc, rows_zero b h m, h]
    omega
end G
set_option maxHeartbeats 4000000
namespace G
open PySem PySem.Spec PyProof.Rows L2 Z M3
variable [Z.LT]
/-! ### drawn turns -/
theorem eq_ii (i j : Int) : fEq (.int i) (.int j) = some (.bl (decide (i = j))) := by
  unfold fEq
  rw [if_pos ⟨(pl_int i).shp (by omega), (pl_int j).shp (by omega)⟩, deq_int]
theorem ne_ii (i j : Int) : fNe (.int i) (.int j) = some (.bl (!decide (i = j))) := by
  unfold fNe
  rw [if_pos ⟨(pl_int i).shp (by omega), (pl_int j).shp (by omega)⟩, deq_int]
theorem fIx_lst {l : List Int} {a : Int} {x : Int} (h0 : 0 ≤ a) (h : l[a.toNat]? = some x) : fIx (.lst (zl l)) (.int a) = some (.int x) := by
  show L2.atI (zl l) a = _
  rw [atI_zl (j := a.toNat) h0 rfl, h]
  rfl
def turnTail : M Fl := mPar2 4 3 (xV (m2 (d2 fAdd) (mVar 4) (mLst (aCons (m2 (d2 fIx) (mVar 3) (mVar 6)) aNil)))) (xV (m2 (d2 fAdd) (mSl (mVar 3) (ret none) (mPart (mVar 6))) (mSl (mVar 3) (mPart (m2 (d2 fAdd) (mVar 6) (mC (.int 1)))) (ret none))))
theorem turn_tail {s0 s1 s2 s5 : Sl} {left found : List Int} {a x : Int} (h0 : 0 ≤ a) (hx : left[a.toNat]? = some x) (hl : left.length ≤ 60) (hf : found.length ≤ 60) :
    turnTail [s0, s1, s2, .sh (.lst (zl left)), .sh (.lst (zl found)), s5, .sh (.int a)] = .ok .next [s0, s1, s2, .sh (.lst (zl (left.eraseIdx a.toNat))), .sh (.lst (zl (found ++ [x]))), s5, .sh (.int a)] := by
  have hi : a.toNat < left.length := (List.getElem?_eq_some_iff.mp hx).1
  have e1 := fIx_lst h0 hx
  have e2 : fAdd (.lst (zl found)) (.lst [.int x]) = some (.lst (zl (found ++ [x]))) := by
    rw [add_lst (by rw [zl_length]; simp; omega), zl_append]
    rfl
  have e3 : cutD (zl left) none (some a) = zl (left.take a.toNat) := by
    have := cut_to (xs := zl left) (k := a.toNat) (by rw [zl_length]; omega)
    rw [show ((a.toNat : Nat) : Int) = a by omega] at this
    rw [this]
    unfold zl
    rw [List.map_take]
  have e4 : cutD (zl left) (some (a + 1)) none = zl (left.drop (a.toNat + 1)) := by
    have := cut_from (xs := zl left) (k := a.toNat + 1) (by rw [zl_length]; omega)
    rw [show ((a.toNat + 1 : Nat) : Int) = a + 1 by omega] at this
    rw [this]
    unfold zl
    rw [List.map_drop]
  have e5 : fAdd (.lst (zl (left.take a.toNat))) (.lst (zl (left.drop (a.toNat + 1)))) = some (.lst (zl (left.eraseIdx a.toNat))) := by
    rw [add_lst (by rw [zl_length, zl_length, List.length_take, List.length_drop]; omega), ← zl_append, List.eraseIdx_eq_take_drop_succ]
  have e6 : fAdd (.int a) (.int 1) = some (.int (a + 1)) := rfl
  unfold turnTail
  simp [mVar, e1, e2, fSl, e3, e4, e5, e6, size_le]
theorem turn_body : o__law_turn_1 = mSeq (mSet 6 (xV (mCall1N 2 m__law_roll (aCons (mVar 0) (aCons (mB bLen (aCons (mVar 3) aNil)) aNil)))))
  (mSeq (mIfS (mAnd (toB (m2 (d2 fEq) (mVar 2) (mC (.int 0)))) (toB (m2 (d2 fLt) (mVar 5) (m2 (d2 fSub) (mVar 1) (mC (.int 4)))))) (mSet 6 (xV (mC (.int 0)))) mSkip)
  (mSeq (mIfS (mAnd (toB (m2 (d2 fEq) (mVar 2) (mC (.int 1)))) (toB (m2 (d2 fLt) (mVar 5) (m2 (d2 fSub) (mVar 1) (mC (.int 4)))))) (mSet 6 (xV (m2 (d2 fSub) (mB bLen (aCons (mVar 3) aNil)) (mC (.int 1))))) mSkip) turnTail)) := rfl
theorem turn_step {n : Nat} {kind : Int} {xs : List D} {left found : List Int} {s5 s6 : Sl} {i : Nat} (c : Cup xs) (n5 : nio s5) (n6 : nio s6) (hl : 0 < left.length) (hl2 : left.length ≤ 60) (hf : found.length ≤ 60) :
    ∃ ys a x, (bnd (gN 5 (.int (0 + (i : Int) * 1))) fun _ => o__law_turn_1) [.io xs, .sh (.int n), .sh (.int kind), .sh (.lst (zl left)), .sh (.lst (zl found)), s5, s6] = .ok .next [.io ys, .sh (.int n), .sh (.int kind), .sh (.lst (zl (left.eraseIdx a))), .sh (.lst (zl (found ++ [x]))), .sh (.int (0 + (i : Int) * 1)), .sh (.int (a : Nat))] ∧ left[a]? = some x ∧ Cup ys := by
  obtain ⟨r, ys, e1, h3, h4, c2⟩ := roll c (m := left.length) (by omega) (by
    have h : ((left.length : Int)).natAbs < 2 ^ (9 + 1) := by omega
    have := log_lt h
    omega)
  have key : ∀ a : Int, 0 ≤ a → a < left.length → (bnd (gN 5 (.int (0 + (i : Int) * 1))) fun _ => o__law_turn_1) [.io xs, .sh (.int n), .sh (.int kind), .sh (.lst (zl left)), .sh (.lst (zl found)), s5, s6] = turnTail [.io ys, .sh (.int n), .sh (.int kind), .sh (.lst (zl left)), .sh (.lst (zl found)), .sh (.int (0 + (i : Int) * 1)), .sh (.int a)] → ∃ ys a x, (bnd (gN 5 (.int (0 + (i : Int) * 1))) fun _ => o__law_turn_1) [.io xs, .sh (.int n), .sh (.int kind), .sh (.lst (zl left)), .sh (.lst (zl found)), s5, s6] = .ok .next [.io ys, .sh (.int n), .sh (.int kind), .sh (.lst (zl (left.eraseIdx a))), .sh (.lst (zl (found ++ [x]))), .sh (.int (0 + (i : Int) * 1)), .sh (.int (a : Nat))] ∧ left[a]? = some x ∧ Cup ys := fun a h0 h1 e => by
    have hx := List.getElem?_eq_getElem (l := left) (i := a.toNat) (by omega)
    refine ⟨ys, a.toNat, left[a.toNat], ?_, hx, c2⟩
    rw [e, turn_tail h0 hx hl2 hf, show ((a.toNat : Nat) : Int) = a by omega]
  rw [turn_body] at key ⊢
  generalize turnTail = tail at key ⊢
  by_cases h5 : (i : Int) < n - 4
  · by_cases h6 : kind = 0
    · subst h6
      exact key 0 (by omega) (by omega) (by simp [n5, n6, mVar, mCall1N, call1, bLen, Sl.owned, Sl.wr, e1, eq_ii, fLt, fSub, h5])
    · by_cases h7 : kind = 1
      · subst h7
        exact key (left.length - 1) (by omega) (by omega) (by simp [n5, n6, mVar, mCall1N, call1, bLen, Sl.owned, Sl.wr, e1, eq_ii, fLt, fSub, h5])
      · exact key r h3 h4 (by simp [n5, n6, mVar, mCall1N, call1, bLen, Sl.owned, Sl.wr, e1, eq_ii, fLt, fSub, h5, h6, h7])
  · exact key r h3 h4 (by simp [n5, n6, mVar, mCall1N, call1, bLen, Sl.owned, Sl.wr, e1, eq_ii, fLt, fSub, h5])
theorem law_turn {n : Nat} {xs : List D} (c : Cup xs) (h1 : 1 ≤ n) (h2 : n ≤ 60) : ∃ l ys, m__law_turn [.io xs, .sh (.int n)] = .ok (T l) [.io ys, .sh (.int n)] ∧ Turn n l ∧ Cup ys := by
  obtain ⟨kind, ys, e1, k0, k1, c1⟩ := roll c (m := 4) (by omega) (by
    have h : ((4 : Int)).natAbs < 2 ^ (9 + 1) := by decide
    have := log_lt h
    omega)
  have e3 := nRgL_ok (m := mRg1 (mVar 1)) (S := [.io ys, .sh (.int n), .un, .un, .un, .un, .un]) (S1 := [.io ys, .sh (.int n), .un, .un, .un, .un, .un]) (a := 0) (b := n) (by simp [mRg1, mVar]) (RgOk.of_le (by omega) (by omega) (by omega) (by omega))
  rw [show ((n : Int) - 0).toNat = n by omega, rng_iota] at e3
  obtain ⟨S', e4, zs, left, found, s5, s6, rfl, c2, n5, n6, hll, hp⟩ := forL_run (g := gN 5) (body := o__law_turn_1) (fun i S => ∃ (zs : List D) (left found : List Int) (s5 s6 : Sl), S = [.io zs, .sh (.int n), .sh (.int kind), .sh (.lst (zl left)), .sh (.lst (zl found)), s5, s6] ∧ Cup zs ∧ nio s5 ∧ nio s6 ∧ left.length = n - i ∧ (found ++ left).Perm (iota n))
    (ds := rngD 0 1 n) (S0 := [.io ys, .sh (.int n), .sh (.int kind), .sh (.lst (zl (iota n))), .sh (.lst (zl [])), .un, .un]) ⟨ys, iota n, [], .un, .un, rfl, c1, trivial, trivial, iota_length n, .refl _⟩ (fun i d S hd ⟨zs, left, found, s5, s6, e, c2, n5, n6, hll, hp⟩ => by
      subst e
      obtain ⟨hi, rfl⟩ := rngD_get hd
      have hlen := hp.length_eq
      rw [List.length_append, iota_length] at hlen
      obtain ⟨us, a, x, e5, hx, c3⟩ := turn_step (n := n) (kind := kind) (i := i) c2 n5 n6 (left := left) (found := found) (by omega) (by omega) (by omega)
      have ha : a < left.length := (List.getElem?_eq_some_iff.mp hx).1
      refine ⟨.next, _, e5, .inl rfl, us, left.eraseIdx a, found ++ [x], _, _, rfl, c3, trivial, trivial, by rw [List.length_eraseIdx_of_lt ha]; omega, ?_⟩
      rw [List.append_assoc]
      exact ((perm_erase hx).append_left found).trans hp)
  rw [rngD_length, Nat.sub_self] at hll
  have el : left = [] := List.length_eq_zero_iff.mp hll
  subst el
  rw [List.append_nil] at hp
  have hr : fRng1 [.int (n : Int)] = some (rngD 0 1 n) := by rw [fRng1_ok (by omega) (by omega), Int.toNat_natCast]
  have hI : iArgs (aCons (mVar 1) aNil) fRng1 [.io ys, .sh (.int n), .sh (.int kind), .sh (.lst (zl (iota n))), .sh (.lst (zl [])), .un, .un] = .ok (rngD 0 1 n) [.io ys, .sh (.int n), .sh (.int kind), .sh (.lst (zl (iota n))), .sh (.lst (zl [])), .un, .un] :=
    iArgs_ok (xs := [.val (.int n)]) (S1 := [.io ys, .sh (.int n), .sh (.int kind), .sh (.lst (zl (iota n))), .sh (.lst (zl [])), .un, .un]) (ds := [.int n]) (by simp [mVar]) (by simp) hr
  have hP : mPar3 2 3 4 (xV (mCall1N 2 m__law_roll (aCons (mVar 0) (aCons (mC (.int 4)) aNil)))) (xV (eN (nRgL (mRg1 (mVar 1))))) (xV (mLst aNil)) [.io xs, .sh (.int n), .un, .un, .un, .un, .un] = .ok .next [.io ys, .sh (.int n), .sh (.int kind), .sh (.lst (zl (iota n))), .sh (.lst (zl [])), .un, .un] := by
    rw [mPar3_ap]
    simp [mVar, mCall1N, call1, Sl.owned, Sl.wr, e1, e3, zl]
  have hb : b__law_turn [.io xs, .sh (.int n), .un, .un, .un, .un, .un] = .ok (.ret (T found)) [.io zs, .sh (.int n), .sh (.int kind), .sh (.lst (zl [])), .sh (.lst (zl found)), s5, s6] := by
    unfold b__law_turn
    rw [mSeq_ap, hP, bind_ok]
    show mSeq _ _ _ = _
    rw [mSeq_ap, mFor_ap, hI, bind_ok, e4, bind_ok]
    simp [mVar, bTuple]
  exact ⟨found, zs, defN (n := 7) (b := b__law_turn) (P := [.io xs, .sh (.int n)]) rfl hb, ⟨hp⟩, c2⟩
end G
set_option maxHeartbeats 4000000
namespace G
open PySem PySem.Spec PyProof.Rows L2 Z M3
variable [Z.LT]
/-! ### the law's own number of a turn -/
theorem find_sorted {x : Int} : ∀ {l : List Int} (n : Nat), l.Pairwise (· < ·) → x ∈ l → findD (.int x) (zl l) n = some (n + lt x l)
  | [], _, _, h => by cases h
  | y :: l, n, hs, h => by
    have hy : ∀ z ∈ l, y < z := fun z hz => List.rel_of_pairwise_cons hs hz
    rw [zl_cons, findD, deq_int, lt_cons]
    by_cases e : y = x
    · subst e
      have e0 : lt y l = 0 := by
        unfold lt
        rw [List.length_eq_zero_iff, List.filter_eq_nil_iff]
        intro z hz
        have := hy z hz
        simp
        omega
      rw [if_pos (decide_eq_true rfl), if_neg (by omega), e0]
      rfl
    · have hx : x ∈ l := by
        rcases List.mem_cons.mp h with h | h
        · exact (e h.symm).elim
        · exact h
      rw [if_neg (by simpa using e), if_pos (hy _ hx), find_sorted (n + 1) (List.Pairwise.of_cons hs) hx]
      congr 1
      omega
theorem law_num_1 {s0 s1 s4 : Sl} {left : List Int} {x : Int} (n4 : nio s4) (hl : left.length ≤ 60) : n__law_number_1 [s0, s1, .sh (.lst (zl left)), .sh (.int x), s4] = .ok (zl (left.filter fun y => decide (y ≠ x))) [s0, s1, .sh (.lst (zl left)), .sh (.int x), s4] := by
  have := nLc_filter (v := 4) (mi := iOf (mVar 2) isAny) (t := toB (m2 (d2 fNe) (mVar 4) (mVar 3))) (F := [s0, s1, .sh (.lst (zl left)), .sh (.int x), s4]) (s := s4) (fun y => decide (y ≠ x)) (l := left) (by simp [mVar, isAny]) rfl (fun y hy => by simp [mVar, ne_ii]) (by omega)
  exact this
theorem filter_ne_erase {x : Int} : ∀ {l : List Int}, l.Nodup → l.filter (fun y => decide (y ≠ x)) = l.erase x
  | [], _ => rfl
  | y :: l, h => by
    obtain ⟨h1, h2⟩ := List.nodup_cons.mp h
    rw [List.filter_cons, List.erase_cons]
    by_cases e : y = x
    · subst e
      have : l.filter (fun z => decide (z ≠ y)) = l := List.filter_eq_self.mpr fun z hz => decide_eq_true fun e => h1 (by rw [← e]; exact hz)
      simp only [ne_eq, not_true, decide_false, Bool.false_eq_true, if_false, beq_self_eq_true, if_true]
      simpa using this
    · have ih := filter_ne_erase (x := x) h2
      have hb : (y == x) = false := by simpa using e
      rw [if_pos (by simpa using e), hb, ih]
      rfl
theorem law_number {n : Nat} {l : List Int} (h : Turn n l) (h2 : n ≤ 60) : m__law_number [.sh (T l)] = .ok (.int (num l)) [.sh (T l)] := by
  have hl := h.len
  have hb : ∀ k : Int, 0 ≤ k → k ≤ num l → k < 2 ^ 300 := fun k h0 hk => by
    have h1 := (num_lt l).2
    have h3 := fac_mono (show l.length ≤ 60 by omega)
    have h4 := fac60
    omega
  obtain ⟨S', e1, k, left, s3, s4, rfl, n3, n4, k0, hk, hp, hs⟩ := forL_run (g := gN 3) (body := o__law_number_2)
    (fun i S => ∃ (k : Int) (left : List Int) (s3 s4 : Sl), S = [.sh (T l), .sh (.int k), .sh (.lst (zl left)), s3, s4] ∧ nio s3 ∧ nio s4 ∧ 0 ≤ k ∧ k * fac (l.length - i) + num (l.drop i) = num l ∧ left.Perm (l.drop i) ∧ left.Pairwise (· < ·))
    (ds := zl l) (S0 := [.sh (T l), .sh (.int 0), .sh (.lst (zl (iota n))), .un, .un]) ⟨0, iota n, .un, .un, rfl, trivial, trivial, by omega, by simp, by simpa using h.perm.symm, iota_lt n⟩ (fun i d S hd ⟨k, left, s3, s4, e, n3, n4, k0, hk, hp, hs⟩ => by
      subst e
      rw [zl_get] at hd
      cases q : l[i]? with
      | none => rw [q] at hd; cases hd
      | some x =>
      rw [q] at hd
      cases hd
      have hi : i < l.length := (List.getElem?_eq_some_iff.mp q).1
      have hdrop : l.drop i = x :: l.drop (i + 1) := by
        rw [List.drop_eq_getElem_cons hi]
        congr 1
        exact (List.getElem?_eq_some_iff.mp q).2
      have hf : fac (l.length - i) = ((l.length : Int) - i) * fac (l.length - (i + 1)) := by
        rw [show l.length - i = (l.length - (i + 1)) + 1 by omega]
        show (((l.length - (i + 1) : Nat) : Int) + 1) * _ = _
        congr 1
        omega
      have hfp := fac_pos (l.length - i)
      have hkl : k ≤ num l := by
        have h1 := (num_lt (l.drop i)).1
        have h2 : k * 1 ≤ k * fac (l.length - i) := Int.mul_le_mul_of_nonneg_left (by omega) k0
        omega
      have hlen : (left.length : Int) = (l.length : Int) - i := by
        have := hp.length_eq
        rw [List.length_drop] at this
        omega
      have hm : fMul (.int k) (.int (left.length : Int)) = some (.int (k * (left.length : Int))) := fMul_int (small_log k0 (hb k k0 hkl)) (small_log (by omega) (by omega))
      have hx : x ∈ left := hp.mem_iff.mpr (by rw [hdrop]; exact List.mem_cons_self)
      have hlt : lt x left = lt x (l.drop (i + 1)) := by
        rw [lt_perm hp, hdrop, lt_cons, if_neg (by omega)]
        omega
      have hix : fIndex (.lst (zl left)) [.int x] = some (.int (lt x (l.drop (i + 1)) : Nat)) := by
        show (if _ then _ else _) = _
        rw [if_pos ⟨(pl_lst pl_zl).shp (by omega), (pl_int x).shp (by omega)⟩, find_sorted 0 hs hx, hlt, Nat.zero_add]
        rfl
      have nd : left.Nodup := hs.imp fun h => by omega
      have hcomp := law_num_1 (s0 := .sh (T l)) (s1 := .sh (.int k)) (left := left) (x := x) n4 (by omega)
      rw [filter_ne_erase nd] at hcomp
      refine ⟨.next, [.sh (T l), .sh (.int (k * (left.length : Int) + (lt x (l.drop (i + 1)) : Nat))), .sh (.lst (zl (left.erase x))), .sh (.int x), s4], ?_, .inl rfl, _, _, _, _, rfl, trivial, n4, ?_, ?_, ?_, hs.sublist List.erase_sublist⟩
      · simp [o__law_number_2, n3, mVar, bLen, fMulT, hm, mQ, chkT, deref, D.ty, derefs, hix, fAdd, hcomp]
      · have : 0 ≤ k * (left.length : Int) := Int.mul_nonneg k0 (by omega)
        omega
      · rw [hdrop, hf] at hk
        have e : num (x :: l.drop (i + 1)) = (lt x (l.drop (i + 1)) : Int) * fac (l.length - (i + 1)) + num (l.drop (i + 1)) := by
          show (lt x (l.drop (i + 1)) : Int) * fac (l.drop (i + 1)).length + _ = _
          rw [List.length_drop]
        rw [e, ← Int.mul_assoc] at hk
        rw [Int.add_mul, hlen]
        omega
      · have := hp.erase x
        rw [hdrop] at this
        simpa using this)
  rw [zl_length, Nat.sub_self, List.drop_length] at hk
  have hk : k * 1 + 0 = num l := hk
  have ek : k = num l := by omega
  subst ek
  have eq5 := q5 h
  have hb : b__law_number [.sh (T l), .un, .un, .un, .un] = .ok (.ret (.int (num l))) [.sh (T l), .sh (.int (num l)), .sh (.lst (zl left)), s3, s4] := by
    unfold b__law_number
    simp [mVar, eq5, isAny, e1]
  exact defN (n := 5) (b := b__law_number) (P := [.sh (T l)]) rfl hb
end G
set_option maxHeartbeats 4000000
namespace G
open PySem PySem.Spec PyProof.Rows L2 Z M3
variable [Z.LT]
/-! ### the law's own turn behind -/
theorem lb_1 {l : List Int} (hn : 1 ≤ l.length) (h2 : l.length ≤ 60) : n__law_behind_1 [.sh (T l), .un, .un, .un, .un] = .ok (zl (ups 0 l)) [.sh (T l), .un, .un, .un, .un] := by
  have hr : fRng1 [.int ((l.length : Int) - 1)] = some (zl (iota (l.length - 1))) := by
    rw [fRng1_ok (by omega) (by omega), rng_iota, show ((l.length : Int) - 1).toNat = l.length - 1 by omega]
  have hI : iArgs (aCons (m2 (d2 fSub) (mB bLen (aCons (mVar 0) aNil)) (mC (.int 1))) aNil) fRng1 [.sh (T l), .un, .un, .un, .un] = .ok (zl (iota (l.length - 1))) [.sh (T l), .un, .un, .un, .un] :=
    iArgs_ok (xs := [.val (.int ((l.length : Int) - 1))]) (S1 := [.sh (T l), .un, .un, .un, .un]) (ds := [.int ((l.length : Int) - 1)]) (by simp [mVar, bLen, fSub]) (by simp) hr
  have := nLc_filter (v := 2) (s := .un) (F := [.sh (T l), .un, .un, .un, .un]) (t := toB (m2 (d2 fLt) (m2 (d2 fIx) (mVar 0) (mVar 2)) (m2 (d2 fIx) (mVar 0) (m2 (d2 fAdd) (mVar 2) (mC (.int 1)))))) (risesAt l) hI rfl (fun i hi => by
    obtain ⟨h3, h4⟩ := iota_mem.mp hi
    obtain ⟨k, rfl⟩ : ∃ k : Nat, i = (k : Int) := ⟨i.toNat, by omega⟩
    have hk : k + 1 < l.length := by omega
    have e1 := fIx_at (l := l) (i := k) (List.getElem?_eq_getElem (by omega))
    have e2 := fIx_at (l := l) (i := k + 1) (List.getElem?_eq_getElem hk)
    have e3 : risesAt l (k : Int) = decide (l[k] < l[k + 1]) := by
      unfold risesAt
      rw [Int.toNat_natCast, List.getElem?_eq_getElem (by omega), List.getElem?_eq_getElem hk]
    rw [show ((k + 1 : Nat) : Int) = (k : Int) + 1 by omega] at e2
    simp [mVar, fAdd, e1, e2, fLt, e3]) (by rw [iota_length]; omega)
  rw [ups_filter] at this
  exact this
theorem drop_zl {l : List Int} {i : Nat} (h : i ≤ l.length) : cutD (zl l) (some (i : Int)) none = zl (l.drop i) := by
  rw [cut_from (by rw [zl_length]; omega)]
  unfold zl
  rw [List.map_drop]
theorem take_zl {l : List Int} {i : Nat} (h : i ≤ l.length) : cutD (zl l) none (some (i : Int)) = zl (l.take i) := by
  rw [cut_to (by rw [zl_length]; omega)]
  unfold zl
  rw [List.map_take]
theorem lb_2 {l : List Int} {i : Nat} {x : Int} {s1 s3 s4 : Sl} (n4 : nio s4) (h2 : l.length ≤ 60) (hx : l[i]? = some x) : n__law_behind_2 [.sh (T l), s1, .sh (.int (i : Nat)), s3, s4] = .ok (zl ((l.drop (i + 1)).filter fun y => decide (x < y))) [.sh (T l), s1, .sh (.int (i : Nat)), s3, s4] := by
  have hi : i < l.length := (List.getElem?_eq_some_iff.mp hx).1
  have e1 := fIx_at hx
  have e2 := drop_zl (l := l) (i := i + 1) (by omega)
  rw [show ((i + 1 : Nat) : Int) = (i : Int) + 1 by omega] at e2
  exact nLc_filter (v := 4) (s := s4) (fun y => decide (x < y)) (by simp [mVar, fAdd, fSl, isAny, e2]) rfl (fun y hy => by simp [mVar, e1, fGt]) (by rw [List.length_drop]; omega)
theorem lb_3 {l : List Int} {i : Nat} {o : Int} {s1 s4 : Sl} (n4 : nio s4) (h2 : l.length ≤ 60) (hi : i ≤ l.length) : n__law_behind_3 [.sh (T l), s1, .sh (.int (i : Nat)), .sh (.int o), s4] = .ok (zl ((l.drop i).filter fun y => decide (y ≠ o))) [.sh (T l), s1, .sh (.int (i : Nat)), .sh (.int o), s4] := by
  have e2 := drop_zl (l := l) (i := i) hi
  exact nLc_filter (v := 4) (s := s4) (fun y => decide (y ≠ o)) (by simp [mVar, fSl, isAny, e2]) rfl (fun y hy => by simp [mVar, ne_ii]) (by rw [List.length_drop]; omega)
theorem law_behind {n : Nat} {l : List Int} (h : Turn n l) (h1 : 1 ≤ n) (h2 : n ≤ 60) : m__law_behind [.sh (T l)] = .ok (nextT l) [.sh (T l)] := by
  have hl := h.len
  have e2 := lb_1 (l := l) (by omega) (by omega)
  have e3 := eq_nil (ups 0 l)
  have er := ups_rise l 0
  cases q : rise l with
  | none =>
    rw [q] at er
    have hu : ups 0 l = [] := by
      cases hu : ups 0 l with
      | nil => rfl
      | cons a as => rw [hu] at er; simp at er
    rw [hu] at e2 e3
    have hb : b__law_behind [.sh (T l), .un, .un, .un, .un] = .ok (.ret .non) [.sh (T l), .sh (.lst (zl [])), .un, .un, .un] := by
      unfold b__law_behind
      simp [mVar, e2, e3]
    have e : nextT l = .non := by unfold nextT; rw [q]
    rw [e]
    exact defN (n := 5) (b := b__law_behind) (P := [.sh (T l)]) rfl hb
  | some i =>
    rw [q] at er
    obtain ⟨x, o, k1, k2, k3, k4, k5⟩ := num_behind h.nodup q
    have hi : i < l.length := (List.getElem?_eq_some_iff.mp k1).1
    have hu : decide (ups 0 l = []) = false := by
      refine decide_eq_false fun z => ?_
      rw [z] at er
      simp at er
    rw [hu] at e3
    have e4 : fIx (.lst (zl (ups 0 l))) (.int (-1)) = some (.int (i : Nat)) := by
      show L2.atI _ _ = _
      rw [atI_last]
      unfold zl
      rw [List.getLast?_map, er]
      simp
    have e6 := take_zl (l := l) (i := i) (by omega)
    have e7 := fun s1 => lb_2 (s1 := s1) (s3 := .un) (s4 := .un) (l := l) trivial (by omega) k1
    have e8 : bMin [.lst (zl ((l.drop (i + 1)).filter fun y => decide (x < y)))] = some (.int o) := by
      show (D.ints _).bind _ = _
      rw [ints_zl, Option.bind_some, minI_above k2]
      rfl
    have e9 := fun s1 => lb_3 (s1 := s1) (s4 := .un) (l := l) (i := i) (o := o) trivial (by omega) (by omega)
    rw [filter_ne_erase (h.nodup.sublist (List.drop_sublist i l))] at e9
    have e10 : bSorted [.lst (zl ((l.drop i).erase o))] = some (.lst (zl (sortI ((l.drop i).erase o)))) := by
      show (D.ints _).bind _ = _
      rw [ints_zl]
      rfl
    have el : (sortI ((l.drop i).erase o)).length = l.length - i - 1 := by
      rw [(sortI_perm _).length_eq, List.length_erase_of_mem k4, List.length_drop]
    have a1 : fAdd (.tup (zl (l.take i))) (.tup [.int o]) = some (T (l.take i ++ [o])) := by
      rw [add_tup (by rw [zl_length, List.length_take]; simp; omega), T, zl_append]
      rfl
    have a2 : fAdd (T (l.take i ++ [o])) (.tup (zl (sortI ((l.drop i).erase o)))) = some (T (l.take i ++ o :: sortI ((l.drop i).erase o))) := by
      rw [T, add_tup (by rw [zl_length, zl_length, List.length_append, List.length_take, el]; simp; omega), ← zl_append, List.append_assoc]
      rfl
    have hb : ∃ S', b__law_behind [.sh (T l), .un, .un, .un, .un] = .ok (.ret (T (l.take i ++ o :: sortI ((l.drop i).erase o)))) S' := by
      refine ⟨[.sh (T l), .sh (.lst (zl (ups 0 l))), .sh (.int (i : Nat)), .sh (.int o), .un], ?_⟩
      unfold b__law_behind
      simp [mVar, e2, e3, fNeg, e4, fSl, e6, e7, e8, e9, e10, bTuple, a1, a2, size_le]
    obtain ⟨S', hb⟩ := hb
    have e : nextT l = T (l.take i ++ o :: sortI ((l.drop i).erase o)) := by unfold nextT; rw [q]; simp only [k1, k3]
    rw [e]
    exact defN (n := 5) (b := b__law_behind) (P := [.sh (T l)]) rfl hb
end G
set_option maxHeartbeats 4000000
namespace G
open PySem PySem.Spec PyProof.Rows L2 Z M3
variable [Z.LT]
/-! ### the law's own exchanges -/
theorem get_mid (c : Int) (r : List Int) : ∀ done : List Int, (done ++ c :: r)[done.length]? = some c
  | [] => rfl
  | _ :: d => get_mid c r d
theorem get_mid2 (c y : Int) (r : List Int) : ∀ done : List Int, (done ++ c :: y :: r)[done.length + 1]? = some y
  | [] => rfl
  | _ :: d => get_mid2 c y r d
theorem set_mid (c x : Int) (r : List Int) : ∀ done : List Int, (done ++ c :: r).set done.length x = done ++ x :: r
  | [] => rfl
  | a :: d => by
    show a :: (d ++ c :: r).set d.length x = _
    rw [set_mid c x r d]
    rfl
theorem set_mid2 (c y x : Int) (r : List Int) : ∀ done : List Int, (done ++ c :: y :: r).set (done.length + 1) x = done ++ c :: x :: r
  | [] => rfl
  | a :: d => by
    show a :: (d ++ c :: y :: r).set (d.length + 1) x = _
    rw [set_mid2 c y x r d]
    rfl
theorem ex_step {t : D} {done rest : List Int} {c y m : Int} {s3 s4 : Sl} (n4 : nio s4) {k : Nat} (hk : done.length = k) :
    (bnd (gN 4 (.int (0 + (k : Int) * 1))) fun _ => o__law_exchanges_1) [.sh t, .ow (zl (done ++ c :: y :: rest)), .sh (.int m), s3, s4] =
      .ok .next [.sh t, .ow (zl (if y < c then done ++ y :: c :: rest else done ++ c :: y :: rest)), .sh (.int (if y < c then m + 1 else m)), s3, .sh (.int (0 + (k : Int) * 1))] := by
  subst hk
  have e1 : fIx (.lst (zl (done ++ c :: y :: rest))) (.int (done.length : Int)) = some (.int c) := fIx_lst (by omega) (by rw [Int.toNat_natCast]; exact get_mid c _ done)
  have e2 : fIx (.lst (zl (done ++ c :: y :: rest))) (.int ((done.length : Int) + 1)) = some (.int y) := fIx_lst (by omega) (by rw [show ((done.length : Int) + 1).toNat = done.length + 1 by omega]; exact get_mid2 c y _ done)
  have e3 : ixN (zl (done ++ c :: y :: rest)).length (done.length : Int) = some done.length := by
    unfold ixN
    rw [zl_length, List.length_append, if_pos (by omega), if_pos (by simp; omega), Int.toNat_natCast]
  have e4 : ixN (zl (done ++ y :: y :: rest)).length ((done.length : Int) + 1) = some (done.length + 1) := by
    unfold ixN
    rw [zl_length, List.length_append, if_pos (by omega), if_pos (by simp; omega), show ((done.length : Int) + 1).toNat = done.length + 1 by omega]
  have e5 : (zl (done ++ c :: y :: rest)).set done.length (.int y) = zl (done ++ y :: y :: rest) := by rw [zl_set, set_mid]
  have e6 : (zl (done ++ y :: y :: rest)).set (done.length + 1) (.int c) = zl (done ++ y :: c :: rest) := by rw [zl_set, set_mid2]
  by_cases h : y < c
  · rw [if_pos h, if_pos h]
    generalize zl (done ++ y :: c :: rest) = r3 at e6
    generalize zl (done ++ c :: y :: rest) = r1 at e1 e2 e3 e5
    generalize zl (done ++ y :: y :: rest) = r2 at e4 e5 e6
    simp [o__law_exchanges_1, n4, mVar, d2, deref, Sl.owned, e1, fAdd, e2, fGt, h, gIx, e3, Sl.wr, e5, e4, e6, size_le]
  · rw [if_neg h, if_neg h]
    generalize zl (done ++ c :: y :: rest) = r1 at e1 e2 e3 e5
    simp [o__law_exchanges_1, n4, mVar, d2, deref, Sl.owned, e1, fAdd, e2, fGt, h]
theorem ex_pass {t : D} {l : List Int} {m : Int} {s3 s4 : Sl} (n4 : nio s4) (h1 : 1 ≤ l.length) (h2 : l.length ≤ 60) : ∃ m' s4', o__law_exchanges_2 [.sh t, .ow (zl l), .sh (.int m), s3, s4] = .ok .next [.sh t, .ow (zl (bubs l)), .sh (.int m'), s3, s4'] ∧ nio s4' ∧ (inv (bubs l) : Int) + m' = inv l + m := by
  obtain ⟨S', e1, done, c, rest, m', s4', rfl, n4', hd, hb, hi, hl⟩ := forL_run (g := gN 4) (body := o__law_exchanges_1) (fun k S => ∃ (done : List Int) (c : Int) (rest : List Int) (m' : Int) (s4' : Sl), S = [.sh t, .ow (zl (done ++ c :: rest)), .sh (.int m'), s3, s4'] ∧ nio s4' ∧ done.length = k ∧ done ++ bub c rest = bubs l ∧ (inv (done ++ c :: rest) : Int) + m' = inv l + m ∧ done.length + rest.length + 1 = l.length)
    (ds := rngD 0 1 (l.length - 1)) (S0 := [.sh t, .ow (zl l), .sh (.int m), s3, s4]) (by
      cases l with
      | nil => simp at h1
      | cons c rest => exact ⟨[], c, rest, m, s4, rfl, n4, rfl, rfl, rfl, by simp⟩) (fun k d S hd ⟨done, c, rest, m', s4', e, n4', hdl, hb, hi, hl⟩ => by
      subst e
      obtain ⟨hk, rfl⟩ := rngD_get hd
      cases rest with
      | nil => simp at hl; omega
      | cons y rest =>
        have e1 := ex_step (t := t) (done := done) (rest := rest) (c := c) (y := y) (m := m') (s3 := s3) n4' hdl
        by_cases h : y < c
        · rw [if_pos h, if_pos h] at e1
          refine ⟨.next, _, e1, .inl rfl, done ++ [y], c, rest, m' + 1, .sh (.int (0 + (k : Int) * 1)), by rw [List.append_assoc]; rfl, trivial, by simp; omega, ?_, ?_, by simp at hl ⊢; omega⟩
          · rw [← hb, bub, if_pos h, List.append_assoc]; rfl
          · have := inv_swap h rest done
            rw [List.append_assoc]
            show (inv (done ++ y :: c :: rest) : Int) + (m' + 1) = _
            omega
        · rw [if_neg h, if_neg h] at e1
          refine ⟨.next, _, e1, .inl rfl, done ++ [c], y, rest, m', .sh (.int (0 + (k : Int) * 1)), by rw [List.append_assoc]; rfl, trivial, by simp; omega, ?_, ?_, by simp at hl ⊢; omega⟩
          · rw [← hb, bub, if_neg h, List.append_assoc]; rfl
          · rw [List.append_assoc]
            exact hi)
  rw [rngD_length] at hd
  have er : rest = [] := List.length_eq_zero_iff.mp (by omega)
  subst er
  have hb : done ++ [c] = bubs l := hb
  rw [hb] at e1 hi
  refine ⟨m', s4', ?_, n4', hi⟩
  have hr : fRng1 [.int ((l.length : Int) - 1)] = some (rngD 0 1 (l.length - 1)) := by rw [fRng1_ok (by omega) (by omega), show ((l.length : Int) - 1).toNat = l.length - 1 by omega]
  have hI : iArgs (aCons (m2 (d2 fSub) (mB bLen (aCons (mVar 1) aNil)) (mC (.int 1))) aNil) fRng1 [.sh t, .ow (zl l), .sh (.int m), s3, s4] = .ok (rngD 0 1 (l.length - 1)) [.sh t, .ow (zl l), .sh (.int m), s3, s4] :=
    iArgs_ok (xs := [.val (.int ((l.length : Int) - 1))]) (S1 := [.sh t, .ow (zl l), .sh (.int m), s3, s4]) (ds := [.int ((l.length : Int) - 1)]) (by simp [mVar, bLen, fSub, derefs, deref, Sl.owned]) (by simp) hr
  show (mFor _ _ _) _ = _
  rw [mFor_ap, hI, bind_ok, e1]
theorem bubs_length (l : List Int) : (bubs l).length = l.length := by
  cases l with
  | nil => rfl
  | cons x l => exact bub_length l x
theorem law_exchanges {n : Nat} {l : List Int} (h : Turn n l) (h1 : 1 ≤ n) (h2 : n ≤ 60) : m__law_exchanges [.sh (T l)] = .ok (.int (inv l)) [.sh (T l)] := by
  have hl := h.len
  obtain ⟨S', e1, row, m, s3, s4, rfl, n3, n4, hrl, hb, hi⟩ := forL_run (g := gN 3) (body := o__law_exchanges_2) (fun i S => ∃ (row : List Int) (m : Int) (s3 s4 : Sl), S = [.sh (T l), .ow (zl row), .sh (.int m), s3, s4] ∧ nio s3 ∧ nio s4 ∧ row.length = n ∧ bubN (n - i) row = bubN n l ∧ (inv row : Int) + m = inv l)
    (ds := rngD 0 1 n) (S0 := [.sh (T l), .ow (zl l), .sh (.int 0), .un, .un]) ⟨l, 0, .un, .un, rfl, trivial, trivial, hl, rfl, by omega⟩ (fun i d S hd ⟨row, m, s3, s4, e, n3, n4, hrl, hb, hi⟩ => by
      subst e
      obtain ⟨hk, rfl⟩ := rngD_get hd
      obtain ⟨m', s4', e1, n4', hi'⟩ := ex_pass (t := T l) (l := row) (m := m) (s3 := .sh (.int (0 + (i : Int) * 1))) n4 (by omega) (by omega)
      refine ⟨.next, [.sh (T l), .ow (zl (bubs row)), .sh (.int m'), .sh (.int (0 + (i : Int) * 1)), s4'], ?_, .inl rfl, bubs row, m', .sh (.int (0 + (i : Int) * 1)), s4', rfl, trivial, n4', by rw [bubs_length, hrl], ?_, by omega⟩
      · rw [bnd_ap, gN_succ, gN_succ, gN_succ, gN_zero n3]
        exact e1
      · rw [← hb, show n - i = (n - (i + 1)) + 1 by omega, bubN])
  rw [rngD_length] at hb
  rw [Nat.sub_self, bubN] at hb
  have hs := bubN_sorted n l [] hl List.Pairwise.nil (fun _ _ _ z => nomatch z)
  rw [List.append_nil, ← hb] at hs
  have h0 := inv_sorted hs
  have em : m = inv l := by omega
  subst em
  have hr : fRng1 [.int (n : Int)] = some (rngD 0 1 n) := by rw [fRng1_ok (by omega) (by omega), Int.toNat_natCast]
  have hI : iArgs (aCons (mB bLen (aCons (mVar 1) aNil)) aNil) fRng1 [.sh (T l), .ow (zl l), .sh (.int 0), .un, .un] = .ok (rngD 0 1 n) [.sh (T l), .ow (zl l), .sh (.int 0), .un, .un] :=
    iArgs_ok (xs := [.val (.int (n : Int))]) (S1 := [.sh (T l), .ow (zl l), .sh (.int 0), .un, .un]) (ds := [.int (n : Int)]) (by simp [mVar, bLen, derefs, deref, Sl.owned, hl]) (by simp) hr
  have hbd : b__law_exchanges [.sh (T l), .un, .un, .un, .un] = .ok (.ret (.int (inv l))) [.sh (T l), .ow (zl row), .sh (.int (inv l)), s3, s4] := by
    unfold b__law_exchanges
    simp [mVar, nB, nList, hI, e1]
  exact defN (n := 5) (b := b__law_exchanges) (P := [.sh (T l)]) rfl hbd
end G
set_option maxHeartbeats 4000000
set_option exponentiation.threshold 2000
namespace G
open PySem PySem.Spec PyProof.Rows L2 Z M3
variable [Z.LT]
/-! ### what the law asks of turns, plainly -/
theorem next_facts {n : Nat} {l : List Int} (h : Turn n l) : (nextT l = .non ∧ num l = fac n - 1) ∨ ∃ l', nextT l = T l' ∧ Turn n l' ∧ num l' = num l + 1 := by
  cases q : rise l with
  | none =>
    left
    have := (rise_none h.nodup q).2
    rw [h.len] at this
    exact ⟨by unfold nextT; rw [q], this⟩
  | some i =>
    right
    obtain ⟨x, o, k1, k2, k3, k4, k5⟩ := num_behind h.nodup q
    obtain ⟨k6, k7⟩ := k5 (sortI ((l.drop i).erase o)) (sortI_perm _) (sortI_sorted _)
    exact ⟨l.take i ++ o :: sortI ((l.drop i).erase o), by unfold nextT; rw [q]; simp only [k1, k3], ⟨k7.trans h.perm⟩, k6⟩
theorem mirror_iota (n : Nat) : ((iota n).map fun y => (n : Int) - 1 - y).Perm (iota n) := by
  have e : ((iota n).map fun y => (n : Int) - 1 - y) = (iota n).reverse := by
    apply List.ext_getElem?
    intro i
    rw [List.getElem?_map]
    by_cases hi : i < n
    · rw [List.getElem?_reverse (by rw [iota_length]; exact hi), iota_length]
      unfold iota
      rw [List.getElem?_map, List.getElem?_map, List.getElem?_range hi, List.getElem?_range (by omega)]
      simp only [Option.map_some]
      congr 1
      omega
    · rw [List.getElem?_eq_none (by rw [iota_length]; omega), List.getElem?_eq_none (by rw [List.length_reverse, iota_length]; omega)]
      rfl
  rw [e]
  exact List.reverse_perm _
theorem mirror_facts {n : Nat} {l : List Int} (h : Turn n l) : Turn n (l.map fun y => (n : Int) - 1 - y) ∧ num (l.map fun y => (n : Int) - 1 - y) = fac n - 1 - num l ∧ (inv (l.map fun y => (n : Int) - 1 - y) : Int) = (n : Int) * ((n : Int) - 1) / 2 - inv l := by
  refine ⟨⟨(h.perm.map _).trans (mirror_iota n)⟩, ?_, ?_⟩
  · have := num_mirror ((n : Int) - 1) l h.nodup
    rw [h.len] at this
    omega
  · have := inv_mirror ((n : Int) - 1) l h.nodup
    rw [h.len] at this
    have e := tri_eq n
    omega
theorem join_facts {n : Nat} {l m : List Int} (hl : Turn n l) (hm : Turn n m) : Turn n (m.map (at0 l)) ∧ (((inv (m.map (at0 l)) : Int) - inv l - inv m) % 2 = 0) := by
  have e1 : (iota n).map (at0 l) = l := by have := map_at0 l; rw [hl.len] at this; exact this
  refine ⟨⟨?_⟩, ?_⟩
  · have := hm.perm.map (at0 l)
    rw [e1] at this
    exact this.trans hl.perm
  · have hf : ∀ x ∈ m, ∀ y ∈ m, at0 l x = at0 l y → x = y := fun x hx y hy e => by
      obtain ⟨x0, x1⟩ := hm.mem.mp hx
      obtain ⟨y0, y1⟩ := hm.mem.mp hy
      have hx := List.getElem?_eq_getElem (l := l) (i := x.toNat) (by rw [hl.len]; omega)
      have hy := List.getElem?_eq_getElem (l := l) (i := y.toNat) (by rw [hl.len]; omega)
      have e2 : l[x.toNat]? = l[y.toNat]? := by
        unfold at0 at e
        rw [hx, hy] at e
        rw [hx, hy]
        exact congrArg some e
      have := (List.getElem?_inj (by rw [hl.len]; omega) hl.nodup).mp e2
      omega
    have p := par_perm (f := at0 l) hm.perm hm.nodup hf
    rw [e1, inv_sorted (iota_sorted n)] at p
    omega
theorem dec_turn {n : Nat} {k : Int} (h0 : 0 ≤ k) (hk : k < fac n) : Turn n (dec n (iota n) k) ∧ num (dec n (iota n) k) = k := by
  obtain ⟨p, q⟩ := dec_ok n (iota n) k (iota_length n) (iota_lt n) h0 hk
  exact ⟨⟨p⟩, q⟩
/-! ### alike: the things that the law holds against each other -/
theorem lk_int {n : Nat} (i : Int) : Lk (n + 1) (.int i) := .flat (.inr (.inr (.inl rfl))) (pl_int i)
theorem lk_non {n : Nat} : Lk (n + 1) .non := .flat (.inl rfl) pl_non
theorem lk_bl {n : Nat} (b : Bool) : Lk (n + 1) (.bl b) := .flat (.inr (.inl rfl)) (pl_bl b)
theorem lk_T {n : Nat} {l : List Int} (h : l.length ≤ 1000000) : Lk (n + 2) (T l) := .tup (fun d hd => by
  obtain ⟨i, _, rfl⟩ := List.mem_map.mp hd
  exact lk_int i) (by rw [zl_length]; exact h)
theorem lk_TT {n k : Nat} {rs : List (List Int)} (h : ∀ r ∈ rs, r.length ≤ 1000000) (h2 : rs.length ≤ 1000000) : Lk (n + 3) (TT rs) := .tup (fun d hd => by
  obtain ⟨r, hr, rfl⟩ := List.mem_map.mp hd
  exact lk_T (h r hr)) (by rw [List.length_map]; exact h2)
/-! ### steps -/
theorem seq_ok {m n : M Fl} {S S1 : Fr} (h : m S = .ok .next S1) : mSeq m n S = n S1 := by rw [mSeq_ap, h, bind_ok]
theorem if_no {t : M Bool} {m n : M Fl} {S S1 : Fr} (h : t S = .ok false S1) : mIfS t m n S = n S1 := by rw [mIfS_ap, h, bind_ok]; rfl
theorem not_t {t : M Bool} {S S1 : Fr} (h : t S = .ok true S1) : mNot t S = .ok false S1 := by rw [mNot_ap, h]; rfl
theorem toB_t {m : M Vx} {b : Bool} {S S1 : Fr} (h : m S = .ok (.val (.bl b)) S1) : toB m S = .ok b S1 := by rw [toB_ap, h]; rfl
theorem like_call {ma mb : M Vx} {S S1 S2 : Fr} {d : D} (ha : ma S = .ok (.val d) S1) (hb : mb S1 = .ok (.val d) S2) (h : Lk 12 d) : mCallN 2 (m__law_like 12) (aCons ma (aCons mb aNil)) S = .ok (.val (.bl true)) S2 := by
  have e := like_self h
  simp [ha, hb, e]
/-- the test of a likeness answers no -/
theorem like_no {ma mb : M Vx} {S S1 S2 : Fr} {d : D} {m n : M Fl} (ha : ma S = .ok (.val d) S1) (hb : mb S1 = .ok (.val d) S2) (h : Lk 12 d) : mIfS (mNot (toB (mCallN 2 (m__law_like 12) (aCons ma (aCons mb aNil))))) m n S = n S2 := if_no (not_t (toB_t (like_call ha hb h)))
theorem like_at {ma mb : M Vx} {S : Fr} {d : D} {m : M Fl} (ha : ma S = .ok (.val d) S) (hb : mb S = .ok (.val d) S) (h : Lk 12 d) : mIfS (mNot (toB (mCallN 2 (m__law_like 12) (aCons ma (aCons mb aNil))))) m mSkip S = .ok .next S := like_no ha hb h
theorem no_at {t : M Bool} {m : M Fl} {S : Fr} (h : t S = .ok false S) : mIfS t m mSkip S = .ok .next S := if_no h
theorem rep_lst {xs : List D} {k : Int} (h0 : 0 ≤ k) (h1 : k ≤ 100000) (h2 : xs.length ≤ 100) : fMulT (.lst xs) (.int k) = some (.lst (List.replicate k.toNat xs).flatten) := by
  show (if 0 ≤ k ∧ k ≤ 100000 ∧ xs.length ≤ 100 then some (D.lst (List.replicate k.toNat xs).flatten) else none) = _
  rw [if_pos ⟨h0, h1, h2⟩]
end G
set_option maxHeartbeats 4000000
set_option exponentiation.threshold 2000
namespace G
open PySem PySem.Spec PyProof.Rows L2 Z M3
variable [Z.LT]
/-! ### a round over turns -/
theorem tr_mirror {n : Nat} {l : List Int} {s0 s3 s4 s5 s6 s7 s8 s9 s10 s11 s12 s13 : Sl} (n13 : nio s13) (h : l.length ≤ 60) :
    n__law_turns_right_1 [s0, .sh (.int n), .sh (T l), s3, s4, s5, s6, s7, s8, s9, s10, s11, s12, s13] = .ok (zl (l.map fun y => (n : Int) - 1 - y)) [s0, .sh (.int n), .sh (T l), s3, s4, s5, s6, s7, s8, s9, s10, s11, s12, s13] := by
  have := nLc_map (v := 13) (mi := iOf (mVar 2) isAny) (e := m2 (d2 fSub) (m2 (d2 fSub) (mVar 1) (mC (.int 1))) (mVar 13)) (F := [s0, .sh (.int n), .sh (T l), s3, s4, s5, s6, s7, s8, s9, s10, s11, s12, s13]) (s := s13) (fun y => D.int ((n : Int) - 1 - y)) (l := l) (by simp [mVar, isAny]) rfl (fun i hi => by simp [mVar, fSub]) (by omega)
  refine this.trans ?_
  unfold zl
  rw [List.map_map]
  rfl
theorem told_bad {n : Nat} {v : D} {F : Fr} (h1 : 1 ≤ n) (hn : n ≤ 60) (e1 : F[1]? = some (.sh (.int n))) (e12 : F[12]? = some .un) (h : m_is_whole [.sh v, .sh (.int 0), .sh (.int (fac n - 1))] = .ok (.bl false) [.sh v, .sh (.int 0), .sh (.int (fac n - 1))]) :
    lcStep [12] (gN 12) (ret true) (mTold tf__law_error tl__law_error (mCallN 2 m_turn_of_number (aCons (mVar 1) (aCons (mVar 12) aNil)))) v F = .ok (some (.str "number")) F := by
  obtain ⟨S', e2⟩ := turn_of_number_bad h1 hn h
  have e3 : mCallN 2 m_turn_of_number (aCons (mVar 1) (aCons (mVar 12) aNil)) (F.set 12 (.sh v)) = .exc ⟨"InvalidNumber", none⟩ (F.set 12 (.sh v)) := by
    have a1 : mVar 1 (F.set 12 (.sh v)) = .ok (.val (.int n)) (F.set 12 (.sh v)) := mVar_sh (by rw [List.getElem?_set_ne (by omega)]; exact e1)
    have a2 : mVar 12 (F.set 12 (.sh v)) = .ok (.val v) (F.set 12 (.sh v)) := mVar_sh (get_set e12)
    simp [a1, a2, e2]
  have e4 : mTold tf__law_error tl__law_error (mCallN 2 m_turn_of_number (aCons (mVar 1) (aCons (mVar 12) aNil))) (F.set 12 (.sh v)) = .ok (.val (.str "number")) (F.set 12 (.sh v)) := by
    unfold mTold
    rw [e3]
    rfl
  unfold lcStep
  rw [bnd_ap, gN_nio e12 nio_un, bind_ok, bnd_ap, ret_ap, bind_ok, if_pos rfl, bnd_ap, e4, bind_ok, bnd_ap, esc_val, bind_ok, bnd_ap]
  show Res.ok (some _) ((F.set 12 _).set 12 .un) = _
  rw [set_un e12]
theorem tr_words {n : Nat} {s0 s2 s3 s4 s6 s7 s8 s9 s10 s11 s12 s13 : Sl} (n12 : nio s12) (h1 : 1 ≤ n) (h2 : n ≤ 60) :
    n__law_turns_right_2 [s0, .sh (.int n), s2, s3, s4, .sh (.int (fac n)), s6, s7, s8, s9, s10, s11, s12, s13] = .ok (List.replicate 6 (.str "number")) [s0, .sh (.int n), s2, s3, s4, .sh (.int (fac n)), s6, s7, s8, s9, s10, s11, s12, s13] := by
  have hp := fac_pos n
  have hm : fMul (.int (fac n)) (.int 60) = some (.int (fac n * 60)) := fMul_int (fac_small (by omega)) (small_log (by omega) (by omega))
  have hw : ∀ v ∈ [D.int (fac n), .int (-1), .int (fac n * 60), .bl true, .non, .str "0"], m_is_whole [.sh v, .sh (.int 0), .sh (.int (fac n - 1))] = .ok (.bl false) [.sh v, .sh (.int 0), .sh (.int (fac n - 1))] := by
    intro v hv
    simp only [List.mem_cons, List.not_mem_nil, or_false] at hv
    rcases hv with rfl | rfl | rfl | rfl | rfl | rfl
    · rw [whole_int, decide_eq_false (by omega)]
    · rw [whole_int, decide_eq_false (by omega)]
    · rw [whole_int, decide_eq_false (by omega)]
    · rw [whole_bl]
    · rw [whole_non]
    · rw [whole_str]
  have e := lcL_fm (vs := [12]) (g := gN 12) (t := ret true) (e := mTold tf__law_error tl__law_error (mCallN 2 m_turn_of_number (aCons (mVar 1) (aCons (mVar 12) aNil)))) (F := [s0, .sh (.int n), s2, s3, s4, .sh (.int (fac n)), s6, s7, s8, s9, s10, s11, .un, s13]) id (fun _ => some (.str "number")) (as := [D.int (fac n), .int (-1), .int (fac n * 60), .bl true, .non, .str "0"]) (fun v hv => told_bad h1 h2 rfl rfl (hw v hv))
  have hi : iOf (mTup (aCons (mVar 5) (aCons (m1 fNeg (mC (.int 1))) (aCons (m2 (d2 fMulT) (mVar 5) (mC (.int 60))) (aCons (mC (.bl true)) (aCons (mC .non) (aCons (mC (.str "0")) aNil))))))) isAny [s0, .sh (.int n), s2, s3, s4, .sh (.int (fac n)), s6, s7, s8, s9, s10, s11, s12, s13] = .ok [D.int (fac n), .int (-1), .int (fac n * 60), .bl true, .non, .str "0"] [s0, .sh (.int n), s2, s3, s4, .sh (.int (fac n)), s6, s7, s8, s9, s10, s11, s12, s13] := by
    generalize fac n = B at hm
    generalize B * 60 = B60 at hm
    simp [mVar, fNeg, fMulT, hm, isAny, size_le]
  rw [List.map_id] at e
  have := nLc_ok (vs := [12]) (g := gN 12) (t := ret true) (mi := iOf (mTup (aCons (mVar 5) (aCons (m1 fNeg (mC (.int 1))) (aCons (m2 (d2 fMulT) (mVar 5) (mC (.int 60))) (aCons (mC (.bl true)) (aCons (mC .non) (aCons (mC (.str "0")) aNil))))))) isAny) hi e (size_le (by simp))
  refine this.trans ?_
  rfl
theorem eq_words (k : Nat) : fEq (.lst (List.replicate k (.str "number"))) (.lst (List.replicate k (.str "number"))) = some (.bl true) := by
  have hp : Pl 1 (.lst (List.replicate k (.str "number"))) := pl_lst fun d hd => by
    rw [(List.mem_replicate.mp hd).2]
    exact ⟨by decide +kernel, Nat.le_refl _⟩
  unfold fEq
  rw [if_pos ⟨hp.shp (by omega), hp.shp (by omega)⟩, deq_refl hp]
theorem tr_some {xs : List D} {n : Nat} {s1 s2 s3 s4 s6 s7 s8 s9 s10 s11 s12 s13 : Sl} (c : Cup xs) (hn : n ≤ 60) : ∃ (o : Int) (ys : List D),
    mCall1N 2 m__law_some (aCons (mVar 0) (aCons (mLst (aCons (mC (.int 0)) (aCons (mC (.int 1)) (aCons (m2 (d2 fSub) (mVar 5) (mC (.int 1))) (aCons (m2 (d2 fDiv) (mVar 5) (mC (.int 2))) (aCons (mIf (toB (m2 (d2 fGt) (mVar 5) (mC (.int 1)))) (m2 (d2 fSub) (mVar 5) (mC (.int 2))) (mC (.int 0))) aNil)))))) aNil))
      [.io xs, s1, s2, s3, s4, .sh (.int (fac n)), s6, s7, s8, s9, s10, s11, s12, s13] = .ok (.val (.int o)) [.io ys, s1, s2, s3, s4, .sh (.int (fac n)), s6, s7, s8, s9, s10, s11, s12, s13] ∧ Cup ys := by
  have hd : fDiv (.int (fac n)) (.int 2) = some (.int (fac n / 2)) := fDiv_ok (by omega) (by
    have h : (2 : Int).natAbs < 2 ^ (8 + 1) := by decide
    have := log_lt h
    omega)
  have key : ∀ x : Int, mIf (toB (m2 (d2 fGt) (mVar 5) (mC (.int 1)))) (m2 (d2 fSub) (mVar 5) (mC (.int 2))) (mC (.int 0)) [.io xs, s1, s2, s3, s4, .sh (.int (fac n)), s6, s7, s8, s9, s10, s11, s12, s13] = .ok (.val (.int x)) [.io xs, s1, s2, s3, s4, .sh (.int (fac n)), s6, s7, s8, s9, s10, s11, s12, s13] → ∃ (o : Int) (ys : List D),
    mCall1N 2 m__law_some (aCons (mVar 0) (aCons (mLst (aCons (mC (.int 0)) (aCons (mC (.int 1)) (aCons (m2 (d2 fSub) (mVar 5) (mC (.int 1))) (aCons (m2 (d2 fDiv) (mVar 5) (mC (.int 2))) (aCons (mIf (toB (m2 (d2 fGt) (mVar 5) (mC (.int 1)))) (m2 (d2 fSub) (mVar 5) (mC (.int 2))) (mC (.int 0))) aNil)))))) aNil))
      [.io xs, s1, s2, s3, s4, .sh (.int (fac n)), s6, s7, s8, s9, s10, s11, s12, s13] = .ok (.val (.int o)) [.io ys, s1, s2, s3, s4, .sh (.int (fac n)), s6, s7, s8, s9, s10, s11, s12, s13] ∧ Cup ys := fun x hx => by
    obtain ⟨d, ys, e1, hd', c2⟩ := some_ (ds := [.int 0, .int 1, .int (fac n - 1), .int (fac n / 2), .int x]) c (by simp) (by simp)
    obtain ⟨o, rfl⟩ : ∃ o : Int, d = .int o := by
      simp only [List.mem_cons, List.not_mem_nil, or_false] at hd'
      rcases hd' with rfl | rfl | rfl | rfl | rfl <;> exact ⟨_, rfl⟩
    refine ⟨o, ys, ?_, c2⟩
    generalize fac n / 2 = B2 at *
    generalize fac n = B at *
    simp [mCall1N, -mIf_ap, hx, mVar, fSub, hd, call1, Sl.owned, Sl.wr, e1, size_le]
  by_cases h : 1 < fac n
  · exact key (fac n - 2) (by
      generalize fac n = B at *
      simp [mVar, fGt, h, fSub])
  · exact key 0 (by
      generalize fac n = B at *
      simp [mVar, fGt, h])
end G
set_option maxHeartbeats 4000000
set_option exponentiation.threshold 2000
namespace G
open PySem PySem.Spec PyProof.Rows L2 Z M3
variable [Z.LT]
theorem tr_many {xs : List D} (c : Cup xs) : ∃ (n : Nat) (ys : List D), mSet 1 (xV (mCall1N 2 m__law_some (aCons (mVar 0) (aCons (mLst (aCons (mC (.int 1)) (aCons (mC (.int 2)) (aCons (mC (.int 3)) (aCons (mC (.int 5)) (aCons (mC (.int 12)) (aCons (mC (.int 20)) (aCons (mC (.int 21)) (aCons (mC (.int 22)) (aCons (mC (.int 59)) (aCons (mC (.int 60)) aNil))))))))))) aNil))))
    [.io xs, .un, .un, .un, .un, .un, .un, .un, .un, .un, .un, .un, .un, .un] = .ok .next [.io ys, .sh (.int n), .un, .un, .un, .un, .un, .un, .un, .un, .un, .un, .un, .un] ∧ 1 ≤ n ∧ n ≤ 60 ∧ Cup ys := by
  obtain ⟨d, ys, e1, hd, c2⟩ := some_ (ds := [.int 1, .int 2, .int 3, .int 5, .int 12, .int 20, .int 21, .int 22, .int 59, .int 60]) c (by simp) (by simp)
  obtain ⟨n, rfl, h1, h2⟩ : ∃ n : Nat, d = .int n ∧ 1 ≤ n ∧ n ≤ 60 := by
    simp only [List.mem_cons, List.not_mem_nil, or_false] at hd
    rcases hd with rfl | rfl | rfl | rfl | rfl | rfl | rfl | rfl | rfl | rfl
    · exact ⟨1, rfl, by omega, by omega⟩
    · exact ⟨2, rfl, by omega, by omega⟩
    · exact ⟨3, rfl, by omega, by omega⟩
    · exact ⟨5, rfl, by omega, by omega⟩
    · exact ⟨12, rfl, by omega, by omega⟩
    · exact ⟨20, rfl, by omega, by omega⟩
    · exact ⟨21, rfl, by omega, by omega⟩
    · exact ⟨22, rfl, by omega, by omega⟩
    · exact ⟨59, rfl, by omega, by omega⟩
    · exact ⟨60, rfl, by omega, by omega⟩
  exact ⟨n, ys, by simp [mCall1N, mVar, call1, Sl.owned, Sl.wr, e1, size_le], h1, h2, c2⟩
theorem next_len {n : Nat} {l : List Int} (h : Turn n l) {k : Nat} (hn : n ≤ 60) : Lk (k + 2) (nextT l) := by
  rcases next_facts h with ⟨e, _⟩ | ⟨l', e, h', _⟩
  · rw [e]; exact lk_non
  · rw [e]; exact lk_T (by rw [h'.len]; omega)
theorem turns_right {xs : List D} (c : Cup xs) : ∃ ys, m__law_turns_right [.io xs] = .ok (.bl true) [.io ys] ∧ Cup ys := by
  obtain ⟨n, x1, q1, h1, h2, c1⟩ := tr_many c
  obtain ⟨l, x2, q2, hl, c2⟩ := law_turn c1 h1 h2
  obtain ⟨hm, hm2, hm3⟩ := mirror_facts hl
  have hll := hl.len
  obtain ⟨n0, n1⟩ := num_lt l
  rw [hll] at n1
  have fp := fac_pos n
  have p1 := law_number hl h2
  have p2 := law_behind hl h1 h2
  have p3 := law_times h2
  have p4 := turn_number hl h1 h2
  have p5 := turn_of_number h1 h2 n0 n1
  rw [dec_num n (iota n) l (iota_length n) (iota_lt n) hl.perm] at p5
  have p6 := turn_behind hl h1 h2
  have p7 := turn_exchanges hl h1 h2
  have p8 := turn_back hl h1 h2
  obtain ⟨hb, hb2⟩ := back_facts hl
  have p9 := turn_exchanges hb h1 h2
  rw [hb2] at p9
  have p10 := law_exchanges hl h1 h2
  have p11 := turn_number hm h1 h2
  have p12 := turn_exchanges hm h1 h2
  have w0 := size_le (n := 5) (by omega)
  obtain ⟨o, x3, q3, c3⟩ := tr_some (s1 := .sh (.int n)) (s2 := .sh (T l)) (s3 := .sh (.int (num l))) (s4 := .sh (nextT l)) (s6 := .sh (.lst [.int (num l), T l, nextT l, .int (inv l), .int (inv l)])) (s7 := .sh (T (l.map fun y => (n : Int) - 1 - y))) (s8 := .un) (s9 := .un) (s10 := .un) (s11 := .un) (s12 := .un) (s13 := .un) c2 h2
  have o0 : 0 ≤ o % fac n := Int.emod_nonneg _ (by omega)
  have o1 : o % fac n < fac n := Int.emod_lt_of_pos _ fp
  obtain ⟨hf, hf2⟩ := dec_turn o0 o1
  have p13 := turn_of_number h1 h2 o0 o1
  have p14 := law_number hf h2
  rw [hf2] at p14
  have p15 := q5 hf
  have p16 : fMod (.int o) (.int (fac n)) = some (.int (o % fac n)) := fMod_ok fp
  generalize hfar : dec n (iota n) (o % fac n) = far at hf hf2 p13 p14 p15
  have p17 := turn_joined hl hf h1 h2
  obtain ⟨hj, hj2⟩ := join_facts hl hf
  have p18 := turn_exchanges hj h1 h2
  have p19 := turn_exchanges hf h1 h2
  have hN : ∀ S : Fr, S[1]? = some (.sh (.int n)) → nRgL (mRg1 (mVar 1)) S = .ok (zl (iota n)) S := fun S hS => by
    have e3 := nRgL_ok (m := mRg1 (mVar 1)) (S := S) (S1 := S) (a := 0) (b := n) (by simp [mRg1, mVar_sh hS]) (RgOk.of_le (by omega) (by omega) (by omega) (by omega))
    rw [show ((n : Int) - 0).toNat = n by omega, rng_iota] at e3
    exact e3
  have p20 : fNe (.lst (zl (iota n))) (.lst (zl (iota n))) = some (.bl false) := by
    unfold fNe
    rw [if_pos ⟨(pl_lst pl_zl).shp (by omega), (pl_lst pl_zl).shp (by omega)⟩, deq_refl (pl_lst pl_zl)]
    rfl
  have p21 : fMul (.int n) (.int ((n : Int) - 1)) = some (.int ((n : Int) * ((n : Int) - 1))) := fMul_int (small_log (by omega) (by omega)) (small_log (by omega) (by omega))
  have p22 : fDiv (.int ((n : Int) * ((n : Int) - 1))) (.int 2) = some (.int ((n : Int) * ((n : Int) - 1) / 2)) := fDiv_ok (by omega) (by
    have h : (2 : Int).natAbs < 2 ^ (8 + 1) := by decide
    have := log_lt h
    omega)
  suffices hb : ∃ ys S', b__law_turns_right [.io xs, .un, .un, .un, .un, .un, .un, .un, .un, .un, .un, .un, .un, .un] = .ok (.ret (.bl true)) (.io ys :: S') ∧ Cup ys by
    obtain ⟨ys, S', hb, cy⟩ := hb
    exact ⟨ys, defN (n := 14) (b := b__law_turns_right) (P := [.io xs]) rfl hb, cy⟩
  refine ⟨x3, [.sh (.int n), .sh (T l), .sh (.int (num l)), .sh (nextT l), .sh (.int (fac n)), .sh (.lst [.int (num l), T l, nextT l, .int (inv l), .int (inv l)]), .sh (T (l.map fun y => (n : Int) - 1 - y)), .sh (.int o), .sh (T far), .sh (.lst (List.replicate 6 (.str "number"))), .sh (T (far.map (at0 l))), .un, .un], ?_, c3⟩
  generalize hN' : nextT l = nx at *
  have lkn : Lk 11 nx := by rw [← hN']; exact next_len hl h2
  unfold b__law_turns_right
  refine (seq_ok q1).trans ?_
  refine (seq_ok (S1 := [.io x2, .sh (.int n), .sh (T l), .un, .un, .un, .un, .un, .un, .un, .un, .un, .un, .un]) (by simp [mCall1N, mVar, call1, Sl.owned, Sl.wr, q2])).trans ?_
  refine (seq_ok (S1 := [.io x2, .sh (.int n), .sh (T l), .sh (.int (num l)), .sh nx, .sh (.int (fac n)), .un, .un, .un, .un, .un, .un, .un, .un]) (by simp [mVar, p1, p2, p3])).trans ?_
  refine (seq_ok (S1 := [.io x2, .sh (.int n), .sh (T l), .sh (.int (num l)), .sh nx, .sh (.int (fac n)), .sh (.lst [.int (num l), T l, nx, .int (inv l), .int (inv l)]), .un, .un, .un, .un, .un, .un, .un]) (by simp [mVar, p4, p5, p6, p7, p8, p9, w0])).trans ?_
  refine (seq_ok (S1 := [.io x2, .sh (.int n), .sh (T l), .sh (.int (num l)), .sh nx, .sh (.int (fac n)), .sh (.lst [.int (num l), T l, nx, .int (inv l), .int (inv l)]), .un, .un, .un, .un, .un, .un, .un]) (like_at (d := .lst [.int (num l), T l, nx, .int (inv l), .int (inv l)]) (by simp [mVar]) (by simp [mVar, p10, w0]) (.lst (fun d hd => by
    simp only [List.mem_cons, List.not_mem_nil, or_false] at hd
    rcases hd with rfl | rfl | rfl | rfl | rfl
    · exact lk_int _
    · exact lk_T (by omega)
    · exact lkn
    · exact lk_int _
    · exact lk_int _) (by simp)))).trans ?_
  refine (seq_ok (S1 := [.io x2, .sh (.int n), .sh (T l), .sh (.int (num l)), .sh nx, .sh (.int (fac n)), .sh (.lst [.int (num l), T l, nx, .int (inv l), .int (inv l)]), .un, .un, .un, .un, .un, .un, .un]) (no_at (by
    rcases next_facts hl with ⟨e, e2⟩ | ⟨l', e, h', e2⟩
    · rw [hN'] at e
      subst e
      have e3 := ne_ii (num l) (fac n - 1)
      rw [e2, decide_eq_true rfl] at e3
      simp [mVar, fIsNot, fIs, D.isNon, fSub, e2, e3]
    · rw [hN'] at e
      subst e
      have e3 := turn_number h' h1 h2
      have e4 := ne_ii (num l + 1) (num l + 1)
      rw [decide_eq_true rfl] at e4
      rw [e2] at e3
      simp [mVar, fIsNot, fIs, D.isNon, e3, fAdd, e4]))).trans ?_
  have r1 := tr_mirror (s0 := .io x2) (n := n) (l := l) (s3 := .sh (.int (num l))) (s4 := .sh nx) (s5 := .sh (.int (fac n))) (s6 := .sh (.lst [.int (num l), T l, nx, .int (inv l), .int (inv l)])) (s7 := .un) (s8 := .un) (s9 := .un) (s10 := .un) (s11 := .un) (s12 := .un) (s13 := .un) trivial (by omega)
  refine (seq_ok (S1 := [.io x2, .sh (.int n), .sh (T l), .sh (.int (num l)), .sh nx, .sh (.int (fac n)), .sh (.lst [.int (num l), T l, nx, .int (inv l), .int (inv l)]), .sh (T (l.map fun y => (n : Int) - 1 - y)), .un, .un, .un, .un, .un, .un]) (by simp [r1, bTuple])).trans ?_
  refine (seq_ok (S1 := [.io x2, .sh (.int n), .sh (T l), .sh (.int (num l)), .sh nx, .sh (.int (fac n)), .sh (.lst [.int (num l), T l, nx, .int (inv l), .int (inv l)]), .sh (T (l.map fun y => (n : Int) - 1 - y)), .un, .un, .un, .un, .un, .un]) (like_at (d := .lst [.int (fac n - 1 - num l), .int ((n : Int) * ((n : Int) - 1) / 2 - inv l)]) (by simp [mVar, p11, p12, hm2, hm3, size_le]) (by simp [mVar, fSub, fMulT, p21, p22, p7, size_le]) (.lst (fun d hd => by
    simp only [List.mem_cons, List.not_mem_nil, or_false] at hd
    rcases hd with rfl | rfl
    · exact lk_int _
    · exact lk_int _) (by simp)))).trans ?_
  refine (seq_ok (S1 := [.io x3, .sh (.int n), .sh (T l), .sh (.int (num l)), .sh nx, .sh (.int (fac n)), .sh (.lst [.int (num l), T l, nx, .int (inv l), .int (inv l)]), .sh (T (l.map fun y => (n : Int) - 1 - y)), .sh (.int o), .un, .un, .un, .un, .un]) (by rw [mSet_ap, xV_ap, q3]; simp)).trans ?_
  refine (seq_ok (S1 := [.io x3, .sh (.int n), .sh (T l), .sh (.int (num l)), .sh nx, .sh (.int (fac n)), .sh (.lst [.int (num l), T l, nx, .int (inv l), .int (inv l)]), .sh (T (l.map fun y => (n : Int) - 1 - y)), .sh (.int o), .sh (T far), .un, .un, .un, .un]) (by simp [mVar, bInt, p16, p13])).trans ?_
  refine (seq_ok (S1 := [.io x3, .sh (.int n), .sh (T l), .sh (.int (num l)), .sh nx, .sh (.int (fac n)), .sh (.lst [.int (num l), T l, nx, .int (inv l), .int (inv l)]), .sh (T (l.map fun y => (n : Int) - 1 - y)), .sh (.int o), .sh (T far), .un, .un, .un, .un]) (no_at (by
    have e := ne_ii (o % fac n) (o % fac n)
    rw [decide_eq_true rfl] at e
    simp [mVar, p15, hN, p20, p14, bInt, p16, e]))).trans ?_
  have r2 := tr_words (s0 := .io x3) (n := n) (s2 := .sh (T l)) (s3 := .sh (.int (num l))) (s4 := .sh nx) (s6 := .sh (.lst [.int (num l), T l, nx, .int (inv l), .int (inv l)])) (s7 := .sh (T (l.map fun y => (n : Int) - 1 - y))) (s8 := .sh (.int o)) (s9 := .sh (T far)) (s10 := .un) (s11 := .un) (s12 := .un) (s13 := .un) trivial h1 h2
  refine (seq_ok (S1 := [.io x3, .sh (.int n), .sh (T l), .sh (.int (num l)), .sh nx, .sh (.int (fac n)), .sh (.lst [.int (num l), T l, nx, .int (inv l), .int (inv l)]), .sh (T (l.map fun y => (n : Int) - 1 - y)), .sh (.int o), .sh (T far), .sh (.lst (List.replicate 6 (.str "number"))), .un, .un, .un]) (by rw [mSet_ap, xV_ap, eN_ap, r2]; rfl)).trans ?_
  refine (seq_ok (S1 := [.io x3, .sh (.int n), .sh (T l), .sh (.int (num l)), .sh nx, .sh (.int (fac n)), .sh (.lst [.int (num l), T l, nx, .int (inv l), .int (inv l)]), .sh (T (l.map fun y => (n : Int) - 1 - y)), .sh (.int o), .sh (T far), .sh (.lst (List.replicate 6 (.str "number"))), .sh (T (far.map (at0 l))), .un, .un]) (by simp [mVar, p17])).trans ?_
  have r3 : fMulT (.lst [.str "number"]) (.int 6) = some (.lst (List.replicate 6 (.str "number"))) := by
    rw [rep_lst (by omega) (by omega) (by simp)]
    rfl
  have r4 := eq_words 6
  have r5 := fMod_ok (a := (inv (far.map (at0 l)) : Int) - inv l - inv far) (b := 2) (by omega)
  rw [hj2] at r5
  have r6 := eq_ii 0 0
  rw [decide_eq_true rfl] at r6
  generalize List.replicate 6 (D.str "number") = ws at r3 r4
  simp [mVar, r3, r4, p18, p7, p19, fSub, bInt, r5, r6, size_le]
end G
set_option maxHeartbeats 4000000
set_option exponentiation.threshold 2000
namespace G
open PySem PySem.Spec PyProof.Rows L2 Z M3
variable [Z.LT]
/-! ### a round over rows -/
def lastL (n : Nat) : List Int := (iota n).map fun y => (n : Int) - 1 - y
theorem last_turn (n : Nat) : Turn n (lastL n) := ⟨mirror_iota n⟩
theorem iota_turn (n : Nat) : Turn n (iota n) := ⟨.refl _⟩
theorem last_num (n : Nat) : num (lastL n) = fac n - 1 := by
  have := (mirror_facts (iota_turn n)).2.1
  rw [num_sorted (iota_sorted n)] at this
  show num ((iota n).map fun y => (n : Int) - 1 - y) = _
  omega
theorem size_down (n : Nat) : Builtin.Range.rangeSize ((n : Int) - 1) (-1) (-1) = (n : Int) := by
  unfold Builtin.Range.rangeSize
  rw [if_neg (by omega)]
  by_cases h : (n : Int) - 1 > -1
  · rw [if_pos h, show (-(-1) : Int) = 1 from rfl, Int.ediv_one]
    omega
  · rw [if_neg h]
    omega
theorem small_down' {n : Nat} (h : n ≤ 60) : Builtin.Range.small ((n : Int) - 1) (-1) (-1) = true := by
  unfold Builtin.Range.small
  rw [size_down]
  simp only [Builtin.Range.rangeFitsLong, Bool.and_eq_true, Bool.or_eq_true, decide_eq_true_eq, beq_iff_eq, show ¬ ((-1 : Int) > 0) by decide, if_false]
  omega
theorem rg3_down {n : Nat} {ms : M (List Vx)} {S S1 : Fr} (h2 : n ≤ 60) (h : ms S = .ok [.val (.int ((n : Int) - 1)), .val (.int (-1)), .val (.int (-1))] S1) : mRgT3 ms S = .ok (.val (T (lastL n))) S1 := by
  have hr : RgC ((n : Int) - 1) (-1) (-1) (Builtin.Range.rangeSize ((n : Int) - 1) (-1) (-1)).toNat ∧ (Builtin.Range.rangeSize ((n : Int) - 1) (-1) (-1)).toNat ≤ 2 ^ 24 := by
    rw [size_down]
    exact ⟨⟨by omega, by decide, small_down' h2, by rw [size_down]; omega⟩, by omega⟩
  have e : rngD ((n : Int) - 1) (-1) (Builtin.Range.rangeSize ((n : Int) - 1) (-1) (-1)).toNat = zl (lastL n) := by
    rw [size_down, Int.toNat_natCast]
    unfold rngD zl lastL iota
    rw [List.map_map, List.map_map]
    refine List.map_congr_left fun i _ => ?_
    show D.int ((n : Int) - 1 + (i : Int) * -1) = D.int ((n : Int) - 1 - (i : Int))
    congr 1
    omega
  unfold mRgT3
  rw [bnd_ap, h, bind_ok]
  show (if _ then _ else _) = _
  rw [if_pos hr, e]
theorem rr_many {xs : List D} (c : Cup xs) : ∃ (n : Nat) (ys : List D), mSet 1 (xV (mCall1N 2 m__law_some (aCons (mVar 0) (aCons (mLst (aCons (mC (.int 1)) (aCons (mC (.int 2)) (aCons (mC (.int 3)) (aCons (mC (.int 4)) (aCons (mC (.int 8)) (aCons (mC (.int 15)) (aCons (mC (.int 16)) aNil)))))))) aNil))))
    [.io xs, .un, .un, .un, .un, .un, .un, .un, .un, .un, .un] = .ok .next [.io ys, .sh (.int n), .un, .un, .un, .un, .un, .un, .un, .un, .un] ∧ 1 ≤ n ∧ n ≤ 16 ∧ Cup ys := by
  obtain ⟨d, ys, e1, hd, c2⟩ := some_ (ds := [.int 1, .int 2, .int 3, .int 4, .int 8, .int 15, .int 16]) c (by simp) (by simp)
  obtain ⟨n, rfl, h1, h2⟩ : ∃ n : Nat, d = .int n ∧ 1 ≤ n ∧ n ≤ 16 := by
    simp only [List.mem_cons, List.not_mem_nil, or_false] at hd
    rcases hd with rfl | rfl | rfl | rfl | rfl | rfl | rfl
    · exact ⟨1, rfl, by omega, by omega⟩
    · exact ⟨2, rfl, by omega, by omega⟩
    · exact ⟨3, rfl, by omega, by omega⟩
    · exact ⟨4, rfl, by omega, by omega⟩
    · exact ⟨8, rfl, by omega, by omega⟩
    · exact ⟨15, rfl, by omega, by omega⟩
    · exact ⟨16, rfl, by omega, by omega⟩
  exact ⟨n, ys, by simp [mCall1N, mVar, call1, Sl.owned, Sl.wr, e1, size_le], h1, h2, c2⟩
theorem rng_args {v n : Nat} {S : Fr} (h : S[v]? = some (.sh (.int n))) (hn : n ≤ 1000000) : iArgs (aCons (mVar v) aNil) fRng1 S = .ok (rngD 0 1 n) S :=
  iArgs_ok (xs := [.val (.int n)]) (S1 := S) (ds := [.int n]) (by simp [mVar_sh h]) (by simp) (by rw [fRng1_ok (by omega) (by omega), Int.toNat_natCast])
theorem rr_rows {n : Nat} {xs : List D} (c : Cup xs) (h1 : 1 ≤ n) (h2 : n ≤ 16) : ∃ (rs : List (List Int)) (ys : List D), n__law_rows_right_1 [.io xs, .sh (.int n), .un, .un, .un, .un, .un, .un, .un, .un, .un] = .ok (rs.map T) [.io ys, .sh (.int n), .un, .un, .un, .un, .un, .un, .un, .un, .un] ∧ Cup ys ∧ rs.length = n ∧ ∀ r ∈ rs, Turn n r := by
  obtain ⟨out, S', e1, ys, rs, rfl, c2, rfl, hl, hr⟩ := lcL_run (vs := [7]) (g := gN 7) (t := ret true) (e := mCall1N 2 m__law_turn (aCons (mVar 0) (aCons (mVar 1) aNil))) (fun i acc S => ∃ (ys : List D) (rs : List (List Int)), S = [.io ys, .sh (.int n), .un, .un, .un, .un, .un, .un, .un, .un, .un] ∧ Cup ys ∧ acc = rs.map T ∧ rs.length = i ∧ ∀ r ∈ rs, Turn n r)
    (ds := rngD 0 1 n) (S0 := [.io xs, .sh (.int n), .un, .un, .un, .un, .un, .un, .un, .un, .un]) ⟨xs, [], rfl, c, rfl, rfl, fun _ z => nomatch z⟩ (fun i d acc S hd ⟨ys, rs, e, c1, ea, hl, hr⟩ => by
      subst e ea
      obtain ⟨l, zs, e2, hT, c2⟩ := law_turn (n := n) c1 h1 (by omega)
      refine ⟨some (T l), [.io zs, .sh (.int n), .un, .un, .un, .un, .un, .un, .un, .un, .un], ?_, zs, rs ++ [l], rfl, c2, by simp, by simp [hl], fun r h => ?_⟩
      · simp [lcStep, mCall1N, mVar, call1, Sl.owned, Sl.wr, e2, wp, wipeS]
      · rcases List.mem_append.mp h with h | h
        · exact hr r h
        · rw [List.mem_singleton.mp h]; exact hT)
  rw [rngD_length] at hl
  refine ⟨rs, ys, ?_, c2, hl, hr⟩
  have hI := rng_args (v := 1) (n := n) (S := [.io xs, .sh (.int n), .un, .un, .un, .un, .un, .un, .un, .un, .un]) rfl (by omega)
  exact nLc_ok hI e1 (size_le (by rw [List.length_map, hl]; omega))
theorem rr_number {n : Nat} {rs : List (List Int)} {s0 s6 s7 s8 s9 s10 : Sl} (hr : ∀ r ∈ rs, Turn n r) (hn : rs.length = n) (h1 : 1 ≤ n) (h2 : n ≤ 16) :
    ∃ s5, forL (gN 5) o__law_rows_right_2 (rs.map T) [s0, .sh (.int n), .sh (TT rs), .sh (.int (fac n)), .sh (.int 0), .un, s6, s7, s8, s9, s10] = .ok .next [s0, .sh (.int n), .sh (TT rs), .sh (.int (fac n)), .sh (.int (rowsN (fac n) 0 rs)), s5, s6, s7, s8, s9, s10] := by
  obtain ⟨S', e1, s5, rfl, n5⟩ := forL_run (g := gN 5) (body := o__law_rows_right_2)
    (fun i S => ∃ s5, S = [s0, .sh (.int n), .sh (TT rs), .sh (.int (fac n)), .sh (.int (rowsN (fac n) 0 (rs.take i))), s5, s6, s7, s8, s9, s10] ∧ nio s5) (ds := rs.map T) (S0 := [s0, .sh (.int n), .sh (TT rs), .sh (.int (fac n)), .sh (.int 0), .un, s6, s7, s8, s9, s10]) ⟨.un, rfl, trivial⟩ (fun i d S hd ⟨s3, e, n3⟩ => by
      subst e
      rw [List.getElem?_map] at hd
      cases q : rs[i]? with
      | none => rw [q] at hd; cases hd
      | some r =>
        rw [q] at hd
        cases hd
        have hi := (List.getElem?_eq_some_iff.mp q).1
        have hr' := hr r (List.mem_of_getElem? q)
        have e1 := law_number hr' (by omega)
        have ht : rs.take (i + 1) = rs.take i ++ [r] := by rw [List.take_add_one, q]; rfl
        obtain ⟨b0, b1⟩ := rowsN_lt (n := n) (rs := rs.take i) (acc := 0) (m := 0) (fun x hx => (hr x (List.mem_of_mem_take hx)).len) (by omega) (by rw [Int.pow_zero]; omega)
        have b2 := fac16_pow (n := n) (i := 0 + (rs.take i).length) h2 (by rw [List.length_take]; omega)
        have b3 := fac16_pow (n := n) (i := 1) h2 (by omega)
        rw [Int.pow_one] at b3
        have b4 := fac_pos n
        have l1 := big_log (k := rowsN (fac n) 0 (rs.take i)) b0 (by omega)
        have l2 := big_log (k := fac n) (by omega) (by omega)
        have hm : fMul (.int (rowsN (fac n) 0 (rs.take i))) (.int (fac n)) = some (.int (rowsN (fac n) 0 (rs.take i) * fac n)) := fMul_int (by omega) (by omega)
        refine ⟨.next, [s0, .sh (.int n), .sh (TT rs), .sh (.int (fac n)), .sh (.int (rowsN (fac n) 0 (rs.take (i + 1)))), .sh (T r), s6, s7, s8, s9, s10], ?_, .inl rfl, _, rfl, trivial⟩
        rw [ht, rowsN_snoc]
        generalize rowsN (fac n) 0 (rs.take i) = R at hm
        generalize fac n = B at hm
        simp [o__law_rows_right_2, n3, mVar, fMulT, hm, e1, fAdd])
  rw [List.length_map, List.take_length] at e1
  exact ⟨s5, e1⟩
theorem rr_every {n : Nat} {s0 s2 s4 s5 s8 s9 s10 : Sl} (h2 : n ≤ 16) : ∃ s7, forL (gN 7) o__law_rows_right_3 (rngD 0 1 n) [s0, .sh (.int n), s2, .sh (.int (fac n)), s4, s5, .sh (.int 1), .un, s8, s9, s10] = .ok .next [s0, .sh (.int n), s2, .sh (.int (fac n)), s4, s5, .sh (.int (fac n ^ n)), s7, s8, s9, s10] := by
  obtain ⟨S', e1, s7, rfl, n7⟩ := forL_run (g := gN 7) (body := o__law_rows_right_3) (fun i S => ∃ s7, S = [s0, .sh (.int n), s2, .sh (.int (fac n)), s4, s5, .sh (.int (fac n ^ i)), s7, s8, s9, s10] ∧ nio s7) (ds := rngD 0 1 n) (S0 := [s0, .sh (.int n), s2, .sh (.int (fac n)), s4, s5, .sh (.int 1), .un, s8, s9, s10]) ⟨.un, by rw [Int.pow_zero], trivial⟩ (fun i d S hd ⟨s, e, n4⟩ => by
    subst e
    obtain ⟨hi, rfl⟩ := rngD_get hd
    have hm := most_mul h2 hi
    generalize fac n ^ i = x at hm
    generalize fac n ^ (i + 1) = y at hm
    refine ⟨.next, [s0, .sh (.int n), s2, .sh (.int (fac n)), s4, s5, .sh (.int y), .sh (.int (0 + (i : Int) * 1)), s8, s9, s10], ?_, .inl rfl, _, rfl, trivial⟩
    simp [o__law_rows_right_3, n4, mVar, fMulT, hm])
  rw [rngD_length] at e1
  exact ⟨s7, e1⟩
theorem rep_tup {n : Nat} {d : D} (h1 : 1 ≤ n) (h2 : n ≤ 16) : fMulT (.tup [d]) (.int n) = some (.tup (List.replicate n d)) := by
  have hf : (List.replicate n [d]).flatten = List.replicate n d := by
    clear h1 h2
    induction n with
    | zero => rfl
    | succ n ih => rw [List.replicate_succ, List.flatten_cons, ih]; rfl
  show (if _ then _ else _) = _
  by_cases h : (n : Int) = 1
  · rw [if_pos h, show n = 1 by omega]
    rfl
  · rw [if_neg h]
    show (if _ then _ else _) = _
    rw [if_pos ⟨by omega, by omega, by simp, rfl⟩, Int.toNat_natCast, hf]
theorem told_bad2 {n : Nat} {v : D} {F : Fr} (h1 : 1 ≤ n) (hn : n ≤ 16) (e1 : F[1]? = some (.sh (.int n))) (e12 : F[10]? = some .un) (h : m_is_whole [.sh v, .sh (.int 0), .sh (.int (fac n ^ n - 1))] = .ok (.bl false) [.sh v, .sh (.int 0), .sh (.int (fac n ^ n - 1))]) :
    lcStep [10] (gN 10) (ret true) (mTold tf__law_error tl__law_error (mCallN 2 m_rows_of_number (aCons (mVar 1) (aCons (mVar 10) aNil)))) v F = .ok (some (.str "number")) F := by
  obtain ⟨S', e2⟩ := rows_of_number_bad h1 hn h
  have e3 : mCallN 2 m_rows_of_number (aCons (mVar 1) (aCons (mVar 10) aNil)) (F.set 10 (.sh v)) = .exc ⟨"InvalidNumber", none⟩ (F.set 10 (.sh v)) := by
    have a1 : mVar 1 (F.set 10 (.sh v)) = .ok (.val (.int n)) (F.set 10 (.sh v)) := mVar_sh (by rw [List.getElem?_set_ne (by omega)]; exact e1)
    have a2 : mVar 10 (F.set 10 (.sh v)) = .ok (.val v) (F.set 10 (.sh v)) := mVar_sh (get_set e12)
    simp [a1, a2, e2]
  have e4 : mTold tf__law_error tl__law_error (mCallN 2 m_rows_of_number (aCons (mVar 1) (aCons (mVar 10) aNil))) (F.set 10 (.sh v)) = .ok (.val (.str "number")) (F.set 10 (.sh v)) := by
    unfold mTold
    rw [e3]
    rfl
  unfold lcStep
  rw [bnd_ap, gN_nio e12 nio_un, bind_ok, bnd_ap, ret_ap, bind_ok, if_pos rfl, bnd_ap, e4, bind_ok, bnd_ap, esc_val, bind_ok, bnd_ap]
  show Res.ok (some _) ((F.set 10 _).set 10 .un) = _
  rw [set_un e12]
theorem rr_words {n : Nat} {s0 s2 s3 s4 s5 s7 s8 s9 s10 : Sl} (n10 : nio s10) (h1 : 1 ≤ n) (h2 : n ≤ 16) :
    n__law_rows_right_4 [s0, .sh (.int n), s2, s3, s4, s5, .sh (.int (fac n ^ n)), s7, s8, s9, s10] = .ok (List.replicate 5 (.str "number")) [s0, .sh (.int n), s2, s3, s4, s5, .sh (.int (fac n ^ n)), s7, s8, s9, s10] := by
  have hp := (pow_exp (b := fac n) (by have := fac_pos n; omega) (i := n) 0).1
  have hb := fac16_pow (n := n) (i := n) h2 h2
  have hl := big_log (k := fac n ^ n) (by omega) (by omega)
  have hm : fMul (.int (fac n ^ n)) (.int (fac n ^ n)) = some (.int (fac n ^ n * fac n ^ n)) := fMul_int (by omega) (by omega)
  have hq : fac n ^ n * 1 ≤ fac n ^ n * fac n ^ n := Int.mul_le_mul_of_nonneg_left hp (by omega)
  have hw : ∀ v ∈ [D.int (fac n ^ n), .int (fac n ^ n * fac n ^ n), .int (-1), .bl false, .non], m_is_whole [.sh v, .sh (.int 0), .sh (.int (fac n ^ n - 1))] = .ok (.bl false) [.sh v, .sh (.int 0), .sh (.int (fac n ^ n - 1))] := by
    intro v hv
    simp only [List.mem_cons, List.not_mem_nil, or_false] at hv
    rcases hv with rfl | rfl | rfl | rfl | rfl
    · rw [whole_int, decide_eq_false (by omega)]
    · rw [whole_int, decide_eq_false (by omega)]
    · rw [whole_int, decide_eq_false (by omega)]
    · rw [whole_bl]
    · rw [whole_non]
  have e := lcL_fm (vs := [10]) (g := gN 10) (t := ret true) (e := mTold tf__law_error tl__law_error (mCallN 2 m_rows_of_number (aCons (mVar 1) (aCons (mVar 10) aNil)))) (F := [s0, .sh (.int n), s2, s3, s4, s5, .sh (.int (fac n ^ n)), s7, s8, s9, .un]) id (fun _ => some (.str "number")) (as := [D.int (fac n ^ n), .int (fac n ^ n * fac n ^ n), .int (-1), .bl false, .non]) (fun v hv => told_bad2 h1 h2 rfl rfl (hw v hv))
  have hi : iOf (mTup (aCons (mVar 6) (aCons (m2 (d2 fMulT) (mVar 6) (mVar 6)) (aCons (m1 fNeg (mC (.int 1))) (aCons (mC (.bl false)) (aCons (mC .non) aNil)))))) isAny [s0, .sh (.int n), s2, s3, s4, s5, .sh (.int (fac n ^ n)), s7, s8, s9, s10] = .ok [D.int (fac n ^ n), .int (fac n ^ n * fac n ^ n), .int (-1), .bl false, .non] [s0, .sh (.int n), s2, s3, s4, s5, .sh (.int (fac n ^ n)), s7, s8, s9, s10] := by
    generalize fac n ^ n = B at hm
    generalize B * B = BB at hm
    simp [mVar, fNeg, fMulT, hm, isAny, size_le]
  rw [List.map_id] at e
  have := nLc_ok (vs := [10]) (g := gN 10) (t := ret true) (mi := iOf (mTup (aCons (mVar 6) (aCons (m2 (d2 fMulT) (mVar 6) (mVar 6)) (aCons (m1 fNeg (mC (.int 1))) (aCons (mC (.bl false)) (aCons (mC .non) aNil)))))) isAny) hi e (size_le (by simp))
  refine this.trans ?_
  rfl
end G
set_option maxHeartbeats 4000000
set_option exponentiation.threshold 2000
namespace G
open PySem PySem.Spec PyProof.Rows L2 Z M3
variable [Z.LT]
theorem rows_right {xs : List D} (c : Cup xs) : ∃ ys, m__law_rows_right [.io xs] = .ok (.bl true) [.io ys] ∧ Cup ys := by
  obtain ⟨n, x1, q1, h1, h2, c1⟩ := rr_many c
  obtain ⟨rs, x2, q2, c2, hn, hr⟩ := rr_rows c1 h1 h2
  have p1 := law_times (n := n) (by omega)
  obtain ⟨s5, q3⟩ := rr_number (s0 := .io x2) (s6 := .un) (s7 := .un) (s8 := .un) (s9 := .un) (s10 := .un) hr hn h1 h2
  have p2 := rows_number hr hn h1 h2
  obtain ⟨b0, b1⟩ := rowsN_lt (n := n) (rs := rs) (acc := 0) (m := 0) (fun x hx => (hr x hx).len) (by omega) (by rw [Int.pow_zero]; omega)
  rw [Nat.zero_add, hn] at b1
  have p3 := rows_of_number h1 h2 b0 b1
  have p3' := rows_back h2 rs hr
  rw [hn] at p3'
  rw [p3', List.reverse_reverse] at p3
  have w1 := size_le (n := 2) (by omega)
  have w2 := size_le (n := 1) (by omega)
  have w3 := size_le (n := 3) (by omega)
  obtain ⟨s7, q4⟩ := rr_every (n := n) (s0 := .io x2) (s2 := .sh (TT rs)) (s4 := .sh (.int (rowsN (fac n) 0 rs))) (s5 := s5) (s8 := .un) (s9 := .un) (s10 := .un) h2
  have fe := (pow_exp (b := fac n) (by have := fac_pos n; omega) (i := n) 0).1
  have k0 := rows_of_number (n := n) (k := 0) h1 h2 (by omega) (by omega)
  have k0' := rows_back h2 (List.replicate n (iota n)) (fun r h => by rw [(List.mem_replicate.mp h).2]; exact iota_turn n)
  rw [List.length_replicate, rows_zero _ (num_sorted (iota_sorted n))] at k0'
  rw [k0', List.reverse_reverse] at k0
  have k1 := rows_of_number (n := n) (k := fac n ^ n - 1) h1 h2 (by omega) (by omega)
  have k1' := rows_back h2 (List.replicate n (lastL n)) (fun r h => by rw [(List.mem_replicate.mp h).2]; exact last_turn n)
  rw [List.length_replicate, rows_rep _ (last_num n)] at k1'
  rw [k1', List.reverse_reverse] at k1
  have k2 := rows_number (n := n) (rs := List.replicate n (lastL n)) (fun r h => by rw [(List.mem_replicate.mp h).2]; exact last_turn n) (List.length_replicate ..) h1 h2
  rw [rows_rep _ (last_num n)] at k2
  unfold TT at k0 k1 k2
  rw [List.map_replicate] at k0 k1 k2
  have t1 := rep_tup (d := T (lastL n)) h1 h2
  have t2 := rep_tup (d := T (iota n)) h1 h2
  have hN : ∀ S : Fr, S[1]? = some (.sh (.int n)) → mRgT (mRg1 (mVar 1)) S = .ok (.val (T (iota n))) S := fun S hS => by
    have e3 := mRgT_ok (m := mRg1 (mVar 1)) (S := S) (S1 := S) (a := 0) (b := n) (by simp [mRg1, mVar_sh hS]) (RgOk.of_le (by omega) (by omega) (by omega) (by omega))
    rw [show ((n : Int) - 0).toNat = n by omega, rng_iota] at e3
    exact e3
  have r3 : fMulT (.lst [.str "number"]) (.int 5) = some (.lst (List.replicate 5 (.str "number"))) := by
    rw [rep_lst (by omega) (by omega) (by simp)]
    rfl
  have r4 := eq_words 5
  suffices hb : ∃ ys S', b__law_rows_right [.io xs, .un, .un, .un, .un, .un, .un, .un, .un, .un, .un] = .ok (.ret (.bl true)) (.io ys :: S') ∧ Cup ys by
    obtain ⟨ys, S', hb, cy⟩ := hb
    exact ⟨ys, defN (n := 11) (b := b__law_rows_right) (P := [.io xs]) rfl hb, cy⟩
  refine ⟨x2, [.sh (.int n), .sh (TT rs), .sh (.int (fac n)), .sh (.int (rowsN (fac n) 0 rs)), s5, .sh (.int (fac n ^ n)), s7, .sh (T (lastL n)), .sh (.lst [.tup (List.replicate n (T (iota n))), .tup (List.replicate n (T (lastL n))), .int (fac n ^ n - 1)]), .un], ?_, c2⟩
  unfold b__law_rows_right
  refine (seq_ok q1).trans ?_
  refine (seq_ok (S1 := [.io x2, .sh (.int n), .sh (TT rs), .un, .un, .un, .un, .un, .un, .un, .un]) (by simp [q2, bTuple])).trans ?_
  refine (seq_ok (S1 := [.io x2, .sh (.int n), .sh (TT rs), .sh (.int (fac n)), .sh (.int 0), .un, .un, .un, .un, .un, .un]) (by simp [mVar, p1])).trans ?_
  refine (seq_ok (S1 := [.io x2, .sh (.int n), .sh (TT rs), .sh (.int (fac n)), .sh (.int (rowsN (fac n) 0 rs)), s5, .un, .un, .un, .un, .un]) (by
    have hI : iOf (mVar 2) isAny [.io x2, .sh (.int n), .sh (TT rs), .sh (.int (fac n)), .sh (.int 0), .un, .un, .un, .un, .un, .un] = .ok (rs.map T) [.io x2, .sh (.int n), .sh (TT rs), .sh (.int (fac n)), .sh (.int 0), .un, .un, .un, .un, .un, .un] := by simp [mVar, isAny]
    rw [mFor_ap, hI, bind_ok]
    exact q3)).trans ?_
  refine (seq_ok (S1 := [.io x2, .sh (.int n), .sh (TT rs), .sh (.int (fac n)), .sh (.int (rowsN (fac n) 0 rs)), s5, .un, .un, .un, .un, .un]) (like_at (d := .lst [.int (rowsN (fac n) 0 rs), TT rs]) (by simp [mVar, p2, p3, w1]) (by simp [mVar, w1]) (.lst (fun d hd => by
    simp only [List.mem_cons, List.not_mem_nil, or_false] at hd
    rcases hd with rfl | rfl
    · exact lk_int _
    · exact lk_TT (k := 0) (fun r h => by rw [(hr r h).len]; omega) (by rw [hn]; omega)) (by simp)))).trans ?_
  refine (seq_ok (S1 := [.io x2, .sh (.int n), .sh (TT rs), .sh (.int (fac n)), .sh (.int (rowsN (fac n) 0 rs)), s5, .sh (.int 1), .un, .un, .un, .un]) (by simp)).trans ?_
  refine (seq_ok (S1 := [.io x2, .sh (.int n), .sh (TT rs), .sh (.int (fac n)), .sh (.int (rowsN (fac n) 0 rs)), s5, .sh (.int (fac n ^ n)), s7, .un, .un, .un]) (by
    rw [mFor_ap, rng_args (v := 1) (n := n) rfl (by omega), bind_ok]
    exact q4)).trans ?_
  generalize hM : fac n ^ n = M at *
  generalize rowsN (fac n) 0 rs = R at *
  generalize hB : fac n = B at *
  refine (seq_ok (S1 := [.io x2, .sh (.int n), .sh (TT rs), .sh (.int B), .sh (.int R), s5, .sh (.int M), s7, .sh (T (lastL n)), .un, .un]) (by
    rw [mSet_ap, xV_ap, rg3_down (n := n) (S1 := [.io x2, .sh (.int n), .sh (TT rs), .sh (.int B), .sh (.int R), s5, .sh (.int M), s7, .un, .un, .un]) (by omega) (by simp [mVar, fSub, fNeg])]
    simp)).trans ?_
  refine (seq_ok (S1 := [.io x2, .sh (.int n), .sh (TT rs), .sh (.int B), .sh (.int R), s5, .sh (.int M), s7, .sh (T (lastL n)), .sh (.lst [.tup (List.replicate n (T (iota n))), .tup (List.replicate n (T (lastL n))), .int (M - 1)]), .un]) (by
    simp [mVar, k0, k1, k2, fSub, t1, w2, w3])).trans ?_
  refine (seq_ok (S1 := [.io x2, .sh (.int n), .sh (TT rs), .sh (.int B), .sh (.int R), s5, .sh (.int M), s7, .sh (T (lastL n)), .sh (.lst [.tup (List.replicate n (T (iota n))), .tup (List.replicate n (T (lastL n))), .int (M - 1)]), .un]) (like_at (d := .lst [.tup (List.replicate n (T (iota n))), .tup (List.replicate n (T (lastL n))), .int (M - 1)]) (by simp [mVar]) (by simp [mVar, hN, t1, t2, fSub, w2, w3]) (.lst (fun d hd => by
    simp only [List.mem_cons, List.not_mem_nil, or_false] at hd
    have li := (iota_turn n).len
    have ll := (last_turn n).len
    rcases hd with rfl | rfl | rfl
    · exact .tup (fun d hd => by rw [(List.mem_replicate.mp hd).2]; exact lk_T (by omega)) (by rw [List.length_replicate]; omega)
    · exact .tup (fun d hd => by rw [(List.mem_replicate.mp hd).2]; exact lk_T (by omega)) (by rw [List.length_replicate]; omega)
    · exact lk_int _) (by simp)))).trans ?_
  have r5 := rr_words (s0 := .io x2) (n := n) (s2 := .sh (TT rs)) (s3 := .sh (.int B)) (s4 := .sh (.int R)) (s5 := s5) (s7 := s7) (s8 := .sh (T (lastL n))) (s9 := .sh (.lst [.tup (List.replicate n (T (iota n))), .tup (List.replicate n (T (lastL n))), .int (M - 1)])) (s10 := .un) trivial h1 h2
  rw [hB, hM] at r5
  generalize List.replicate 5 (D.str "number") = ws at r3 r4 r5
  simp [r5, r3, r4, w2]
end G
set_option maxHeartbeats 4000000
namespace G
open PySem PySem.Spec PyProof.Rows L2 Z M3
variable [Z.LT]
/-! ### what is written -/
set_option maxHeartbeats 0 in
theorem written : m__law_written_right [] = .ok (.bl true) [] := by kernel_rfl
end G
set_option maxHeartbeats 4000000
set_option exponentiation.threshold 2000
namespace G
open PySem PySem.Spec PyProof.Rows L2 Z M3
variable [Z.LT]
/-! ### the first draws; the law -/
theorem bits_log {x : Int} (h : Builtin.Int.intBits x ≤ 1048576) : x.natAbs.log2 < 60000000 := by
  unfold Builtin.Int.intBits at h
  split at h
  · rename_i e
    have e : x = 0 := by simpa using e
    subst e
    decide
  · omega
theorem cup {ns : List Int} {d : D} (hd : bList [d] = some (.lst (zl ns))) (hl : ns.length ≤ 63) (hb : ∀ z ∈ ns, Builtin.Int.intBits z ≤ 1048576) : ∃ xs, m__law_cup [.sh d] = .ok xs [.sh d] ∧ Cup xs := by
  have key : ∃ x : Int, L2.atI (zl (ns ++ [0])) 0 = some (.int x) ∧ x.natAbs.log2 < 60000000 := by
    cases ns with
    | nil => exact ⟨0, by rw [atI_zl (j := 0) (by omega) rfl]; rfl, by decide⟩
    | cons x ns => exact ⟨x, by rw [atI_zl (j := 0) (by omega) rfl]; rfl, bits_log (hb x List.mem_cons_self)⟩
  obtain ⟨x, e1, hx⟩ := key
  have e2 : fAdd (.lst (zl ns)) (.lst [.int 0]) = some (.lst (zl (ns ++ [0]))) := by
    rw [add_lst (by rw [zl_length]; simp; omega), zl_append]
    rfl
  have e3 : fIx (.lst (zl (ns ++ [0]))) (.int 0) = some (.int x) := e1
  generalize hc : (if x < 0 then -x else x) = c
  have e4 : bAbs [.int x] = some (.int c) := by rw [← hc]; rfl
  have hcl : c.natAbs.log2 < 60000000 := by
    have : c.natAbs = x.natAbs := by rw [← hc]; split <;> omega
    rw [this]
    exact hx
  have s1 := size_le (n := 1) (by omega)
  have s2 := size_le (n := 2) (by omega)
  have e5 : fMul (.int c) (.int 1103) = some (.int (c * 1103)) := fMul_int (by omega) (small_log (by omega) (by omega))
  have e6 : fMod (.int (c * 1103 + 99023)) (.int 1048576) = some (.int ((c * 1103 + 99023) % 1048576)) := fMod_ok (by omega)
  have e7 : fDiv (.int c) (.int 331) = some (.int (c / 331)) := fDiv_ok (by omega) (by
    have h : (331 : Int).natAbs < 2 ^ (8 + 1) := by decide
    have := log_lt h
    omega)
  have e8 : fPow (.int 10) (.int 18) = some (.int 1000000000000000000) := by kernel_rfl
  have key2 : ∀ a : Int, mIf (toB (m2 (d2 fGe) (mVar 1) (m2 (d2 fPow) (mC (.int 10)) (mC (.int 18))))) (m2 (d2 fDiv) (mVar 1) (mC (.int 331))) (mC (.int 0)) [.sh d, .sh (.int c)] = .ok (.val (.int a)) [.sh d, .sh (.int c)] →
      ∃ xs, m__law_cup [.sh d] = .ok xs [.sh d] ∧ Cup xs := fun a ha => by
    refine ⟨[.int a, .int ((c * 1103 + 99023) % 1048576)], ?_, ⟨a, _, rfl, Int.emod_nonneg _ (by omega), Int.emod_lt_of_pos _ (by omega)⟩⟩
    unfold m__law_cup mDefN
    show (match rSeq _ _ [.sh d, .un] with | .ok ds _ => _ | .exc x _ => _ | .stuck => _) = _
    have q1 : mSet 1 (xV (mB bAbs (aCons (m2 (d2 fIx) (m2 (d2 fAdd) (mB bList (aCons (mVar 0) aNil)) (mLst (aCons (mC (.int 0)) aNil))) (mC (.int 0))) aNil))) [.sh d, .un] = .ok .next [.sh d, .sh (.int c)] := by
      simp [mVar, hd, e2, e3, e4, s1]
    have q2 : nLst (aCons (mIf (toB (m2 (d2 fGe) (mVar 1) (m2 (d2 fPow) (mC (.int 10)) (mC (.int 18))))) (m2 (d2 fDiv) (mVar 1) (mC (.int 331))) (mC (.int 0))) (aCons (m2 (d2 fMod) (mB bInt (aCons (m2 (d2 fAdd) (m2 (d2 fMulT) (mVar 1) (mC (.int 1103))) (mC (.int 99023))) aNil)) (mC (.int 1048576))) aNil)) [.sh d, .sh (.int c)] = .ok [.int a, .int ((c * 1103 + 99023) % 1048576)] [.sh d, .sh (.int c)] := by
      unfold nLst
      have f1 : ∀ i j : Int, fAdd (.int i) (.int j) = some (.int (i + j)) := fun _ _ => rfl
      simp [-mIf_ap, ha, mVar, fMulT, e5, f1, bInt, e6, s2]
    unfold rSeq
    rw [bnd_ap, q1, bind_ok]
    show (match nLst _ _ with | .ok ds _ => _ | .exc x _ => _ | .stuck => _) = _
    rw [q2]
  by_cases h : (1000000000000000000 : Int) ≤ c
  · exact key2 (c / 331) (by simp [mVar, e8, fGe, h, e7])
  · exact key2 0 (by simp [mVar, e8, fGe, h])
theorem law_round {d : D} {xs : List D} {s2 : Sl} (c : Cup xs) : ∃ ys, o_law_1 [.sh d, .ow xs, s2] = .ok .next [.sh d, .ow ys, s2] ∧ Cup ys := by
  obtain ⟨ys, e1, c1⟩ := turns_right c
  obtain ⟨zs, e2, c2⟩ := rows_right c1
  refine ⟨zs, ?_, c2⟩
  unfold o_law_1
  simp [mVar, mCall1N, call1, Sl.owned, Sl.wr, e1, e2]
theorem law_true {ns : List Int} {d : D} (hd : bList [d] = some (.lst (zl ns))) (hl : ns.length ≤ 63) (hb : ∀ z ∈ ns, Builtin.Int.intBits z ≤ 1048576) : ∃ S', m_law [.sh d] = .ok (.bl true) S' := by
  obtain ⟨xs, e1, c⟩ := cup hd hl hb
  obtain ⟨S', e2, ys, s2, rfl, c2, n2⟩ := forL_run (g := gN 2) (body := o_law_1) (fun i S => ∃ (ys : List D) (s2 : Sl), S = [.sh d, .ow ys, s2] ∧ Cup ys ∧ nio s2) (ds := rngD 0 1 14) (S0 := [.sh d, .ow xs, .un]) ⟨xs, .un, rfl, c, trivial⟩ (fun i e S he ⟨ys, s2, eS, c2, n2⟩ => by
    subst eS
    obtain ⟨hi, rfl⟩ := rngD_get he
    obtain ⟨zs, e3, c3⟩ := law_round (d := d) (s2 := .sh (.int (0 + (i : Int) * 1))) c2
    refine ⟨.next, _, ?_, .inl rfl, zs, .sh (.int (0 + (i : Int) * 1)), rfl, c3, trivial⟩
    rw [bnd_ap, gN_succ, gN_succ, gN_zero n2]
    exact e3)
  have e4 : fRng1 [.int 14] = some (rngD 0 1 14) := by rw [fRng1_ok (by omega) (by omega)]; rfl
  have hI : iArgs (aCons (mC (.int 14)) aNil) fRng1 [.sh d, .ow xs, .un] = .ok (rngD 0 1 14) [.sh d, .ow xs, .un] :=
    iArgs_ok (xs := [.val (.int 14)]) (S1 := [.sh d, .ow xs, .un]) (ds := [.int 14]) (by simp) (by simp) e4
  have hbd : b_law [.sh d, .un, .un] = .ok (.ret (.bl true)) [.sh d, .ow ys, s2] := by
    unfold b_law
    have q1 : nCall 1 m__law_cup (aCons (mVar 0) aNil) [.sh d, .un, .un] = .ok xs [.sh d, .un, .un] := by
      unfold nCall
      simp [mVar, e1]
    refine (seq_ok (S1 := [.sh d, .ow xs, .un]) (by rw [mSet_ap, xN_ap, q1]; simp)).trans ?_
    refine (seq_ok (S1 := [.sh d, .ow xs, .un]) (no_at (by simp [written]))).trans ?_
    refine (seq_ok (S1 := [.sh d, .ow ys, s2]) (by rw [mFor_ap, hI, bind_ok, e2])).trans ?_
    simp
  exact ⟨_, defN (n := 3) (b := b_law) (P := [.sh d]) rfl hbd⟩
theorem plain (ns : List Int) (hl : ns.length ≤ 63) (hb : ∀ z ∈ ns, Builtin.Int.intBits z ≤ 1048576) : (∃ S', m_law [.sh (.lst (ns.map .int))] = .ok (.bl true) S') ∧ ∃ S', m_law [.sh (.frz (ns.map .int))] = .ok (.bl true) S' :=
  ⟨law_true (ns := ns) rfl hl hb, law_true (ns := ns) rfl hl hb⟩
end G
set_option maxHeartbeats 0
namespace G
open PySem PySem.Spec PyProof.Rows L2 Z He
def d0 : DefD := ⟨("_law_cup", none), "_law_cup", "_law_cup", defArgs (top 32), defBody (top 32), defScope (top 32), [], []⟩
def d1 : DefD := ⟨("is_tuple_of", none), "is_tuple_of", "is_tuple_of", defArgs (top 7), defBody (top 7), defScope (top 7), [], []⟩
def d2 : DefD := ⟨("is_whole", none), "is_whole", "is_whole", defArgs (top 5), defBody (top 5), defScope (top 5), [], []⟩
def d3 : DefD := ⟨("is_turn", none), "is_turn", "is_turn", defArgs (top 11), defBody (top 11), defScope (top 11), [], []⟩
def d4 : DefD := ⟨("need_turn", none), "need_turn", "need_turn", defArgs (top 12), defBody (top 12), defScope (top 12), [], []⟩
def d5 : DefD := ⟨("number_of", none), "number_of", "number_of", defArgs (top 23), defBody (top 23), defScope (top 23), [], []⟩
def d6 : DefD := ⟨("turn_number", none), "turn_number", "turn_number", defArgs (top 25), defBody (top 25), defScope (top 25), [], []⟩
def d7 : DefD := ⟨("turn_behind", none), "turn_behind", "turn_behind", defArgs (top 27), defBody (top 27), defScope (top 27), [], []⟩
def d8 : DefD := ⟨("turn_exchanges", none), "turn_exchanges", "turn_exchanges", defArgs (top 28), defBody (top 28), defScope (top 28), [], []⟩
def d9 : DefD := ⟨("_law_times", none), "_law_times", "_law_times", defArgs (top 38), defBody (top 38), defScope (top 38), [], []⟩
def d10 : DefD := ⟨("need_whole", none), "need_whole", "need_whole", defArgs (top 6), defBody (top 6), defScope (top 6), [], []⟩
def d11 : DefD := ⟨("turns_in_all", none), "turns_in_all", "turns_in_all", defArgs (top 22), defBody (top 22), defScope (top 22), [], []⟩
def d12 : DefD := ⟨("turn_of", none), "turn_of", "turn_of", defArgs (top 24), defBody (top 24), defScope (top 24), [], []⟩
def d13 : DefD := ⟨("turn_of_number", none), "turn_of_number", "turn_of_number", defArgs (top 26), defBody (top 26), defScope (top 26), [], []⟩
def d14 : DefD := ⟨("are_turn_rows", none), "are_turn_rows", "are_turn_rows", defArgs (top 18), defBody (top 18), defScope (top 18), [], []⟩
def d15 : DefD := ⟨("need_turn_rows", none), "need_turn_rows", "need_turn_rows", defArgs (top 20), defBody (top 20), defScope (top 20), [], []⟩
def d16 : DefD := ⟨("rows_number", none), "rows_number", "rows_number", defArgs (top 29), defBody (top 29), defScope (top 29), [], []⟩
def d17 : DefD := ⟨("rows_of_number", none), "rows_of_number", "rows_of_number", defArgs (top 30), defBody (top 30), defScope (top 30), [], []⟩
def d18 : DefD := ⟨("_law_sort", none), "_law_sort", "_law_sort", defArgs (top 35), defBody (top 35), defScope (top 35), [], []⟩
def d19 : DefD := ⟨("_law_like", none), "_law_like", "_law_like", defArgs (top 36), defBody (top 36), defScope (top 36), [], []⟩
def d20 : DefD := ⟨("_law_written_right", none), "_law_written_right", "_law_written_right", defArgs (top 45), defBody (top 45), defScope (top 45), [], []⟩
def d21 : DefD := ⟨("_law_roll", none), "_law_roll", "_law_roll", defArgs (top 33), defBody (top 33), defScope (top 33), [], []⟩
def d22 : DefD := ⟨("_law_some", none), "_law_some", "_law_some", defArgs (top 34), defBody (top 34), defScope (top 34), [], []⟩
def d23 : DefD := ⟨("_law_turn", none), "_law_turn", "_law_turn", defArgs (top 39), defBody (top 39), defScope (top 39), [], []⟩
def d24 : DefD := ⟨("_law_number", none), "_law_number", "_law_number", defArgs (top 40), defBody (top 40), defScope (top 40), [], []⟩
def d25 : DefD := ⟨("_law_behind", none), "_law_behind", "_law_behind", defArgs (top 41), defBody (top 41), defScope (top 41), [], []⟩
def d26 : DefD := ⟨("back_of", none), "back_of", "back_of", defArgs (top 14), defBody (top 14), defScope (top 14), [], []⟩
def d27 : DefD := ⟨("turn_back", none), "turn_back", "turn_back", defArgs (top 16), defBody (top 16), defScope (top 16), [], []⟩
def d28 : DefD := ⟨("_law_exchanges", none), "_law_exchanges", "_law_exchanges", defArgs (top 42), defBody (top 42), defScope (top 42), [], []⟩
def d29 : DefD := ⟨("joined_of", none), "joined_of", "joined_of", defArgs (top 13), defBody (top 13), defScope (top 13), [], []⟩
def d30 : DefD := ⟨("turn_joined", none), "turn_joined", "turn_joined", defArgs (top 15), defBody (top 15), defScope (top 15), [], []⟩
def d31 : DefD := ⟨("_law_error", none), "_law_error", "_law_error", defArgs (top 37), defBody (top 37), defScope (top 37), [], []⟩
def d32 : DefD := ⟨("_law_turns_right", none), "_law_turns_right", "_law_turns_right", defArgs (top 43), defBody (top 43), defScope (top 43), [], []⟩
def d33 : DefD := ⟨("_law_rows_right", none), "_law_rows_right", "_law_rows_right", defArgs (top 44), defBody (top 44), defScope (top 44), [], []⟩
def d34 : DefD := ⟨("law", none), "law", "law", defArgs (top 46), defBody (top 46), defScope (top 46), [], []⟩
def fn : List DefD := [d0, d1, d2, d3, d4, d5, d6, d7, d8, d9, d10, d11, d12, d13, d14, d15, d16, d17, d18, d19, d20, d21, d22, d23, d24, d25, d26, d27, d28, d29, d30, d31, d32, d33, d34]
def fa0 : List Fa := [.free "abs", .free "all", .free "bool", .free "enumerate", .free "int", .free "isinstance", .free "len", .free "list", .free "min", .free "range", .free "sorted", .free "str", .free "sum", .free "tuple", .free "zip", .int "LETTERS" 16, .int "THINGS" 60, .glo "InvalidNumber", .exc "InvalidNumber", .glo "InvalidTurn", .exc "InvalidTurn", .glo "SwapError", .exm "InvalidNumber" "SwapError" true, .exm "InvalidTurn" "SwapError" true, .glo "_law_cup", .glo "is_tuple_of", .glo "is_whole", .glo "is_turn", .glo "need_turn", .glo "number_of"]
def fa1 : List Fa := [.glo "turn_number", .glo "turn_behind", .glo "turn_exchanges", .glo "_law_times", .glo "need_whole", .glo "turns_in_all", .glo "turn_of", .glo "turn_of_number", .glo "are_turn_rows", .glo "need_turn_rows", .glo "rows_number", .glo "rows_of_number", .glo "_law_sort", .glo "_law_like", .glo "_law_written_right", .glo "_law_roll", .glo "_law_some", .glo "_law_turn", .glo "_law_number", .glo "_law_behind", .glo "back_of", .glo "turn_back", .glo "_law_exchanges", .glo "joined_of", .glo "turn_joined", .glo "_law_error", .glo "_law_turns_right", .glo "_law_rows_right", .glo "law"]
def fa : List Fa := fa0 ++ fa1
def fx0 : List Fx := [.exk "InvalidNumber", .exk "InvalidTurn", .kit "InvalidNumber" "InvalidNumber" true, .kit "InvalidNumber" "InvalidTurn" false, .kit "InvalidTurn" "InvalidNumber" false, .kit "InvalidTurn" "InvalidTurn" true]
def fx : List Fx := fx0
def ms0 : List Str := ["_law_turns_right", "_law_rows_right"]
def ms : List Str := ms0
def loose0 : List Str := ["SwapError", "InvalidNumber", "InvalidTurn", "is_whole", "need_whole", "is_tuple_of", "LETTERS", "THINGS", "is_turn", "need_turn", "joined_of", "back_of", "turn_joined", "turn_back", "are_turn_rows", "need_turn_rows", "turns_in_all", "number_of", "turn_of", "turn_number", "turn_of_number", "turn_behind", "turn_exchanges", "rows_number", "rows_of_number", "_law_cup", "_law_roll", "_law_some", "_law_sort", "_law_like"]
def loose1 : List Str := ["_law_error", "_law_times", "_law_turn", "_law_number", "_law_behind", "_law_exchanges", "_law_turns_right", "_law_rows_right", "_law_written_right"]
def loose : List Str := loose0 ++ loose1
abbrev R : PySem.W.OpenRow := PySem.W.OpenLaw.row PySem.Challenge.rw_swapsagree_k03_whole_great_numbers_of_tu
abbrev hk : PySem.W.Hook := hookT 4 fa fn fx ms
def ob (s : PySem.W.SharedT) : AlT := obT 4 fa fn fx ms (HandSHeadRun.getT s)
theorem ob_eq (s : PySem.W.SharedT) : ob s = hk.obs s.abs := obT_eq (HandSHeadRun.getT_eq s)
theorem run (w : World) : HandSHeadRun.RunEq R (PySem.W.view R.prog [46]) hk ob 20000 loose w := by
  intro os
  kernel_rfl
theorem fs {K : PySem.W.Frag} {h : Heap} {mg : Str → Option Value} (X : K.In h) (G : h.Ns mainGlobals mg) (c : SaysT fa fn fx ms h.get? K) : Fs K mg where
  b_abs := free_ok X G (c.1.fact 0)
  b_all := free_ok X G (c.1.fact 1)
  b_bool := free_ok X G (c.1.fact 2)
  b_enumerate := free_ok X G (c.1.fact 3)
  b_int := free_ok X G (c.1.fact 4)
  b_isinstance := free_ok X G (c.1.fact 5)
  b_len := free_ok X G (c.1.fact 6)
  b_list := free_ok X G (c.1.fact 7)
  b_min := free_ok X G (c.1.fact 8)
  b_range := free_ok X G (c.1.fact 9)
  b_sorted := free_ok X G (c.1.fact 10)
  b_str := free_ok X G (c.1.fact 11)
  b_sum := free_ok X G (c.1.fact 12)
  b_tuple := free_ok X G (c.1.fact 13)
  b_zip := free_ok X G (c.1.fact 14)
  i_LETTERS := int_ok X G (c.1.fact 15)
  i_THINGS := int_ok X G (c.1.fact 16)
  x_InvalidNumber := errC_of X G (c.1.fact 17) (c.1.fact 18)
  x_InvalidTurn := errC_of X G (c.1.fact 19) (c.1.fact 20)
  d_SwapError := ⟨ga K "SwapError", glo_ok X G (c.1.fact 21)⟩
  k_InvalidNumber := exK_of X G (c.1.fact 17) (c.x 0)
  k_InvalidTurn := exK_of X G (c.1.fact 19) (c.x 1)
  m_InvalidNumber_SwapError := exM_of X G (c.1.fact 17) (c.1.fact 21) (c.1.fact 22)
  m_InvalidTurn_SwapError := exM_of X G (c.1.fact 19) (c.1.fact 21) (c.1.fact 23)
  q_InvalidNumber_InvalidNumber := exI_of X G (c.1.fact 17) (c.1.fact 17) (c.x 2)
  q_InvalidNumber_InvalidTurn := exI_of X G (c.1.fact 17) (c.1.fact 19) (c.x 3)
  q_InvalidTurn_InvalidNumber := exI_of X G (c.1.fact 19) (c.1.fact 17) (c.x 4)
  q_InvalidTurn_InvalidTurn := exI_of X G (c.1.fact 19) (c.1.fact 19) (c.x 5)
  f__law_cup := fun_of X G (c.1.fact 24) rfl (c.1.def_ 0)
  f_is_tuple_of := fun_of X G (c.1.fact 25) rfl (c.1.def_ 1)
  f_is_whole := fun_of X G (c.1.fact 26) rfl (c.1.def_ 2)
  f_is_turn := fun_of X G (c.1.fact 27) rfl (c.1.def_ 3)
  f_need_turn := fun_of X G (c.1.fact 28) rfl (c.1.def_ 4)
  f_number_of := fun_of X G (c.1.fact 29) rfl (c.1.def_ 5)
  f_turn_number := fun_of X G (c.1.fact 30) rfl (c.1.def_ 6)
  f_turn_behind := fun_of X G (c.1.fact 31) rfl (c.1.def_ 7)
  f_turn_exchanges := fun_of X G (c.1.fact 32) rfl (c.1.def_ 8)
  f__law_times := fun_of X G (c.1.fact 33) rfl (c.1.def_ 9)
  f_need_whole := fun_of X G (c.1.fact 34) rfl (c.1.def_ 10)
  f_turns_in_all := fun_of X G (c.1.fact 35) rfl (c.1.def_ 11)
  f_turn_of := fun_of X G (c.1.fact 36) rfl (c.1.def_ 12)
  f_turn_of_number := fun_of X G (c.1.fact 37) rfl (c.1.def_ 13)
  f_are_turn_rows := fun_of X G (c.1.fact 38) rfl (c.1.def_ 14)
  f_need_turn_rows := fun_of X G (c.1.fact 39) rfl (c.1.def_ 15)
  f_rows_number := fun_of X G (c.1.fact 40) rfl (c.1.def_ 16)
  f_rows_of_number := fun_of X G (c.1.fact 41) rfl (c.1.def_ 17)
  f__law_sort := fun_of X G (c.1.fact 42) rfl (c.1.def_ 18)
  f__law_like := fun_of X G (c.1.fact 43) rfl (c.1.def_ 19)
  f__law_written_right := fun_of X G (c.1.fact 44) rfl (c.1.def_ 20)
  f__law_roll := fun_of X G (c.1.fact 45) rfl (c.1.def_ 21)
  f__law_some := fun_of X G (c.1.fact 46) rfl (c.1.def_ 22)
  f__law_turn := fun_of X G (c.1.fact 47) rfl (c.1.def_ 23)
  f__law_number := fun_of X G (c.1.fact 48) rfl (c.1.def_ 24)
  f__law_behind := fun_of X G (c.1.fact 49) rfl (c.1.def_ 25)
  f_back_of := fun_of X G (c.1.fact 50) rfl (c.1.def_ 26)
  f_turn_back := fun_of X G (c.1.fact 51) rfl (c.1.def_ 27)
  f__law_exchanges := fun_of X G (c.1.fact 52) rfl (c.1.def_ 28)
  f_joined_of := fun_of X G (c.1.fact 53) rfl (c.1.def_ 29)
  f_turn_joined := fun_of X G (c.1.fact 54) rfl (c.1.def_ 30)
  f__law_error := fun_of X G (c.1.fact 55) rfl (c.1.def_ 31)
  f__law_turns_right := fun_of X G (c.1.fact 56) rfl (c.1.def_ 32)
  f__law_rows_right := fun_of X G (c.1.fact 57) rfl (c.1.def_ 33)
  f_law := fun_of X G (c.1.fact 58) rfl (c.1.def_ 34)
theorem ys {K : PySem.W.Frag} {h base : Heap} {mg : Str → Option Value} (X : K.In h) (G : h.Ns mainGlobals mg) (c : SaysT fa fn fx ms h.get? K) (T : ∀ x ∈ ms, LamX.TabB base mg (codeOf K x) (tabOf K x)) : @Ys (ltOf K ms) K mg base :=
  @Ys.mk (ltOf K ms) K mg base (c.lamF (by decide) (glo_ok X G (c.1.fact 56)) (T _ (by decide))) (c.lamF (by decide) (glo_ok X G (c.1.fact 57)) (T _ (by decide)))
end G
open PySem PySem.W PySem.Calls PyProof.Rows
theorem PySem.Challenge.cw_swapsagree_k03_whole_great_numbers_of_tu_holds : PySem.Challenge.rw_swapsagree_k03_whole_great_numbers_of_tu.Holds := by
  w_on; o_law
  refine HandSHeadRun.head_any (r := OpenLaw.row PySem.Challenge.rw_swapsagree_k03_whole_great_numbers_of_tu) (q := view (OpenLaw.row PySem.Challenge.rw_swapsagree_k03_whole_great_numbers_of_tu).prog [46]) (H := G.hk) (ob := G.ob) (M := 20000) (loose := G.loose) (d := HandSHeadRun.topDef (OpenLaw.row PySem.Challenge.rw_swapsagree_k03_whole_great_numbers_of_tu).prog 46) (kwd := []) G.ob_eq
    (by kernel_rfl) (fun s => by kernel_rfl) G.run (by kernel_rfl) (by kernel_rfl) (by kernel_rfl) (by rfl) (by first | assumption | decide +kernel) (by decide +kernel) ⟨rfl, rfl, rfl, rfl, rfl, by decide +kernel⟩ ?hw ?hc
  case hw => w_witness2
  case hc =>
    refine LamX.walk_ofTsE (l := PySem.Challenge.rw_swapsagree_k03_whole_great_numbers_of_tu) (n := 63) (k := 16) (x := "script") (CX := fun w => L2.CX (PySem.Challenge.rw_swapsagree_k03_whole_great_numbers_of_tu).prog w) rfl (by decide) (by kernel_rfl) ⟨rfl, by decide, by decide⟩ ?F (fun _ _ _ _ _ z => Z.cx_false z)
    intro w mg fa h Y N hmg0
    obtain ⟨K, KX, c⟩ := Y
    have hmg : mg ("law" : PySem.Str) = some (.ref fa) := by
      have e : (HandSHeadRun.topDef (OpenLaw.row PySem.Challenge.rw_swapsagree_k03_whole_great_numbers_of_tu).prog 46).name = ("law" : PySem.Str) := by kernel_rfl
      rw [← e]
      exact hmg0
    letI : Z.LT := Z.ltOf K G.ms
    have fs := G.fs KX N c
    obtain ⟨f, fd, g, F⟩ := fs.f_law
    have ef := hmg.symm.trans g
    cases ef
    have okc := fun x (hx : x ∈ G.ms) => c.lam hx
    refine ⟨K, KX, fd, G.ms.map fun x => (Z.codeOf K x, Z.tabOf K x), Z.spZ K mg 1 G.m_law, fun p hp => ?_, fun p hp => ?_, fun p hp => ?_, fun s u => ?_, fun H a ns hl hb hH hS => ?_, fun base Kb Nb T => ?_⟩
    · obtain ⟨x, hx, rfl⟩ := List.mem_map.mp hp
      obtain ⟨h1, h2⟩ := He.ba (okc x hx)
      obtain ⟨h3, h4⟩ := He.ba h2
      obtain ⟨h5, h6⟩ := He.ba h4
      exact Z.tbB_ok h5
    · obtain ⟨x, hx, rfl⟩ := List.mem_map.mp hp
      obtain ⟨h1, h2⟩ := He.ba (okc x hx)
      obtain ⟨h3, h4⟩ := He.ba h2
      obtain ⟨h5, h6⟩ := He.ba h4
      exact Option.isNone_iff_eq_none.mp h6
    · obtain ⟨x, hx, rfl⟩ := List.mem_map.mp hp
      obtain ⟨h1, h2⟩ := He.ba (okc x hx)
      obtain ⟨h3, h4⟩ := He.ba h2
      exact Z.cdB_ok KX h3
    · exact F.bindsA (ps := ["script"]) (fun _ _ _ _ _ _ us hl => match us, hl with | [_], _ => rfl) s [u] rfl
    · refine Z.law_sp (fun p hp => ?_) hS (G.plain ns hl hb).1 (G.plain ns hl hb).2
      obtain ⟨x, hx, rfl⟩ := List.mem_map.mp (show p ∈ G.ms.map _ from hp)
      exact hH _ (List.mem_map.mpr ⟨x, hx, rfl⟩)
    · exact G.c_law (P := (PySem.Challenge.rw_swapsagree_k03_whole_great_numbers_of_tu).prog) (w := w) (base := base) fs (G.ys KX N c fun x hx => T _ (List.mem_map.mpr ⟨x, hx, rfl⟩)) F
