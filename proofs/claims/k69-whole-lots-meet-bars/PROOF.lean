import PyProof.Rows.All
import Wide.All
import OpenK.AllK
import Wide.FinOn
import HandS.ForMost
import HandS.Evl
import HandS.Exc
import HandS.ExcOwn
import HandS.TryOnly
import HandS.WordsExc
import HandS.IsInst
import HandS.Deep
import HandS.Wide
import HandS.Flow
import HandS.Style
import HandS.EndTab
import HandS.TupAny
import HandS.Rev
import HandS.Zip
import HandS.SortInts
import KE.GoesEnum
import KE.SortKeyHeap
import HandS.HeadWalk
import HandS.HeadEnd
import HandS.HeadHook4
import HandS.Head2
import HandS.NestedK
import KE.OsArith
import PySem.Challenge.RW_seatsbothways_k69_whole_lots_meet_bars
set_option Elab.async false
set_option linter.all false
set_option maxRecDepth 100000
set_option autoImplicit false
namespace DL
open PySem PySem.Spec PyProof.Rows L2
open Evl (Ex)
abbrev St := L2.St

/-- plain data -/
inductive D where
  | non | bl (b : Bool) | int (i : Int) | str (s : Str)
  | tup (xs : List D) | lst (xs : List D) | frz (xs : List D)
  | obj (c : Str) (ns : List Str) (xs : List D)

/-- the tables of code objects that stand at the start -/
class Tb where
  T : List (Addr × Str)
  /-- no guards stand around the law -/
  gd : Prop
structure Ck where
  K : PySem.W.Frag
  mg : Str → Option Value

mutual
def Rep (C : Ck) (B : Hp) : D → V → Prop
  | .non, v => v = .non
  | .bl b, v => v = .bl b
  | .int i, v => v = .int i
  | .str s, v => v = .str s
  | .tup ds, v => ∃ a vs, v = .ref a ∧ SqT C.K B a vs ∧ RepL C B ds vs
  | .lst ds, v => ∃ a vs, v = .ref a ∧ B a = some (.lst vs) ∧ RepL C B ds vs
  | .frz ds, v => ∃ a vs, v = .ref a ∧ SqL C.K B a vs ∧ RepL C B ds vs
  | .obj c ns ds, v => ∃ a A dx vs, v = .ref a ∧ C.mg c = some (.ref A) ∧ B a = some (.ins A dx (ns.zip vs)) ∧ ns.length = vs.length ∧ RepL C B ds vs
def RepL (C : Ck) (B : Hp) : List D → List V → Prop
  | [], vs => vs = []
  | d :: ds, vs => ∃ v r, vs = v :: r ∧ Rep C B d v ∧ RepL C B ds r
end

variable {C : Ck} {B B1 B2 H H1 H2 : Hp}
mutual
theorem Rep.mono (e : Ex B B1) : ∀ (d : D) {v : V}, Rep C B d v → Rep C B1 d v
  | .non, _, h => h
  | .bl _, _, h => h
  | .int _, _, h => h
  | .str _, _, h => h
  | .tup ds, _, h => by
    obtain ⟨a, vs, e1, h1, h2⟩ := h
    exact ⟨a, vs, e1, Evl.ex_t e h1, RepL.mono e ds h2⟩
  | .lst ds, _, h => by
    obtain ⟨a, vs, e1, h1, h2⟩ := h
    exact ⟨a, vs, e1, e _ _ h1, RepL.mono e ds h2⟩
  | .frz ds, _, h => by
    obtain ⟨a, vs, e1, h1, h2⟩ := h
    exact ⟨a, vs, e1, Evl.ex_l e h1, RepL.mono e ds h2⟩
  | .obj c ns ds, _, h => by
    obtain ⟨a, A, dx, vs, e1, e2, h1, e3, h2⟩ := h
    exact ⟨a, A, dx, vs, e1, e2, e _ _ h1, e3, RepL.mono e ds h2⟩
theorem RepL.mono (e : Ex B B1) : ∀ (ds : List D) {vs : List V}, RepL C B ds vs → RepL C B1 ds vs
  | [], _, h => h
  | d :: ds, _, h => by
    obtain ⟨v, r, e1, h1, h2⟩ := h
    exact ⟨v, r, e1, Rep.mono e d h1, RepL.mono e ds h2⟩
end
theorem RepL.length : ∀ {ds : List D} {vs : List V}, RepL C B ds vs → vs.length = ds.length
  | [], _, h => by rw [show _ = [] from h]; rfl
  | d :: ds, _, h => by
    obtain ⟨v, r, rfl, _, h2⟩ := h
    rw [List.length_cons, List.length_cons, RepL.length h2]
theorem RepL.get : ∀ {ds : List D} {vs : List V} {i : Nat} {d : D}, RepL C B ds vs → ds[i]? = some d → ∃ v, vs[i]? = some v ∧ Rep C B d v
  | [], _, _, _, _, e => by simp at e
  | d :: ds, _, 0, x, h, e => by
    obtain ⟨v, r, rfl, h1, h2⟩ := h
    simp at e; subst e
    exact ⟨v, by simp, h1⟩
  | d :: ds, _, i + 1, x, h, e => by
    obtain ⟨v, r, rfl, h1, h2⟩ := h
    obtain ⟨w, e2, h3⟩ := RepL.get (i := i) h2 (by simpa using e)
    exact ⟨w, by simpa using e2, h3⟩
theorem RepL.append : ∀ {ds es : List D} {vs ws : List V}, RepL C B ds vs → RepL C B es ws → RepL C B (ds ++ es) (vs ++ ws)
  | [], _, _, _, h, h' => by rw [show _ = [] from h]; exact h'
  | d :: ds, _, _, _, h, h' => by
    obtain ⟨v, r, rfl, h1, h2⟩ := h
    exact ⟨v, r ++ _, rfl, h1, RepL.append h2 h'⟩
theorem RepL.cons {d : D} {ds : List D} {v : V} {vs : List V} (h : Rep C B d v) (h2 : RepL C B ds vs) : RepL C B (d :: ds) (v :: vs) := ⟨v, vs, rfl, h, h2⟩
theorem RepL.one {d : D} {v : V} (h : Rep C B d v) : RepL C B [d] [v] := ⟨v, [], rfl, h, rfl⟩
theorem RepL.set : ∀ {ds : List D} {vs : List V} (i : Nat) {d : D} {v : V}, RepL C B ds vs → Rep C B d v → RepL C B (ds.set i d) (vs.set i v)
  | [], _, _, _, _, h, _ => by rw [show _ = [] from h]; rfl
  | d :: ds, _, 0, _, _, h, h' => by
    obtain ⟨v, r, rfl, h1, h2⟩ := h
    exact ⟨_, r, rfl, h', h2⟩
  | d :: ds, _, i + 1, _, _, h, h' => by
    obtain ⟨v, r, rfl, h1, h2⟩ := h
    exact ⟨v, _, rfl, h1, RepL.set i h2 h'⟩
theorem RepL.take : ∀ {ds : List D} {vs : List V} (n : Nat), RepL C B ds vs → RepL C B (ds.take n) (vs.take n)
  | [], _, n, h => by rw [show _ = [] from h]; simp; rfl
  | d :: ds, _, 0, h => by simp; rfl
  | d :: ds, _, n + 1, h => by
    obtain ⟨v, r, rfl, h1, h2⟩ := h
    exact ⟨v, _, rfl, h1, RepL.take n h2⟩
theorem RepL.drop : ∀ {ds : List D} {vs : List V} (n : Nat), RepL C B ds vs → RepL C B (ds.drop n) (vs.drop n)
  | [], _, n, h => by rw [show _ = [] from h]; simp; rfl
  | d :: ds, _, 0, h => by simpa using h
  | d :: ds, _, n + 1, h => by
    obtain ⟨v, r, rfl, h1, h2⟩ := h
    simpa using RepL.drop n h2
theorem RepL.erase : ∀ {ds : List D} {vs : List V} (n : Nat), RepL C B ds vs → RepL C B (ds.eraseIdx n) (vs.eraseIdx n)
  | [], _, n, h => by rw [show _ = [] from h]; simp; rfl
  | d :: ds, _, 0, h => by
    obtain ⟨v, r, rfl, h1, h2⟩ := h
    simpa using h2
  | d :: ds, _, n + 1, h => by
    obtain ⟨v, r, rfl, h1, h2⟩ := h
    exact ⟨v, _, rfl, h1, RepL.erase n h2⟩
theorem RepL.reverse : ∀ {ds : List D} {vs : List V}, RepL C B ds vs → RepL C B ds.reverse vs.reverse
  | [], _, h => by rw [show _ = [] from h]; rfl
  | d :: ds, _, h => by
    obtain ⟨v, r, rfl, h1, h2⟩ := h
    rw [List.reverse_cons, List.reverse_cons]
    exact RepL.append (RepL.reverse h2) (RepL.one h1)
theorem RepL.ints : ∀ {ns : List Int} {vs : List V}, RepL C B (ns.map D.int) vs → vs = ns.map V.int
  | [], _, h => h
  | n :: ns, _, h => by
    obtain ⟨v, r, rfl, h1, h2⟩ := h
    rw [RepL.ints h2, show v = _ from h1]; rfl
theorem RepL.of_ints : ∀ {ns : List Int}, RepL C B (ns.map D.int) (ns.map V.int)
  | [] => rfl
  | n :: ns => ⟨_, _, rfl, rfl, RepL.of_ints⟩

variable [Tb]
/-! ### what a step may change -/
/-- no table of code objects is taken as unchanging -/
def NT (B : Hp) : Prop := ∀ b ps, B b ≠ some (.tbl ps)
theorem NT.upd {p : Addr} {o : HO} (h : NT B) (ho : ∀ ps, o ≠ .tbl ps) : NT (upd B p o) := fun b ps z => by
  by_cases q : b = p
  · rw [q, upd_same] at z; exact ho ps (Option.some.inj z)
  · rw [upd_ne q] at z; exact h b ps z
structure Tr (W : Addr → Prop) (B H B' H' : Hp) : Prop where
  ex : Ex B B'
  nb : ∀ b, H b ≠ none → B' b = B b
  kp : ∀ b o, H b = some o → ¬ W b → (∀ ps, o ≠ .tbl ps) → H' b = some o
  dm : ∀ b, H b ≠ none → H' b ≠ none
  tb : LamX.Tabs Tb.T H → LamX.Tabs Tb.T H'
  nt : NT B → NT B'
theorem tabs_of {H H' : Hp} (k : ∀ b o, H b = some o → (∀ vs, o ≠ .lst vs) → H' b = some o) : ∀ T, LamX.Tabs T H → LamX.Tabs T H' := fun T h p hp => by
  obtain ⟨ps, h1, h2, h3⟩ := h p hp
  refine ⟨ps, k _ _ h1 (fun _ z => by cases z), h2, fun pos cv hc => ?_⟩
  obtain ⟨c, e1, e2⟩ := h3 pos cv hc
  exact ⟨c, e1, k _ _ e2 (fun _ z => by unfold LamX.CodeO at z; cases z)⟩
theorem no_tbl {vs : List V} : ∀ ps, (HO.lst vs) ≠ .tbl ps := fun _ z => by cases z
theorem Tr.refl (W : Addr → Prop) (B H : Hp) : Tr W B H B H := ⟨Ex.refl B, fun _ _ => rfl, fun _ _ h _ _ => h, fun _ h => h, fun h => h, fun h => h⟩
theorem Tr.trans {W W1 : Addr → Prop} (a : Tr W B H B1 H1) (b : Tr W1 B1 H1 B2 H2) (hw : ∀ x, W1 x → W x ∨ H x = none) : Tr W B H B2 H2 where
  ex := a.ex.trans b.ex
  nb := fun x h => (b.nb x (a.dm x h)).trans (a.nb x h)
  kp := fun x o h n nt => b.kp x o (a.kp x o h n nt) (fun w => (hw x w).elim n fun q => by rw [h] at q; cases q) nt
  dm := fun x h => b.dm x (a.dm x h)
  tb := fun h => b.tb (a.tb h)
  nt := fun h => b.nt (a.nt h)

inductive Sl where
  | im (d : D)
  | mu (own : Bool) (ds : List D)
abbrev En := List (Option Sl)

structure Gh where
  C : Ck
  H0 : Hp
  B0 : Hp
  P : List Addr
  Z : Nat → Option Addr
  tb : LamX.Tabs Tb.T H0
  nt : NT B0

/-- the slot's mutable list stands at b -/
def MuA (σ : St) (ρ : En) (b : Addr) : Prop := ∃ (i : Nat) (o : Bool) (ds : List D), ρ[i]? = some (some (Sl.mu o ds)) ∧ σ[i]? = some (some (V.ref b))

structure SO (G : Gh) (B H : Hp) (σ : St) (ρ : En) : Prop where
  len : σ.length = ρ.length
  ex : Ex B H
  im : ∀ (i : Nat) (d : D), ρ[i]? = some (some (.im d)) → ∃ v, σ[i]? = some (some v) ∧ Rep G.C B d v
  mu : ∀ (i : Nat) (o : Bool) (ds : List D), ρ[i]? = some (some (.mu o ds)) → ∃ l vs, σ[i]? = some (some (.ref l)) ∧ H l = some (.lst vs) ∧ B l = none ∧ RepL G.C B ds vs ∧ (o = true → G.H0 l = none) ∧ (o = false → l ∈ G.P ∧ G.Z i = some l)
  ap : ∀ (i j : Nat) (o : Bool) (ds : List D) (o' : Bool) (ds' : List D) (l : Addr), ρ[i]? = some (some (.mu o ds)) → ρ[j]? = some (some (.mu o' ds')) → σ[i]? = some (some (.ref l)) → σ[j]? = some (some (.ref l)) → i = j
  tr : Tr (· ∈ G.P) G.B0 G.H0 B H

variable {G : Gh} {σ σ' : St} {ρ ρ1 ρ2 ρ' : En}
theorem SO.muSome (S : SO G B H σ ρ) {b : Addr} (h : MuA σ ρ b) : ∃ vs, H b = some (.lst vs) ∧ B b = none := by
  obtain ⟨i, o, ds, e1, e2⟩ := h
  obtain ⟨l, vs, e3, h1, h2, _⟩ := S.mu i o ds e1
  rw [e3] at e2; cases e2
  exact ⟨vs, h1, h2⟩
theorem SO.muW (S : SO G B H σ ρ) {b : Addr} (h : MuA σ ρ b) : b ∈ G.P ∨ G.H0 b = none := by
  obtain ⟨i, o, ds, e1, e2⟩ := h
  obtain ⟨l, vs, e3, h1, h2, h3, h4, h5⟩ := S.mu i o ds e1
  rw [e3] at e2; cases e2
  cases o with
  | true => exact .inr (h4 rfl)
  | false => exact .inl (h5 rfl).1

/-- a step of an expression -/
structure StT (σ : St) (ρ : En) (B H : Hp) (ρ' : En) (B' H' : Hp) : Prop where
  tr : Tr (MuA σ ρ) B H B' H'
  mu : ∀ b, MuA σ ρ' b → MuA σ ρ b
theorem StT.refl (σ : St) (ρ : En) (B H : Hp) : StT σ ρ B H ρ B H := ⟨Tr.refl _ _ _, fun _ h => h⟩
theorem StT.trans (a : StT σ ρ B H ρ1 B1 H1) (b : StT σ ρ1 B1 H1 ρ2 B2 H2) : StT σ ρ B H ρ2 B2 H2 :=
  ⟨a.tr.trans b.tr fun x w => .inl (a.mu x w), fun x h => a.mu x (b.mu x h)⟩

/-- a new object, nothing known of it but that it is there -/
theorem SO.new (S : SO G B H σ ρ) {p : Addr} {o : HO} (hp : H p = none) : SO G B (upd H p o) σ ρ where
  len := S.len
  ex := fun a u e => by
    have h := S.ex a u e
    rw [upd_ne (ne_of_none h hp)]; exact h
  im := S.im
  mu := fun i o ds e => by
    obtain ⟨l, vs, e1, h1, r⟩ := S.mu i o ds e
    exact ⟨l, vs, e1, by rw [upd_ne (ne_of_none h1 hp)]; exact h1, r⟩
  ap := S.ap
  tr := ⟨S.tr.ex, S.tr.nb, fun b o h n nt => by
      have q := S.tr.kp b o h n nt
      rw [upd_ne (ne_of_none q hp)]; exact q, fun b h => by
      by_cases e : b = p
      · rw [e, upd_same]; intro z; cases z
      · rw [upd_ne e]; exact S.tr.dm b h, fun h => tabs_of (fun b u q _ => by rw [upd_ne (ne_of_none q hp)]; exact q) _ (S.tr.tb h), S.tr.nt⟩
theorem StT.new {p : Addr} {o : HO} (hp : H p = none) : StT σ ρ B H ρ B (upd H p o) :=
  ⟨⟨Ex.refl B, fun _ _ => rfl, fun b o h _ _ => by rw [upd_ne (ne_of_none h hp)]; exact h, fun b h => by
      by_cases e : b = p
      · rw [e, upd_same]; intro z; cases z
      · rw [upd_ne e]; exact h, tabs_of (fun b u q _ => by rw [upd_ne (ne_of_none q hp)]; exact q) _, fun h => h⟩, fun _ h => h⟩
theorem SO.bnone (S : SO G B H σ ρ) {p : Addr} (hp : H p = none) : B p = none := by
  cases e : B p with
  | none => rfl
  | some o => rw [S.ex _ _ e] at hp; cases hp
theorem SO.h0none (S : SO G B H σ ρ) {p : Addr} (hp : H p = none) : G.H0 p = none := by
  cases e : G.H0 p with
  | none => rfl
  | some o => exact absurd hp (S.tr.dm p (by rw [e]; intro z; cases z))
/-- what H knows, not a slot's, becomes known as unchanging -/
theorem SO.freeze (S : SO G B H σ ρ) {p : Addr} {o : HO} (hp : H p = some o) (hb : B p = none) (h0 : G.H0 p = none) (hm : ¬ MuA σ ρ p) (ho : ∀ ps, o ≠ .tbl ps := by intro _ z; cases z) : SO G (upd B p o) H σ ρ where
  len := S.len
  ex := fun a u e => by
    by_cases q : a = p
    · rw [q, upd_same] at e; cases e; rw [q]; exact hp
    · rw [upd_ne q] at e; exact S.ex a u e
  im := fun i d e => by
    obtain ⟨v, e1, h⟩ := S.im i d e
    exact ⟨v, e1, Rep.mono (Ex.new hb) d h⟩
  mu := fun i o ds e => by
    obtain ⟨l, vs, e1, h1, h2, h3, r⟩ := S.mu i o ds e
    have ne : l ≠ p := fun z => hm ⟨i, o, ds, e, by rw [← z]; exact e1⟩
    exact ⟨l, vs, e1, h1, by rw [upd_ne ne]; exact h2, RepL.mono (Ex.new hb) ds h3, r⟩
  ap := S.ap
  tr := ⟨S.tr.ex.trans (Ex.new hb), fun b h => by
      have ne : b ≠ p := fun z => h (by rw [z]; exact h0)
      rw [upd_ne ne]; exact S.tr.nb b h, S.tr.kp, S.tr.dm, S.tr.tb, fun h => (S.tr.nt h).upd ho⟩
/-- a new object, unchanging from now on -/
theorem SO.newI (S : SO G B H σ ρ) {p : Addr} {o : HO} (hp : H p = none) (ho : ∀ ps, o ≠ .tbl ps := by intro _ z; cases z) : SO G (upd B p o) (upd H p o) σ ρ :=
  (S.new hp).freeze upd_same (S.bnone hp) (S.h0none hp) (fun h => by
    obtain ⟨vs, q, _⟩ := S.muSome h
    rw [q] at hp; cases hp) ho
theorem StT.newI {p : Addr} {o : HO} (S : SO G B H σ ρ) (hp : H p = none) (ho : ∀ ps, o ≠ .tbl ps := by intro _ z; cases z) : StT σ ρ B H ρ (upd B p o) (upd H p o) where
  tr := ⟨Ex.new (S.bnone hp), fun b h => by rw [upd_ne (fun z => h (by rw [z]; exact hp))], (StT.new (σ := σ) (ρ := ρ) (B := B) hp).tr.kp, (StT.new (σ := σ) (ρ := ρ) (B := B) hp).tr.dm, (StT.new (σ := σ) (ρ := ρ) (B := B) hp).tr.tb, fun h => h.upd ho⟩
  mu := fun _ h => h

/-- a slot's list is changed -/
theorem SO.write (S : SO G B H σ ρ) {i : Nat} {o : Bool} {ds ds' : List D} {l : Addr} {vs' : List V} (e : ρ[i]? = some (some (.mu o ds))) (eσ : σ[i]? = some (some (.ref l))) (r : RepL G.C B ds' vs') :
    SO G B (upd H l (.lst vs')) σ (ρ.set i (some (.mu o ds'))) ∧ StT σ ρ B H (ρ.set i (some (.mu o ds'))) B (upd H l (.lst vs')) := by
  have hm : MuA σ ρ l := ⟨i, o, ds, e, eσ⟩
  obtain ⟨vs, h1, h2⟩ := S.muSome hm
  have hi : i < ρ.length := (List.getElem?_eq_some_iff.mp e).1
  have keepT : ∀ b o, H b = some o → (∀ vs, o ≠ .lst vs) → upd H l (.lst vs') b = some o := fun b o q n => by
    rw [upd_ne (fun z => by rw [z, h1] at q; exact n _ (Option.some.inj q).symm)]; exact q
  have look : ∀ (j : Nat) (x : Sl), (ρ.set i (some (.mu o ds')))[j]? = some (some x) → (j = i ∧ x = .mu o ds') ∨ (j ≠ i ∧ ρ[j]? = some (some x)) := fun j x q => by
    by_cases z : j = i
    · subst z; rw [List.getElem?_set_self hi] at q; cases q; exact .inl ⟨rfl, rfl⟩
    · rw [List.getElem?_set_ne (Ne.symm z)] at q; exact .inr ⟨z, q⟩
  have muS : ∀ b, MuA σ (ρ.set i (some (.mu o ds'))) b → MuA σ ρ b := fun b ⟨j, o2, ds2, q1, q2⟩ => by
    rcases look j _ q1 with ⟨rfl, z⟩ | ⟨_, z⟩
    · cases z; exact ⟨j, o, ds, e, q2⟩
    · exact ⟨j, o2, ds2, z, q2⟩
  refine ⟨⟨by rw [List.length_set]; exact S.len, S.ex.mut h2, fun j d q => ?_, fun j o2 ds2 q => ?_, fun j k o2 ds2 o3 ds3 l2 q1 q2 q3 q4 => ?_, ?_⟩, ⟨⟨Ex.refl B, fun _ _ => rfl, fun b u q n _ => ?_, fun b q => ?_, tabs_of keepT _, fun h => h⟩, muS⟩⟩
  · rcases look j _ q with ⟨_, z⟩ | ⟨_, z⟩
    · cases z
    · exact S.im j d z
  · rcases look j _ q with ⟨rfl, z⟩ | ⟨nj, z⟩
    · cases z
      obtain ⟨l2, vs2, e3, h3, h4, h5, h6⟩ := S.mu j o ds e
      rw [eσ] at e3; cases e3
      exact ⟨l, vs', eσ, upd_same, h4, r, h6⟩
    · obtain ⟨l2, vs2, e3, h3, h4⟩ := S.mu j o2 ds2 z
      have ne : l2 ≠ l := fun w => nj (S.ap j i o2 ds2 o ds l2 z e e3 (by rw [w]; exact eσ))
      exact ⟨l2, vs2, e3, by rw [upd_ne ne]; exact h3, h4⟩
  · have g : ∀ (m : Nat) (o2 : Bool) (ds2 : List D), (ρ.set i (some (.mu o ds')))[m]? = some (some (.mu o2 ds2)) → ∃ o3 ds3, ρ[m]? = some (some (.mu o3 ds3)) := fun m o2 ds2 q => by
      rcases look m _ q with ⟨rfl, z⟩ | ⟨_, z⟩
      · exact ⟨o, ds, e⟩
      · exact ⟨o2, ds2, z⟩
    obtain ⟨_, _, r1⟩ := g j o2 ds2 q1
    obtain ⟨_, _, r2⟩ := g k o3 ds3 q2
    exact S.ap j k _ _ _ _ l2 r1 r2 q3 q4
  · refine ⟨S.tr.ex, S.tr.nb, fun b u q n nt => ?_, fun b q => ?_, fun h => tabs_of keepT _ (S.tr.tb h), S.tr.nt⟩
    · have ne : b ≠ l := fun z => (S.muW hm).elim (fun w => n (by rw [z]; exact w)) fun w => by rw [z, w] at q; cases q
      rw [upd_ne ne]; exact S.tr.kp b u q n nt
    · by_cases z : b = l
      · rw [z, upd_same]; intro w; cases w
      · rw [upd_ne z]; exact S.tr.dm b q
  · rw [upd_ne (fun z => n (by rw [z]; exact hm))]; exact q
  · by_cases z : b = l
    · rw [z, upd_same]; intro w; cases w
    · rw [upd_ne z]; exact q

/-! ### results -/
inductive R (α : Type) where
  | ok (a : α) | exn (c : Str) (ns : List Str) (ds : List D) (ρ : En) | stk
def R.bind {α β : Type} (x : R α) (f : α → R β) : R β := match x with
  | .ok a => f a
  | .exn c ns ds ρ => .exn c ns ds ρ
  | .stk => .stk
@[simp] theorem R.ok_bind {α β : Type} (a : α) (f : α → R β) : (R.ok a).bind f = f a := rfl
@[simp] theorem R.exn_bind {α β : Type} (c ns ds ρ) (f : α → R β) : (R.exn c ns ds ρ : R α).bind f = .exn c ns ds ρ := rfl
@[simp] theorem R.stk_bind {α β : Type} (f : α → R β) : (R.stk : R α).bind f = .stk := rfl
def oR {α : Type} : Option α → R α
  | some a => .ok a
  | none => .stk
@[simp] theorem oR_some {α : Type} (a : α) : oR (some a) = .ok a := rfl
@[simp] theorem oR_none {α : Type} : oR (none : Option α) = .stk := rfl

inductive Pl where
  | val (d : D) | slot (i : Nat) | new (ds : List D)

/-- the value that an expression gave; Hs: the heap ahead of it -/
def plRep (C : Ck) (Hs : Hp) (σ : St) (B H : Hp) : Pl → V → Prop
  | .val d, v => Rep C B d v
  | .slot i, v => σ[i]? = some (some v)
  | .new ds, v => ∃ l vs, v = .ref l ∧ H l = some (.lst vs) ∧ B l = none ∧ Hs l = none ∧ RepL C B ds vs
theorem plRep.start {Hs Hs' : Hp} {p : Pl} {v : V} (h : plRep C Hs σ B H p v) (dm : ∀ b, Hs' b ≠ none → Hs b ≠ none) : plRep C Hs' σ B H p v := by
  cases p with
  | val d => exact h
  | slot i => exact h
  | new ds =>
    obtain ⟨l, vs, e, h1, h2, h3, h4⟩ := h
    refine ⟨l, vs, e, h1, h2, ?_, h4⟩
    cases q : Hs' l with
    | none => rfl
    | some o => exact absurd h3 (dm l (by rw [q]; intro z; cases z))
theorem plRep.step {Hs : Hp} {p : Pl} {v : V} (S : SO G B H σ ρ) (hs : ∀ b, MuA σ ρ b → Hs b ≠ none) (h : plRep G.C Hs σ B H p v) (st : StT σ ρ B H ρ1 B1 H1) : plRep G.C Hs σ B1 H1 p v := by
  cases p with
  | val d => exact Rep.mono st.tr.ex d h
  | slot i => exact h
  | new ds =>
    obtain ⟨l, vs, e, h1, h2, h3, h4⟩ := h
    have n : ¬ MuA σ ρ l := fun m => hs l m h3
    exact ⟨l, vs, e, st.tr.kp l _ h1 n no_tbl, by rw [st.tr.nb l (by rw [h1]; intro z; cases z)]; exact h2, h3, RepL.mono st.tr.ex ds h4⟩

/-- a value as it may be read now -/
def VRep (C : Ck) (B H : Hp) : D → V → Prop
  | .lst ds, v => ∃ l vs, v = .ref l ∧ H l = some (.lst vs) ∧ RepL C B ds vs
  | d, v => Rep C B d v
theorem VRep.of (ex : Ex B H) {d : D} {v : V} (h : Rep C B d v) : VRep C B H d v := by
  cases d with
  | lst ds =>
    obtain ⟨a, vs, e, h1, h2⟩ := h
    exact ⟨a, vs, e, ex _ _ h1, h2⟩
  | _ => exact h
def view (ρ : En) : Pl → R D
  | .val d => .ok d
  | .new ds => .ok (.lst ds)
  | .slot i => match ρ[i]? with
    | some (some (.im d)) => .ok d
    | some (some (.mu _ ds)) => .ok (.lst ds)
    | _ => .stk
theorem view_ok {Hs : Hp} {p : Pl} {v : V} {d : D} (S : SO G B H σ ρ) (h : plRep G.C Hs σ B H p v) (e : view ρ p = .ok d) : VRep G.C B H d v := by
  cases p with
  | val d' =>
    cases e
    exact VRep.of S.ex h
  | new ds =>
    cases e
    obtain ⟨l, vs, e, h1, h2, h3, h4⟩ := h
    exact ⟨l, vs, e, h1, h4⟩
  | slot i =>
    unfold view at e
    have h' : σ[i]? = some (some v) := h
    dsimp only at e
    split at e
    · rename_i d' q
      cases e
      obtain ⟨w, e1, h1⟩ := S.im i _ q
      rw [h'] at e1; cases e1
      exact VRep.of S.ex h1
    · rename_i o ds q
      cases e
      obtain ⟨l, vs, e1, h1, h2, h3, _⟩ := S.mu i _ _ q
      rw [h'] at e1; cases e1
      exact ⟨l, vs, rfl, h1, h3⟩
    · cases e
theorem view_exn {p : Pl} {c ns ds ρ'} (e : view ρ p = .exn c ns ds ρ') : False := by
  cases p with
  | val d => cases e
  | new ds => cases e
  | slot i =>
    unfold view at e
    dsimp only at e
    split at e <;> cases e
/-- as an unchanging value -/
def immP (ρ : En) : Pl → R D
  | .val d => .ok d
  | .new ds => .ok (.lst ds)
  | .slot i => match ρ[i]? with
    | some (some (.im d)) => .ok d
    | _ => .stk
theorem immP_exn {p : Pl} {c ns ds ρ'} (e : immP ρ p = .exn c ns ds ρ') : False := by
  cases p with
  | val d => cases e
  | new ds => cases e
  | slot i =>
    unfold immP at e
    dsimp only at e
    split at e <;> cases e
theorem immP_ok {Hs : Hp} {p : Pl} {v : V} {d : D} (S : SO G B H σ ρ) (hs : ∀ b, MuA σ ρ b → Hs b ≠ none) (h0 : ∀ b, G.H0 b ≠ none → Hs b ≠ none) (hB : ∀ b, Hs b ≠ none → H b ≠ none) (h : plRep G.C Hs σ B H p v) (e : immP ρ p = .ok d) :
    ∃ B', SO G B' H σ ρ ∧ Ex B B' ∧ (NT B → NT B') ∧ (∀ b, Hs b ≠ none → B' b = B b) ∧ Rep G.C B' d v := by
  cases p with
  | val d' => cases e; exact ⟨B, S, Ex.refl B, fun h => h, fun _ _ => rfl, h⟩
  | new ds =>
    cases e
    obtain ⟨l, vs, e, h1, h2, h3, h4⟩ := h
    have n : ¬ MuA σ ρ l := fun m => hs l m h3
    have h5 : G.H0 l = none := by
      cases q : G.H0 l with
      | none => rfl
      | some o => exact absurd h3 (h0 l (by rw [q]; intro z; cases z))
    refine ⟨upd B l (.lst vs), S.freeze h1 h2 h5 n, Ex.new h2, fun h => h.upd no_tbl, fun b hb => ?_, l, vs, e, upd_same, RepL.mono (Ex.new h2) ds h4⟩
    rw [upd_ne (fun z => hb (by rw [z]; exact h3))]
  | slot i =>
    unfold immP at e
    have h' : σ[i]? = some (some v) := h
    dsimp only at e
    split at e
    · rename_i d' q
      cases e
      obtain ⟨w, e1, h1⟩ := S.im i _ q
      rw [h'] at e1; cases e1
      exact ⟨B, S, Ex.refl B, fun h => h, fun _ _ => rfl, h1⟩
    · cases e
end DL
set_option Elab.async false
set_option linter.all false
set_option maxRecDepth 100000
set_option autoImplicit false
namespace DL
open PySem PySem.Spec PyProof.Rows L2
open Evl (Ex)
variable [Tb]

/-! ### a reading does what a function of the slots says -/
def Post {α β : Type} (G : Gh) (W : WX) (σ : St) (ρ : En) (B H : Hp) (Rel : Hp → Hp → α → β → Prop) (r : R (α × En)) (Q : β → Hp → Prop) : Prop := match r with
  | .ok (a, ρ') => ∀ B' H' y, SO G B' H' σ ρ' → StT σ ρ B H ρ' B' H' → Rel B' H' a y → Q y H'
  | .exn c ns ds ρ' => ∀ B' H' A d vs, SO G B' H' σ ρ' → StT σ ρ B H ρ' B' H' → G.C.mg c = some (.ref A) → H' d = some (.xd (ns.zip vs)) → ns.length = vs.length → RepL G.C B' ds vs → W (.ref A) (some d) σ H'
  | .stk => False
abbrev Relt (α β : Type) := Ck → Hp → St → Hp → Hp → α → β → Prop
def Sat {α β : Type} (C : Ck) (W : WX) (Rel : Relt α β) (t : St → Hp → (β → Hp → Prop) → Prop) (f : En → R (α × En)) : Prop :=
  ∀ (G : Gh), G.C = C → ∀ (B H : Hp) (σ : St) (ρ : En) (Q : β → Hp → Prop), SO G B H σ ρ → Post G W σ ρ B H (Rel C H σ) (f ρ) Q → t σ H Q
/-- the relation bears an earlier start -/
def RS {α β : Type} (Rel : Relt α β) : Prop := ∀ C Hs Hs' σ B H a y, (∀ b, Hs' b ≠ none → Hs b ≠ none) → Rel C Hs σ B H a y → Rel C Hs' σ B H a y
def relP : Relt Pl V := fun C Hs σ B H p v => plRep C Hs σ B H p v
def relD : Relt D V := fun C _ _ B _ d v => Rep C B d v
def relB : Relt Bool Bool := fun _ _ _ _ _ a b => a = b
/-- a list of places, a list of values -/
def plReps (C : Ck) (Hs : Hp) (σ : St) (B H : Hp) : List Pl → List V → Prop
  | [], vs => vs = []
  | p :: ps, vs => ∃ v r, vs = v :: r ∧ plRep C Hs σ B H p v ∧ plReps C Hs σ B H ps r
def relA : Relt (List Pl) (List V) := fun C Hs σ B H ps vs => plReps C Hs σ B H ps vs
theorem rsP : RS relP := fun C Hs Hs' σ B H a y dm h => plRep.start h dm
theorem rsD : RS relD := fun C Hs Hs' σ B H a y dm h => h
theorem rsB : RS relB := fun C Hs Hs' σ B H a y dm h => h
theorem plReps.start {C : Ck} {Hs Hs' : Hp} {σ : St} {B H : Hp} (dm : ∀ b, Hs' b ≠ none → Hs b ≠ none) : ∀ {ps : List Pl} {vs : List V}, plReps C Hs σ B H ps vs → plReps C Hs' σ B H ps vs
  | [], _, h => h
  | p :: ps, _, h => by
    obtain ⟨v, r, e, h1, h2⟩ := h
    exact ⟨v, r, e, plRep.start h1 dm, plReps.start dm h2⟩
theorem rsA : RS relA := fun C Hs Hs' σ B H a y dm h => plReps.start dm h

section
variable {G : Gh} {W : WX} {σ : St} {ρ ρ1 ρ2 : En} {B H B1 H1 B2 H2 : Hp}
theorem Post.rebase {α β : Type} {Rel : Relt α β} {r : R (α × En)} {Q : β → Hp → Prop} {C : Ck} (rs : RS Rel) (st : StT σ ρ B H ρ1 B1 H1) (h : Post G W σ ρ B H (Rel C H σ) r Q) : Post G W σ ρ1 B1 H1 (Rel C H1 σ) r Q := by
  cases r with
  | ok p => exact fun B' H' y S s2 rel => h B' H' y S (st.trans s2) (rs _ _ _ _ _ _ _ _ st.tr.dm rel)
  | exn c ns ds ρ' => exact fun B' H' A d vs S s2 => h B' H' A d vs S (st.trans s2)
  | stk => exact h
theorem MuA.there (S : SO G B H σ ρ) : ∀ b, MuA σ ρ b → H b ≠ none := fun b h => by
  obtain ⟨vs, e, _⟩ := S.muSome h
  rw [e]; intro z; cases z
end

/-- one reading after another -/
theorem Sat.bind {α β γ δ : Type} {C : Ck} {W : WX} {R1 : Relt α β} {R2 : Relt γ δ} {t1 : St → Hp → (β → Hp → Prop) → Prop} {f1 : En → R (α × En)} {t2 : β → St → Hp → (δ → Hp → Prop) → Prop} {f2 : α → En → R (γ × En)}
    (h1 : Sat C W R1 t1 f1)
    (h2 : ∀ (a : α) (G : Gh), G.C = C → ∀ (B H : Hp) (σ : St) (ρ : En) (B1 H1 : Hp) (ρ1 : En) (y : β) (Q : δ → Hp → Prop), SO G B H σ ρ → SO G B1 H1 σ ρ1 → StT σ ρ B H ρ1 B1 H1 → R1 C H σ B1 H1 a y → Post G W σ ρ B H (R2 C H σ) (f2 a ρ1) Q → t2 y σ H1 Q) :
    Sat C W R2 (fun σ H Q => t1 σ H fun y H1 => t2 y σ H1 Q) (fun ρ => (f1 ρ).bind fun p => f2 p.1 p.2) := by
  intro G eG B H σ ρ Q S h
  refine h1 G eG B H σ ρ _ S ?_
  cases q : f1 ρ with
  | ok p =>
    obtain ⟨a, ρ1⟩ := p
    dsimp only at h
    rw [q] at h
    exact fun B1 H1 y S1 st rel => h2 a G eG B H σ ρ B1 H1 ρ1 y Q S S1 st rel h
  | exn c ns ds ρ' =>
    dsimp only at h
    rw [q] at h
    exact h
  | stk =>
    dsimp only at h
    rw [q] at h
    exact h
/-- the same reading, another result -/
theorem Sat.map {α γ β : Type} {C : Ck} {W : WX} {R1 : Relt α β} {R2 : Relt γ β} {t1 : St → Hp → (β → Hp → Prop) → Prop} {f1 : En → R (α × En)} {f2 : α → En → R (γ × En)}
    (h1 : Sat C W R1 t1 f1)
    (h2 : ∀ (a : α) (G : Gh), G.C = C → ∀ (B H : Hp) (σ : St) (ρ : En) (B1 H1 : Hp) (ρ1 : En) (y : β) (Q : β → Hp → Prop), SO G B H σ ρ → SO G B1 H1 σ ρ1 → StT σ ρ B H ρ1 B1 H1 → R1 C H σ B1 H1 a y → Post G W σ ρ B H (R2 C H σ) (f2 a ρ1) Q → Q y H1) :
    Sat C W R2 t1 (fun ρ => (f1 ρ).bind fun p => f2 p.1 p.2) := by
  intro G eG B H σ ρ Q S h
  refine h1 G eG B H σ ρ _ S ?_
  cases q : f1 ρ with
  | ok p =>
    obtain ⟨a, ρ1⟩ := p
    dsimp only at h
    rw [q] at h
    exact fun B1 H1 y S1 st rel => h2 a G eG B H σ ρ B1 H1 ρ1 y Q S S1 st rel h
  | exn c ns ds ρ' =>
    dsimp only at h
    rw [q] at h
    exact h
  | stk =>
    dsimp only at h
    rw [q] at h
    exact h

/-- as an unchanging value -/
def toI (f : En → R (Pl × En)) : En → R (D × En) := fun ρ => (f ρ).bind fun p => (immP p.2 p.1).bind fun d => .ok (d, p.2)
theorem Sat.imm {C : Ck} {W : WX} {t : TE} {f : En → R (Pl × En)} (h : Sat C W relP t f) : Sat C W relD t (toI f) := by
  refine Sat.map (f2 := fun p ρ1 => (immP ρ1 p).bind fun d => .ok (d, ρ1)) h ?_
  intro p G eG B H σ ρ B1 H1 ρ1 y Q S S1 st rel hp
  subst eG
  cases q : immP ρ1 p with
  | ok d =>
    rw [q] at hp
    obtain ⟨B', S', ex, ntb, nb, rp⟩ := immP_ok S1 (fun b hb => MuA.there S b (st.mu b hb)) S.tr.dm st.tr.dm rel q
    exact hp B' H1 y S' ⟨⟨st.tr.ex.trans ex, fun b hb => (nb b hb).trans (st.tr.nb b hb), st.tr.kp, st.tr.dm, st.tr.tb, fun h => ntb (st.tr.nt h)⟩, st.mu⟩ rp
  | exn c ns ds ρ' => exact (immP_exn q).elim
  | stk =>
    rw [q] at hp
    exact hp.elim
def ofI (f : En → R (D × En)) : En → R (Pl × En) := fun ρ => (f ρ).bind fun p => .ok (.val p.1, p.2)
theorem Sat.val {C : Ck} {W : WX} {t : TE} {f : En → R (D × En)} (h : Sat C W relD t f) : Sat C W relP t (ofI f) := by
  refine Sat.map (R2 := relP) (f2 := fun p ρ1 => R.ok (Pl.val p, ρ1)) h ?_
  intro p G eG B H σ ρ B1 H1 ρ1 y Q S S1 st rel hp
  exact hp B1 H1 y S1 st rel

/-! ### the judgements with their functions -/
abbrev Cx.ck (X : Cx) : Ck := ⟨X.K, X.mg⟩
def PX (X : Cx) (W : WX) (e : Expr) (f : En → R (Pl × En)) : Prop := ∃ t, PE X e t ∧ Sat (Cx.ck X) W relP t f
def PT' (X : Cx) (W : WX) (e : Expr) (f : En → R (Bool × En)) : Prop := ∃ t, PT X e t ∧ Sat (Cx.ck X) W relB t f
def PWt (X : Cx) (W : WX) (e : Expr) (f : En → R (Bool × En)) : Prop := ∃ t, PW X e t ∧ Sat (Cx.ck X) W relB t f
def PXs (X : Cx) (W : WX) (es : List Expr) (f : En → R (List Pl × En)) : Prop := ∃ t, PA X es t ∧ Sat (Cx.ck X) W relA t f
variable {X : Cx} {W : WX}

/-! ### names, constants -/
def fVar (i : Nat) : En → R (Pl × En) := fun ρ => match ρ[i]? with
  | some (some _) => .ok (.slot i, ρ)
  | _ => .stk
def fC (d : D) : En → R (Pl × En) := fun ρ => .ok (.val d, ρ)
theorem sat_var {C : Ck} (i : Nat) : Sat C W relP (tVar i) (fVar i) := by
  intro G eG B H σ ρ Q S h
  unfold fVar at h
  split at h
  · rename_i sl q
    cases sl with
    | im d =>
      obtain ⟨v, e, r⟩ := S.im i d q
      exact ⟨v, e, h B H v S (StT.refl _ _ _ _) e⟩
    | mu o ds =>
      obtain ⟨l, vs, e, r⟩ := S.mu i o ds q
      exact ⟨.ref l, e, h B H (.ref l) S (StT.refl _ _ _ _) e⟩
  · exact h.elim
theorem sat_c {C : Ck} {d : D} {v : V} (hv : ∀ B, Rep C B d v) : Sat C W relP (tC v) (fC d) := by
  intro G eG B H σ ρ Q S h
  subst eG
  exact h B H v S (StT.refl _ _ _ _) (hv B)
theorem px_var (i : Nat) {x : Str} {pos : Pos} (hN : X.N[i]? = some x := by rfl) (hv : Vis X.env.scope x := by first | exact Or.inl rfl | exact Or.inr (Or.inl rfl) | exact Or.inr (Or.inr rfl)) (hd : (x == ("__debug__" : Str)) = false := by decide)
    (hcd : (x == ("__classdict__" : Str)) = false := by decide) : PX X W (.Name x pos) (fVar i) := ⟨_, pe_var hN hv hd hcd, sat_var i⟩
theorem px_int {i : Int} {j : Nat} {pos : Pos} : PX X W (.Constant (.int i) j pos) (fC (.int i)) := ⟨_, pe_int, sat_c fun _ => rfl⟩
theorem px_bl {b : Bool} {j : Nat} {pos : Pos} : PX X W (.Constant (.bool b) j pos) (fC (.bl b)) := ⟨_, pe_bl, sat_c fun _ => rfl⟩
theorem px_non {j : Nat} {pos : Pos} : PX X W (.Constant .none j pos) (fC .non) := ⟨_, pe_non, sat_c fun _ => rfl⟩
theorem px_str {x : Str} {j : Nat} {pos : Pos} : PX X W (.Constant (.str x) j pos) (fC (.str x)) := ⟨_, pe_str, sat_c fun _ => rfl⟩
/-- a module's constant -/
theorem px_glob {x : Str} {v : V} {u : Value} {d : D} {pos : Pos} (hg : Gl X x) (hm : X.mg x = some u) (r : RelV v u) (hr : ∀ B, Rep (Cx.ck X) B d v) (hd : (x == ("__debug__" : Str)) = false := by decide) : PX X W (.Name x pos) (fC d) :=
  ⟨_, pe_glob hg hm r hd, sat_c hr⟩

/-! ### operations on values -/
/-- what an operation gives: a known value, or a new list -/
def R2S (C : Ck) (r : R2) (g : D → D → Option Pl) : Prop := ∀ (G : Gh), G.C = C → ∀ (B H : Hp) (σ : St) (ρ : En) (x y : V) (d1 d2 : D) (p : Pl) (Q : VK), SO G B H σ ρ → VRep C B H d1 x → VRep C B H d2 y → g d1 d2 = some p →
  (∀ B' H' v, SO G B' H' σ ρ → StT σ ρ B H ρ B' H' → plRep C H σ B' H' p v → Q v H') → r x y H Q
def bin (fa fb : En → R (Pl × En)) (g : D → D → Option Pl) : En → R (Pl × En) := fun ρ => (fa ρ).bind fun p => (fb p.2).bind fun q => (view q.2 p.1).bind fun d1 => (view q.2 q.1).bind fun d2 => (oR (g d1 d2)).bind fun z => .ok (z, q.2)
theorem sat_op {C : Ck} {r : R2} {g : D → D → Option Pl} {ta tb : TE} {fa fb : En → R (Pl × En)} (hr : R2S C r g) (ha : Sat C W relP ta fa) (hb : Sat C W relP tb fb) : Sat C W relP (tOp r ta tb) (bin fa fb g) := by
  refine Sat.bind (t2 := fun x σ H1 Q => tb σ H1 fun y H2 => r x y H2 Q) (f2 := fun p ρ1 => (fb ρ1).bind fun q => (view q.2 p).bind fun d1 => (view q.2 q.1).bind fun d2 => (oR (g d1 d2)).bind fun z => .ok (z, q.2)) ha ?_
  intro p G eG B H σ ρ B1 H1 ρ1 x Q S S1 st rel hp
  refine hb G eG B1 H1 σ ρ1 _ S1 ?_
  cases e1 : fb ρ1 with
  | exn c ns ds ρ' =>
    rw [e1] at hp
    exact Post.rebase rsP st (r := .exn c ns ds ρ') hp
  | stk =>
    rw [e1] at hp
    exact hp
  | ok q =>
    obtain ⟨q, ρ2⟩ := q
    rw [e1] at hp
    intro B2 H2 y S2 st2 rel2
    subst eG
    have st12 := st.trans st2
    have rel1' : plRep G.C H σ B2 H2 p x := plRep.step S1 (fun b hb => MuA.there S b (st.mu b hb)) rel st2
    dsimp only [R.ok_bind] at hp
    cases v1 : view ρ2 p with
    | exn c ns ds ρ' => exact (view_exn v1).elim
    | stk => rw [v1] at hp; exact hp.elim
    | ok d1 =>
      rw [v1] at hp
      simp only [R.ok_bind] at hp
      cases v2 : view ρ2 q with
      | exn c ns ds ρ' => exact (view_exn v2).elim
      | stk => rw [v2] at hp; exact hp.elim
      | ok d2 =>
        rw [v2] at hp
        simp only [R.ok_bind] at hp
        cases v3 : g d1 d2 with
        | none => rw [v3] at hp; exact hp.elim
        | some z =>
          rw [v3] at hp
          refine hr G rfl B2 H2 σ ρ2 x y d1 d2 z Q S2 (view_ok S2 rel1' v1) (view_ok S2 rel2 v2) v3 fun B' H' v S3 st3 rz => ?_
          exact hp B' H' v S3 (st12.trans st3) (plRep.start rz st12.tr.dm)
theorem px_op {op : Operator} {r : R2} {g : D → D → Option Pl} {a b : Expr} {pos : Pos} {fa fb : En → R (Pl × En)} (ho : OpR X (binaryOp op) r) (hr : R2S (Cx.ck X) r g) (ha : PX X W a fa) (hb : PX X W b fb) : PX X W (.BinOp a op b pos) (bin fa fb g) := by
  obtain ⟨ta, h1, s1⟩ := ha
  obtain ⟨tb, h2, s2⟩ := hb
  exact ⟨_, pe_op ho h1 h2, sat_op hr s1 s2⟩
end DL
set_option Elab.async false
set_option linter.all false
set_option maxRecDepth 100000
set_option autoImplicit false
namespace DL
open PySem PySem.Spec PyProof.Rows L2
open Evl (Ex)
variable [Tb] {X : Cx} {W : WX} {C : Ck}

theorem R2S.or {r r' : R2} {g g' : D → D → Option Pl} (h : R2S C r g) (h' : R2S C r' g') : R2S C (fun x y H Q => r x y H Q ∨ r' x y H Q) (fun a b => (g a b).or (g' a b)) := by
  intro G eG B H σ ρ x y d1 d2 p Q S h1 h2 e q
  try dsimp only at e
  cases z : g d1 d2 with
  | some w =>
    rw [z] at e
    exact .inl (h G eG B H σ ρ x y d1 d2 p Q S h1 h2 (z.trans e) q)
  | none =>
    rw [z] at e
    exact .inr (h' G eG B H σ ρ x y d1 d2 p Q S h1 h2 e q)
/-- what gives a known value, the heap as it is -/
theorem R2S.pure {r : R2} {g : D → D → Option D} (h : ∀ (B H : Hp) (x y : V) (d1 d2 d : D) (Q : VK), Ex B H → VRep C B H d1 x → VRep C B H d2 y → g d1 d2 = some d → (∀ v, Rep C B d v → Q v H) → r x y H Q) : R2S C r (fun a b => (g a b).map Pl.val) := by
  intro G eG B H σ ρ x y d1 d2 p Q S h1 h2 e q
  subst eG
  try dsimp only at e
  cases z : g d1 d2 with
  | none => rw [z] at e; cases e
  | some d =>
    rw [z] at e; cases e
    exact h B H x y d1 d2 d Q S.ex h1 h2 z fun v rv => q B H v S (StT.refl _ _ _ _) rv
def ii (f : Int → Int → Option D) : D → D → Option D
  | .int i, .int j => f i j
  | _, _ => none
theorem vI {B H : Hp} {i : Int} {x : V} (h : VRep C B H (.int i) x) : x = .int i := h
theorem r2_ints {C0 : Int → Int → Prop} {gv : Int → Int → V} {f : Int → Int → Option D} (h : ∀ i j d, f i j = some d → C0 i j ∧ ∀ C' B, Rep C' B d (gv i j)) : R2S C (rI C0 gv) (fun a b => (ii f a b).map Pl.val) := by
  refine R2S.pure fun B H x y d1 d2 d Q _ h1 h2 e q => ?_
  unfold ii at e
  split at e
  · rename_i i j
    obtain ⟨c, r⟩ := h _ _ _ e
    exact ⟨i, j, vI h1, vI h2, c, q _ (r _ _)⟩
  · cases e
theorem r2_ints0 {gv : Int → Int → V} {f : Int → Int → Option D} (h : ∀ i j d, f i j = some d → ∀ C' B, Rep C' B d (gv i j)) : R2S C (rI0 gv) (fun a b => (ii f a b).map Pl.val) := by
  refine R2S.pure fun B H x y d1 d2 d Q _ h1 h2 e q => ?_
  unfold ii at e
  split at e
  · rename_i i j
    exact ⟨i, j, vI h1, vI h2, q _ (h _ _ _ e _ _)⟩
  · cases e

/-! ### + -/
def addI : D → D → Option Pl := fun a b => (ii (fun i j => some (.int (i + j))) a b).map Pl.val
def addS : D → D → Option Pl := fun a b => (match a, b with
  | .str a, .str b => if a.length + b.length ≤ sizeLine then some (D.str (a ++ b)) else none
  | _, _ => none).map Pl.val
def addT : D → D → Option Pl
  | .tup a, .tup b => if a.length + b.length ≤ sizeLine then some (.val (.tup (a ++ b))) else none
  | _, _ => none
def addL : D → D → Option Pl
  | .lst a, .lst b => if a.length + b.length ≤ sizeLine then some (.new (a ++ b)) else none
  | _, _ => none
def rAddS : R2 := fun x y H Q => ∃ i j, x = .str i ∧ y = .str j ∧ i.length + j.length ≤ sizeLine ∧ Q (.str (i ++ j)) H
theorem r2_addS : R2S C rAddS addS := by
  refine R2S.pure (g := fun a b => match a, b with
    | .str a, .str b => if a.length + b.length ≤ sizeLine then some (D.str (a ++ b)) else none
    | _, _ => none) fun B H x y d1 d2 d Q _ h1 h2 e q => ?_
  split at e
  · rename_i a b
    split at e
    · rename_i hl
      cases e
      exact ⟨a, b, h1, h2, hl, q _ rfl⟩
    · cases e
  · cases e
/-- a new object of an operation -/
theorem newT {G : Gh} {B H : Hp} {σ : St} {ρ : En} {ds : List D} {vs : List V} {Q : VK} (S : SO G B H σ ρ) (r : RepL G.C B ds vs) (q : ∀ B' H' v, SO G B' H' σ ρ → StT σ ρ B H ρ B' H' → plRep G.C H σ B' H' (.val (.tup ds)) v → Q v H') :
    ∀ p, H p = none → Q (.ref p) (upd H p (.tup vs)) := fun p hp =>
  q _ _ (.ref p) (S.newI hp) (StT.newI S hp) ⟨p, vs, rfl, .inl (.inl upd_same), RepL.mono (Ex.new (S.bnone hp)) ds r⟩
theorem newL {G : Gh} {B H : Hp} {σ : St} {ρ : En} {ds : List D} {vs : List V} {Q : VK} (S : SO G B H σ ρ) (r : RepL G.C B ds vs) (q : ∀ B' H' v, SO G B' H' σ ρ → StT σ ρ B H ρ B' H' → plRep G.C H σ B' H' (.new ds) v → Q v H') :
    ∀ p, H p = none → Q (.ref p) (upd H p (.lst vs)) := fun p hp =>
  q _ _ (.ref p) (S.new hp) (StT.new hp) ⟨p, vs, rfl, upd_same, S.bnone hp, hp, r⟩
theorem r2_addT : R2S C (rCatA C.K) addT := by
  intro G eG B H σ ρ x y d1 d2 p Q S h1 h2 e q
  subst eG
  unfold addT at e
  split at e
  · rename_i a b
    split at e
    · rename_i hl
      cases e
      obtain ⟨a1, vs, rfl, s1, r1⟩ := h1
      obtain ⟨a2, ws, rfl, s2, r2⟩ := h2
      have l1 := r1.length
      have l2 := r2.length
      refine ⟨a1, a2, vs, ws, rfl, rfl, Evl.ex_t S.ex s1, Evl.ex_t S.ex s2, by omega, fun z => ?_, fun z1 z2 => ?_, fun z1 z2 => ?_⟩
      · subst z
        cases a with
        | nil => exact q B H (.ref a2) S (StT.refl _ _ _ _) ⟨a2, ws, rfl, s2, r2⟩
        | cons _ _ => cases l1
      · subst z2
        cases b with
        | nil =>
          refine q B H (.ref a1) S (StT.refl _ _ _ _) ⟨a1, vs, rfl, s1, ?_⟩
          rw [List.append_nil]
          exact r1
        | cons _ _ => cases l2
      · exact newT S (RepL.append r1 r2) q
    · cases e
  · cases e
theorem r2_addL : R2S C rCat addL := by
  intro G eG B H σ ρ x y d1 d2 p Q S h1 h2 e q
  subst eG
  unfold addL at e
  split at e
  · rename_i a b
    split at e
    · rename_i hl
      cases e
      obtain ⟨a1, vs, rfl, s1, r1⟩ := h1
      obtain ⟨a2, ws, rfl, s2, r2⟩ := h2
      have l1 := r1.length
      have l2 := r2.length
      exact ⟨a1, a2, vs, ws, rfl, rfl, s1, s2, by omega, newL S (RepL.append r1 r2) q⟩
    · cases e
  · cases e
def addD : D → D → Option Pl := fun a b => (addI a b).or ((addL a b).or ((addT a b).or (addS a b)))
theorem px_add {a b : Expr} {pos : Pos} {fa fb : En → R (Pl × En)} (ha : PX X W a fa) (hb : PX X W b fb) : PX X W (.BinOp a .Add b pos) (bin fa fb addD) :=
  px_op (op_add.or (op_cat.or (op_catA.or op_add_str))) (R2S.or (r2_ints0 (f := fun i j => some (.int (i + j))) (by intro i j d e; cases e; intro _ _; rfl)) (R2S.or r2_addL (R2S.or r2_addT r2_addS))) ha hb
/-! ### the other operators -/
def subD : D → D → Option Pl := fun a b => (ii (fun i j => some (.int (i - j))) a b).map Pl.val
theorem px_sub {a b : Expr} {pos : Pos} {fa fb : En → R (Pl × En)} (ha : PX X W a fa) (hb : PX X W b fb) : PX X W (.BinOp a .Sub b pos) (bin fa fb subD) :=
  px_op op_sub (r2_ints0 (f := fun i j => some (.int (i - j))) (by intro i j d e; cases e; intro _ _; rfl)) ha hb
def mulI (i j : Int) : Option D := if i.natAbs.log2 + j.natAbs.log2 < 1000000 then some (.int (i * j)) else none
def repL : D → D → Option Pl
  | .lst a, .int k => if -(2 ^ 63) ≤ k ∧ k < 2 ^ 63 ∧ a.length * k.toNat ≤ sizeLine then some (.new (List.replicate k.toNat a).flatten) else none
  | _, _ => none
theorem RepL.rep {B : Hp} {ds : List D} {vs : List V} (h : RepL C B ds vs) : ∀ k : Nat, RepL C B (List.replicate k ds).flatten (List.replicate k vs).flatten
  | 0 => rfl
  | k + 1 => by
    rw [List.replicate_succ, List.replicate_succ, List.flatten_cons, List.flatten_cons]
    exact RepL.append h (RepL.rep h k)
theorem r2_repL : R2S C rRep repL := by
  intro G eG B H σ ρ x y d1 d2 p Q S h1 h2 e q
  subst eG
  unfold repL at e
  split at e
  · rename_i a k
    split at e
    · rename_i hl
      cases e
      obtain ⟨a1, vs, rfl, s1, r1⟩ := h1
      have l1 := r1.length
      exact ⟨a1, k, vs, rfl, h2, s1, hl.1, hl.2.1, by rw [l1]; exact hl.2.2, newL S (RepL.rep r1 _) q⟩
    · cases e
  · cases e
def mulD : D → D → Option Pl := fun a b => ((ii mulI a b).map Pl.val).or (repL a b)
theorem px_mul {a b : Expr} {pos : Pos} {fa fb : En → R (Pl × En)} (ha : PX X W a fa) (hb : PX X W b fb) : PX X W (.BinOp a .Mult b pos) (bin fa fb mulD) :=
  px_op (op_mulW.or op_rep) (R2S.or (r2_ints (f := mulI) (by
    intro i j d e
    unfold mulI at e
    split at e
    · rename_i h; cases e; exact ⟨h, fun _ _ => rfl⟩
    · cases e)) r2_repL) ha hb
def divI (i j : Int) : Option D := if 0 < j ∧ j.natAbs.log2 < 9000 then some (.int (i / j)) else none
def divD : D → D → Option Pl := fun a b => (ii divI a b).map Pl.val
theorem px_fdiv {a b : Expr} {pos : Pos} {fa fb : En → R (Pl × En)} (ha : PX X W a fa) (hb : PX X W b fb) : PX X W (.BinOp a .FloorDiv b pos) (bin fa fb divD) :=
  px_op op_fdivW (r2_ints (f := divI) (by
    intro i j d e
    unfold divI at e
    split at e
    · rename_i h; cases e; exact ⟨h, fun _ _ => rfl⟩
    · cases e)) ha hb
def modI (i j : Int) : Option D := if 0 < j then some (.int (i % j)) else none
def modD : D → D → Option Pl := fun a b => (ii modI a b).map Pl.val
theorem px_mod {a b : Expr} {pos : Pos} {fa fb : En → R (Pl × En)} (ha : PX X W a fa) (hb : PX X W b fb) : PX X W (.BinOp a .Mod b pos) (bin fa fb modD) :=
  px_op op_mod (r2_ints (f := modI) (by
    intro i j d e
    unfold modI at e
    split at e
    · rename_i h; cases e; exact ⟨h, fun _ _ => rfl⟩
    · cases e)) ha hb
def powI (i j : Int) : Option D := if 0 ≤ j ∧ j ≤ 1000000 ∧ i.natAbs < 2 ^ 64 then some (.int (i ^ j.toNat)) else none
def powD : D → D → Option Pl := fun a b => (ii powI a b).map Pl.val
theorem px_pow {a b : Expr} {pos : Pos} {fa fb : En → R (Pl × En)} (ha : PX X W a fa) (hb : PX X W b fb) : PX X W (.BinOp a .Pow b pos) (bin fa fb powD) :=
  px_op op_pow (r2_ints (f := powI) (by
    intro i j d e
    unfold powI at e
    split at e
    · rename_i h; cases e; exact ⟨h, fun _ _ => rfl⟩
    · cases e)) ha hb
def shlI (i j : Int) : Option D := if 0 ≤ j ∧ j ≤ 1000000 ∧ i.natAbs < 2 ^ 64 then some (.int (i * 2 ^ j.toNat)) else none
def shlD : D → D → Option Pl := fun a b => (ii shlI a b).map Pl.val
theorem px_shl {a b : Expr} {pos : Pos} {fa fb : En → R (Pl × En)} (ha : PX X W a fa) (hb : PX X W b fb) : PX X W (.BinOp a .LShift b pos) (bin fa fb shlD) :=
  px_op op_shl (r2_ints (f := shlI) (by
    intro i j d e
    unfold shlI at e
    split at e
    · rename_i h; cases e; exact ⟨h, fun _ _ => rfl⟩
    · cases e)) ha hb
def shrI (i j : Int) : Option D := if 0 ≤ j then some (.int (i / 2 ^ j.toNat)) else none
def shrD : D → D → Option Pl := fun a b => (ii shrI a b).map Pl.val
theorem px_shr {a b : Expr} {pos : Pos} {fa fb : En → R (Pl × En)} (ha : PX X W a fa) (hb : PX X W b fb) : PX X W (.BinOp a .RShift b pos) (bin fa fb shrD) :=
  px_op op_shr (r2_ints (f := shrI) (by
    intro i j d e
    unfold shrI at e
    split at e
    · rename_i h; cases e; exact ⟨h, fun _ _ => rfl⟩
    · cases e)) ha hb
def andD : D → D → Option Pl := fun a b => (ii (fun i j => some (.int (Builtin.bitAnd i j))) a b).map Pl.val
theorem px_and_ {a b : Expr} {pos : Pos} {fa fb : En → R (Pl × En)} (ha : PX X W a fa) (hb : PX X W b fb) : PX X W (.BinOp a .BitAnd b pos) (bin fa fb andD) :=
  px_op op_and (r2_ints0 (f := fun i j => some (.int (Builtin.bitAnd i j))) (by intro i j d e; cases e; intro _ _; rfl)) ha hb
/-! ### one place -/
def una (fa : En → R (Pl × En)) (g : D → Option Pl) : En → R (Pl × En) := fun ρ => (fa ρ).bind fun p => (view p.2 p.1).bind fun d1 => (oR (g d1)).bind fun z => .ok (z, p.2)
def R1S (C : Ck) (r : V → Hp → VK → Prop) (g : D → Option Pl) : Prop := ∀ (G : Gh), G.C = C → ∀ (B H : Hp) (σ : St) (ρ : En) (x : V) (d1 : D) (p : Pl) (Q : VK), SO G B H σ ρ → VRep C B H d1 x → g d1 = some p →
  (∀ B' H' v, SO G B' H' σ ρ → StT σ ρ B H ρ B' H' → plRep C H σ B' H' p v → Q v H') → r x H Q
theorem sat_un {r : V → Hp → VK → Prop} {g : D → Option Pl} {ta : TE} {fa : En → R (Pl × En)} (hr : R1S C r g) (ha : Sat C W relP ta fa) : Sat C W relP (fun σ H Q => ta σ H fun x H1 => r x H1 Q) (una fa g) := by
  refine Sat.bind (t2 := fun x σ H1 Q => r x H1 Q) (f2 := fun p ρ1 => (view ρ1 p).bind fun d1 => (oR (g d1)).bind fun z => .ok (z, ρ1)) ha ?_
  intro p G eG B H σ ρ B1 H1 ρ1 x Q S S1 st rel hp
  subst eG
  cases v1 : view ρ1 p with
  | exn c ns ds ρ' => exact (view_exn v1).elim
  | stk => rw [v1] at hp; exact hp.elim
  | ok d1 =>
    rw [v1] at hp
    simp only [R.ok_bind] at hp
    cases v3 : g d1 with
    | none => rw [v3] at hp; exact hp.elim
    | some z =>
      rw [v3] at hp
      exact hr G rfl B1 H1 σ ρ1 x d1 z Q S1 (view_ok S1 rel v1) v3 fun B' H' v S3 st3 rz => hp B' H' v S3 (st.trans st3) (plRep.start rz st.tr.dm)
def negD : D → Option Pl
  | .int i => some (.val (.int (-i)))
  | _ => none
theorem px_neg {a : Expr} {pos : Pos} {fa : En → R (Pl × En)} (ha : PX X W a fa) : PX X W (.UnaryOp .USub a pos) (una fa negD) := by
  obtain ⟨ta, h1, s1⟩ := ha
  refine ⟨_, pe_un un_neg h1, sat_un (r := rU fun i => .int (-i)) ?_ s1⟩
  intro G eG B H σ ρ x d1 p Q S h e q
  unfold negD at e
  split at e
  · cases e
    exact ⟨_, h, q B H _ S (StT.refl _ _ _ _) rfl⟩
  · cases e
/-- a value as a one-place rule's reading -/
theorem R1S.pure {r : V → Hp → VK → Prop} {g : D → Option D} (h : ∀ (B H : Hp) (x : V) (d1 d : D) (Q : VK), Ex B H → VRep C B H d1 x → g d1 = some d → (∀ v, Rep C B d v → Q v H) → r x H Q) : R1S C r (fun a => (g a).map Pl.val) := by
  intro G eG B H σ ρ x d1 p Q S h1 e q
  subst eG
  try dsimp only at e
  cases z : g d1 with
  | none => rw [z] at e; cases e
  | some d =>
    rw [z] at e; cases e
    exact h B H x d1 d Q S.ex h1 z fun v rv => q B H v S (StT.refl _ _ _ _) rv

/-! ### data that == and repr know -/
mutual
def toPy : D → Option PyData
  | .non => some .none
  | .bl b => some (.bool b)
  | .int i => some (.int i)
  | .str s => some (.str s)
  | .tup ds => (toPyL ds).map PyData.tuple
  | .lst ds => (toPyL ds).map PyData.list
  | .frz ds => (toPyL ds).map PyData.list
  | .obj _ _ _ => none
def toPyL : List D → Option (List PyData)
  | [] => some []
  | d :: ds => match toPy d, toPyL ds with
    | some p, some ps => some (p :: ps)
    | _, _ => none
end
mutual
theorem dp_of {B : Hp} : ∀ (d : D) {v : V} {p : PyData}, Rep C B d v → toPy d = some p → Dp C.K B v p
  | .non, _, _, h, e => by cases e; rw [show _ = _ from h]; exact .non
  | .bl b, _, _, h, e => by cases e; rw [show _ = _ from h]; exact .bl b
  | .int b, _, _, h, e => by cases e; rw [show _ = _ from h]; exact .int b
  | .str b, _, _, h, e => by cases e; rw [show _ = _ from h]; exact .str b
  | .tup ds, _, _, h, e => by
    obtain ⟨a, vs, rfl, h1, h2⟩ := h
    unfold toPy at e
    cases q : toPyL ds with
    | none => rw [q] at e; cases e
    | some ps => rw [q] at e; cases e; exact .tup h1 (dpl_of ds h2 q)
  | .lst ds, _, _, h, e => by
    obtain ⟨a, vs, rfl, h1, h2⟩ := h
    unfold toPy at e
    cases q : toPyL ds with
    | none => rw [q] at e; cases e
    | some ps => rw [q] at e; cases e; exact .lst (.inl (.inl h1)) (dpl_of ds h2 q)
  | .frz ds, _, _, h, e => by
    obtain ⟨a, vs, rfl, h1, h2⟩ := h
    unfold toPy at e
    cases q : toPyL ds with
    | none => rw [q] at e; cases e
    | some ps => rw [q] at e; cases e; exact .lst h1 (dpl_of ds h2 q)
  | .obj _ _ _, _, _, _, e => by unfold toPy at e; cases e
theorem dpl_of {B : Hp} : ∀ (ds : List D) {vs : List V} {ps : List PyData}, RepL C B ds vs → toPyL ds = some ps → DpAll C.K B vs ps
  | [], _, _, h, e => by cases e; rw [show _ = [] from h]; exact .nil
  | d :: ds, _, _, h, e => by
    obtain ⟨v, r, rfl, h1, h2⟩ := h
    unfold toPyL at e
    split at e
    · rename_i p ps q1 q2
      cases e
      exact .cons (dp_of d h1 q1) (dpl_of ds h2 q2)
    · cases e
end
mutual
theorem Dp.ex {K : PySem.W.Frag} {B H : Hp} (e : Ex B H) : ∀ {p : PyData} {v : V}, Dp K B v p → Dp K H v p
  | _, _, .non => .non
  | _, _, .bl b => .bl b
  | _, _, .int b => .int b
  | _, _, .str b => .str b
  | _, _, .lst h1 h2 => .lst (Evl.ex_l e h1) (DpAll.ex e h2)
  | _, _, .tup h1 h2 => .tup (Evl.ex_t e h1) (DpAll.ex e h2)
theorem DpAll.ex {K : PySem.W.Frag} {B H : Hp} (e : Ex B H) : ∀ {ps : List PyData} {vs : List V}, DpAll K B vs ps → DpAll K H vs ps
  | _, _, .nil => .nil
  | _, _, .cons h1 h2 => .cons (Dp.ex e h1) (DpAll.ex e h2)
end
theorem dp_view {B H : Hp} (e : Ex B H) {d : D} {v : V} {p : PyData} (h : VRep C B H d v) (q : toPy d = some p) : Dp C.K H v p := by
  cases d with
  | lst ds =>
    obtain ⟨l, vs, rfl, h1, h2⟩ := h
    unfold toPy at q
    cases z : toPyL ds with
    | none => rw [z] at q; cases q
    | some ps => rw [z] at q; cases q; exact .lst (.inl (.inl h1)) (DpAll.ex e (dpl_of ds h2 z))
  | _ => exact Dp.ex e (dp_of _ h q)
/-- == -/
def eqS : D → D → Option Bool
  | .non, .non => some true
  | .non, .int _ | .int _, .non | .non, .bl _ | .bl _, .non | .non, .str _ | .str _, .non | .int _, .str _ | .str _, .int _ | .bl _, .str _ | .str _, .bl _ => some false
  | .int i, .int j => some (decide (i = j))
  | .bl i, .bl j => some (decide (i = j))
  | .str i, .str j => some (decide (i = j))
  | _, _ => none
def eqDeep (a b : D) : Option Bool := match toPy a, toPy b with
  | some p, some q => if SeqAt.shaped p = true ∧ SeqAt.shaped q = true then some (PyData.eqv p q) else none
  | _, _ => none
def eqD (a b : D) : Option Bool := (eqS a b).or (eqDeep a b)
theorem eqS_ok {B H : Hp} {a b : D} {x y : V} {k : Bool} (h1 : VRep C B H a x) (h2 : VRep C B H b y) (e : eqS a b = some k) : scal x y = true ∧ k = decide (x = y) := by
  unfold eqS at e
  split at e <;> first
    | (cases e; done)
    | (cases e
       rw [show x = _ from h1, show y = _ from h2]
       exact ⟨rfl, by simp⟩)
def rEqA (K : PySem.W.Frag) : R2 := fun x y H Q => rEq x y H Q ∨ rEqD K x y H Q
def rNeA (K : PySem.W.Frag) : R2 := fun x y H Q => rNe x y H Q ∨ rNeD K x y H Q
theorem r2_eq : R2S C (rEqA C.K) (fun a b => ((eqD a b).map D.bl).map Pl.val) := by
  refine R2S.pure (g := fun a b => (eqD a b).map D.bl) fun B H x y d1 d2 d Q ex h1 h2 e q => ?_
  dsimp only [eqD] at e
  cases z : eqS d1 d2 with
  | some k =>
    rw [z] at e; cases e
    obtain ⟨s, e2⟩ := eqS_ok h1 h2 z
    exact .inl ⟨s, by rw [← e2]; exact q _ rfl⟩
  | none =>
    rw [z] at e
    unfold eqDeep at e
    cases z1 : toPy d1 with
    | none => rw [z1] at e; cases e
    | some p1 =>
      cases z2 : toPy d2 with
      | none => rw [z1, z2] at e; cases e
      | some p2 =>
        rw [z1, z2] at e
        try dsimp only at e
        split at e
        · rename_i sh
          cases e
          exact .inr ⟨p1, p2, dp_view ex h1 z1, dp_view ex h2 z2, sh.1, sh.2, q _ rfl⟩
        · cases e
theorem r2_ne : R2S C (rNeA C.K) (fun a b => ((eqD a b).map fun k => D.bl (!k)).map Pl.val) := by
  refine R2S.pure (g := fun a b => (eqD a b).map fun k => D.bl (!k)) fun B H x y d1 d2 d Q ex h1 h2 e q => ?_
  dsimp only [eqD] at e
  cases z : eqS d1 d2 with
  | some k =>
    rw [z] at e; cases e
    obtain ⟨s, e2⟩ := eqS_ok h1 h2 z
    exact .inl ⟨s, by rw [← e2]; exact q _ rfl⟩
  | none =>
    rw [z] at e
    unfold eqDeep at e
    cases z1 : toPy d1 with
    | none => rw [z1] at e; cases e
    | some p1 =>
      cases z2 : toPy d2 with
      | none => rw [z1, z2] at e; cases e
      | some p2 =>
        rw [z1, z2] at e
        try dsimp only at e
        split at e
        · rename_i sh
          cases e
          exact .inr ⟨p1, p2, dp_view ex h1 z1, dp_view ex h2 z2, sh.1, sh.2, q _ rfl⟩
        · cases e
/-! ### comparisons: gb tells a Bool -/
def cmpG (gb : D → D → Option Bool) : D → D → Option Pl := fun a b => ((gb a b).map D.bl).map Pl.val
structure CmpR (X : Cx) (op : CmpOp) (gb : D → D → Option Bool) : Prop where
  ex : ∃ r, OpR X (compareOp op) r ∧ R2S (Cx.ck X) r (cmpG gb)
def ltB : D → D → Option Bool
  | .int i, .int j => some (decide (i < j))
  | _, _ => none
def leB : D → D → Option Bool
  | .int i, .int j => some (decide (i ≤ j))
  | _, _ => none
def gtB : D → D → Option Bool := fun a b => ltB b a
def geB : D → D → Option Bool := fun a b => leB b a
theorem r2_cmp0 {gb : D → D → Option Bool} {gv : Int → Int → Bool} (h : ∀ a b k, gb a b = some k → ∃ i j, a = .int i ∧ b = .int j ∧ k = gv i j) : R2S C (rI0 fun i j => .bl (gv i j)) (cmpG gb) := by
  refine R2S.pure (g := fun a b => (gb a b).map D.bl) fun B H x y d1 d2 d Q _ h1 h2 e q => ?_
  try dsimp only at e
  cases z : gb d1 d2 with
  | none => rw [z] at e; cases e
  | some k =>
    rw [z] at e; cases e
    obtain ⟨i, j, rfl, rfl, rfl⟩ := h _ _ _ z
    exact ⟨i, j, vI h1, vI h2, q _ rfl⟩
theorem ltB_ok : ∀ a b k, ltB a b = some k → ∃ i j, a = .int i ∧ b = .int j ∧ k = decide (i < j) := by
  intro a b k e
  unfold ltB at e
  split at e
  · cases e; exact ⟨_, _, rfl, rfl, rfl⟩
  · cases e
theorem leB_ok : ∀ a b k, leB a b = some k → ∃ i j, a = .int i ∧ b = .int j ∧ k = decide (i ≤ j) := by
  intro a b k e
  unfold leB at e
  split at e
  · cases e; exact ⟨_, _, rfl, rfl, rfl⟩
  · cases e
theorem cr_lt : CmpR X .Lt ltB := ⟨_, op_lt, r2_cmp0 ltB_ok⟩
theorem cr_le : CmpR X .LtE leB := ⟨_, op_le, r2_cmp0 leB_ok⟩
theorem cr_gt : CmpR X .Gt gtB := ⟨_, op_gt, r2_cmp0 fun a b k e => by obtain ⟨i, j, e1, e2, e3⟩ := ltB_ok _ _ _ e; exact ⟨j, i, e2, e1, e3⟩⟩
theorem cr_ge : CmpR X .GtE geB := ⟨_, op_ge, r2_cmp0 fun a b k e => by obtain ⟨i, j, e1, e2, e3⟩ := leB_ok _ _ _ e; exact ⟨j, i, e2, e1, e3⟩⟩
theorem cr_eq (hu : X.A.units + 64 < cLine) : CmpR X .Eq eqD := ⟨_, op_eq.or (op_eqD hu), r2_eq⟩
def neD (a b : D) : Option Bool := (eqD a b).map (!·)
theorem cr_ne (hu : X.A.units + 64 < cLine) : CmpR X .NotEq neD := ⟨_, op_ne.or (op_neD hu), by
  have e : cmpG neD = fun a b => ((eqD a b).map fun k => D.bl (!k)).map Pl.val := by
    funext a b
    unfold cmpG neD
    cases eqD a b <;> rfl
  rw [e]
  exact r2_ne⟩
/-- is None; is True, is False -/
def isNonD : D → Bool
  | .non => true
  | _ => false
def isB : D → D → Option Bool
  | a, .non => some (isNonD a)
  | .bl a, .bl b => some (decide (a = b))
  | _, .bl _ => some false
  | _, _ => none
def plainV : V → Bool
  | .non => true
  | .int _ => true
  | .str _ => true
  | .ref _ => true
  | _ => false
/-- one that is no bool is not True, not False -/
def rIsX : R2 := fun x y H Q => ∃ b, y = .bl b ∧ plainV x = true ∧ Q (.bl false) H
def rNotX : R2 := fun x y H Q => ∃ b, y = .bl b ∧ plainV x = true ∧ Q (.bl true) H
theorem op_isX {X : Cx} : OpR X (compareOp .Is) rIsX := by
  intro pins s σ H x y v u Q I rx ry h
  obtain ⟨b, rfl, hx, q⟩ := h
  cases (show u = Value.bool b from ry)
  cases x <;> first
    | (cases hx; done)
    | (cases rx; exact PySem.wpAny_pure (fin_bl I q rfl))
    | (obtain ⟨t, rfl⟩ := rx; exact PySem.wpAny_pure (fin_bl I q rfl))
theorem op_notX {X : Cx} : OpR X (compareOp .IsNot) rNotX := by
  intro pins s σ H x y v u Q I rx ry h
  obtain ⟨b, rfl, hx, q⟩ := h
  cases (show u = Value.bool b from ry)
  cases x <;> first
    | (cases hx; done)
    | (cases rx; exact PySem.wpAny_pure (fin_bl I q rfl))
    | (obtain ⟨t, rfl⟩ := rx; exact PySem.wpAny_pure (fin_bl I q rfl))
theorem rep_plain {B H : Hp} {a : D} {x : V} (h : VRep C B H a x) (ha : ∀ b, a = .bl b → False) : plainV x = true := by
  cases a with
  | non => rw [show x = _ from h]; rfl
  | bl b => exact (ha b rfl).elim
  | int b => rw [show x = _ from h]; rfl
  | str b => rw [show x = _ from h]; rfl
  | tup ds => obtain ⟨a, vs, rfl, _⟩ := h; rfl
  | lst ds => obtain ⟨a, vs, rfl, _⟩ := h; rfl
  | frz ds => obtain ⟨a, vs, rfl, _⟩ := h; rfl
  | obj c ns ds => obtain ⟨a, vs, _, _, rfl, _⟩ := h; rfl
def rIsA : R2 := fun x y H Q => (y = .non ∧ Q (.bl (decide (x = .non))) H) ∨ (rIsB x y H Q ∨ rIsX x y H Q)
theorem rep_non {B H : Hp} {a : D} {x : V} (h : VRep C B H a x) : decide (x = .non) = isNonD a := by
  cases a with
  | non => rw [show x = _ from h]; rfl
  | bl b => rw [show x = _ from h]; rfl
  | int b => rw [show x = _ from h]; rfl
  | str b => rw [show x = _ from h]; rfl
  | tup ds => obtain ⟨a, vs, rfl, _⟩ := h; rfl
  | lst ds => obtain ⟨a, vs, rfl, _⟩ := h; rfl
  | frz ds => obtain ⟨a, vs, rfl, _⟩ := h; rfl
  | obj c ns ds => obtain ⟨a, vs, _, _, rfl, _⟩ := h; rfl
theorem r2_is : R2S C rIsA (cmpG isB) := by
  refine R2S.pure (g := fun a b => (isB a b).map D.bl) fun B H x y d1 d2 d Q _ h1 h2 e q => ?_
  try dsimp only at e
  unfold isB at e
  split at e
  · cases e
    refine .inl ⟨h2, ?_⟩
    rw [rep_non h1]
    exact q _ rfl
  · cases e
    exact .inr (.inl ⟨_, _, h1, h2, q _ rfl⟩)
  · rename_i hb
    cases e
    exact .inr (.inr ⟨_, h2, rep_plain h1 (fun b z => hb b z), q _ rfl⟩)
  · cases e
theorem cr_is : CmpR X .Is isB := ⟨_, op_isN.or (op_isBl.or op_isX), r2_is⟩
def isntB (a b : D) : Option Bool := (isB a b).map (!·)
def rNotA : R2 := fun x y H Q => (y = .non ∧ Q (.bl (!decide (x = .non))) H) ∨ (rNotB x y H Q ∨ rNotX x y H Q)
theorem r2_isnt : R2S C rNotA (cmpG isntB) := by
  refine R2S.pure (g := fun a b => (isntB a b).map D.bl) fun B H x y d1 d2 d Q _ h1 h2 e q => ?_
  dsimp only [isntB] at e
  unfold isB at e
  split at e
  · cases e
    refine .inl ⟨h2, ?_⟩
    rw [rep_non h1]
    exact q _ rfl
  · cases e
    exact .inr (.inl ⟨_, _, h1, h2, q _ rfl⟩)
  · rename_i hb
    cases e
    exact .inr (.inr ⟨_, h2, rep_plain h1 (fun b z => hb b z), q _ rfl⟩)
  · cases e
theorem cr_isnt : CmpR X .IsNot isntB := ⟨_, op_notN.or (op_notBl.or op_notX), r2_isnt⟩
theorem px_cmp {op : CmpOp} {gb : D → D → Option Bool} {a b : Expr} {pos : Pos} {fa fb : En → R (Pl × En)} (h : CmpR X op gb) (ha : PX X W a fa) (hb : PX X W b fb) (hm : behindInMarks op b = false) : PX X W (.Compare a [op] [b] pos) (bin fa fb (cmpG gb)) := by
  obtain ⟨r, h1, h2⟩ := h.ex
  obtain ⟨ta, p1, s1⟩ := ha
  obtain ⟨tb, p2, s2⟩ := hb
  exact ⟨_, pe_cmpR h1 p1 p2 hm, sat_op h2 s1 s2⟩
/-- a value that is a Bool, as a test -/
def toB (f : En → R (Pl × En)) : En → R (Bool × En) := fun ρ => (f ρ).bind fun p => match p.1 with
  | .val (.bl b) => .ok (b, p.2)
  | _ => .stk
theorem sat_test {t : TE} {f : En → R (Pl × En)} (h : Sat C W relP t f) : Sat C W relB (tTest t) (toB f) := by
  refine Sat.bind (t2 := fun x σ H1 Q => ∃ k, x = .bl k ∧ Q k H1) (f2 := fun p ρ1 => match p with | .val (.bl b) => .ok (b, ρ1) | _ => .stk) h ?_
  intro p G eG B H σ ρ B1 H1 ρ1 y Q S S1 st rel hp
  try dsimp only at hp
  split at hp
  · exact ⟨_, rel, hp B1 H1 _ S1 st rfl⟩
  · exact hp.elim
theorem pt_cmp' {op : CmpOp} {gb : D → D → Option Bool} {a b : Expr} {pos : Pos} {fa fb : En → R (Pl × En)} (h : CmpR X op gb) (ha : PX X W a fa) (hb : PX X W b fb) (hm : behindInMarks op b = false) : PT' X W (.Compare a [op] [b] pos) (toB (bin fa fb (cmpG gb))) := by
  obtain ⟨r, h1, h2⟩ := h.ex
  obtain ⟨ta, p1, s1⟩ := ha
  obtain ⟨tb, p2, s2⟩ := hb
  exact ⟨_, pt_cmpR h1 p1 p2 hm, sat_test (sat_op h2 s1 s2)⟩
end DL
set_option Elab.async false
set_option linter.all false
set_option maxRecDepth 100000
set_option autoImplicit false
namespace DL
open PySem PySem.Spec PyProof.Rows L2
open Evl (Ex)
variable [Tb] {X : Cx} {W : WX} {C : Ck}

/-! ### chains -/
def chn (fa fb fc : En → R (Pl × En)) (g1 g2 : D → D → Option Bool) : En → R (Pl × En) := fun ρ => (fa ρ).bind fun p => (fb p.2).bind fun q => (view q.2 p.1).bind fun d1 => (view q.2 q.1).bind fun d2 => (oR (g1 d1 d2)).bind fun k =>
  if k = true then (fc q.2).bind fun w => (view w.2 q.1).bind fun d2 => (view w.2 w.1).bind fun d3 => (oR (g2 d2 d3)).bind fun z => .ok (.val (.bl z), w.2) else .ok (.val (.bl false), q.2)
theorem sat_chain {r r' : R2} {g1 g2 : D → D → Option Bool} {ta tb tc : TE} {fa fb fc : En → R (Pl × En)} (hr : R2S C r (cmpG g1)) (hr' : R2S C r' (cmpG g2)) (ha : Sat C W relP ta fa) (hb : Sat C W relP tb fb) (hc : Sat C W relP tc fc) :
    Sat C W relP (tChain r r' ta tb tc) (chn fa fb fc g1 g2) := by
  refine Sat.bind (R2 := relP) (t2 := fun x σ H1 Q => tb σ H1 fun y H2 => r x y H2 fun z H3 => ∃ k, z = .bl k ∧ (if k = true then tc σ H3 fun w' H4 => r' y w' H4 Q else Q (.bl false) H3))
    (f2 := fun p ρ1 => (fb ρ1).bind fun q => (view q.2 p).bind fun d1 => (view q.2 q.1).bind fun d2 => (oR (g1 d1 d2)).bind fun k =>
      if k = true then (fc q.2).bind fun w => (view w.2 q.1).bind fun d2 => (view w.2 w.1).bind fun d3 => (oR (g2 d2 d3)).bind fun z => .ok (.val (.bl z), w.2) else .ok (.val (.bl false), q.2)) ha ?_
  intro p G eG B H σ ρ B1 H1 ρ1 x Q S S1 st rel hp
  refine hb G eG B1 H1 σ ρ1 _ S1 ?_
  subst eG
  cases e1 : fb ρ1 with
  | exn c ns ds ρ' =>
    rw [e1] at hp
    exact Post.rebase rsP st (r := .exn c ns ds ρ') hp
  | stk => rw [e1] at hp; exact hp
  | ok q =>
    obtain ⟨q, ρ2⟩ := q
    rw [e1] at hp
    intro B2 H2 y S2 st2 rel2
    have st12 := st.trans st2
    have rel1' : plRep G.C H σ B2 H2 p x := plRep.step S1 (fun b hb => MuA.there S b (st.mu b hb)) rel st2
    dsimp only [R.ok_bind] at hp
    cases v1 : view ρ2 p with
    | exn c ns ds ρ' => exact (view_exn v1).elim
    | stk => rw [v1] at hp; exact hp.elim
    | ok d1 =>
      rw [v1] at hp
      simp only [R.ok_bind] at hp
      cases v2 : view ρ2 q with
      | exn c ns ds ρ' => exact (view_exn v2).elim
      | stk => rw [v2] at hp; exact hp.elim
      | ok d2 =>
        rw [v2] at hp
        simp only [R.ok_bind] at hp
        cases v3 : g1 d1 d2 with
        | none => rw [v3] at hp; exact hp.elim
        | some k =>
          rw [v3] at hp
          refine hr G rfl B2 H2 σ ρ2 x y d1 d2 (.val (.bl k)) _ S2 (view_ok S2 rel1' v1) (view_ok S2 rel2 v2) (by unfold cmpG; rw [v3]; rfl) fun B3 H3 v S3 st3 rz => ?_
          refine ⟨k, rz, ?_⟩
          simp only [oR_some, R.ok_bind] at hp
          cases k with
          | false =>
            rw [if_neg Bool.false_ne_true] at hp ⊢
            exact hp B3 H3 _ S3 (st12.trans st3) rfl
          | true =>
            rw [if_pos rfl] at hp ⊢
            have st13 := st12.trans st3
            refine hc G rfl B3 H3 σ ρ2 _ S3 ?_
            cases e4 : fc ρ2 with
            | exn c ns ds ρ' =>
              rw [e4] at hp
              exact Post.rebase rsP st13 (r := .exn c ns ds ρ') hp
            | stk => rw [e4] at hp; exact hp
            | ok w =>
              obtain ⟨w, ρ4⟩ := w
              rw [e4] at hp
              intro B4 H4 w' S4 st4 rel4
              have st14 := st13.trans st4
              have rel2' : plRep G.C H1 σ B4 H4 q y := plRep.step S2 (fun b hb => MuA.there S1 b (st2.mu b hb)) rel2 (st3.trans st4)
              dsimp only [R.ok_bind] at hp
              cases v5 : view ρ4 q with
              | exn c ns ds ρ' => exact (view_exn v5).elim
              | stk => rw [v5] at hp; exact hp.elim
              | ok d2' =>
                rw [v5] at hp
                simp only [R.ok_bind] at hp
                cases v6 : view ρ4 w with
                | exn c ns ds ρ' => exact (view_exn v6).elim
                | stk => rw [v6] at hp; exact hp.elim
                | ok d3 =>
                  rw [v6] at hp
                  simp only [R.ok_bind] at hp
                  cases v7 : g2 d2' d3 with
                  | none => rw [v7] at hp; exact hp.elim
                  | some z =>
                    rw [v7] at hp
                    refine hr' G rfl B4 H4 σ ρ4 y w' d2' d3 (.val (.bl z)) Q S4 (view_ok S4 rel2' v5) (view_ok S4 rel4 v6) (by unfold cmpG; rw [v7]; rfl) fun B5 H5 v5 S5 st5 rz5 => ?_
                    exact hp B5 H5 v5 S5 (st14.trans st5) rz5
theorem px_chain {op op' : CmpOp} {g1 g2 : D → D → Option Bool} {a b c : Expr} {pos : Pos} {fa fb fc : En → R (Pl × En)} (h : CmpR X op g1) (h' : CmpR X op' g2) (ha : PX X W a fa) (hb : PX X W b fb) (hc : PX X W c fc)
    (hm : lastMarks [op, op'] [b, c] = false := by with_unfolding_all rfl) : PX X W (.Compare a [op, op'] [b, c] pos) (chn fa fb fc g1 g2) := by
  obtain ⟨r, h1, h2⟩ := h.ex
  obtain ⟨r', h3, h4⟩ := h'.ex
  obtain ⟨ta, p1, s1⟩ := ha
  obtain ⟨tb, p2, s2⟩ := hb
  obtain ⟨tc, p3, s3⟩ := hc
  exact ⟨_, pe_chain h1 h3 p1 p2 p3 hm, sat_chain h2 h4 s1 s2 s3⟩
theorem pt_chain' {op op' : CmpOp} {g1 g2 : D → D → Option Bool} {a b c : Expr} {pos : Pos} {fa fb fc : En → R (Pl × En)} (h : CmpR X op g1) (h' : CmpR X op' g2) (ha : PX X W a fa) (hb : PX X W b fb) (hc : PX X W c fc)
    (hm : lastMarks [op, op'] [b, c] = false := by with_unfolding_all rfl) : PT' X W (.Compare a [op, op'] [b, c] pos) (toB (chn fa fb fc g1 g2)) := by
  obtain ⟨r, h1, h2⟩ := h.ex
  obtain ⟨r', h3, h4⟩ := h'.ex
  obtain ⟨ta, p1, s1⟩ := ha
  obtain ⟨tb, p2, s2⟩ := hb
  obtain ⟨tc, p3, s3⟩ := hc
  exact ⟨_, pt_chain h1 h3 p1 p2 p3 hm, sat_test (sat_chain h2 h4 s1 s2 s3)⟩

/-! ### and, or, not: tests -/
def andT (f g : En → R (Bool × En)) : En → R (Bool × En) := fun ρ => (f ρ).bind fun p => if p.1 = true then g p.2 else .ok (false, p.2)
def orT (f g : En → R (Bool × En)) : En → R (Bool × En) := fun ρ => (f ρ).bind fun p => if p.1 = true then .ok (true, p.2) else g p.2
def notT (f : En → R (Bool × En)) : En → R (Bool × En) := fun ρ => (f ρ).bind fun p => .ok (!p.1, p.2)
theorem sat_and {t u : TT} {f g : En → R (Bool × En)} (h : Sat C W relB t f) (h' : Sat C W relB u g) : Sat C W relB (tAnd t u) (andT f g) := by
  refine Sat.bind (t2 := fun c σ H1 Q => if c = true then u σ H1 Q else Q false H1) (f2 := fun c ρ1 => if c = true then g ρ1 else .ok (false, ρ1)) h ?_
  intro c G eG B H σ ρ B1 H1 ρ1 y Q S S1 st rel hp
  obtain rfl : c = y := rel
  cases c with
  | false =>
    rw [if_neg Bool.false_ne_true] at hp ⊢
    exact hp B1 H1 false S1 st rfl
  | true =>
    rw [if_pos rfl] at hp ⊢
    exact h' G eG B1 H1 σ ρ1 Q S1 (Post.rebase rsB st hp)
theorem sat_or {t u : TT} {f g : En → R (Bool × En)} (h : Sat C W relB t f) (h' : Sat C W relB u g) : Sat C W relB (tOr t u) (orT f g) := by
  refine Sat.bind (t2 := fun c σ H1 Q => if c = true then Q true H1 else u σ H1 Q) (f2 := fun c ρ1 => if c = true then .ok (true, ρ1) else g ρ1) h ?_
  intro c G eG B H σ ρ B1 H1 ρ1 y Q S S1 st rel hp
  obtain rfl : c = y := rel
  cases c with
  | false =>
    rw [if_neg Bool.false_ne_true] at hp ⊢
    exact h' G eG B1 H1 σ ρ1 Q S1 (Post.rebase rsB st hp)
  | true =>
    rw [if_pos rfl] at hp ⊢
    exact hp B1 H1 true S1 st rfl
theorem sat_not {t : TT} {f : En → R (Bool × En)} (h : Sat C W relB t f) : Sat C W relB (tNot t) (notT f) := by
  refine Sat.bind (t2 := fun c σ H1 Q => Q (!c) H1) (f2 := fun c ρ1 => .ok (!c, ρ1)) h ?_
  intro c G eG B H σ ρ B1 H1 ρ1 y Q S S1 st rel hp
  obtain rfl : c = y := rel
  exact hp B1 H1 (!c) S1 st rfl
section
variable {a b : Expr} {rest : List Expr} {pos : Pos} {f g : En → R (Bool × En)}
theorem pw_and1' (ha : PT' X W a f) : PWt X W (.BoolOp .And [a] pos) f := let ⟨t, h, s⟩ := ha; ⟨t, pw_and1 h, s⟩
theorem pw_or1' (ha : PT' X W a f) : PWt X W (.BoolOp .Or [a] pos) f := let ⟨t, h, s⟩ := ha; ⟨t, pw_or1 h, s⟩
theorem pw_and' (ha : PT' X W a f) (hb : PWt X W (.BoolOp .And (b :: rest) pos) g) : PWt X W (.BoolOp .And (a :: b :: rest) pos) (andT f g) := by
  obtain ⟨t, h, s⟩ := ha
  obtain ⟨u, h', s'⟩ := hb
  exact ⟨_, pw_and h h', sat_and s s'⟩
theorem pw_or' (ha : PT' X W a f) (hb : PWt X W (.BoolOp .Or (b :: rest) pos) g) : PWt X W (.BoolOp .Or (a :: b :: rest) pos) (orT f g) := by
  obtain ⟨t, h, s⟩ := ha
  obtain ⟨u, h', s'⟩ := hb
  exact ⟨_, pw_or h h', sat_or s s'⟩
theorem pt_pw (h : PWt X W a f) : PT' X W a f := let ⟨t, h, s⟩ := h; ⟨t, h.pt, s⟩
theorem pt_not' (ha : PT' X W a f) : PT' X W (.UnaryOp .Not a pos) (notT f) := let ⟨t, h, s⟩ := ha; ⟨_, pt_not h, sat_not s⟩
end
/-! ### .. as values, of Bools -/
def blOf : Pl → Option Bool
  | .val (.bl b) => some b
  | _ => none
def andV (f g : En → R (Pl × En)) : En → R (Pl × En) := fun ρ => (f ρ).bind fun p => (oR (blOf p.1)).bind fun k => if k = true then g p.2 else .ok (.val (.bl false), p.2)
def orV (f g : En → R (Pl × En)) : En → R (Pl × En) := fun ρ => (f ρ).bind fun p => (oR (blOf p.1)).bind fun k => if k = true then .ok (.val (.bl true), p.2) else g p.2
def notV (f : En → R (Pl × En)) : En → R (Pl × En) := fun ρ => (f ρ).bind fun p => (oR (blOf p.1)).bind fun k => .ok (.val (.bl (!k)), p.2)
theorem blOf_ok {Hs : Hp} {σ : St} {B H : Hp} {p : Pl} {v : V} {k : Bool} (h : plRep C Hs σ B H p v) (e : blOf p = some k) : v = .bl k := by
  unfold blOf at e
  split at e
  · cases e; exact h
  · cases e
theorem sat_andV {t u : TE} {f g : En → R (Pl × En)} (h : Sat C W relP t f) (h' : Sat C W relP u g) : Sat C W relP (tAndV t u) (andV f g) := by
  refine Sat.bind (R2 := relP) (t2 := fun x σ H1 Q => ∃ c, x = .bl c ∧ if c = true then u σ H1 Q else Q (.bl false) H1) (f2 := fun p ρ1 => (oR (blOf p)).bind fun k => if k = true then g ρ1 else .ok (.val (.bl false), ρ1)) h ?_
  intro p G eG B H σ ρ B1 H1 ρ1 y Q S S1 st rel hp
  cases z : blOf p with
  | none => rw [z] at hp; exact hp.elim
  | some k =>
    rw [z] at hp
    refine ⟨k, blOf_ok rel z, ?_⟩
    simp only [oR_some, R.ok_bind] at hp
    cases k with
    | false =>
      rw [if_neg Bool.false_ne_true] at hp ⊢
      exact hp B1 H1 _ S1 st rfl
    | true =>
      rw [if_pos rfl] at hp ⊢
      exact h' G eG B1 H1 σ ρ1 Q S1 (Post.rebase rsP st hp)
theorem sat_orV {t u : TE} {f g : En → R (Pl × En)} (h : Sat C W relP t f) (h' : Sat C W relP u g) : Sat C W relP (tOrV t u) (orV f g) := by
  refine Sat.bind (R2 := relP) (t2 := fun x σ H1 Q => ∃ c, x = .bl c ∧ if c = true then Q (.bl true) H1 else u σ H1 Q) (f2 := fun p ρ1 => (oR (blOf p)).bind fun k => if k = true then .ok (.val (.bl true), ρ1) else g ρ1) h ?_
  intro p G eG B H σ ρ B1 H1 ρ1 y Q S S1 st rel hp
  cases z : blOf p with
  | none => rw [z] at hp; exact hp.elim
  | some k =>
    rw [z] at hp
    refine ⟨k, blOf_ok rel z, ?_⟩
    simp only [oR_some, R.ok_bind] at hp
    cases k with
    | true =>
      rw [if_pos rfl] at hp ⊢
      exact hp B1 H1 _ S1 st rfl
    | false =>
      rw [if_neg Bool.false_ne_true] at hp ⊢
      exact h' G eG B1 H1 σ ρ1 Q S1 (Post.rebase rsP st hp)
theorem sat_notV {t : TE} {f : En → R (Pl × En)} (h : Sat C W relP t f) : Sat C W relP (tNotV t) (notV f) := by
  refine Sat.bind (R2 := relP) (t2 := fun x σ H1 Q => ∃ c, x = .bl c ∧ Q (.bl (!c)) H1) (f2 := fun p ρ1 => (oR (blOf p)).bind fun k => .ok (.val (.bl (!k)), ρ1)) h ?_
  intro p G eG B H σ ρ B1 H1 ρ1 y Q S S1 st rel hp
  cases z : blOf p with
  | none => rw [z] at hp; exact hp.elim
  | some k =>
    rw [z] at hp
    exact ⟨k, blOf_ok rel z, hp B1 H1 _ S1 st rfl⟩
section
variable {a b : Expr} {rest : List Expr} {pos : Pos} {f g : En → R (Pl × En)}
theorem px_one {op : BoolOp} (ha : PX X W a f) : PX X W (.BoolOp op [a] pos) f := let ⟨t, h, s⟩ := ha; ⟨t, pe_one h, s⟩
theorem px_andV (ha : PX X W a f) (hb : PX X W (.BoolOp .And (b :: rest) pos) g) : PX X W (.BoolOp .And (a :: b :: rest) pos) (andV f g) := by
  obtain ⟨t, h, s⟩ := ha
  obtain ⟨u, h', s'⟩ := hb
  exact ⟨_, pe_and h h', sat_andV s s'⟩
theorem px_orV (ha : PX X W a f) (hb : PX X W (.BoolOp .Or (b :: rest) pos) g) : PX X W (.BoolOp .Or (a :: b :: rest) pos) (orV f g) := by
  obtain ⟨t, h, s⟩ := ha
  obtain ⟨u, h', s'⟩ := hb
  exact ⟨_, pe_or h h', sat_orV s s'⟩
theorem px_notV (ha : PX X W a f) : PX X W (.UnaryOp .Not a pos) (notV f) := let ⟨t, h, s⟩ := ha; ⟨_, pe_not h, sat_notV s⟩
end
/-! ### truth -/
def truD : D → Option Bool
  | .non => some false
  | .bl b => some b
  | .int i => some (i != 0)
  | .str s => if s.length ≤ sizeLine then some ((s.length : Int) != 0) else none
  | .tup ds => some (!ds.isEmpty)
  | .lst ds => some (!ds.isEmpty)
  | .frz ds => some (!ds.isEmpty)
  | .obj _ _ _ => none
def truT (f : En → R (Pl × En)) : En → R (Bool × En) := fun ρ => (f ρ).bind fun p => (view p.2 p.1).bind fun d => (oR (truD d)).bind fun k => .ok (k, p.2)
theorem RepL.isEmpty {B : Hp} {ds : List D} {vs : List V} (h : RepL C B ds vs) : vs.isEmpty = ds.isEmpty := by
  have e := h.length
  cases ds <;> cases vs <;> simp_all
theorem tru_view {B H : Hp} (ex : Ex B H) {d : D} {v : V} {k : Bool} (h : VRep C B H d v) (e : truD d = some k) : TruV C.K v H k := by
  cases d with
  | non => cases e; rw [show v = _ from h]; rfl
  | bl b => cases e; rw [show v = _ from h]; rfl
  | int b => cases e; rw [show v = _ from h]; rfl
  | str s =>
    simp only [truD] at e
    split at e
    · rename_i hl; cases e; rw [show v = _ from h]; exact ⟨hl, rfl⟩
    · cases e
  | tup ds => cases e; obtain ⟨a, vs, rfl, h1, h2⟩ := h; exact .inr (.inl ⟨vs, Evl.ex_t ex h1, by rw [h2.isEmpty]⟩)
  | lst ds => cases e; obtain ⟨a, vs, rfl, h1, h2⟩ := h; exact .inl ⟨vs, SqL.of h1, by rw [h2.isEmpty]⟩
  | frz ds => cases e; obtain ⟨a, vs, rfl, h1, h2⟩ := h; exact .inl ⟨vs, Evl.ex_l ex h1, by rw [h2.isEmpty]⟩
  | obj c ns ds => cases e
theorem pt_tru {a : Expr} {f : En → R (Pl × En)} (ha : PX X W a f) (he : ∀ whole, isTrue a X.env whole = (do let v ← whole; standAt a.pos; holding [v] (truthy v)) := by intro _; rfl) : PT' X W a (truT f) := by
  obtain ⟨t, h, s⟩ := ha
  refine ⟨_, pt_truth h he, ?_⟩
  refine Sat.bind (R2 := relB) (t2 := fun x σ H1 Q => ∃ k, TruV X.K x H1 k ∧ Q k H1) (f2 := fun p ρ1 => (view ρ1 p).bind fun d => (oR (truD d)).bind fun k => .ok (k, ρ1)) s ?_
  intro p G eG B H σ ρ B1 H1 ρ1 y Q S S1 st rel hp
  have eK : X.K = G.C.K := by rw [eG]
  rw [eK]
  cases v1 : view ρ1 p with
  | exn c ns ds ρ' => exact (view_exn v1).elim
  | stk => rw [v1] at hp; exact hp.elim
  | ok d =>
    rw [v1] at hp
    simp only [R.ok_bind] at hp
    cases v3 : truD d with
    | none => rw [v3] at hp; exact hp.elim
    | some k =>
      rw [v3] at hp
      have rel' : plRep G.C H σ B1 H1 p y := by rw [eG]; exact rel
      exact ⟨k, tru_view S1.ex (view_ok S1 rel' v1) v3, hp B1 H1 k S1 st rfl⟩
/-! ### a if t else b -/
def ifV (t : En → R (Bool × En)) (f g : En → R (Pl × En)) : En → R (Pl × En) := fun ρ => (t ρ).bind fun p => if p.1 = true then f p.2 else g p.2
theorem px_if {a b c : Expr} {pos : Pos} {t : En → R (Bool × En)} {f g : En → R (Pl × En)} (hc : PT' X W c t) (ha : PX X W a f) (hb : PX X W b g) : PX X W (.IfExp c a b pos) (ifV t f g) := by
  obtain ⟨tc, h, s⟩ := hc
  obtain ⟨ta, h1, s1⟩ := ha
  obtain ⟨tb, h2, s2⟩ := hb
  refine ⟨_, pe_ifExp h h1 h2, ?_⟩
  refine Sat.bind (t2 := fun c σ H1 Q => if c = true then ta σ H1 Q else tb σ H1 Q) (f2 := fun c ρ1 => if c = true then f ρ1 else g ρ1) s ?_
  intro c G eG B H σ ρ B1 H1 ρ1 y Q S S1 st rel hp
  obtain rfl : c = y := rel
  cases c with
  | false =>
    rw [if_neg Bool.false_ne_true] at hp ⊢
    exact s2 G eG B1 H1 σ ρ1 Q S1 (Post.rebase rsP st hp)
  | true =>
    rw [if_pos rfl] at hp ⊢
    exact s1 G eG B1 H1 σ ρ1 Q S1 (Post.rebase rsP st hp)

/-! ### arguments -/
/-- a new list is taken as unchanging at once -/
def settle (f : En → R (Pl × En)) : En → R (Pl × En) := fun ρ => (f ρ).bind fun p => match p.1 with
  | .new ds => .ok (.val (.lst ds), p.2)
  | q => .ok (q, p.2)
theorem Sat.settle {t : TE} {f : En → R (Pl × En)} (h : Sat C W relP t f) : Sat C W relP t (settle f) := by
  refine Sat.map (R2 := relP) (f2 := fun q ρ1 => match q with | .new ds => R.ok (Pl.val (.lst ds), ρ1) | q => R.ok (q, ρ1)) h ?_
  intro p G eG B H σ ρ B1 H1 ρ1 y Q S S1 st rel hp
  subst eG
  cases p with
  | val d => exact hp B1 H1 y S1 st rel
  | slot i => exact hp B1 H1 y S1 st rel
  | new ds =>
    obtain ⟨B', S', ex, ntb, nb, rp⟩ := immP_ok (p := .new ds) (d := .lst ds) S1 (fun b hb => MuA.there S b (st.mu b hb)) S.tr.dm st.tr.dm rel rfl
    exact hp B' H1 y S' ⟨⟨st.tr.ex.trans ex, fun b hb => (nb b hb).trans (st.tr.nb b hb), st.tr.kp, st.tr.dm, st.tr.tb, fun h => ntb (st.tr.nt h)⟩, st.mu⟩ rp
def fNil : En → R (List Pl × En) := fun ρ => .ok ([], ρ)
def fCons (f : En → R (Pl × En)) (g : En → R (List Pl × En)) : En → R (List Pl × En) := fun ρ => (settle f ρ).bind fun p => (g p.2).bind fun q => .ok (p.1 :: q.1, q.2)
theorem sat_nil : Sat C W relA tNil fNil := by
  intro G eG B H σ ρ Q S h
  exact h B H [] S (StT.refl _ _ _ _) rfl
theorem sat_cons {ta : TE} {tr : TA} {f : En → R (Pl × En)} {g : En → R (List Pl × En)} (ha : Sat C W relP ta f) (hr : Sat C W relA tr g) : Sat C W relA (tCons ta tr) (fCons f g) := by
  refine Sat.bind (R2 := relA) (t2 := fun x σ H1 Q => tr σ H1 fun xs H2 => Q (x :: xs) H2) (f2 := fun p ρ1 => (g ρ1).bind fun q => .ok (p :: q.1, q.2)) ha.settle ?_
  intro p G eG B H σ ρ B1 H1 ρ1 x Q S S1 st rel hp
  refine hr G eG B1 H1 σ ρ1 _ S1 ?_
  subst eG
  cases e1 : g ρ1 with
  | exn c ns ds ρ' =>
    rw [e1] at hp
    exact Post.rebase rsA st (r := .exn c ns ds ρ') hp
  | stk => rw [e1] at hp; exact hp
  | ok q =>
    obtain ⟨q, ρ2⟩ := q
    rw [e1] at hp
    intro B2 H2 ys S2 st2 rel2
    have rel1' : plRep G.C H σ B2 H2 p x := plRep.step S1 (fun b hb => MuA.there S b (st.mu b hb)) rel st2
    exact hp B2 H2 (x :: ys) S2 (st.trans st2) ⟨x, ys, rfl, rel1', plReps.start st.tr.dm rel2⟩
theorem pxs_nil : PXs X W [] fNil := ⟨_, pa_nil, sat_nil⟩
theorem pxs_cons {e : Expr} {es : List Expr} {f : En → R (Pl × En)} {g : En → R (List Pl × En)} (ha : PX X W e f) (hr : PXs X W es g) (hs : starEach (e :: es) X.env = (false, eval e X.env) :: starEach es X.env := by rfl) : PXs X W (e :: es) (fCons f g) := by
  obtain ⟨t, h, s⟩ := ha
  obtain ⟨u, h', s'⟩ := hr
  exact ⟨_, pa_cons h h' hs, sat_cons s s'⟩
/-- all as unchanging values (a new one was taken so before) -/
def immPs (ρ : En) : List Pl → R (List D)
  | [] => .ok []
  | .new _ :: _ => .stk
  | p :: ps => (immP ρ p).bind fun d => (immPs ρ ps).bind fun ds => .ok (d :: ds)
theorem immPs_exn {ρ : En} : ∀ {ps : List Pl} {c ns ds ρ'}, immPs ρ ps = .exn c ns ds ρ' → False
  | [], _, _, _, _, e => by cases e
  | p :: ps, c, ns, ds, ρ', e => by
    cases p with
    | new _ => cases e
    | val d =>
      have e : ((immPs ρ ps).bind fun ds => R.ok (d :: ds)) = .exn c ns ds ρ' := e
      cases q : immPs ρ ps with
      | ok z => rw [q] at e; cases e
      | stk => rw [q] at e; cases e
      | exn c ns ds ρ' => exact immPs_exn q
    | slot i =>
      have e : ((immP ρ (.slot i)).bind fun d => (immPs ρ ps).bind fun ds => R.ok (d :: ds)) = .exn c ns ds ρ' := e
      cases q0 : immP ρ (.slot i) with
      | exn c ns ds ρ' => exact (immP_exn q0).elim
      | stk => rw [q0] at e; cases e
      | ok d =>
        rw [q0] at e
        cases q : immPs ρ ps with
        | ok z => rw [R.ok_bind, q] at e; cases e
        | stk => rw [R.ok_bind, q] at e; cases e
        | exn c ns ds ρ' => exact immPs_exn q
theorem imm1_ok {G : Gh} {B H Hs : Hp} {σ : St} {ρ : En} {p : Pl} {v : V} {d : D} (S : SO G B H σ ρ) (hn : ∀ ds, p ≠ .new ds) (h : plRep G.C Hs σ B H p v) (e : immP ρ p = .ok d) : Rep G.C B d v := by
  cases p with
  | new ds => exact absurd rfl (hn ds)
  | val d' => cases e; exact h
  | slot i =>
    unfold immP at e
    have h' : σ[i]? = some (some v) := h
    dsimp only at e
    split at e
    · rename_i d' q
      cases e
      obtain ⟨w, e1, h1⟩ := S.im i _ q
      rw [h'] at e1; cases e1
      exact h1
    · cases e
theorem immPs_ok {G : Gh} {B H Hs : Hp} {σ : St} {ρ : En} (S : SO G B H σ ρ) : ∀ {ps : List Pl} {vs : List V} {ds : List D}, plReps G.C Hs σ B H ps vs → immPs ρ ps = .ok ds → RepL G.C B ds vs
  | [], _, _, h, e => by cases e; exact h
  | p :: ps, _, ds, h, e => by
    obtain ⟨v, r, rfl, h1, h2⟩ := h
    have key : (∀ z, p ≠ .new z) → ((immP ρ p).bind fun d => (immPs ρ ps).bind fun ds => R.ok (d :: ds)) = .ok ds → RepL G.C B ds (v :: r) := fun hn e => by
      cases q0 : immP ρ p with
      | exn c ns ds ρ' => exact (immP_exn q0).elim
      | stk => rw [q0] at e; cases e
      | ok d =>
        rw [q0] at e
        cases q : immPs ρ ps with
        | ok z => rw [R.ok_bind, q] at e; cases e; exact ⟨v, r, rfl, imm1_ok S hn h1 q0, immPs_ok S h2 q⟩
        | stk => rw [R.ok_bind, q] at e; cases e
        | exn c ns ds ρ' => exact (immPs_exn q).elim
    cases p with
    | new _ => cases e
    | val d => exact key (fun z q => nomatch q) e
    | slot i => exact key (fun z q => nomatch q) e
/-! ### displays -/
def fTup (g : En → R (List Pl × En)) : En → R (Pl × En) := fun ρ => (g ρ).bind fun p => (immPs p.2 p.1).bind fun ds => if ds.length ≤ 1000 then .ok (.val (.tup ds), p.2) else .stk
def fLst (g : En → R (List Pl × En)) : En → R (Pl × En) := fun ρ => (g ρ).bind fun p => (immPs p.2 p.1).bind fun ds => if ds.length ≤ 1000 then .ok (.new ds, p.2) else .stk
theorem le1000 {n : Nat} (h : n ≤ 1000) : n ≤ sizeLine := Nat.le_of_lt (small1000 h)
theorem sat_tup {t : TA} {g : En → R (List Pl × En)} (h : Sat C W relA t g) : Sat C W relP (tTup t) (fTup g) := by
  refine Sat.bind (R2 := relP) (t2 := fun xs σ H1 Q => xs.length ≤ sizeLine ∧ ∀ p, H1 p = none → Q (.ref p) (upd H1 p (.tup xs))) (f2 := fun ps ρ1 => (immPs ρ1 ps).bind fun ds => if ds.length ≤ 1000 then .ok (.val (.tup ds), ρ1) else .stk) h ?_
  intro ps G eG B H σ ρ B1 H1 ρ1 xs Q S S1 st rel hp
  subst eG
  cases v1 : immPs ρ1 ps with
  | exn c ns ds ρ' => exact (immPs_exn v1).elim
  | stk => rw [v1] at hp; exact hp.elim
  | ok ds =>
    rw [v1] at hp
    simp only [R.ok_bind] at hp
    have r := immPs_ok S1 rel v1
    split at hp
    · rename_i hl
      exact ⟨by rw [r.length]; exact le1000 hl, newT S1 r fun B' H' v S' st' rv => hp B' H' v S' (st.trans st') rv⟩
    · exact hp.elim
theorem sat_lst {t : TA} {g : En → R (List Pl × En)} (h : Sat C W relA t g) : Sat C W relP (tLst t) (fLst g) := by
  refine Sat.bind (R2 := relP) (t2 := fun xs σ H1 Q => xs.length ≤ sizeLine ∧ ∀ p, H1 p = none → Q (.ref p) (upd H1 p (.lst xs))) (f2 := fun ps ρ1 => (immPs ρ1 ps).bind fun ds => if ds.length ≤ 1000 then .ok (.new ds, ρ1) else .stk) h ?_
  intro ps G eG B H σ ρ B1 H1 ρ1 xs Q S S1 st rel hp
  subst eG
  cases v1 : immPs ρ1 ps with
  | exn c ns ds ρ' => exact (immPs_exn v1).elim
  | stk => rw [v1] at hp; exact hp.elim
  | ok ds =>
    rw [v1] at hp
    simp only [R.ok_bind] at hp
    have r := immPs_ok S1 rel v1
    split at hp
    · rename_i hl
      exact ⟨by rw [r.length]; exact le1000 hl, newL S1 r fun B' H' v S' st' rv => hp B' H' v S' (st.trans st') (plRep.start rv st.tr.dm)⟩
    · exact hp.elim
theorem px_tup {es : List Expr} {k : Nat} {pos : Pos} {g : En → R (List Pl × En)} (h : PXs X W es g) : PX X W (.Tuple es k pos) (fTup g) := let ⟨t, h, s⟩ := h; ⟨_, pe_tup h, sat_tup s⟩
theorem px_lst {es : List Expr} {pos : Pos} {g : En → R (List Pl × En)} (h : PXs X W es g) : PX X W (.List es pos) (fLst g) := let ⟨t, h, s⟩ := h; ⟨_, pe_lst h, sat_lst s⟩
end DL
set_option Elab.async false
set_option linter.all false
set_option maxRecDepth 100000
set_option autoImplicit false
namespace DL
open PySem PySem.Spec PyProof.Rows L2
open Evl (Ex)
variable [Tb] {X : Cx} {W : WX} {C : Ck}

/-! ### what a def does with its arguments -/
inductive Rv where
  | im (d : D) | nw (ds : List D)
inductive FR where
  | ret (r : Rv) (ps : List (List D)) | exn (c : Str) (ns : List Str) (ds : List D) | stk
abbrev FD := List Sl → FR
def ArgsR (C : Ck) (B H : Hp) : List Sl → List V → List Addr → Prop
  | [], vs, P => vs = [] ∧ P = []
  | .im d :: sl, vs, P => ∃ v r, vs = v :: r ∧ Rep C B d v ∧ ArgsR C B H sl r P
  | .mu _ ds :: sl, vs, P => ∃ l r Q, vs = .ref l :: r ∧ P = l :: Q ∧ (∃ ws, H l = some (.lst ws) ∧ RepL C B ds ws) ∧ B l = none ∧ ArgsR C B H sl r Q
def PostsR (C : Ck) (B H : Hp) : List Addr → List (List D) → Prop
  | [], ps => ps = []
  | l :: P, ps => ∃ ds r, ps = ds :: r ∧ (∃ ws, H l = some (.lst ws) ∧ B l = none ∧ RepL C B ds ws) ∧ PostsR C B H P r
def RvR (C : Ck) (Hs B H : Hp) : Rv → V → Prop
  | .im d, v => Rep C B d v
  | .nw ds, v => ∃ l vs, v = .ref l ∧ H l = some (.lst vs) ∧ B l = none ∧ Hs l = none ∧ RepL C B ds vs
def spF (C : Ck) (F : FD) : Sp := fun vs H Q E => ∃ B sls P, ArgsR C B H sls vs P ∧ P.Nodup ∧ Ex B H ∧ LamX.Tabs Tb.T H ∧ NT B ∧ match F sls with
  | .ret r ps => ∀ B' H' v, Tr (· ∈ P) B H B' H' → Ex B' H' → PostsR C B' H' P ps → RvR C H B' H' r v → Q v H'
  | .exn c ns ds => ∀ B' H' A d vs, Tr (· ∈ P) B H B' H' → Ex B' H' → C.mg c = some (.ref A) → H' d = some (.xd (ns.zip vs)) → ns.length = vs.length → RepL C B' ds vs → E (.ref A) (some d) H'
  | .stk => False
theorem ArgsR.length {B H : Hp} : ∀ {sl : List Sl} {vs : List V} {P : List Addr}, ArgsR C B H sl vs P → vs.length = sl.length
  | [], _, _, h => by rw [h.1]; rfl
  | .im d :: sl, _, _, h => by
    obtain ⟨v, r, rfl, _, h⟩ := h
    rw [List.length_cons, List.length_cons, ArgsR.length h]
  | .mu _ ds :: sl, _, _, h => by
    obtain ⟨v, r, Q, rfl, _, _, _, h⟩ := h
    rw [List.length_cons, List.length_cons, ArgsR.length h]

/-! ### a call, from the caller's slots -/
def argSls (ρ : En) : List Pl → R (List Sl × List Nat)
  | [] => .ok ([], [])
  | .new _ :: _ => .stk
  | .val d :: ps => (argSls ρ ps).bind fun q => .ok (.im d :: q.1, q.2)
  | .slot i :: ps => match ρ[i]? with
    | some (some (.im d)) => (argSls ρ ps).bind fun q => .ok (.im d :: q.1, q.2)
    | some (some (.mu _ ds)) => (argSls ρ ps).bind fun q => .ok (.mu false ds :: q.1, i :: q.2)
    | _ => .stk
def putMu (ρ : En) : List Nat → List (List D) → R En
  | [], [] => .ok ρ
  | i :: is, ds :: ps => match ρ[i]? with
    | some (some (.mu o _)) => putMu (ρ.set i (some (.mu o ds))) is ps
    | _ => .stk
  | _, _ => .stk
def wipeMu (ρ : En) : List Nat → En
  | [] => ρ
  | i :: is => wipeMu (ρ.set i none) is
def rvPl : Rv → Pl
  | .im d => .val d
  | .nw ds => .new ds
def callG (F : FD) (fs : En → R (List Pl × En)) : En → R (Pl × En) := fun ρ => (fs ρ).bind fun p => (argSls p.2 p.1).bind fun a => if a.2.Nodup then match F a.1 with
    | .ret r ps => (putMu p.2 a.2 ps).bind fun ρ' => .ok (rvPl r, ρ')
    | .exn c ns ds => .exn c ns ds (wipeMu p.2 a.2)
    | .stk => .stk
  else .stk

theorem argSls_exn {ρ : En} : ∀ {ps : List Pl} {c ns ds ρ'}, argSls ρ ps = .exn c ns ds ρ' → False
  | [], _, _, _, _, e => by cases e
  | .new _ :: ps, c, ns, ds, ρ', e => by cases e
  | .val d :: ps, c, ns, ds, ρ', e => by
    unfold argSls at e
    cases q : argSls ρ ps with
    | ok z => rw [q] at e; cases e
    | stk => rw [q] at e; cases e
    | exn c ns ds ρ' => exact argSls_exn q
  | .slot i :: ps, c, ns, ds, ρ', e => by
    unfold argSls at e
    split at e
    · cases q : argSls ρ ps with
      | ok z => rw [q] at e; cases e
      | stk => rw [q] at e; cases e
      | exn c ns ds ρ' => exact argSls_exn q
    · cases q : argSls ρ ps with
      | ok z => rw [q] at e; cases e
      | stk => rw [q] at e; cases e
      | exn c ns ds ρ' => exact argSls_exn q
    · cases e
/-- the slots at idx hold the lists at P -/
def AtR (σ : St) (ρ : En) : List Nat → List Addr → Prop
  | [], P => P = []
  | i :: is, P => ∃ l Q, P = l :: Q ∧ σ[i]? = some (some (.ref l)) ∧ (∃ o ds, ρ[i]? = some (some (.mu o ds))) ∧ AtR σ ρ is Q
theorem argSls_ok {G : Gh} {B H Hs : Hp} {σ : St} {ρ : En} (S : SO G B H σ ρ) : ∀ {ps : List Pl} {vs : List V} {sl : List Sl} {idx : List Nat}, plReps G.C Hs σ B H ps vs → argSls ρ ps = .ok (sl, idx) → ∃ P, ArgsR G.C B H sl vs P ∧ AtR σ ρ idx P
  | [], _, _, _, h, e => by cases e; exact ⟨[], ⟨h, rfl⟩, rfl⟩
  | .new _ :: ps, _, _, _, _, e => by cases e
  | .val d :: ps, _, _, _, h, e => by
    obtain ⟨v, r, rfl, h1, h2⟩ := h
    unfold argSls at e
    cases q : argSls ρ ps with
    | ok z =>
      rw [q] at e; cases e
      obtain ⟨P, a1, a2⟩ := argSls_ok (sl := z.1) (idx := z.2) S h2 q
      exact ⟨P, ⟨v, r, rfl, h1, a1⟩, a2⟩
    | stk => rw [q] at e; cases e
    | exn c ns ds ρ' => rw [q] at e; cases e
  | .slot i :: ps, _, _, _, h, e => by
    obtain ⟨v, r, rfl, h1, h2⟩ := h
    have h1' : σ[i]? = some (some v) := h1
    unfold argSls at e
    split at e
    · rename_i d z0
      cases q : argSls ρ ps with
      | ok z =>
        rw [q] at e; cases e
        obtain ⟨P, a1, a2⟩ := argSls_ok (sl := z.1) (idx := z.2) S h2 q
        obtain ⟨w, e1, rw'⟩ := S.im i d z0
        rw [h1'] at e1; cases e1
        exact ⟨P, ⟨v, r, rfl, rw', a1⟩, a2⟩
      | stk => rw [q] at e; cases e
      | exn c ns ds ρ' => rw [q] at e; cases e
    · rename_i o ds z0
      cases q : argSls ρ ps with
      | ok z =>
        rw [q] at e; cases e
        obtain ⟨P, a1, a2⟩ := argSls_ok (sl := z.1) (idx := z.2) S h2 q
        obtain ⟨l, ws, e1, b1, b2, b3, _⟩ := S.mu i _ ds z0
        rw [h1'] at e1; cases e1
        exact ⟨l :: P, ⟨l, r, P, rfl, rfl, ⟨ws, b1, b3⟩, b2, a1⟩, l, P, rfl, h1', ⟨_, _, z0⟩, a2⟩
      | stk => rw [q] at e; cases e
      | exn c ns ds ρ' => rw [q] at e; cases e
    · cases e
theorem AtR.mem {σ : St} {ρ : En} : ∀ {is : List Nat} {P : List Addr}, AtR σ ρ is P → ∀ l ∈ P, ∃ i ∈ is, σ[i]? = some (some (.ref l)) ∧ ∃ o ds, ρ[i]? = some (some (.mu o ds))
  | [], P, h, l, hl => by rw [show P = [] from h] at hl; cases hl
  | i :: is, _, h, l, hl => by
    obtain ⟨l0, Q, rfl, h1, h2, h3⟩ := h
    rcases List.mem_cons.mp hl with rfl | hl
    · exact ⟨i, List.mem_cons_self, h1, h2⟩
    · obtain ⟨j, hj, r⟩ := AtR.mem h3 l hl
      exact ⟨j, List.mem_cons_of_mem _ hj, r⟩
theorem AtR.has {σ : St} {ρ : En} : ∀ {is : List Nat} {P : List Addr}, AtR σ ρ is P → ∀ i ∈ is, ∃ l ∈ P, σ[i]? = some (some (.ref l))
  | [], P, h, l, hl => by cases hl
  | i :: is, _, h, j, hj => by
    obtain ⟨l0, Q, rfl, h1, h2, h3⟩ := h
    rcases List.mem_cons.mp hj with rfl | hj
    · exact ⟨l0, List.mem_cons_self, h1⟩
    · obtain ⟨l, hl, r⟩ := AtR.has h3 j hj
      exact ⟨l, List.mem_cons_of_mem _ hl, r⟩
theorem AtR.nodup {G : Gh} {B H : Hp} {σ : St} {ρ : En} (S : SO G B H σ ρ) : ∀ {is : List Nat} {P : List Addr}, AtR σ ρ is P → is.Nodup → P.Nodup
  | [], P, h, _ => by rw [show P = [] from h]; exact List.nodup_nil
  | i :: is, _, h, nd => by
    obtain ⟨l0, Q, rfl, h1, ⟨o, ds, h2⟩, h3⟩ := h
    obtain ⟨n1, n2⟩ := List.nodup_cons.mp nd
    refine List.nodup_cons.mpr ⟨fun hl => ?_, AtR.nodup S h3 n2⟩
    obtain ⟨j, hj, e1, o', ds', e2⟩ := AtR.mem h3 l0 hl
    exact n1 (by rw [S.ap i j o ds o' ds' l0 h2 e2 h1 e1]; exact hj)
/-- behind a call that writes the lists at P -/
theorem SO.after {G : Gh} {B H B1 H1 : Hp} {σ : St} {ρ ρ' : En} {P : List Addr} (S : SO G B H σ ρ) (tr : Tr (· ∈ P) B H B1 H1) (ex : Ex B1 H1) (hP : ∀ l ∈ P, MuA σ ρ l)
    (hm : ∀ (i : Nat) (o : Bool) (ds' : List D), ρ'[i]? = some (some (.mu o ds')) → ∃ ds, ρ[i]? = some (some (.mu o ds)) ∧ ∀ l, σ[i]? = some (some (.ref l)) → (l ∉ P ∧ ds = ds') ∨ ∃ ws, H1 l = some (.lst ws) ∧ B1 l = none ∧ RepL G.C B1 ds' ws)
    (hi : ∀ (i : Nat) (d : D), ρ'[i]? = some (some (.im d)) → ρ[i]? = some (some (.im d))) (hlen : ρ'.length = ρ.length) : SO G B1 H1 σ ρ' ∧ StT σ ρ B H ρ' B1 H1 := by
  refine ⟨⟨S.len.trans hlen.symm, ex, fun i d e => ?_, fun i o ds e => ?_, fun i j o ds o' ds' l e1 e2 => ?_, S.tr.trans tr fun x hx => S.muW (hP x hx)⟩, ⟨⟨tr.ex, tr.nb, fun b o e n nt => tr.kp b o e (fun z => n (hP b z)) nt, tr.dm, tr.tb, tr.nt⟩, fun b ⟨i, o, ds, e1, e2⟩ => ?_⟩⟩
  · obtain ⟨v, e1, r⟩ := S.im i d (hi i d e)
    exact ⟨v, e1, Rep.mono tr.ex d r⟩
  · obtain ⟨ds0, e0, k⟩ := hm i o ds e
    obtain ⟨l, vs, e1, h1, h2, h3, h4⟩ := S.mu i o ds0 e0
    rcases k l e1 with ⟨n, rfl⟩ | ⟨ws, g1, g2, g3⟩
    · exact ⟨l, vs, e1, tr.kp l _ h1 n no_tbl, by rw [tr.nb l (by rw [h1]; intro z; cases z)]; exact h2, RepL.mono tr.ex ds0 h3, h4⟩
    · exact ⟨l, ws, e1, g1, g2, g3, h4⟩
  · obtain ⟨_, e3, _⟩ := hm i o ds e1
    obtain ⟨_, e4, _⟩ := hm j o' ds' e2
    exact S.ap i j _ _ _ _ l e3 e4
  · obtain ⟨ds0, e0, _⟩ := hm i o ds e1
    exact ⟨i, o, ds0, e0, e2⟩
theorem putMu_len {ρ : En} : ∀ {is : List Nat} {ps : List (List D)} {ρ' : En}, putMu ρ is ps = .ok ρ' → ρ'.length = ρ.length := by
  intro is
  induction is generalizing ρ with
  | nil =>
    intro ps ρ' e
    cases ps with
    | nil => cases e; rfl
    | cons _ _ => cases e
  | cons i is ih =>
    intro ps ρ' e
    cases ps with
    | nil => cases e
    | cons ds ps =>
      unfold putMu at e
      split at e
      · rw [ih e, List.length_set]
      · cases e
theorem putMu_ok {C : Ck} {B1 H1 : Hp} {σ : St} {ρ : En} : ∀ {is : List Nat} {P : List Addr} {ps : List (List D)} {ρ' : En}, putMu ρ is ps = .ok ρ' → is.Nodup → AtR σ ρ is P → PostsR C B1 H1 P ps →
    ∀ (i : Nat), (i ∉ is ∧ ρ'[i]? = ρ[i]?) ∨ (i ∈ is ∧ ∃ o ds ds' l ws, ρ[i]? = some (some (.mu o ds)) ∧ ρ'[i]? = some (some (.mu o ds')) ∧ σ[i]? = some (some (.ref l)) ∧ H1 l = some (.lst ws) ∧ B1 l = none ∧ RepL C B1 ds' ws) := by
  intro is
  induction is generalizing ρ with
  | nil =>
    intro P ps ρ' e _ _ _ i
    cases ps with
    | nil => cases e; exact .inl ⟨by simp, rfl⟩
    | cons _ _ => cases e
  | cons j is ih =>
    intro P ps ρ' e nd hat hp i
    obtain ⟨l, Q, rfl, a1, ⟨o, ds, a2⟩, a3⟩ := hat
    obtain ⟨ds', r, rfl, ⟨ws, p1, p2, p3⟩, p4⟩ := hp
    obtain ⟨n1, n2⟩ := List.nodup_cons.mp nd
    unfold putMu at e
    rw [a2] at e
    dsimp only at e
    have hj : j < ρ.length := (List.getElem?_eq_some_iff.mp a2).1
    have ne : ∀ k, k ∈ is → j ≠ k := fun k hk z => n1 (by rw [z]; exact hk)
    have at' : ∀ {is' : List Nat} {Q' : List Addr}, (∀ k ∈ is', j ≠ k) → AtR σ ρ is' Q' → AtR σ (ρ.set j (some (.mu o ds'))) is' Q' := by
      intro is'
      induction is' with
      | nil => intro Q' _ h; exact h
      | cons k ks ihk =>
        intro Q' hk h
        obtain ⟨l', Q2, e1, e2, ⟨o2, d2, e3⟩, e4⟩ := h
        exact ⟨l', Q2, e1, e2, ⟨o2, d2, by rw [List.getElem?_set_ne (hk k List.mem_cons_self)]; exact e3⟩, ihk (fun m hm => hk m (List.mem_cons_of_mem _ hm)) e4⟩
    rcases ih e n2 (at' ne a3) p4 i with ⟨h1, h2⟩ | ⟨h1, o1, d1, d1', l1, w1, g1, g2, g3⟩
    · by_cases z : i = j
      · subst z
        rw [List.getElem?_set_self hj] at h2
        exact .inr ⟨List.mem_cons_self, o, ds, ds', l, ws, a2, h2, a1, p1, p2, p3⟩
      · rw [List.getElem?_set_ne (Ne.symm z)] at h2
        exact .inl ⟨by simp only [List.mem_cons, not_or]; exact ⟨z, h1⟩, h2⟩
    · rw [List.getElem?_set_ne (ne i h1)] at g1
      exact .inr ⟨List.mem_cons_of_mem _ h1, o1, d1, d1', l1, w1, g1, g2, g3⟩
theorem putMu_exn {ρ : En} : ∀ {is : List Nat} {ps : List (List D)} {c ns ds ρ'}, putMu ρ is ps = .exn c ns ds ρ' → False := by
  intro is
  induction is generalizing ρ with
  | nil =>
    intro ps c ns ds ρ' e
    cases ps <;> cases e
  | cons i is ih =>
    intro ps c ns ds ρ' e
    cases ps with
    | nil => cases e
    | cons ds ps =>
      unfold putMu at e
      split at e
      · exact ih e
      · cases e
theorem wipeMu_get {ρ : En} : ∀ {is : List Nat} (i : Nat) {x : Sl}, (wipeMu ρ is)[i]? = some (some x) → ρ[i]? = some (some x) ∧ i ∉ is := by
  intro is
  induction is generalizing ρ with
  | nil => intro i x h; exact ⟨h, by simp⟩
  | cons j is ih =>
    intro i x h
    obtain ⟨h1, h2⟩ := ih i h
    by_cases z : j = i
    · subst z
      by_cases hj : j < ρ.length
      · rw [List.getElem?_set_self hj] at h1; cases h1
      · rw [List.getElem?_eq_none (by rw [List.length_set]; omega)] at h1; cases h1
    · rw [List.getElem?_set_ne z] at h1
      exact ⟨h1, by simp only [List.mem_cons, not_or]; exact ⟨fun w => z w.symm, h2⟩⟩
theorem wipeMu_len {ρ : En} : ∀ {is : List Nat}, (wipeMu ρ is).length = ρ.length := by
  intro is
  induction is generalizing ρ with
  | nil => rfl
  | cons j is ih => rw [wipeMu, ih, List.length_set]
/-- what is wanted of an exception, in the slots' terms -/
theorem sat_call {F : FD} {t : TA} {fs : En → R (List Pl × En)} (h : Sat C W relA t fs) : Sat C W relP (tCallS (spF C F) (fun σ => WE W σ) t) (callG F fs) := by
  refine Sat.bind (R2 := relP) (t2 := fun vs σ H1 Q => spF C F vs H1 Q (WE W σ)) (f2 := fun ps ρ1 => (argSls ρ1 ps).bind fun a => if a.2.Nodup then match F a.1 with
    | .ret r ps => (putMu ρ1 a.2 ps).bind fun ρ' => .ok (rvPl r, ρ')
    | .exn c ns ds => .exn c ns ds (wipeMu ρ1 a.2)
    | .stk => .stk
  else .stk) h ?_
  intro ps G eG B H σ ρ B1 H1 ρ1 vs Q S S1 st rel hp
  subst eG
  cases q0 : argSls ρ1 ps with
  | exn c ns ds ρ' => exact (argSls_exn q0).elim
  | stk => rw [q0] at hp; exact hp.elim
  | ok a =>
    obtain ⟨sl, idx⟩ := a
    rw [q0] at hp
    simp only [R.ok_bind] at hp
    split at hp
    case isFalse => exact hp.elim
    rename_i nd
    obtain ⟨P, hA, hT⟩ := argSls_ok S1 rel q0
    have hP : ∀ l ∈ P, MuA σ ρ1 l := fun l hl => by
      obtain ⟨i, _, e1, o, ds, e2⟩ := AtR.mem hT l hl
      exact ⟨i, o, ds, e2, e1⟩
    refine ⟨B1, sl, P, hA, AtR.nodup S1 hT nd, S1.ex, S1.tr.tb G.tb, S1.tr.nt G.nt, ?_⟩
    cases q1 : F sl with
    | stk => rw [q1] at hp; exact hp.elim
    | exn c ns ds =>
      rw [q1] at hp
      intro B2 H2 A d vs2 tr ex e1 e2 e3 r
      obtain ⟨S2, st2⟩ := SO.after (ρ' := wipeMu ρ1 idx) S1 tr ex hP (fun i o ds' e => by
        obtain ⟨g1, g2⟩ := wipeMu_get i e
        refine ⟨ds', g1, fun l hl => .inl ⟨fun hm => ?_, rfl⟩⟩
        obtain ⟨j, hj, e3, o', ds2, e4⟩ := AtR.mem hT l hm
        exact g2 (by rw [S1.ap i j _ _ _ _ l g1 e4 hl e3]; exact hj)) (fun i d e => (wipeMu_get i e).1) wipeMu_len
      exact hp B2 H2 A d vs2 S2 (st.trans st2) e1 e2 e3 r
    | ret r ps2 =>
      rw [q1] at hp
      dsimp only at hp
      cases q2 : putMu ρ1 idx ps2 with
      | exn c ns ds ρ' => exact (putMu_exn q2).elim
      | stk => rw [q2] at hp; exact hp.elim
      | ok ρ2 =>
        rw [q2] at hp
        intro B2 H2 v tr ex hpost hr
        have key := putMu_ok q2 nd hT hpost
        obtain ⟨S2, st2⟩ := SO.after (ρ' := ρ2) S1 tr ex hP (fun i o ds' e => by
          rcases key i with ⟨n, e1⟩ | ⟨_, o1, d1, d1', l1, w1, g1, g2, g3, g4⟩
          · rw [e1] at e
            refine ⟨ds', e, fun l hl => .inl ⟨fun hm => ?_, rfl⟩⟩
            obtain ⟨j, hj, e3, o', ds2, e4⟩ := AtR.mem hT l hm
            exact n (by rw [S1.ap i j _ _ _ _ l e e4 hl e3]; exact hj)
          · rw [g2] at e
            cases e
            refine ⟨d1, g1, fun l hl => .inr ?_⟩
            rw [g3] at hl
            cases hl
            exact ⟨w1, g4⟩) (fun i d e => by
          rcases key i with ⟨n, e1⟩ | ⟨_, o1, d1, d1', l1, w1, g1, g2, g3, g4⟩
          · rw [e1] at e; exact e
          · rw [g2] at e; cases e) (putMu_len q2)
        refine hp B2 H2 v S2 (st.trans st2) ?_
        cases r with
        | im d => exact hr
        | nw ds =>
          obtain ⟨l, ws, e1, h1, h2, h3, h4⟩ := hr
          refine ⟨l, ws, e1, h1, h2, ?_, h4⟩
          cases z : H l with
          | none => rfl
          | some o => exact absurd h3 (st.tr.dm l (by rw [z]; intro w; cases w))
theorem px_call {k : Nat} {f : Addr} {fd : FuncData} {ps : List Str} {F : FD} {x : Str} {p pos : Pos} {e : Expr} {es : List Expr} {fs : En → R (List Pl × En)} (Fn : FnOk X.prog X.w X.K X.mg X.base (L2.CX X.prog X.w) k f fd ps (spF (Cx.ck X) F)) (hr : Room k X.A) (tk : Takes X W) (hg : Gl X x)
    (hm : X.mg x = some (.ref f)) (hk : PySem.W.keepIn X.K (.ref f) = true) (hb : Binds X.K fd ps []) (ha : PXs X W (e :: es) fs) (hdb : (x == ("__debug__" : Str)) = false := by decide)
    (he : starEach (e :: es) X.env = (false, eval e X.env) :: starEach es X.env := by rfl) (hpl : (backTo pos (starEach es X.env)).any (·.1) = false := by rfl) : PX X W (.Call (.Name x p) (e :: es) [] pos) (callG F fs) := by
  obtain ⟨t, h, s⟩ := ha
  exact ⟨_, pe_callS Fn hr hg hm hk hb (fun σ => passAt tk σ) h hdb he hpl, sat_call s⟩
end DL
set_option Elab.async false
set_option linter.all false
set_option maxRecDepth 100000
set_option autoImplicit false
namespace DL
open PySem PySem.Spec PyProof.Rows L2
open Evl (Ex)
variable [Tb] {X : Cx} {W : WX} {C : Ck}

/-! ### slots set, forgotten -/
section
variable {G : Gh} {B H : Hp} {σ : St} {ρ : En}
theorem set_look {ρ : En} {i j : Nat} {x : Option Sl} {y : Sl} (q : (ρ.set i x)[j]? = some (some y)) : (j = i ∧ x = some y ∧ i < ρ.length) ∨ (j ≠ i ∧ ρ[j]? = some (some y)) := by
  by_cases z : j = i
  · subst z
    by_cases hi : j < ρ.length
    · rw [List.getElem?_set_self hi] at q; cases q; exact .inl ⟨rfl, rfl, hi⟩
    · rw [List.getElem?_eq_none (by rw [List.length_set]; omega)] at q; cases q
  · rw [List.getElem?_set_ne (Ne.symm z)] at q; exact .inr ⟨z, q⟩
theorem SO.setI (S : SO G B H σ ρ) (i : Nat) {v : V} {d : D} (r : Rep G.C B d v) : SO G B H (σ.set i (some v)) (ρ.set i (some (.im d))) where
  len := by rw [List.length_set, List.length_set]; exact S.len
  ex := S.ex
  im := fun j d' q => by
    rcases set_look q with ⟨rfl, e, hi⟩ | ⟨n, q'⟩
    · cases e
      exact ⟨v, by rw [List.getElem?_set_self (by rw [S.len]; exact hi)], r⟩
    · obtain ⟨w, e, r'⟩ := S.im j d' q'
      exact ⟨w, by rw [List.getElem?_set_ne (Ne.symm n)]; exact e, r'⟩
  mu := fun j o ds q => by
    rcases set_look q with ⟨rfl, e, hi⟩ | ⟨n, q'⟩
    · cases e
    · obtain ⟨l, vs, e, r'⟩ := S.mu j o ds q'
      exact ⟨l, vs, by rw [List.getElem?_set_ne (Ne.symm n)]; exact e, r'⟩
  ap := fun j k o ds o' ds' l q1 q2 q3 q4 => by
    rcases set_look q1 with ⟨rfl, e, hi⟩ | ⟨n1, q1'⟩
    · cases e
    · rcases set_look q2 with ⟨rfl, e, hi⟩ | ⟨n2, q2'⟩
      · cases e
      · rw [List.getElem?_set_ne (Ne.symm n1)] at q3
        rw [List.getElem?_set_ne (Ne.symm n2)] at q4
        exact S.ap j k o ds o' ds' l q1' q2' q3 q4
  tr := S.tr
theorem SO.setM (S : SO G B H σ ρ) (i : Nat) {l : Addr} {vs : List V} {ds : List D} (h1 : H l = some (.lst vs)) (h2 : B l = none) (h3 : G.H0 l = none) (h4 : ¬ MuA σ ρ l) (r : RepL G.C B ds vs) : SO G B H (σ.set i (some (.ref l))) (ρ.set i (some (.mu true ds))) where
  len := by rw [List.length_set, List.length_set]; exact S.len
  ex := S.ex
  im := fun j d' q => by
    rcases set_look q with ⟨rfl, e, hi⟩ | ⟨n, q'⟩
    · cases e
    · obtain ⟨w, e, r'⟩ := S.im j d' q'
      exact ⟨w, by rw [List.getElem?_set_ne (Ne.symm n)]; exact e, r'⟩
  mu := fun j o ds q => by
    rcases set_look q with ⟨rfl, e, hi⟩ | ⟨n, q'⟩
    · cases e
      exact ⟨l, vs, by rw [List.getElem?_set_self (by rw [S.len]; exact hi)], h1, h2, r, fun _ => h3, fun z => nomatch z⟩
    · obtain ⟨l, vs, e, r'⟩ := S.mu j o ds q'
      exact ⟨l, vs, by rw [List.getElem?_set_ne (Ne.symm n)]; exact e, r'⟩
  ap := fun j k o ds o' ds' l' q1 q2 q3 q4 => by
    rcases set_look q1 with ⟨rfl, e, hi⟩ | ⟨n1, q1'⟩
    · rcases set_look q2 with ⟨rfl, e2, hi2⟩ | ⟨n2, q2'⟩
      · rfl
      · rw [List.getElem?_set_self (by rw [S.len]; exact hi)] at q3
        cases q3
        rw [List.getElem?_set_ne (Ne.symm n2)] at q4
        exact absurd ⟨k, _, _, q2', q4⟩ h4
    · rcases set_look q2 with ⟨rfl, e2, hi2⟩ | ⟨n2, q2'⟩
      · rw [List.getElem?_set_self (by rw [S.len]; exact hi2)] at q4
        cases q4
        rw [List.getElem?_set_ne (Ne.symm n1)] at q3
        exact absurd ⟨j, _, _, q1', q3⟩ h4
      · rw [List.getElem?_set_ne (Ne.symm n1)] at q3
        rw [List.getElem?_set_ne (Ne.symm n2)] at q4
        exact S.ap j k o ds o' ds' l' q1' q2' q3 q4
  tr := S.tr
/-- fewer slots known -/
theorem SO.less {ρ' : En} (S : SO G B H σ ρ) (hl : ρ'.length = ρ.length) (h : ∀ (i : Nat) (x : Sl), ρ'[i]? = some (some x) → ρ[i]? = some (some x)) : SO G B H σ ρ' :=
  ⟨S.len.trans hl.symm, S.ex, fun i d e => S.im i d (h i _ e), fun i o ds e => S.mu i o ds (h i _ e), fun i j o ds o' ds' l e1 e2 => S.ap i j o ds o' ds' l (h i _ e1) (h j _ e2), S.tr⟩
theorem SO.wipes (S : SO G B H σ ρ) (ws : List Nat) : SO G B H σ (wipeMu ρ ws) := S.less wipeMu_len fun i x e => (wipeMu_get i e).1
/-- a slot's own list becomes unchanging -/
theorem SO.frz (S : SO G B H σ ρ) {i : Nat} {ds : List D} (e : ρ[i]? = some (some (.mu true ds))) : ∃ B', SO G B' H σ (ρ.set i (some (.im (.lst ds)))) ∧ Ex B B' := by
  obtain ⟨l, vs, e1, h1, h2, h3, h4, _⟩ := S.mu i true ds e
  have S1 : SO G B H σ (ρ.set i none) := S.less (List.length_set) fun j x q => by
    rcases set_look q with ⟨_, z, _⟩ | ⟨_, z⟩
    · cases z
    · exact z
  have nm : ¬ MuA σ (ρ.set i none) l := fun ⟨j, o, d2, q1, q2⟩ => by
    rcases set_look q1 with ⟨_, z, _⟩ | ⟨n, z⟩
    · cases z
    · exact n (S.ap j i o d2 true ds l z e q2 e1)
  have S2 := S1.freeze h1 h2 (h4 rfl) nm
  have S3 := S2.setI i (v := .ref l) (d := .lst ds) ⟨l, vs, rfl, upd_same, RepL.mono (Ex.new h2) ds h3⟩
  rw [List.set_set] at S3
  have eσ : σ.set i (some (.ref l)) = σ := by
    apply List.ext_getElem?
    intro j
    by_cases z : i = j
    · subst z; rw [List.getElem?_set_self (List.getElem?_eq_some_iff.mp e1).1, e1]
    · rw [List.getElem?_set_ne z]
  rw [eσ] at S3
  exact ⟨_, S3, Ex.new h2⟩
end

/-! ### statements -/
inductive Fl where
  | nx (ρ : En) | rt (r : Rv) (ρ : En) | bk (ρ : En) | ct (ρ : En)
def SPost (G : Gh) (W : WX) (E : Ends) (B : Hp) (r : R Fl) : Prop := match r with
  | .ok (.nx ρ') => ∀ B' H' σ', Ex B B' → SO G B' H' σ' ρ' → E.nx σ' H'
  | .ok (.bk ρ') => ∀ B' H' σ', Ex B B' → SO G B' H' σ' ρ' → E.bk σ' H'
  | .ok (.ct ρ') => ∀ B' H' σ', Ex B B' → SO G B' H' σ' ρ' → E.ct σ' H'
  | .ok (.rt r ρ') => ∀ B' H' σ' v, Ex B B' → SO G B' H' σ' ρ' → RvR G.C G.H0 B' H' r v → E.rt v H'
  | .exn c ns ds ρ' => ∀ B' H' σ' A d vs, Ex B B' → SO G B' H' σ' ρ' → G.C.mg c = some (.ref A) → H' d = some (.xd (ns.zip vs)) → ns.length = vs.length → RepL G.C B' ds vs → W (.ref A) (some d) σ' H'
  | .stk => False
def SSat (C : Ck) (W : WX) (t : TS) (g : En → R Fl) : Prop := ∀ (G : Gh), G.C = C → ∀ (B H : Hp) (σ : St) (ρ : En) (E : Ends), SO G B H σ ρ → SPost G W E B (g ρ) → t E σ H
theorem SPost.base {G : Gh} {W : WX} {E : Ends} {B B1 : Hp} {r : R Fl} (e : Ex B B1) (h : SPost G W E B r) : SPost G W E B1 r := by
  cases r with
  | ok f => cases f with
    | nx ρ => exact fun B' H' σ' x => h B' H' σ' (e.trans x)
    | bk ρ => exact fun B' H' σ' x => h B' H' σ' (e.trans x)
    | ct ρ => exact fun B' H' σ' x => h B' H' σ' (e.trans x)
    | rt r ρ => exact fun B' H' σ' v x => h B' H' σ' v (e.trans x)
  | exn c ns ds ρ => exact fun B' H' σ' A d vs x => h B' H' σ' A d vs (e.trans x)
  | stk => exact h
def PSt (X : Cx) (W : WX) (s : Stmt) (g : En → R Fl) : Prop := ∃ t, PS X s t ∧ SSat (Cx.ck X) W t g
def PSts (X : Cx) (W : WX) (s : List Stmt) (g : En → R Fl) : Prop := ∃ t, PSs X s t ∧ SSat (Cx.ck X) W t g
/-- from a reading of an expression into a statement -/
theorem SSat.of {α β : Type} {Rel : Relt α β} {t : St → Hp → (β → Hp → Prop) → Prop} {f : En → R (α × En)} {k : Ends → β → St → Hp → Prop} {g : α → En → R Fl} (h : Sat C W Rel t f)
    (hk : ∀ (a : α) (G : Gh), G.C = C → ∀ (B H : Hp) (σ : St) (ρ : En) (B1 H1 : Hp) (ρ1 : En) (y : β) (E : Ends), SO G B H σ ρ → SO G B1 H1 σ ρ1 → StT σ ρ B H ρ1 B1 H1 → Rel C H σ B1 H1 a y → SPost G W E B1 (g a ρ1) → k E y σ H1) :
    SSat C W (fun E σ H => t σ H fun y H1 => k E y σ H1) (fun ρ => (f ρ).bind fun p => g p.1 p.2) := by
  intro G eG B H σ ρ E S hp
  refine h G eG B H σ ρ _ S ?_
  cases q : f ρ with
  | ok p =>
    obtain ⟨a, ρ1⟩ := p
    dsimp only at hp
    rw [q] at hp
    exact fun B1 H1 y S1 st rel => hk a G eG B H σ ρ B1 H1 ρ1 y E S S1 st rel (hp.base st.tr.ex)
  | exn c ns ds ρ' =>
    dsimp only at hp
    rw [q] at hp
    exact fun B1 H1 A d vs S1 st => hp B1 H1 σ A d vs st.tr.ex S1
  | stk =>
    dsimp only at hp
    rw [q] at hp
    exact hp
def seqG (g1 g2 : En → R Fl) : En → R Fl := fun ρ => (g1 ρ).bind fun f => match f with
  | .nx ρ' => g2 ρ'
  | f => .ok f
theorem ssat_seq {t u : TS} {g1 g2 : En → R Fl} (h1 : SSat C W t g1) (h2 : SSat C W u g2) : SSat C W (tSeq t u) (seqG g1 g2) := by
  intro G eG B H σ ρ E S hp
  refine h1 G eG B H σ ρ _ S ?_
  unfold seqG at hp
  cases q : g1 ρ with
  | stk => rw [q] at hp; exact hp
  | exn c ns ds ρ' => rw [q] at hp; exact hp
  | ok f =>
    rw [q] at hp
    cases f with
    | nx ρ1 => exact fun B1 H1 σ1 e S1 => h2 G eG B1 H1 σ1 ρ1 E S1 (hp.base e)
    | rt r ρ1 => exact hp
    | bk ρ1 => exact hp
    | ct ρ1 => exact hp
def nxG : En → R Fl := fun ρ => .ok (.nx ρ)
theorem ssat_next : SSat C W tNext nxG := fun G eG B H σ ρ E S hp => hp B H σ (Ex.refl B) S
theorem psts_nil : PSts X W [] nxG := ⟨_, pss_nil, ssat_next⟩
theorem psts_cons {s : Stmt} {ss : List Stmt} {g1 g2 : En → R Fl} (h1 : PSt X W s g1) (h2 : PSts X W ss g2) : PSts X W (s :: ss) (seqG g1 g2) := by
  obtain ⟨t, h, s1⟩ := h1
  obtain ⟨u, h', s2⟩ := h2
  exact ⟨_, pss_cons h h', ssat_seq s1 s2⟩
theorem psts_one {s : Stmt} {g : En → R Fl} (h : PSt X W s g) : PSts X W [s] g := let ⟨t, h, s⟩ := h; ⟨t, pss_one h, s⟩
/-- a slot's list is taken as unchanging from here on -/
def frzG (i : Nat) (g : En → R Fl) : En → R Fl := fun ρ => match ρ[i]? with
  | some (some (.mu true ds)) => g (ρ.set i (some (.im (.lst ds))))
  | _ => g ρ
theorem psts_frz (i : Nat) {ss : List Stmt} {g : En → R Fl} (h : PSts X W ss g) : PSts X W ss (frzG i g) := by
  obtain ⟨t, h, s⟩ := h
  refine ⟨t, h, fun G eG B H σ ρ E S hp => ?_⟩
  unfold frzG at hp
  split at hp
  · rename_i ds q
    obtain ⟨B', S', ex⟩ := S.frz q
    exact s G eG B' H σ _ E S' (hp.base ex)
  · exact s G eG B H σ ρ E S hp
/-- slots forgotten -/
def wpG (ws : List Nat) (g : En → R Fl) : En → R Fl := fun ρ => g (wipeMu ρ ws)
theorem psts_wipe (ws : List Nat) {ss : List Stmt} {g : En → R Fl} (h : PSts X W ss g) : PSts X W ss (wpG ws g) := by
  obtain ⟨t, h, s⟩ := h
  exact ⟨t, h, fun G eG B H σ ρ E S hp => s G eG B H σ _ E (S.wipes ws) hp⟩

/-! ### stores -/
def asgI (i : Nat) (f : En → R (Pl × En)) : En → R Fl := fun ρ => (toI f ρ).bind fun p => .ok (.nx (p.2.set i (some (.im p.1))))
def asgM (i : Nat) (f : En → R (Pl × En)) : En → R Fl := fun ρ => (f ρ).bind fun p => match p.1 with
  | .new ds => .ok (.nx (p.2.set i (some (.mu true ds))))
  | _ => .stk
theorem ssat_asgI {t : TE} {f : En → R (Pl × En)} (i : Nat) (h : Sat C W relP t f) : SSat C W (tAsg t (gName i)) (asgI i f) := by
  refine SSat.of (k := fun E x σ H1 => E.nx (σ.set i (some x)) H1) (g := fun d ρ1 => .ok (.nx (ρ1.set i (some (.im d))))) h.imm ?_
  intro d G eG B H σ ρ B1 H1 ρ1 y E S S1 st rel hp
  subst eG
  exact hp B1 H1 _ (Ex.refl _) (S1.setI i rel)
theorem ssat_asgM {t : TE} {f : En → R (Pl × En)} (i : Nat) (h : Sat C W relP t f) : SSat C W (tAsg t (gName i)) (asgM i f) := by
  refine SSat.of (k := fun E x σ H1 => E.nx (σ.set i (some x)) H1) (g := fun p ρ1 => match p with
    | .new ds => .ok (.nx (ρ1.set i (some (.mu true ds))))
    | _ => .stk) h ?_
  intro p G eG B H σ ρ B1 H1 ρ1 y E S S1 st rel hp
  subst eG
  cases p with
  | new ds =>
    obtain ⟨l, vs, rfl, h1, h2, h3, h4⟩ := rel
    refine hp B1 H1 _ (Ex.refl _) (S1.setM i h1 h2 (S.h0none h3) (fun m => ?_) h4)
    exact absurd h3 (MuA.there S l (st.mu l m))
  | val d => exact hp.elim
  | slot j => exact hp.elim
section
variable {x : Str} {e : Expr} {pos pos' : Pos} {f : En → R (Pl × En)}
theorem ps_asgI (i : Nat) (he : PX X W e f) (hN : X.N.Nodup) (hi : X.N[i]? = some x := by rfl) (hx : Loc X.env.scope x := by first | exact .inl rfl | exact .inr rfl) (hs : swapsWith e (some (.Name x pos')) pos.line X.env = pure false := by rfl) (hf : X.fn x = true ∨ X.env.scope.names.lookup x = some .local := by first | exact .inl rfl | exact .inr rfl | assumption) :
    PSt X W (.Assign [.Name x pos'] e pos) (asgI i f) := let ⟨t, h, s⟩ := he; ⟨_, ps_set (i := i) hN hi hx h hs hf, ssat_asgI i s⟩
theorem ps_asgM (i : Nat) (he : PX X W e f) (hN : X.N.Nodup) (hi : X.N[i]? = some x := by rfl) (hx : Loc X.env.scope x := by first | exact .inl rfl | exact .inr rfl) (hs : swapsWith e (some (.Name x pos')) pos.line X.env = pure false := by rfl) (hf : X.fn x = true ∨ X.env.scope.names.lookup x = some .local := by first | exact .inl rfl | exact .inr rfl | assumption) :
    PSt X W (.Assign [.Name x pos'] e pos) (asgM i f) := let ⟨t, h, s⟩ := he; ⟨_, ps_set (i := i) hN hi hx h hs hf, ssat_asgM i s⟩
/-- a value dropped -/
def drpG (f : En → R (Pl × En)) : En → R Fl := fun ρ => (f ρ).bind fun p => .ok (.nx p.2)
theorem ps_drop (he : PX X W e f) (hs : swapsWith e none pos.line X.env = pure false := by rfl) : PSt X W (.Expr e pos) (drpG f) := by
  obtain ⟨t, h, s⟩ := he
  refine ⟨_, ps_expr h hs, SSat.of (k := fun E _ σ H1 => E.nx σ H1) (g := fun p ρ1 => .ok (.nx ρ1)) s ?_⟩
  intro p G eG B H σ ρ B1 H1 ρ1 y E S S1 st rel hp
  exact hp B1 H1 σ (Ex.refl _) S1
def retP : Pl → En → R Fl
  | .val d, ρ => .ok (.rt (.im d) ρ)
  | .new ds, ρ => .ok (.rt (.nw ds) ρ)
  | .slot i, ρ => match ρ[i]? with
    | some (some (.im d)) => .ok (.rt (.im d) ρ)
    | some (some (.mu true ds)) => .ok (.rt (.nw ds) (ρ.set i none))
    | _ => .stk
def retG (f : En → R (Pl × En)) : En → R Fl := fun ρ => (f ρ).bind fun p => retP p.1 p.2
theorem ps_retG (he : PX X W e f) : PSt X W (.Return (some e) pos) (retG f) := by
  obtain ⟨t, h, s⟩ := he
  refine ⟨_, ps_ret h, SSat.of (k := fun E y σ H1 => E.rt y H1) (g := retP) s ?_⟩
  intro p G eG B H σ ρ B1 H1 ρ1 y E S S1 st rel hp
  have rel : plRep G.C H σ B1 H1 p y := by rw [eG]; exact rel
  cases p with
  | val d => exact hp B1 H1 σ y (Ex.refl _) S1 rel
  | new ds =>
    obtain ⟨l, vs, rfl, h1, h2, h3, h4⟩ := rel
    exact hp B1 H1 σ _ (Ex.refl _) S1 ⟨l, vs, rfl, h1, h2, S.h0none h3, h4⟩
  | slot i =>
    have rel : σ[i]? = some (some y) := rel
    simp only [retP] at hp
    split at hp
    · rename_i d q
      obtain ⟨w, e1, r⟩ := S1.im i d q
      rw [rel] at e1; cases e1
      exact hp B1 H1 σ y (Ex.refl _) S1 r
    · rename_i ds q
      obtain ⟨l, vs, e1, h1, h2, h3, h4, _⟩ := S1.mu i true ds q
      rw [rel] at e1; cases e1
      refine hp B1 H1 σ _ (Ex.refl _) (S1.less List.length_set fun j x q' => ?_) ⟨l, vs, rfl, h1, h2, h4 rfl, h3⟩
      rcases set_look q' with ⟨_, z, _⟩ | ⟨_, z⟩
      · cases z
      · exact z
    · exact hp.elim
theorem ps_retN' : PSt X W (.Return none pos) (fun ρ => .ok (.rt (.im .non) ρ)) := ⟨_, ps_retN, fun G eG B H σ ρ E S hp => hp B H σ .non (Ex.refl B) S rfl⟩
theorem ps_pass' : PSt X W (.Pass pos) nxG := ⟨_, ps_pass, ssat_next⟩
theorem ps_brk : PSt X W (.Break pos) (fun ρ => .ok (.bk ρ)) := ⟨_, ps_break, fun G eG B H σ ρ E S hp => hp B H σ (Ex.refl B) S⟩
theorem ps_cont : PSt X W (.Continue pos) (fun ρ => .ok (.ct ρ)) := ⟨_, ps_continue, fun G eG B H σ ρ E S hp => hp B H σ (Ex.refl B) S⟩
def ifG (t : En → R (Bool × En)) (g1 g2 : En → R Fl) : En → R Fl := fun ρ => (t ρ).bind fun p => if p.1 = true then g1 p.2 else g2 p.2
theorem ps_ifG {c : Expr} {a b : List Stmt} {t : En → R (Bool × En)} {g1 g2 : En → R Fl} (hc : PT' X W c t) (ha : PSts X W a g1) (hb : PSts X W b g2) : PSt X W (.If c a b pos) (ifG t g1 g2) := by
  obtain ⟨tc, h, s⟩ := hc
  obtain ⟨ta, h1, s1⟩ := ha
  obtain ⟨tb, h2, s2⟩ := hb
  refine ⟨_, ps_if h h1 h2, SSat.of (k := fun E b σ H1 => if b = true then ta E σ H1 else tb E σ H1) (g := fun b ρ1 => if b = true then g1 ρ1 else g2 ρ1) s ?_⟩
  intro c G eG B H σ ρ B1 H1 ρ1 y E S S1 st rel hp
  obtain rfl : c = y := rel
  cases c with
  | false =>
    rw [if_neg Bool.false_ne_true] at hp ⊢
    exact s2 G eG B1 H1 σ ρ1 E S1 hp
  | true =>
    rw [if_pos rfl] at hp ⊢
    exact s1 G eG B1 H1 σ ρ1 E S1 hp
end
/-! ### targets -/
/-- slots outside of is stay -/
def Off (is : List Nat) (σ σ' : St) : Prop := σ'.length = σ.length ∧ ∀ (i : Nat), i ∉ is → σ'[i]? = σ[i]?
theorem Off.refl (is : List Nat) (σ : St) : Off is σ σ := ⟨rfl, fun _ _ => rfl⟩
theorem Off.trans {is js : List Nat} {σ σ1 σ2 : St} (a : Off is σ σ1) (b : Off js σ1 σ2) : Off (is ++ js) σ σ2 := ⟨b.1.trans a.1, fun i h => by
  rw [List.mem_append, not_or] at h
  exact (b.2 i h.2).trans (a.2 i h.1)⟩
def GSat (C : Ck) (t : TG) (f : D → En → Option En) (is : List Nat) : Prop := ∀ (G : Gh), G.C = C → ∀ (B H : Hp) (σ : St) (ρ ρ' : En) (d : D) (x : V) (Q : St → Hp → Prop), SO G B H σ ρ → Rep C B d x → f d ρ = some ρ' →
  (∀ σ', SO G B H σ' ρ' → Off is σ σ' → (∀ b, MuA σ' ρ' b → MuA σ ρ b) → Q σ' H) → t x σ H Q
def PGt (X : Cx) (tg : Expr) (f : D → En → Option En) (is : List Nat) : Prop := ∃ t, PG X tg t ∧ GSat (Cx.ck X) t f is
def tgN (i : Nat) : D → En → Option En := fun d ρ => some (ρ.set i (some (.im d)))
theorem gsat_name (i : Nat) : GSat C (gName i) (tgN i) [i] := by
  intro G eG B H σ ρ ρ' d x Q S r e hp
  subst eG
  cases e
  refine hp _ (S.setI i r) ⟨List.length_set, fun j h => ?_⟩ fun b ⟨j, o, ds, e1, e2⟩ => ?_
  · rw [List.getElem?_set_ne (fun z => h (by rw [z]; exact List.mem_cons_self))]
  · rcases set_look e1 with ⟨_, z, _⟩ | ⟨n, z⟩
    · cases z
    · rw [List.getElem?_set_ne (Ne.symm n)] at e2
      exact ⟨j, o, ds, z, e2⟩
theorem pgt_name (i : Nat) {x : Str} {pos : Pos} (hN : X.N.Nodup) (hi : X.N[i]? = some x := by rfl) (hx : Loc X.env.scope x := by first | exact .inl rfl | exact .inr rfl) (hf : X.fn x = true ∨ X.env.scope.names.lookup x = some .local := by first | exact .inl rfl | exact .inr rfl | assumption) : PGt X (.Name x pos) (tgN i) [i] :=
  ⟨_, pg_name (i := i) hN hi hx hf, gsat_name i⟩
def GsSat (C : Ck) (t : TGs) (f : List D → En → Option En) (is : List Nat) : Prop := ∀ (G : Gh), G.C = C → ∀ (B H : Hp) (σ : St) (ρ ρ' : En) (ds : List D) (xs : List V) (Q : St → Hp → Prop), SO G B H σ ρ → RepL C B ds xs → f ds ρ = some ρ' →
  (∀ σ', SO G B H σ' ρ' → Off is σ σ' → (∀ b, MuA σ' ρ' b → MuA σ ρ b) → Q σ' H) → t xs σ H Q
def PGts (X : Cx) (ts : List Expr) (f : List D → En → Option En) (is : List Nat) : Prop := ∃ t, PGs X ts t ∧ GsSat (Cx.ck X) t f is
def tgNil : List D → En → Option En
  | [], ρ => some ρ
  | _, _ => none
def tgCons (f : D → En → Option En) (fs : List D → En → Option En) : List D → En → Option En
  | d :: ds, ρ => (f d ρ).bind fun ρ1 => fs ds ρ1
  | [], _ => none
theorem gssat_nil : GsSat C gNil tgNil [] := by
  intro G eG B H σ ρ ρ' ds xs Q S r e hp
  cases ds with
  | nil => cases e; exact ⟨r, hp σ S (Off.refl _ _) fun _ h => h⟩
  | cons _ _ => cases e
theorem gssat_cons {t : TG} {u : TGs} {f : D → En → Option En} {fs : List D → En → Option En} {is js : List Nat} (h : GSat C t f is) (h' : GsSat C u fs js) : GsSat C (gCons t u) (tgCons f fs) (is ++ js) := by
  intro G eG B H σ ρ ρ' ds xs Q S r e hp
  cases ds with
  | nil => cases e
  | cons d ds =>
    obtain ⟨v, vr, rfl, r1, r2⟩ := r
    have e : (f d ρ).bind (fun ρ1 => fs ds ρ1) = some ρ' := e
    cases q : f d ρ with
    | none => rw [q] at e; cases e
    | some ρ1 =>
      rw [q] at e
      exact ⟨v, vr, rfl, h G eG B H σ ρ ρ1 d v _ S r1 q fun σ1 S1 o1 m1 => h' G eG B H σ1 ρ1 ρ' ds vr Q S1 r2 e fun σ2 S2 o2 m2 => hp σ2 S2 (o1.trans o2) fun b hb => m1 b (m2 b hb)⟩
theorem pgts_nil : PGts X [] tgNil [] := ⟨_, pgs_nil, gssat_nil⟩
theorem pgts_cons {e : Expr} {es : List Expr} {f : D → En → Option En} {fs : List D → En → Option En} {is js : List Nat} (h : PGt X e f is) (h' : PGts X es fs js) (hs : (assignEach (e :: es) X.env).map (·.2) = assign e X.env :: (assignEach es X.env).map (·.2) := by rfl) : PGts X (e :: es) (tgCons f fs) (is ++ js) := by
  obtain ⟨t, h, s⟩ := h
  obtain ⟨u, h', s'⟩ := h'
  exact ⟨_, pgs_cons h h' hs, gssat_cons s s'⟩
def tgT (n : Nat) (fs : List D → En → Option En) : D → En → Option En
  | .tup ds, ρ => if ds.length = n then fs ds ρ else none
  | _, _ => none
theorem pgt_tup {es : List Expr} {k : Nat} {pos : Pos} {fs : List D → En → Option En} {is : List Nat} (n : Nat) (h : PGts X es fs is) (hc : X.calm = true := by rfl) (hn : (assignEach es X.env).length = n := by rfl) (hst : (assignEach es X.env).findIdx? (·.1) = none := by rfl) :
    PGt X (.Tuple es k pos) (tgT n fs) is := by
  obtain ⟨t, h, s⟩ := h
  refine ⟨_, pg_tup hc h hn hst, ?_⟩
  intro G eG B H σ ρ ρ' d x Q S r e hp
  cases d with
  | tup ds =>
    simp only [tgT] at e
    split at e
    · rename_i hl
      obtain ⟨a, vs, rfl, r1, r2⟩ := r
      exact ⟨a, vs, rfl, Evl.ex_t S.ex r1, by rw [r2.length]; exact hl, s G eG B H σ _ ρ' ds vs Q S r2 e hp⟩
    · cases e
  | _ => cases e
/-- target = value -/
def asgT (tg : D → En → Option En) (f : En → R (Pl × En)) : En → R Fl := fun ρ => (toI f ρ).bind fun p => (oR (tg p.1 p.2)).bind fun ρ' => .ok (.nx ρ')
theorem ps_asgT {tg e : Expr} {pos : Pos} {f : En → R (Pl × En)} {ft : D → En → Option En} {is : List Nat} (he : PX X W e f) (hg : PGt X tg ft is) (hs : swapsWithSole [tg] e pos.line X.env = pure false := by rfl) (hw : swappedStores [tg] e X.env = pure none := by rfl)
    (h1 : (assignEach [tg] X.env).map (·.2) = [assign tg X.env] := by rfl) : PSt X W (.Assign [tg] e pos) (asgT ft f) := by
  obtain ⟨t, h, s⟩ := he
  obtain ⟨u, h', s'⟩ := hg
  refine ⟨_, ps_asg h h' hs hw h1, SSat.of (k := fun E x σ H1 => u x σ H1 E.nx) (g := fun d ρ1 => (oR (ft d ρ1)).bind fun ρ' => .ok (.nx ρ')) s.imm ?_⟩
  intro d G eG B H σ ρ B1 H1 ρ1 y E S S1 st rel hp
  cases q : ft d ρ1 with
  | some ρ2 =>
    rw [q] at hp
    exact s' G eG B1 H1 σ ρ1 ρ2 d y E.nx S1 rel q fun σ2 S2 _ _ => hp B1 H1 σ2 (Ex.refl _) S2
  | none => rw [q] at hp; exact hp.elim
end DL
set_option Elab.async false
set_option linter.all false
set_option maxRecDepth 100000
set_option autoImplicit false
namespace DL
open PySem PySem.Spec PyProof.Rows L2
open Evl (Ex)
variable [Tb] {X : Cx} {W : WX} {C : Ck}

/-! ### what is walked -/
def ItOk (C : Ck) (B : Hp) (J : It) (ds : List D) : Prop := ∀ (i : Nat) (B1 H1 : Hp), Ex B B1 → Ex B1 H1 →
  (∀ d, ds[i]? = some d → J.go i H1 ∧ ∀ x H2, J.yld i H1 x H2 → (H2 = H1 ∧ Rep C B1 d x) ∨ ∃ T vs es, H1 T = none ∧ H2 = upd H1 T (.tup vs) ∧ d = .tup es ∧ x = .ref T ∧ RepL C B1 es vs) ∧ (i = ds.length → J.stop i H1)
def relI : Relt (List D) It := fun C _ _ B _ ds J => ItOk C B J ds
theorem rsI : RS relI := fun C Hs Hs' σ B H a y dm h => h
def PIt (X : Cx) (W : WX) (tg iter : Expr) (f : En → R (List D × En)) : Prop := ∃ t, PI X tg iter t ∧ Sat (Cx.ck X) W relI t f

/-! ### for -/
def loopG (tgt : D → En → Option En) (body : En → R Fl) (ws : List Nat) : List D → En → R Fl
  | [], ρ => .ok (.nx ρ)
  | d :: ds, ρ => (oR (tgt d ρ)).bind fun ρ1 => (body ρ1).bind fun f => match f with
    | .nx ρ2 => loopG tgt body ws ds (wipeMu ρ2 ws)
    | .ct ρ2 => loopG tgt body ws ds (wipeMu ρ2 ws)
    | .bk ρ2 => .ok (.nx (wipeMu ρ2 ws))
    | .rt r ρ2 => .ok (.rt r ρ2)
def forG (fi : En → R (List D × En)) (tgt : D → En → Option En) (body : En → R Fl) (ws : List Nat) : En → R Fl := fun ρ => (fi ρ).bind fun p => loopG tgt body ws p.1 (wipeMu p.2 ws)
theorem ssat_for {wi : TI} {g : TG} {tb : TS} {fi : En → R (List D × En)} {tgt : D → En → Option En} {is : List Nat} {body : En → R Fl} (ws : List Nat) (hi : Sat C W relI wi fi) (hg : GSat C g tgt is) (hb : SSat C W tb body) : SSat C W (tFor wi g tb) (forG fi tgt body ws) := by
  refine SSat.of (k := fun E J σ H1 => ∃ Wv : Nat → Nat → St → Hp → Prop, (∃ m, Wv 0 m σ H1) ∧ ∀ i m σ H, Wv i m σ H →
    (J.stop i H ∧ E.nx σ H) ∨ (J.go i H ∧ ∃ N : St → Hp → Prop, (∀ σ' H', N σ' H' → ∃ m', m' < m ∧ Wv (i + 1) m' σ' H') ∧ ∀ x H', J.yld i H x H' → g x σ H' fun σ2 H2 => tb { E with nx := N, ct := N, bk := E.nx } σ2 H2))
    (g := fun ds ρ1 => loopG tgt body ws ds (wipeMu ρ1 ws)) hi ?_
  intro ds G eG B0 H0 σ0 ρ0 B1 H1 ρ1 J E S0 S1 st rel hp
  refine ⟨fun i m σ H => ∃ B ρ, SO G B H σ ρ ∧ Ex B1 B ∧ m = ds.length - i ∧ i ≤ ds.length ∧ SPost G W E B (loopG tgt body ws (ds.drop i) ρ), ⟨ds.length, B1, _, S1.wipes ws, Ex.refl _, rfl, Nat.zero_le _, hp⟩, ?_⟩
  rintro i m σ H ⟨B, ρ, S, ex, rfl, hi, h⟩
  obtain ⟨k1, k2⟩ := rel i B H ex S.ex
  by_cases hlt : i < ds.length
  · have hd : ds[i]? = some ds[i] := List.getElem?_eq_getElem hlt
    have hdrop : ds.drop i = ds[i] :: ds.drop (i + 1) := List.drop_eq_getElem_cons hlt
    obtain ⟨go, yl⟩ := k1 _ hd
    rw [hdrop] at h
    have h : SPost G W E B ((oR (tgt ds[i] ρ)).bind fun ρ1 => (body ρ1).bind fun f => match f with
      | .nx ρ2 => loopG tgt body ws (ds.drop (i + 1)) (wipeMu ρ2 ws)
      | .ct ρ2 => loopG tgt body ws (ds.drop (i + 1)) (wipeMu ρ2 ws)
      | .bk ρ2 => .ok (.nx (wipeMu ρ2 ws))
      | .rt r ρ2 => .ok (.rt r ρ2)) := h
    refine .inr ⟨go, fun σ' H' => ∃ B ρ, SO G B H' σ' ρ ∧ Ex B1 B ∧ SPost G W E B (loopG tgt body ws (ds.drop (i + 1)) ρ), fun σ' H' ⟨B', ρ', S', ex', h'⟩ => ⟨ds.length - (i + 1), by omega, B', ρ', S', ex', rfl, hlt, h'⟩, fun x H2 hy => ?_⟩
    cases q : tgt ds[i] ρ with
    | none => rw [q] at h; exact h.elim
    | some ρ1' =>
      rw [q] at h
      simp only [oR_some, R.ok_bind] at h
      -- the item's heap
      obtain ⟨B2, S2, ex2, r2⟩ : ∃ B2, SO G B2 H2 σ ρ ∧ Ex B B2 ∧ Rep C B2 ds[i] x := by
        rcases yl x H2 hy with ⟨e, r⟩ | ⟨T, vs, es, hT, e, ed, ex', r⟩
        · subst e; exact ⟨B, S, Ex.refl _, r⟩
        · subst e
          refine ⟨_, S.newI hT, Ex.new (S.bnone hT), ?_⟩
          rw [ed, ex']
          exact ⟨T, vs, rfl, .inl (.inl upd_same), RepL.mono (Ex.new (S.bnone hT)) es r⟩
      refine hg G eG B2 H2 σ ρ ρ1' ds[i] x _ S2 r2 q fun σ2 S3 _ _ => ?_
      refine hb G eG B2 H2 σ2 ρ1' _ S3 ?_
      have exB := ex.trans ex2
      cases q2 : body ρ1' with
      | stk => rw [q2] at h; exact h
      | exn c ns ds' ρ' =>
        rw [q2] at h
        exact fun B' H' σ' A d vs e S' => h B' H' σ' A d vs (ex2.trans e) S'
      | ok f =>
        rw [q2] at h
        simp only [R.ok_bind] at h
        cases f with
        | nx ρ2 => exact fun B' H' σ' e S' => ⟨B', _, S'.wipes ws, exB.trans e, h.base (ex2.trans e)⟩
        | ct ρ2 => exact fun B' H' σ' e S' => ⟨B', _, S'.wipes ws, exB.trans e, h.base (ex2.trans e)⟩
        | bk ρ2 => exact fun B' H' σ' e S' => h B' H' σ' (ex2.trans e) (S'.wipes ws)
        | rt r ρ2 => exact fun B' H' σ' v e S' => h B' H' σ' v (ex2.trans e) S'
  · have ei : i = ds.length := by omega
    subst ei
    rw [List.drop_length] at h
    exact .inl ⟨k2 rfl, h B H σ (Ex.refl _) S⟩
theorem ps_forG {tg iter : Expr} {body : List Stmt} {pos : Pos} {fi : En → R (List D × En)} {tgt : D → En → Option En} {is : List Nat} {gb : En → R Fl} (ws : List Nat) (hp : PassesOwn (model X.prog X.w) X.A X.env X.xe) (hi : PIt X W tg iter fi) (hg : PGt X tg tgt is) (hb : PSts X W body gb)
    (hc : X.calm = true := by rfl) (hs : ∀ x, foldedSetIterable iter X.env x = pure x := by intro _; rfl) : PSt X W (.For tg iter body [] pos) (forG fi tgt gb ws) := by
  obtain ⟨t, h, s⟩ := hi
  obtain ⟨u, h', s'⟩ := hg
  obtain ⟨v, h2, s2⟩ := hb
  exact ⟨_, ps_for hp hc h h' h2 hs, ssat_for ws s s' s2⟩
/-! ### while -/
def whileG (t : En → R (Bool × En)) (body : En → R Fl) (ws : List Nat) : Nat → En → R Fl
  | 0, _ => .stk
  | n + 1, ρ => (t ρ).bind fun p => if p.1 = true then (body p.2).bind fun f => match f with
      | .nx ρ2 => whileG t body ws n (wipeMu ρ2 ws)
      | .ct ρ2 => whileG t body ws n (wipeMu ρ2 ws)
      | .bk ρ2 => .ok (.nx (wipeMu ρ2 ws))
      | .rt r ρ2 => .ok (.rt r ρ2)
    else .ok (.nx p.2)
theorem ssat_while {tc : TT} {tb : TS} {t : En → R (Bool × En)} {body : En → R Fl} (n : Nat) (ws : List Nat) (hc : Sat C W relB tc t) (hb : SSat C W tb body) : SSat C W (tWhile tc tb) (fun ρ => whileG t body ws n (wipeMu ρ ws)) := by
  intro G eG B0 H0 σ0 ρ0 E S0 hp
  refine ⟨fun m σ H => ∃ B ρ, SO G B H σ ρ ∧ SPost G W E B (whileG t body ws m ρ), ⟨n, B0, _, S0.wipes ws, hp⟩, ?_⟩
  rintro m σ H ⟨B, ρ, S, h⟩
  cases m with
  | zero => exact h.elim
  | succ m =>
    have h : SPost G W E B ((t ρ).bind fun p => if p.1 = true then (body p.2).bind fun f => match f with
      | .nx ρ2 => whileG t body ws m (wipeMu ρ2 ws)
      | .ct ρ2 => whileG t body ws m (wipeMu ρ2 ws)
      | .bk ρ2 => .ok (.nx (wipeMu ρ2 ws))
      | .rt r ρ2 => .ok (.rt r ρ2)
    else .ok (.nx p.2)) := h
    refine hc G eG B H σ ρ _ S ?_
    cases q : t ρ with
    | stk => rw [q] at h; exact h
    | exn c ns ds ρ' =>
      rw [q] at h
      exact fun B1 H1 A d vs S1 st => h B1 H1 σ A d vs st.tr.ex S1
    | ok p =>
      obtain ⟨b, ρ1⟩ := p
      rw [q] at h
      simp only [R.ok_bind] at h
      intro B1 H1 b' S1 st rel
      obtain rfl : b = b' := rel
      cases b with
      | false =>
        rw [if_neg Bool.false_ne_true] at h ⊢
        exact h B1 H1 σ st.tr.ex S1
      | true =>
        rw [if_pos rfl] at h ⊢
        refine ⟨fun σ' H' => ∃ B ρ, SO G B H' σ' ρ ∧ SPost G W E B (whileG t body ws m ρ), fun σ' H' w => ⟨m, Nat.lt_succ_self m, w⟩, ?_⟩
        refine hb G eG B1 H1 σ ρ1 _ S1 ?_
        have ex1 := st.tr.ex
        cases q2 : body ρ1 with
        | stk => rw [q2] at h; exact h
        | exn c ns ds' ρ' =>
          rw [q2] at h
          exact fun B' H' σ' A d vs e S' => h B' H' σ' A d vs (ex1.trans e) S'
        | ok f =>
          rw [q2] at h
          simp only [R.ok_bind] at h
          cases f with
          | nx ρ2 => exact fun B' H' σ' e S' => ⟨B', _, S'.wipes ws, h.base (ex1.trans e)⟩
          | ct ρ2 => exact fun B' H' σ' e S' => ⟨B', _, S'.wipes ws, h.base (ex1.trans e)⟩
          | bk ρ2 => exact fun B' H' σ' e S' => h B' H' σ' (ex1.trans e) (S'.wipes ws)
          | rt r ρ2 => exact fun B' H' σ' v e S' => h B' H' σ' v (ex1.trans e) S'
theorem ps_whileG {c : Expr} {body : List Stmt} {pos : Pos} {t : En → R (Bool × En)} {gb : En → R Fl} (n : Nat) (ws : List Nat) (hp : PassesOwn (model X.prog X.w) X.A X.env X.xe) (hc : PT' X W c t) (hb : PSts X W body gb) : PSt X W (.While c body [] pos) (fun ρ => whileG t gb ws n (wipeMu ρ ws)) := by
  obtain ⟨tc, h, s⟩ := hc
  obtain ⟨v, h2, s2⟩ := hb
  exact ⟨_, ps_while hp h h2, ssat_while n ws s s2⟩

/-! ### the walks -/
def iSeq (K : PySem.W.Frag) (tl : TE) : TI := fun σ H R => tl σ H fun x H1 => ∃ a, x = .ref a ∧ (((∃ xs, SqL K H1 a xs) ∧ R (Itl K a) H1) ∨ ((∃ xs, SqT K H1 a xs) ∧ R (Itt K a) H1))
theorem pi_seq {tg l : Expr} {tl : TE} (hl : PE X l tl) : PI X tg l (iSeq X.K tl) := by
  refine ⟨fun pins s σ H R I h => ?_⟩
  refine thn (hl.run pins s σ H _ I h) fun v s1 ⟨x, H1, I1, r1, q1⟩ => ?_
  obtain ⟨a, e, q1⟩ := q1
  subst e
  cases r1
  rcases q1 with ⟨⟨xs, hq⟩, q⟩ | ⟨⟨xs, hq⟩, q⟩
  · obtain ⟨its, rv, p, hz⟩ := I1.list hq
    refine wpAny_pyIter_list p.isList ?_
    refine ⟨s1.heap.objs.size, [s1.heap.objs.size], _, _, H1, rfl, I1.kept (t' := s1.toks) fun b o e => Heap.get?_push_of_some _ e, turn_list a _, ⟨_, Heap.get?_push_size _ rfl, rfl, rfl⟩, fun b hb => ?_, q⟩
    have e : b = s1.heap.objs.size := by simpa using hb
    subst e
    exact I1.fpOk (Nat.le_refl _) (I1.hok.fresh (Nat.le_refl _))
  · obtain ⟨its, rv, p, hz⟩ := I1.tuple hq
    refine wpAny_pyIter_tuple (show s1.heap.IsTuple a its.toArray from p) ?_
    refine ⟨s1.heap.objs.size, [s1.heap.objs.size], _, _, H1, rfl, I1.kept (t' := s1.toks) fun b o e => Heap.get?_push_of_some _ e, turn_tuple a _, ⟨_, Heap.get?_push_size _ rfl, rfl, rfl⟩, fun b hb => ?_, q⟩
    have e : b = s1.heap.objs.size := by simpa using hb
    subst e
    exact I1.fpOk (Nat.le_refl _) (I1.hok.fresh (Nat.le_refl _))
def seqOf : D → Option (List D)
  | .lst ds => some ds
  | .frz ds => some ds
  | .tup ds => some ds
  | _ => none
def fSeq (f : En → R (Pl × En)) : En → R (List D × En) := fun ρ => (toI f ρ).bind fun p => (oR (seqOf p.1)).bind fun ds => .ok (ds, p.2)
theorem itl_ok {B H : Hp} {a : Addr} {vs : List V} {ds : List D} (h : ∀ B1 H1, Ex B B1 → Ex B1 H1 → SqL C.K H1 a vs) (inj : True) (r : RepL C B ds vs) : ∀ (i : Nat) (B1 H1 : Hp), Ex B B1 → Ex B1 H1 → (∀ d, ds[i]? = some d → (Itl C.K a).go i H1 ∧ ∀ x H2, (Itl C.K a).yld i H1 x H2 → (H2 = H1 ∧ Rep C B1 d x) ∨ ∃ T vs es, H1 T = none ∧ H2 = upd H1 T (.tup vs) ∧ d = .tup es ∧ x = .ref T ∧ RepL C B1 es vs) ∧ (i = ds.length → (Itl C.K a).stop i H1) := by
  intro i B1 H1 e1 e2
  have hs := h B1 H1 e1 e2
  refine ⟨fun d hd => ?_, fun hl => ⟨vs, hs, by rw [r.length]; exact Nat.le_of_eq hl.symm⟩⟩
  obtain ⟨v, hv, rv⟩ := r.get hd
  refine ⟨⟨vs, v, hs, hv⟩, fun x H2 ⟨e, hy⟩ => .inl ⟨e, ?_⟩⟩
  have ex := hy vs hs
  rw [hv] at ex; cases ex
  exact Rep.mono e1 d rv
theorem itt_ok {B : Hp} {a : Addr} {vs : List V} {ds : List D} (h : ∀ B1 H1, Ex B B1 → Ex B1 H1 → SqT C.K H1 a vs) (r : RepL C B ds vs) : ItOk C B (Itt C.K a) ds := by
  intro i B1 H1 e1 e2
  have hs := h B1 H1 e1 e2
  refine ⟨fun d hd => ?_, fun hl => ⟨vs, hs, by rw [r.length]; exact Nat.le_of_eq hl.symm⟩⟩
  obtain ⟨v, hv, rv⟩ := r.get hd
  refine ⟨⟨vs, v, hs, hv⟩, fun x H2 ⟨e, hy⟩ => .inl ⟨e, ?_⟩⟩
  have ex := hy vs hs
  rw [hv] at ex; cases ex
  exact Rep.mono e1 d rv
theorem sat_seq {tl : TE} {f : En → R (Pl × En)} (h : Sat C W relP tl f) : Sat C W relI (iSeq C.K tl) (fSeq f) := by
  refine Sat.bind (R2 := relI) (t2 := fun x σ H1 R => ∃ a, x = .ref a ∧ (((∃ xs, SqL C.K H1 a xs) ∧ R (Itl C.K a) H1) ∨ ((∃ xs, SqT C.K H1 a xs) ∧ R (Itt C.K a) H1))) (f2 := fun d ρ1 => (oR (seqOf d)).bind fun ds => .ok (ds, ρ1)) h.imm ?_
  intro d G eG B H σ ρ B1 H1 ρ1 y Q S S1 st rel hp
  subst eG
  cases q : seqOf d with
  | none => rw [q] at hp; exact hp.elim
  | some ds =>
    rw [q] at hp
    cases d with
    | lst es =>
      cases q
      obtain ⟨a, vs, rfl, h1, h2⟩ := rel
      exact ⟨a, rfl, .inl ⟨⟨vs, SqL.of (S1.ex _ _ h1)⟩, hp B1 H1 _ S1 st (itl_ok (H := H1) (fun B2 H2 e1 e2 => SqL.of (e2 _ _ (e1 _ _ h1))) trivial h2)⟩⟩
    | frz es =>
      cases q
      obtain ⟨a, vs, rfl, h1, h2⟩ := rel
      exact ⟨a, rfl, .inl ⟨⟨vs, Evl.ex_l S1.ex h1⟩, hp B1 H1 _ S1 st (itl_ok (H := H1) (fun B2 H2 e1 e2 => Evl.ex_l (e1.trans e2) h1) trivial h2)⟩⟩
    | tup es =>
      cases q
      obtain ⟨a, vs, rfl, h1, h2⟩ := rel
      exact ⟨a, rfl, .inr ⟨⟨vs, Evl.ex_t S1.ex h1⟩, hp B1 H1 _ S1 st (itt_ok (fun B2 H2 e1 e2 => Evl.ex_t (e1.trans e2) h1) h2)⟩⟩
    | _ => cases q
theorem pit_seq {tg l : Expr} {f : En → R (Pl × En)} (h : PX X W l f) : PIt X W tg l (fSeq f) := by
  obtain ⟨t, h, s⟩ := h
  exact ⟨_, pi_seq h, sat_seq s⟩
/-! ranges -/
def rangeD (lo hi : Int) : List D := (List.range (hi - lo).toNat).map fun (i : Nat) => D.int (lo + (i : Int))
def fRng1 (fs : En → R (List Pl × En)) : En → R (List D × En) := fun ρ => (fs ρ).bind fun p => (immPs p.2 p.1).bind fun ds => match ds with
  | [.int j] => if j < 2 ^ 62 ∧ -(2 ^ 62) ≤ j then .ok (rangeD 0 j, p.2) else .stk
  | _ => .stk
def fRng2 (fs : En → R (List Pl × En)) : En → R (List D × En) := fun ρ => (fs ρ).bind fun p => (immPs p.2 p.1).bind fun ds => match ds with
  | [.int i, .int j] => if (-(2 ^ 62) ≤ i ∧ i < 2 ^ 62 ∧ -(2 ^ 62) ≤ j ∧ j < 2 ^ 62) then .ok (rangeD i j, p.2) else .stk
  | _ => .stk
theorem itr_ok {B : Hp} (lo : Int) (n : Nat) : ItOk C B (Itr lo n) ((List.range n).map fun (i : Nat) => D.int (lo + (i : Int))) := by
  intro i B1 H1 e1 e2
  refine ⟨fun d hd => ?_, fun hl => ?_⟩
  · rw [List.getElem?_map] at hd
    cases q : (List.range n)[i]? with
    | none => rw [q] at hd; cases hd
    | some j =>
      rw [q] at hd; cases hd
      obtain ⟨h1, h2⟩ := List.getElem?_eq_some_iff.mp q
      rw [List.length_range] at h1
      rw [List.getElem_range] at h2
      subst h2
      exact ⟨h1, fun x H2 ⟨e, hx⟩ => .inl ⟨e, hx⟩⟩
  · rw [List.length_map, List.length_range] at hl
    exact Nat.le_of_eq hl.symm
theorem sat_rng1 {t : TA} {fs : En → R (List Pl × En)} (h : Sat C W relA t fs) : Sat C W relI (iRng1 t) (fRng1 fs) := by
  refine Sat.bind (R2 := relI) (t2 := fun vs σ H1 R => ∃ j : Int, vs = [.int j] ∧ -(2 ^ 62) ≤ j ∧ j < 2 ^ 62 ∧ R (Itr 0 j.toNat) H1) (f2 := fun ps ρ1 => (immPs ρ1 ps).bind fun ds => match ds with
    | [.int j] => if j < 2 ^ 62 ∧ -(2 ^ 62) ≤ j then .ok (rangeD 0 j, ρ1) else .stk
    | _ => .stk) h ?_
  intro ps G eG B H σ ρ B1 H1 ρ1 xs Q S S1 st rel hp
  subst eG
  cases v1 : immPs ρ1 ps with
  | exn c ns ds ρ' => exact (immPs_exn v1).elim
  | stk => rw [v1] at hp; exact hp.elim
  | ok ds =>
    rw [v1] at hp
    simp only [R.ok_bind] at hp
    have r := immPs_ok S1 rel v1
    split at hp
    · rename_i j
      split at hp
      · rename_i hl
        obtain ⟨v, r0, rfl, r1, r2⟩ := r
        rw [show v = _ from r1, show r0 = [] from r2]
        refine ⟨j, rfl, hl.2, hl.1, hp B1 H1 _ S1 st ?_⟩
        have e := itr_ok (C := G.C) (B := B1) 0 j.toNat
        unfold rangeD
        rw [Int.sub_zero]
        exact e
      · exact hp.elim
    · exact hp.elim
theorem sat_rng2 {t : TA} {fs : En → R (List Pl × En)} (h : Sat C W relA t fs) : Sat C W relI (iRng2 t) (fRng2 fs) := by
  refine Sat.bind (R2 := relI) (t2 := fun vs σ H1 R => ∃ i j : Int, vs = [.int i, .int j] ∧ (-(2 ^ 62) ≤ i ∧ i < 2 ^ 62 ∧ -(2 ^ 62) ≤ j ∧ j < 2 ^ 62) ∧ R (Itr i (j - i).toNat) H1) (f2 := fun ps ρ1 => (immPs ρ1 ps).bind fun ds => match ds with
    | [.int i, .int j] => if (-(2 ^ 62) ≤ i ∧ i < 2 ^ 62 ∧ -(2 ^ 62) ≤ j ∧ j < 2 ^ 62) then .ok (rangeD i j, ρ1) else .stk
    | _ => .stk) h ?_
  intro ps G eG B H σ ρ B1 H1 ρ1 xs Q S S1 st rel hp
  subst eG
  cases v1 : immPs ρ1 ps with
  | exn c ns ds ρ' => exact (immPs_exn v1).elim
  | stk => rw [v1] at hp; exact hp.elim
  | ok ds =>
    rw [v1] at hp
    simp only [R.ok_bind] at hp
    have r := immPs_ok S1 rel v1
    split at hp
    · rename_i i j
      split at hp
      · rename_i hl
        obtain ⟨v, r0, rfl, r1, v2, r3, rfl, r4, r5⟩ := r
        rw [show v = _ from r1, show v2 = _ from r4, show r3 = [] from r5]
        exact ⟨i, j, rfl, hl, hp B1 H1 _ S1 st (itr_ok (C := G.C) (B := B1) i (j - i).toNat)⟩
      · exact hp.elim
    · exact hp.elim
theorem pit_rng1 {tg a : Expr} {p pos : Pos} {fs : En → R (List Pl × En)} (hm : X.mg "range" = none) (h : PXs X W [a] fs) (hg : Gl X "range" := by rfl) (hs : starEach [a] X.env = [(false, eval a X.env)] := by rfl) : PIt X W tg (.Call (.Name "range" p) [a] [] pos) (fRng1 fs) := by
  obtain ⟨t, h, s⟩ := h
  exact ⟨_, pi_range1 hg hm h hs, sat_rng1 s⟩
theorem pit_rng2 {tg a b : Expr} {p pos : Pos} {fs : En → R (List Pl × En)} (hm : X.mg "range" = none) (h : PXs X W [a, b] fs) (hg : Gl X "range" := by rfl) (hs : starEach [a, b] X.env = [(false, eval a X.env), (false, eval b X.env)] := by rfl) (hs2 : starEach [b] X.env = [(false, eval b X.env)] := by rfl) :
    PIt X W tg (.Call (.Name "range" p) [a, b] [] pos) (fRng2 fs) := by
  obtain ⟨t, h, s⟩ := h
  exact ⟨_, pi_range2 hg hm h hs hs2, sat_rng2 s⟩
end DL
set_option Elab.async false
set_option linter.all false
set_option maxRecDepth 100000
set_option autoImplicit false
namespace DL
open PySem PySem.Spec PyProof.Rows L2
open Evl (Ex)
variable [Tb] {X : Cx} {W : WX} {C : Ck}

/-! ### comprehensions -/
def noX {α : Type} : R α → R α
  | .ok a => .ok a
  | _ => .stk
@[simp] theorem noX_ok {α : Type} (a : α) : noX (R.ok a) = .ok a := rfl
@[simp] theorem noX_stk {α : Type} : noX (R.stk : R α) = .stk := rfl
@[simp] theorem noX_exn {α : Type} (c ns ds ρ) : noX (R.exn c ns ds ρ : R α) = .stk := rfl
def lcLoop (tgt : D → En → Option En) (ft : En → R (Bool × En)) (fe : En → R (D × En)) (own : List Nat) : List D → List D → En → R (List D × En)
  | [], acc, ρ => .ok (acc, ρ)
  | d :: ds, acc, ρ => (oR (tgt d ρ)).bind fun ρ1 => (noX (ft ρ1)).bind fun p => if p.1 = true then (noX (fe p.2)).bind fun q => if acc.length < sizeLine then lcLoop tgt ft fe own ds (acc ++ [q.1]) (wipeMu q.2 own) else .stk
    else lcLoop tgt ft fe own ds acc (wipeMu p.2 own)
/-- the block's own names are as they were -/
def keepI : Option (Option Sl) → Option Sl
  | some (some (.im d)) => some (.im d)
  | _ => none
def restE (ρ0 : En) : List Nat → En → En
  | [], ρ => ρ
  | i :: is, ρ => restE ρ0 is (ρ.set i (keepI ρ0[i]?))
def lcG (fi : En → R (List D × En)) (tgt : D → En → Option En) (ft : En → R (Bool × En)) (fe : En → R (Pl × En)) (own : List Nat) : En → R (Pl × En) := fun ρ => (fi ρ).bind fun p => (noX (lcLoop tgt ft (toI fe) own p.1 [] (wipeMu p.2 own))).bind fun q => .ok (.new q.1, restE p.2 own q.2)
theorem wipe_get {σ : St} {i : Nat} : ∀ {vs : List Nat}, i ∉ vs → (wipe σ vs)[i]? = σ[i]? := wipe_out
theorem wipe_in {σ : St} {i : Nat} : ∀ {vs : List Nat}, i ∈ vs → i < σ.length → (wipe σ vs)[i]? = some none
  | [], h, _ => by cases h
  | v :: vs, h, hl => by
    unfold wipe
    by_cases z : v = i
    · subst z; rw [List.getElem?_set_self (by rw [wipe_length]; exact hl)]
    · rw [List.getElem?_set_ne z]
      rcases List.mem_cons.mp h with e | e
      · exact absurd e.symm z
      · exact wipe_in e hl
theorem off_wipe {σ σ2 : St} {is own : List Nat} (o : Off is (wipe σ own) σ2) (hs : ∀ i ∈ is, i ∈ own) : wipe σ2 own = wipe σ own := by
  have hl : σ2.length = σ.length := by rw [o.1, wipe_length]
  apply List.ext_getElem?
  intro i
  by_cases hi : i ∈ own
  · by_cases hn : i < σ.length
    · rw [wipe_in hi (by rw [hl]; exact hn), wipe_in hi hn]
    · rw [List.getElem?_eq_none (by rw [wipe_length]; omega), List.getElem?_eq_none (by rw [wipe_length]; omega)]
  · rw [wipe_get hi, o.2 i (fun z => hi (hs i z))]
section
variable {G : Gh} {B H : Hp} {σ : St} {ρ : En}
theorem SO.wipeσ (S : SO G B H σ ρ) (own : List Nat) : SO G B H (wipe σ own) (wipeMu ρ own) := by
  have k : ∀ (i : Nat) (x : Sl), (wipeMu ρ own)[i]? = some (some x) → ρ[i]? = some (some x) ∧ (wipe σ own)[i]? = σ[i]? := fun i x e => by
    obtain ⟨h1, h2⟩ := wipeMu_get i e
    exact ⟨h1, wipe_get h2⟩
  refine ⟨by rw [wipe_length, wipeMu_len]; exact S.len, S.ex, fun i d e => ?_, fun i o ds e => ?_, fun i j o ds o' ds' l e1 e2 e3 e4 => ?_, S.tr⟩
  · obtain ⟨h1, h2⟩ := k i _ e
    obtain ⟨v, h3, h4⟩ := S.im i d h1
    exact ⟨v, h2.trans h3, h4⟩
  · obtain ⟨h1, h2⟩ := k i _ e
    obtain ⟨l, vs, h3, h4⟩ := S.mu i o ds h1
    exact ⟨l, vs, h2.trans h3, h4⟩
  · obtain ⟨h1, h2⟩ := k i _ e1
    obtain ⟨h3, h4⟩ := k j _ e2
    exact S.ap i j o ds o' ds' l h1 h3 (h2.symm.trans e3) (h4.symm.trans e4)
theorem MuA.wipe {own : List Nat} {b : Addr} (h : MuA (wipe σ own) (wipeMu ρ own) b) : MuA σ ρ b := by
  obtain ⟨i, o, ds, e1, e2⟩ := h
  obtain ⟨h1, h2⟩ := wipeMu_get i e1
  rw [wipe_get h2] at e2
  exact ⟨i, o, ds, h1, e2⟩
theorem restE_get {ρ0 : En} : ∀ {is : List Nat} {ρ : En} (i : Nat) {x : Sl}, (restE ρ0 is ρ)[i]? = some (some x) → (i ∈ is ∧ ∃ d, x = .im d ∧ ρ0[i]? = some (some (.im d))) ∨ (i ∉ is ∧ ρ[i]? = some (some x)) := by
  intro is
  induction is with
  | nil => intro ρ i x h; exact .inr ⟨by simp, h⟩
  | cons j is ih =>
    intro ρ i x h
    rcases ih i h with ⟨h1, h2⟩ | ⟨h1, h2⟩
    · exact .inl ⟨List.mem_cons_of_mem _ h1, h2⟩
    · by_cases z : j = i
      · subst z
        by_cases hj : j < ρ.length
        · rw [List.getElem?_set_self hj] at h2
          have e : keepI ρ0[j]? = some x := Option.some.inj h2
          unfold keepI at e
          split at e
          · rename_i d q
            cases e
            exact .inl ⟨List.mem_cons_self, d, rfl, q⟩
          · cases e
        · rw [List.getElem?_eq_none (by rw [List.length_set]; omega)] at h2; cases h2
      · rw [List.getElem?_set_ne z] at h2
        exact .inr ⟨by simp only [List.mem_cons, not_or]; exact ⟨fun w => z w.symm, h1⟩, h2⟩
theorem restE_len {ρ0 : En} : ∀ {is : List Nat} {ρ : En}, (restE ρ0 is ρ).length = ρ.length := by
  intro is
  induction is with
  | nil => intro ρ; rfl
  | cons j is ih => intro ρ; rw [restE, ih, List.length_set]
theorem SO.restore {B1 H1 : Hp} {ρ1 : En} (S0 : SO G B H σ ρ) (ex : Ex B B1) {own : List Nat} (S : SO G B1 H1 (L2.wipe σ own) ρ1) : SO G B1 H1 σ (restE ρ own ρ1) := by
  refine ⟨by rw [restE_len, ← S.len, wipe_length], S.ex, fun i d e => ?_, fun i o ds e => ?_, fun i j o ds o' ds' l e1 e2 e3 e4 => ?_, S.tr⟩
  · rcases restE_get i e with ⟨_, d', e', h⟩ | ⟨h1, h2⟩
    · cases e'
      obtain ⟨v, h3, h4⟩ := S0.im i d h
      exact ⟨v, h3, Rep.mono ex d h4⟩
    · obtain ⟨v, h3, h4⟩ := S.im i d h2
      rw [wipe_get h1] at h3
      exact ⟨v, h3, h4⟩
  · rcases restE_get i e with ⟨_, d', e', h⟩ | ⟨h1, h2⟩
    · cases e'
    · obtain ⟨l, vs, h3, h4⟩ := S.mu i o ds h2
      rw [wipe_get h1] at h3
      exact ⟨l, vs, h3, h4⟩
  · rcases restE_get i e1 with ⟨_, d', e', h⟩ | ⟨h1, h2⟩
    · cases e'
    · rcases restE_get j e2 with ⟨_, d', e', h⟩ | ⟨h3, h4⟩
      · cases e'
      · exact S.ap i j o ds o' ds' l h2 h4 (by rw [wipe_get h1]; exact e3) (by rw [wipe_get h3]; exact e4)
theorem MuA.restore {ρ0 ρ1 : En} {own : List Nat} {b : Addr} (h : MuA σ (restE ρ0 own ρ1) b) : MuA (L2.wipe σ own) ρ1 b := by
  obtain ⟨i, o, ds, e1, e2⟩ := h
  rcases restE_get i e1 with ⟨_, d', e', h⟩ | ⟨h1, h2⟩
  · cases e'
  · exact ⟨i, o, ds, h2, by rw [wipe_get h1]; exact e2⟩
/-- an object of ours that is no slot's changes -/
theorem SO.other (S : SO G B H σ ρ) {p : Addr} {o : HO} {us : List V} (hp : H p = some (.lst us)) (hb : B p = none) (h0 : G.H0 p = none) (hm : ¬ MuA σ ρ p) : SO G B (upd H p o) σ ρ where
  len := S.len
  ex := S.ex.mut hb
  im := S.im
  mu := fun i o ds e => by
    obtain ⟨l, vs, e1, h1, r⟩ := S.mu i o ds e
    exact ⟨l, vs, e1, by rw [upd_ne (fun z => hm ⟨i, o, ds, e, by rw [← z]; exact e1⟩)]; exact h1, r⟩
  ap := S.ap
  tr := ⟨S.tr.ex, S.tr.nb, fun b u q n nt => by rw [upd_ne (fun z => by rw [z, h0] at q; cases q)]; exact S.tr.kp b u q n nt, fun b q => by
    by_cases z : b = p
    · rw [z, upd_same]; intro w; cases w
    · rw [upd_ne z]; exact S.tr.dm b q, fun h => tabs_of (fun b u q n => by rw [upd_ne (fun z => by rw [z, hp] at q; exact n _ (Option.some.inj q).symm)]; exact q) _ (S.tr.tb h), S.tr.nt⟩
end
abbrev W0 : WX := fun _ _ _ _ => False
theorem sat_lc {wi : TI} {g : TG} {tt : TT} {te : TE} {fi : En → R (List D × En)} {tgt : D → En → Option En} {is own : List Nat} {ft : En → R (Bool × En)} {fe : En → R (Pl × En)} (hsub : ∀ i ∈ is, i ∈ own) (hi : Sat C W relI wi fi) (hg : GSat C g tgt is) (ht : Sat C W0 relB tt ft) (he : Sat C W0 relP te fe) :
    Sat C W relP (tLc wi g tt te own) (lcG fi tgt ft fe own) := by
  refine Sat.bind (R2 := relP) (t2 := fun J σ H1 Q => ∀ D, H1 D = none → ∃ Wv : Nat → Nat → Hp → Prop, (∃ m, Wv 0 m (upd H1 D (.lst []))) ∧ ∀ i m H, Wv i m H →
    (J.stop i H ∧ Q (.ref D) H) ∨ (J.go i H ∧ ∃ Nx : Hp → Prop, (∀ H', Nx H' → ∃ m', m' < m ∧ Wv (i + 1) m' H') ∧ ∀ x H', J.yld i H x H' → g x (wipe σ own) H' fun σ2 H2 => wipe σ2 own = wipe σ own ∧ tt σ2 H2 fun b H3 =>
      if b = true then te σ2 H3 fun y H4 => ∃ acc, H4 D = some (.lst acc) ∧ acc.length < sizeLine ∧ Nx (upd H4 D (.lst (acc ++ [y]))) else Nx H3))
    (f2 := fun ds ρ1 => (noX (lcLoop tgt ft (toI fe) own ds [] (wipeMu ρ1 own))).bind fun q => .ok (.new q.1, restE ρ1 own q.2)) hi ?_
  intro ds G eG B0 H0 σ ρ0 B1 H1 ρ1 J Q S0 S1 st1 rel hp Dl hD
  have hD0 : H0 Dl = none := by
    cases z : H0 Dl with
    | none => rfl
    | some o => exact absurd hD (st1.tr.dm Dl (by rw [z]; intro w; cases w))
  have hDG : G.H0 Dl = none := S1.h0none hD
  -- the word: what is made so far
  refine ⟨fun i m H => ∃ B ρ acc vacc, SO G B H (wipe σ own) ρ ∧ Ex B1 B ∧ Tr (MuA σ ρ0) B0 H0 B H ∧ (∀ b, MuA (wipe σ own) ρ b → MuA σ ρ0 b) ∧ H Dl = some (.lst vacc) ∧ B Dl = none ∧ RepL C B acc vacc ∧ m = ds.length - i ∧ i ≤ ds.length ∧
    lcLoop tgt ft (toI fe) own ds [] (wipeMu ρ1 own) = lcLoop tgt ft (toI fe) own (ds.drop i) acc ρ, ⟨ds.length, B1, wipeMu ρ1 own, [], [], (S1.wipeσ own).new hD, Ex.refl _, st1.tr.trans (StT.new (σ := σ) (ρ := ρ1) (B := B1) hD).tr (fun x hx => .inl (st1.mu x hx)), fun b hb => st1.mu b hb.wipe, upd_same, S1.bnone hD, rfl, rfl, Nat.zero_le _, rfl⟩, ?_⟩
  rintro i m H ⟨B, ρ, acc, vacc, S, ex1, tr, hmu, hDl, hBl, racc, rfl, hi, heq⟩
  obtain ⟨k1, k2⟩ := rel i B H ex1 S.ex
  by_cases hlt : i < ds.length
  case neg =>
    have ei : i = ds.length := by omega
    subst ei
    rw [List.drop_length] at heq
    rw [heq] at hp
    subst eG
    exact .inl ⟨k2 rfl, hp B H (.ref Dl) (S1.restore ex1 S) ⟨tr, fun b hb => hmu b hb.restore⟩ ⟨Dl, vacc, rfl, hDl, hBl, hD0, racc⟩⟩
  have hd : ds[i]? = some ds[i] := List.getElem?_eq_getElem hlt
  have hdrop : ds.drop i = ds[i] :: ds.drop (i + 1) := List.drop_eq_getElem_cons hlt
  obtain ⟨go, yl⟩ := k1 _ hd
  rw [hdrop] at heq
  have heq : lcLoop tgt ft (toI fe) own ds [] (wipeMu ρ1 own) = (oR (tgt ds[i] ρ)).bind fun ρ1 => (noX (ft ρ1)).bind fun p => if p.1 = true then (noX (toI fe p.2)).bind fun q => if acc.length < sizeLine then lcLoop tgt ft (toI fe) own (ds.drop (i + 1)) (acc ++ [q.1]) (wipeMu q.2 own) else .stk
    else lcLoop tgt ft (toI fe) own (ds.drop (i + 1)) acc (wipeMu p.2 own) := heq
  have stuck : ∀ {r : R (List D × En)}, lcLoop tgt ft (toI fe) own ds [] (wipeMu ρ1 own) = r → noX r = .stk → False := fun {r} e1 e2 => by
    rw [e1, e2] at hp
    exact hp
  refine .inr ⟨go, fun H' => ∃ B ρ acc vacc, SO G B H' (wipe σ own) ρ ∧ Ex B1 B ∧ Tr (MuA σ ρ0) B0 H0 B H' ∧ (∀ b, MuA (wipe σ own) ρ b → MuA σ ρ0 b) ∧ H' Dl = some (.lst vacc) ∧ B Dl = none ∧ RepL C B acc vacc ∧
    lcLoop tgt ft (toI fe) own ds [] (wipeMu ρ1 own) = lcLoop tgt ft (toI fe) own (ds.drop (i + 1)) acc ρ, fun H' ⟨B', ρ', acc', vacc', a1, a2, a3, a4, a5, a6, a7, a8⟩ => ⟨ds.length - (i + 1), by omega, B', ρ', acc', vacc', a1, a2, a3, a4, a5, a6, a7, rfl, hlt, a8⟩, fun x H2 hy => ?_⟩
  cases q : tgt ds[i] ρ with
  | none => rw [q] at heq; exact (stuck heq rfl).elim
  | some ρt =>
    rw [q] at heq
    simp only [oR_some, R.ok_bind] at heq
    obtain ⟨B2, S2, ex2, tr2, hD2, hB2, r2⟩ : ∃ B2, SO G B2 H2 (wipe σ own) ρ ∧ Ex B B2 ∧ Tr (MuA σ ρ0) B0 H0 B2 H2 ∧ H2 Dl = some (.lst vacc) ∧ B2 Dl = none ∧ Rep C B2 ds[i] x := by
      rcases yl x H2 hy with ⟨e, r⟩ | ⟨T, vs, es, hT, e, ed, ex', r⟩
      · subst e; exact ⟨B, S, Ex.refl _, tr, hDl, hBl, r⟩
      · subst e
        have nT : Dl ≠ T := ne_of_none hDl hT
        refine ⟨_, S.newI hT, Ex.new (S.bnone hT), tr.trans (StT.newI S hT).tr fun b hb => .inl (hmu b hb), by rw [upd_ne nT]; exact hDl, by rw [upd_ne nT]; exact hBl, ?_⟩
        rw [ed, ex']
        exact ⟨T, vs, rfl, .inl (.inl upd_same), RepL.mono (Ex.new (S.bnone hT)) es r⟩
    refine hg G eG B2 H2 (wipe σ own) ρ ρt ds[i] x _ S2 r2 q fun σ2 S3 off muT => ⟨off_wipe off hsub, ?_⟩
    have muT' : ∀ b, MuA σ2 ρt b → MuA σ ρ0 b := fun b hb => hmu b (muT b hb)
    refine ht G eG B2 H2 σ2 ρt _ S3 ?_
    cases q2 : ft ρt with
    | stk => rw [q2] at heq; exact (stuck heq rfl).elim
    | exn c ns ds' ρ' => rw [q2] at heq; exact (stuck heq rfl).elim
    | ok p =>
      obtain ⟨b, ρ3⟩ := p
      rw [q2] at heq
      simp only [noX_ok, R.ok_bind] at heq
      intro B3 H3 b' S4 st3 relb
      obtain rfl : b = b' := relb
      have nD3 : ¬ MuA σ2 ρt Dl := fun z => MuA.there S0 Dl (muT' Dl z) hD0
      have hD3 : H3 Dl = some (.lst vacc) := st3.tr.kp Dl _ hD2 nD3 no_tbl
      have hB3 : B3 Dl = none := by rw [st3.tr.nb Dl (by rw [hD2]; intro z; cases z)]; exact hB2
      have ex3 := ex2.trans st3.tr.ex
      have tr3 := tr2.trans st3.tr fun x hx => .inl (muT' x hx)
      have mu3 : ∀ b, MuA σ2 ρ3 b → MuA σ ρ0 b := fun b hb => muT' b (st3.mu b hb)
      have ewp : wipe σ2 own = wipe σ own := off_wipe off hsub
      cases b with
      | false =>
        rw [if_neg Bool.false_ne_true] at heq ⊢
        have S5 := S4.wipeσ own
        rw [ewp] at S5
        exact ⟨B3, _, acc, vacc, S5, ex1.trans ex3, tr3, fun b hb => mu3 b (by rw [← ewp] at hb; exact hb.wipe), hD3, hB3, RepL.mono ex3 acc racc, heq⟩
      | true =>
        rw [if_pos rfl] at heq ⊢
        refine (Sat.imm he) G eG B3 H3 σ2 ρ3 _ S4 ?_
        cases q3 : toI fe ρ3 with
        | stk => rw [q3] at heq; exact (stuck heq rfl).elim
        | exn c ns ds' ρ' => rw [q3] at heq; exact (stuck heq rfl).elim
        | ok p =>
          obtain ⟨dv, ρ4⟩ := p
          rw [q3] at heq
          simp only [noX_ok, R.ok_bind] at heq
          intro B4 H4 y S5 st4 rely
          have rely : Rep C B4 dv y := rely
          have nD4 : ¬ MuA σ2 ρ3 Dl := fun z => MuA.there S0 Dl (mu3 Dl z) hD0
          have hD4 : H4 Dl = some (.lst vacc) := st4.tr.kp Dl _ hD3 nD4 no_tbl
          have hB4 : B4 Dl = none := by rw [st4.tr.nb Dl (by rw [hD3]; intro z; cases z)]; exact hB3
          have ex4 := ex3.trans st4.tr.ex
          have tr4 := tr3.trans st4.tr fun x hx => .inl (mu3 x hx)
          have mu4 : ∀ b, MuA σ2 ρ4 b → MuA σ ρ0 b := fun b hb => mu3 b (st4.mu b hb)
          split at heq
          case isFalse => exact (stuck heq rfl).elim
          rename_i hz
          have S6 := (S5.other (p := Dl) (o := .lst (vacc ++ [y])) hD4 hB4 hDG (fun z => MuA.there S0 Dl (mu4 Dl z) hD0)).wipeσ own
          rw [ewp] at S6
          refine ⟨vacc, hD4, by rw [racc.length]; exact hz, B4, _, acc ++ [dv], vacc ++ [y], S6, ex1.trans ex4, ⟨tr4.ex, tr4.nb, fun b o h n nt => ?_, fun b h => ?_, fun h => tabs_of (fun b u q n => by rw [upd_ne (fun z => by rw [z, hD4] at q; exact n _ (Option.some.inj q).symm)]; exact q) _ (tr4.tb h), tr4.nt⟩, fun b hb => mu4 b (by rw [← ewp] at hb; exact hb.wipe), upd_same, hB4, RepL.append (RepL.mono ex4 acc racc) (RepL.one rely), heq⟩
          · rw [upd_ne (fun z => by rw [z, hD0] at h; cases h)]; exact tr4.kp b o h n nt
          · by_cases z : b = Dl
            · rw [z, upd_same]; intro w; cases w
            · rw [upd_ne z]; exact tr4.dm b h
def PTst (X : Cx) (W : WX) (ifs : List Expr) (f : En → R (Bool × En)) : Prop := ∃ t, PTs X ifs t ∧ Sat (Cx.ck X) W relB t f
def tyes : En → R (Bool × En) := fun ρ => .ok (true, ρ)
theorem ptst_nil : PTst X W [] tyes := ⟨_, pts_nil, fun G eG B H σ ρ Q S hp => hp B H true S (StT.refl _ _ _ _) rfl⟩
theorem ptst_one {c : Expr} {f : En → R (Bool × En)} (h : PT' X W c f) : PTst X W [c] f := let ⟨t, h, s⟩ := h; ⟨t, pts_one h, s⟩
/-- the blocks that a comprehension of X may run in -/
abbrev Blk (X : Cx) (scope : Scope) (P : Cx → Prop) : Prop := ∀ (s : Shared) (H : Hp) (C : Addr) (cl : List (Str × Addr)) (fp : List Addr), P (X.blk s H scope (compEnvC scope cl C X.env) fp)
theorem blk_pe {scope : Scope} {elt : Expr} {fe : En → R (Pl × En)} (h : Blk X scope fun Y => PX Y W0 elt fe) : ∃ te, Sat (Cx.ck X) W0 relP te fe ∧ Blk X scope fun Y => PE Y elt te := by
  refine ⟨fun σ H Q => ∀ s H' C cl fp, (h s H' C cl fp).choose σ H Q, fun G eG B H σ ρ Q S hp s H' C cl fp => (h s H' C cl fp).choose_spec.2 G eG B H σ ρ Q S hp, fun s H' C cl fp => ?_⟩
  exact ⟨fun pins s1 σ H1 Q I hq => (h s H' C cl fp).choose_spec.1.run pins s1 σ H1 Q I (hq s H' C cl fp)⟩
theorem blk_pt {scope : Scope} {ifs : List Expr} {f : En → R (Bool × En)} (h : Blk X scope fun Y => PTst Y W0 ifs f) : ∃ te, Sat (Cx.ck X) W0 relB te f ∧ Blk X scope fun Y => PTs Y ifs te := by
  refine ⟨fun σ H Q => ∀ s H' C cl fp, (h s H' C cl fp).choose σ H Q, fun G eG B H σ ρ Q S hp s H' C cl fp => (h s H' C cl fp).choose_spec.2 G eG B H σ ρ Q S hp, fun s H' C cl fp => ?_⟩
  exact ⟨fun pins s1 σ H1 Q I hq => (h s H' C cl fp).choose_spec.1.run pins s1 σ H1 Q I (hq s H' C cl fp)⟩
theorem blk_pg {scope : Scope} {tg : Expr} {f : D → En → Option En} {is : List Nat} (h : Blk X scope fun Y => PGt Y tg f is) : ∃ g, GSat (Cx.ck X) g f is ∧ Blk X scope fun Y => PG Y tg g := by
  refine ⟨fun v σ H Q => ∀ s H' C cl fp, (h s H' C cl fp).choose v σ H Q, fun G eG B H σ ρ ρ' d x Q S r e hp s H' C cl fp => (h s H' C cl fp).choose_spec.2 G eG B H σ ρ ρ' d x Q S r e hp, fun s H' C cl fp => ?_⟩
  exact ⟨fun pins s1 σ H1 v u Q I r hq => (h s H' C cl fp).choose_spec.1.run pins s1 σ H1 v u Q I r (hq s H' C cl fp)⟩
theorem px_lc {elt tg iter : Expr} {ifs : List Expr} {scope : Scope} {pos : Pos} {fi : En → R (List D × En)} {tgt : D → En → Option En} {is : List Nat} {ft : En → R (Bool × En)} {fe : En → R (Pl × En)} (own : List (Str × Nat)) (hN : X.N.Nodup) (hi : PIt X W tg iter fi) (ok : BlkOk X.N X.env.scope scope own)
    (hg : Blk X scope fun Y => PGt Y tg tgt is) (ht : Blk X scope fun Y => PTst Y W0 ifs ft) (he : Blk X scope fun Y => PX Y W0 elt fe) (hsub : ∀ i ∈ is, i ∈ own.map (·.2) := by decide) (hc : X.calm = true := by rfl) (hs : ∀ x, foldedSetIterable iter X.env x = pure x := by intro _; rfl) :
    PX X W (.ListComp elt [⟨tg, iter, ifs, 0⟩] scope pos) (lcG fi tgt ft fe (own.map (·.2))) := by
  obtain ⟨wi, h1, s1⟩ := hi
  obtain ⟨g, s2, h2⟩ := blk_pg hg
  obtain ⟨tt, s3, h3⟩ := blk_pt ht
  obtain ⟨te, s4, h4⟩ := blk_pe he
  exact ⟨_, pe_lc hc hN h1 ok h2 h3 h4 hs, sat_lc hsub s1 s2 s3 s4⟩
section
variable {elt tg iter : Expr} {ifs : List Expr} {scope : Scope} {pos spos py : Pos} {y : Str} {fi : En → R (List D × En)} {tgt : D → En → Option En} {is : List Nat} {ft : En → R (Bool × En)} {fe : En → R (Pl × En)}
theorem ps_lcI (i : Nat) (own : List (Str × Nat)) (hN : X.N.Nodup) (hi : PIt X W tg iter fi) (ok : BlkOk X.N X.env.scope scope own)
    (hg : Blk X scope fun Y => PGt Y tg tgt is) (ht : Blk X scope fun Y => PTst Y W0 ifs ft) (he : Blk X scope fun Y => PX Y W0 elt fe) (hsw : swapsWith (.ListComp elt [⟨tg, iter, ifs, 0⟩] scope pos) (some (.Name y py)) spos.line X.env = pure true) (hy : X.N[i]? = some y := by rfl) (hyl : X.env.scope.names.lookup y = some .local := by rfl) (hsub : ∀ i ∈ is, i ∈ own.map (·.2) := by decide) (hc : X.calm = true := by rfl) (hs : ∀ x, foldedSetIterable iter X.env x = pure x := by intro _; rfl) :
    PSt X W (.Assign [.Name y py] (.ListComp elt [⟨tg, iter, ifs, 0⟩] scope pos) spos) (asgI i (lcG fi tgt ft fe (own.map (·.2)))) := by
  obtain ⟨wi, h1, s1⟩ := hi
  obtain ⟨g, s2, h2⟩ := blk_pg hg
  obtain ⟨tt, s3, h3⟩ := blk_pt ht
  obtain ⟨te, s4, h4⟩ := blk_pe he
  exact ⟨_, ps_setLc (i := i) hc hN hy hyl hsw h1 ok h2 h3 h4 hs, ssat_asgI i (sat_lc hsub s1 s2 s3 s4)⟩
theorem ps_lcM (i : Nat) (own : List (Str × Nat)) (hN : X.N.Nodup) (hi : PIt X W tg iter fi) (ok : BlkOk X.N X.env.scope scope own)
    (hg : Blk X scope fun Y => PGt Y tg tgt is) (ht : Blk X scope fun Y => PTst Y W0 ifs ft) (he : Blk X scope fun Y => PX Y W0 elt fe) (hsw : swapsWith (.ListComp elt [⟨tg, iter, ifs, 0⟩] scope pos) (some (.Name y py)) spos.line X.env = pure true) (hy : X.N[i]? = some y := by rfl) (hyl : X.env.scope.names.lookup y = some .local := by rfl) (hsub : ∀ i ∈ is, i ∈ own.map (·.2) := by decide) (hc : X.calm = true := by rfl) (hs : ∀ x, foldedSetIterable iter X.env x = pure x := by intro _; rfl) :
    PSt X W (.Assign [.Name y py] (.ListComp elt [⟨tg, iter, ifs, 0⟩] scope pos) spos) (asgM i (lcG fi tgt ft fe (own.map (·.2)))) := by
  obtain ⟨wi, h1, s1⟩ := hi
  obtain ⟨g, s2, h2⟩ := blk_pg hg
  obtain ⟨tt, s3, h3⟩ := blk_pt ht
  obtain ⟨te, s4, h4⟩ := blk_pe he
  exact ⟨_, ps_setLc (i := i) hc hN hy hyl hsw h1 ok h2 h3 h4 hs, ssat_asgM i (sat_lc hsub s1 s2 s3 s4)⟩
end
end DL
set_option Elab.async false
set_option linter.all false
set_option maxRecDepth 100000
set_option autoImplicit false
namespace DL
open PySem PySem.Spec PyProof.Rows L2
open Evl (Ex)
variable [Tb]

/-! ### defs, with room and no guards -/
structure RoomG (k : Nat) (A : Around) : Prop where
  r : Room k A
  g : Tb.gd → A.guards = some []
theorem RoomG.mono {j k : Nat} {A : Around} (h : RoomG k A) (hj : j ≤ k) : RoomG j A := ⟨h.r.mono hj, h.g⟩
theorem RoomG.down {k : Nat} {A : Around} (h : RoomG (k + 1) A) (env : Env) : RoomG k (A.deeper env) := ⟨h.r.deeper env, h.g⟩
/-- the exceptions' side -/
abbrev XC (P : Program) (w : World) : CXT := L2.CX P w
structure FnG (P : Program) (w : World) (K : PySem.W.Frag) (mg : Str → Option Value) (base : Heap) (k : Nat) (f : Addr) (fd : FuncData) (ps : List Str) (sp : Sp) : Prop where
  len : ∀ vs H Q E, sp vs H Q E → vs.length = ps.length
  run : ∀ (A : Around) (outer : List Env) (s : Shared) (H : Hp) (args : Args) (us : List Value) (vs : List V) (Q : VK) (E : XK), RoomG k A → Env0 P w K mg base A outer s H →
    BindsTo s fd args (ps.zip us) → Vals vs us → sp vs H Q E → codeAny (model P w) A (.call (.ref f) args) (CR (XC P w) outer P w H s Q E) s
section
variable {P : Program} {w : World} {K : PySem.W.Frag} {mg : Str → Option Value} {base : Heap} {f : Addr} {fd : FuncData} {ps : List Str} {sp : Sp}
theorem FnG.mono {j k : Nat} (F : FnG P w K mg base j f fd ps sp) (h : j ≤ k) : FnG P w K mg base k f fd ps sp := ⟨F.len, fun A o s H a us vs Q E r => F.run A o s H a us vs Q E (r.mono h)⟩
/-- a def by its body -/
theorem fnG_of {x qual : Str} {st : Stmt} {N : List Str} {k : Nat} {oc kV doc pm cdv ct : Value} {od an : Option Addr} {osl : Array (Option Value)} (lk : K.lookup f = some ⟨oc, od, .func (PySem.W.fnOf x qual (defArgs st) (defBody st) (defScope st) .none kV doc pm an cdv ct), osl⟩) (hcd : PySem.W.codeIn K cdv qual = true) (S : FnScope N ps (defScope st)) (len : ∀ vs H Q E, sp vs H Q E → vs.length = ps.length)
    (hb : ∀ (A : Around) (outer : List Env) (s : Shared) (H : Hp) (vs : List V) (Q : VK) (E : XK), RoomG k (A.deeper (envOfC qual (defScope st) s.heap.objs.size f cdv)) → sp vs H Q E →
      ∃ t, PSs (cxOf (XC P w) P w K mg base N qual (defScope st) f cdv A outer s H E) (defBody st) t ∧ t { nx := fun _ H' => Q .non H', rt := Q } (L2.start N vs) H) : FnG P w K mg base (k + 1) f (PySem.W.fnOf x qual (defArgs st) (defBody st) (defScope st) .none kV doc pm an cdv ct) ps sp where
  len := len
  run := by
    intro A outer s H args us vs Q E rm e0 hargs rv hsp
    have old : ∀ b o, base.get? b = some o → s.heap.get? b = some o := fun b o e => (e0.bs b o e).1
    have kin := e0.mod.kin.keeps old
    have locs : ∀ y ∈ ps.zip us, (defScope st).names.lookup y.1 = some .local ∨ ((defScope st).names.lookup y.1 = some .cell ∧ ((cellsFrom (s.heap.objs.size + 1) (defScope st).names []).lookup y.1).isSome = true) := by
      rintro ⟨n, v⟩ hy
      exact (S.par n (List.of_mem_zip hy).1).imp id fun q => ⟨q, PySem.W.cellsFrom_some _ _ _ (.inl q)⟩
    apply codeAny_call_function rm.r.depth (kin _ _ lk) rfl S.co S.gen rfl (PySem.W.codeRec_of kin hcd) (hargs _ _ _ _ ?_)
    apply wpAny_newFunctionEnv_cells S.kind locs
    rintro env rfl s1 st1
    refine ⟨(e0.mod.nolimit.keeps old).keeps st1.toInCall.keep, codeAny_func ?_⟩
    obtain ⟨t, ht, ht2⟩ := hb A outer s H vs Q E (rm.down _) hsp
    have I0 : Inv (cxOf (XC P w) P w K mg base N qual (defScope st) f cdv A outer s H E) [] (L2.start N vs) H s1 := inv_start S rm.r.hd e0 (len _ _ _ _ hsp) rv st1
    refine wpAny_mono (ht.run [] s1 (L2.start N vs) H _ I0 ht2) ?_ fun _ _ q => q
    intro fl s2 hs
    match fl, hs with
    | .ret u, ⟨v, _, H2, J, rv2, q⟩ => exact ⟨v, H2, J.os, J.bare, J.base, J.hok, rv2, q⟩
    | .next, ⟨_, H2, J, q⟩ => exact ⟨V.non, H2, J.os, J.bare, J.base, J.hok, rfl, q⟩
    | .brk, ⟨_, _, _, q⟩ => exact q.elim
    | .cont, ⟨_, _, _, q⟩ => exact q.elim
end
section
variable [Tb] {X : Cx} {W : WX} {k : Nat} {f : Addr} {fd : FuncData} {ps : List Str}
theorem run_fnG {sp : Sp} {pins : List (Addr × Obj)} {σ : St} {H : Hp} {s : Shared} {Q : VK} {us : List Value} {vs : List V} (F : FnG X.prog X.w X.K X.mg X.base k f fd ps sp) (hr : RoomG k X.A) (hb : Binds X.K fd ps []) (tk : Takes X W) (I : Inv X pins σ H s) (r : Vals vs us) (h : sp vs H Q (WE W σ)) :
    wpAny (model X.prog X.w) X.A (call (.ref f) us) (EP X pins σ Q) X.xe s := by
  have hl : us.length = ps.length := r.length ▸ F.len _ _ _ _ h
  have b := hb s us I.kIn (by simpa using hl)
  simp only [List.append_nil] at b
  apply wpAny_call
  refine codeAny_mono (F.run X.A X.stack s H ⟨us, []⟩ us vs Q _ hr I.env0 b r h) ?_
  intro r2 s2 hq
  match r2, hq with
  | .error e, hq => exact passAt tk σ pins H s e s2 I hq
  | .ok (.ret u), hq => exact I.after hq
  | .ok .next, hq => exact hq.elim
  | .ok .brk, hq => exact hq.elim
  | .ok .cont, hq => exact hq.elim
theorem pe_callG {sp : Sp} {x : Str} {p pos : Pos} {e : Expr} {es : List Expr} {t : TA} (F : FnG X.prog X.w X.K X.mg X.base k f fd ps sp) (hr : RoomG k X.A) (tk : Takes X W) (hg : Gl X x) (hm : X.mg x = some (.ref f)) (hk : PySem.W.keepIn X.K (.ref f) = true) (hb : Binds X.K fd ps []) (ha : PA X (e :: es) t)
    (hdb : (x == ("__debug__" : Str)) = false) (he : starEach (e :: es) X.env = (false, eval e X.env) :: starEach es X.env) (hpl : (backTo pos (starEach es X.env)).any (·.1) = false) : PE X (.Call (.Name x p) (e :: es) [] pos) (tCallS sp (fun σ => WE W σ) t) where
  run := fun pins s σ H Q I h => wpAny_Call_Name_kw (ld_glob I hg hm (PySem.W.callWith_K (h₀ := X.base) I.ok.mod.kin hk (thn (ha.run pos pins s σ H _ I h) fun us s1 ⟨vs, H1, I1, r, q⟩ => ⟨I1.kIn, run_fnG F hr hb tk I1 r q⟩) he hpl) hdb)
/-- a def of the text: what it does, as a function -/
structure DFn (X : Cx) (k : Nat) (x : Str) (n : Nat) (F : FD) : Prop where
  ex : ∃ f fd ps, FnG X.prog X.w X.K X.mg X.base k f fd ps (spF (Cx.ck X) F) ∧ X.mg x = some (.ref f) ∧ PySem.W.keepIn X.K (.ref f) = true ∧ Binds X.K fd ps [] ∧ ps.length = n
theorem px_callD {n : Nat} {F : FD} {x : Str} {p pos : Pos} {e : Expr} {es : List Expr} {fs : En → R (List Pl × En)} (D : DFn X k x n F) (hr : RoomG k X.A) (tk : Takes X W) (ha : PXs X W (e :: es) fs) (hg : Gl X x := by rfl) (hdb : (x == ("__debug__" : Str)) = false := by decide)
    (he : starEach (e :: es) X.env = (false, eval e X.env) :: starEach es X.env := by rfl) (hpl : (backTo pos (starEach es X.env)).any (·.1) = false := by rfl) : PX X W (.Call (.Name x p) (e :: es) [] pos) (callG F fs) := by
  obtain ⟨f, fd, ps, F', hm, hk, hb, _⟩ := D.ex
  obtain ⟨t, h, s⟩ := ha
  exact ⟨_, pe_callG F' hr tk hg hm hk hb h hdb he hpl, sat_call s⟩
end

/-! ### a body as a function -/
def inSl : Sl → Option Sl
  | .im d => some (.im d)
  | .mu _ ds => some (.mu false ds)
def startEn (n : Nat) (sls : List Sl) : En := sls.map inSl ++ List.replicate (n - sls.length) none
def posts : List Sl → En → Option (List (List D))
  | [], _ => some []
  | .im _ :: r, ρ => posts r ρ.tail
  | .mu _ _ :: r, ρ => match ρ with
    | some (.mu false ds) :: ρ' => (posts r ρ').map (ds :: ·)
    | _ => none
def runF (n m : Nat) (g : En → R Fl) : FD := fun sls => if sls.length = m then match g (startEn n sls) with
  | .ok (.nx ρ) => match posts sls ρ with
    | some ps => .ret (.im .non) ps
    | none => .stk
  | .ok (.rt r ρ) => match posts sls ρ with
    | some ps => .ret r ps
    | none => .stk
  | .exn c ns ds _ => .exn c ns ds
  | _ => .stk
  else .stk
section
variable {C : Ck} {B H : Hp}
def refOf : Option V → Option Addr
  | some (.ref l) => some l
  | _ => none
theorem ArgsR.get : ∀ {sl : List Sl} {vs : List V} {P : List Addr}, ArgsR C B H sl vs P → ∀ (i : Nat),
    (∀ d, sl[i]? = some (.im d) → ∃ v, vs[i]? = some v ∧ Rep C B d v) ∧ (∀ o ds, sl[i]? = some (.mu o ds) → ∃ l ws, vs[i]? = some (.ref l) ∧ l ∈ P ∧ H l = some (.lst ws) ∧ B l = none ∧ RepL C B ds ws)
  | [], _, _, _, i => ⟨fun d e => (by cases e), fun o ds e => (by cases e)⟩
  | .im d :: sl, _, _, h, i => by
    obtain ⟨v, r, rfl, h1, h2⟩ := h
    cases i with
    | zero => exact ⟨fun d e => (by cases e; exact ⟨v, rfl, h1⟩), fun o ds e => (by cases e)⟩
    | succ i => exact ArgsR.get h2 i
  | .mu o ds :: sl, _, _, h, i => by
    obtain ⟨l, r, Q, rfl, rfl, ⟨ws, h1, h2⟩, h3, h4⟩ := h
    cases i with
    | zero => exact ⟨fun d e => (by cases e), fun o ds e => (by cases e; exact ⟨l, ws, rfl, List.mem_cons_self, h1, h3, h2⟩)⟩
    | succ i => exact ⟨(ArgsR.get h4 i).1, fun o ds e => by
      obtain ⟨l', ws, a1, a2, a3⟩ := (ArgsR.get h4 i).2 o ds e
      exact ⟨l', ws, a1, List.mem_cons_of_mem _ a2, a3⟩⟩
theorem ArgsR.inj : ∀ {sl : List Sl} {vs : List V} {P : List Addr}, ArgsR C B H sl vs P → P.Nodup → ∀ (i j : Nat) {o ds o' ds' l}, sl[i]? = some (.mu o ds) → sl[j]? = some (.mu o' ds') → vs[i]? = some (.ref l) → vs[j]? = some (.ref l) → i = j
  | [], _, _, _, _, i, j, _, _, _, _, _, e, _, _, _ => by cases e
  | .im d :: sl, _, _, h, nd, i, j, o, ds, o', ds', l, e1, e2, e3, e4 => by
    obtain ⟨v, r, rfl, h1, h2⟩ := h
    cases i with
    | zero => cases e1
    | succ i =>
      cases j with
      | zero => cases e2
      | succ j => exact congrArg Nat.succ (ArgsR.inj h2 nd i j e1 e2 e3 e4)
  | .mu oo dd :: sl, _, _, h, nd, i, j, o, ds, o', ds', l, e1, e2, e3, e4 => by
    obtain ⟨l0, r, Q, rfl, rfl, _, h3, h4⟩ := h
    obtain ⟨n1, n2⟩ := List.nodup_cons.mp nd
    cases i with
    | zero =>
      cases j with
      | zero => rfl
      | succ j =>
        obtain ⟨l', ws, a1, a2, _⟩ := (ArgsR.get h4 j).2 o' ds' e2
        have e3' : some (V.ref l0) = some (V.ref l) := e3
        cases e3'
        have e4' : r[j]? = some (V.ref l) := e4
        rw [a1] at e4'; cases e4'
        exact absurd a2 n1
    | succ i =>
      cases j with
      | zero =>
        obtain ⟨l', ws, a1, a2, _⟩ := (ArgsR.get h4 i).2 o ds e1
        have e4' : some (V.ref l0) = some (V.ref l) := e4
        cases e4'
        have e3' : r[i]? = some (V.ref l) := e3
        rw [a1] at e3'; cases e3'
        exact absurd a2 n1
      | succ j => exact congrArg Nat.succ (ArgsR.inj h4 n2 i j e1 e2 e3 e4)
theorem startEn_get {n : Nat} {sls : List Sl} {i : Nat} {x : Sl} (e : (startEn n sls)[i]? = some (some x)) : ∃ y, sls[i]? = some y ∧ inSl y = some x := by
  unfold startEn at e
  by_cases hi : i < sls.length
  · rw [List.getElem?_append_left (by simpa using hi), List.getElem?_map] at e
    cases q : sls[i]? with
    | none => rw [q] at e; cases e
    | some y => rw [q] at e; exact ⟨y, rfl, Option.some.inj e⟩
  · rw [List.getElem?_append_right (by simpa using hi), List.getElem?_replicate] at e
    split at e <;> cases e
theorem start_get {N : List Str} {vs : List V} {i : Nat} {v : V} (e : vs[i]? = some v) : (L2.start N vs)[i]? = some (some v) := by
  unfold L2.start
  have hi := (List.getElem?_eq_some_iff.mp e).1
  rw [List.getElem?_append_left (by simpa using hi), List.getElem?_map, e]
  rfl
abbrev gh0 (C : Ck) (B H : Hp) (vs : List V) (P : List Addr) (tb : LamX.Tabs Tb.T H) (nt : NT B) : Gh := { C := C, H0 := H, B0 := B, P := P, Z := fun i => refOf vs[i]?, tb := tb, nt := nt }
theorem so_start {N : List Str} {sls : List Sl} {vs : List V} {P : List Addr} (h : ArgsR C B H sls vs P) (nd : P.Nodup) (ex : Ex B H) (tb : LamX.Tabs Tb.T H) (nt : NT B) : SO (gh0 C B H vs P tb nt) B H (L2.start N vs) (startEn N.length sls) where
  len := by
    unfold L2.start startEn
    rw [List.length_append, List.length_append, List.length_map, List.length_map, List.length_replicate, List.length_replicate, h.length]
  ex := ex
  im := fun i d e => by
    obtain ⟨y, e1, e2⟩ := startEn_get e
    cases y with
    | mu o ds => cases e2
    | im d' =>
      cases e2
      obtain ⟨v, a1, a2⟩ := (h.get i).1 d e1
      exact ⟨v, start_get a1, a2⟩
  mu := fun i o ds e => by
    obtain ⟨y, e1, e2⟩ := startEn_get e
    cases y with
    | im d' => cases e2
    | mu o' ds' =>
      cases e2
      obtain ⟨l, ws, a1, a2, a3, a4, a5⟩ := (h.get i).2 o' ds e1
      exact ⟨l, ws, start_get a1, a3, a4, a5, (fun z => nomatch z), fun _ => ⟨a2, by show refOf vs[i]? = _; rw [a1]; rfl⟩⟩
  ap := fun i j o ds o' ds' l e1 e2 e3 e4 => by
    obtain ⟨y, q1, q2⟩ := startEn_get e1
    obtain ⟨z, q3, q4⟩ := startEn_get e2
    cases y with
    | im d' => cases q2
    | mu o1 d1 =>
      cases z with
      | im d' => cases q4
      | mu o2 d2 =>
        obtain ⟨l1, ws, a1, _⟩ := (h.get i).2 _ _ q1
        obtain ⟨l2, ws2, b1, _⟩ := (h.get j).2 _ _ q3
        rw [start_get a1] at e3; cases e3
        rw [start_get b1] at e4; cases e4
        exact h.inj nd i j q1 q3 a1 b1
  tr := Tr.refl _ _ _
theorem posts_ok {vs0 : List V} {P0 : List Addr} {B0 H0 B' H' : Hp} {σ' : St} {ρ : En} {tb : LamX.Tabs Tb.T H0} {nt : NT B0} (S : SO (gh0 C B0 H0 vs0 P0 tb nt) B' H' σ' ρ) : ∀ {sls : List Sl} {vs : List V} {P : List Addr} {ps : List (List D)} (k : Nat), ArgsR C B H sls vs P → (∀ i, vs[i]? = vs0[k + i]?) → posts sls (ρ.drop k) = some ps → PostsR C B' H' P ps
  | [], _, _, _, k, h, hz, e => by
    cases e
    obtain ⟨_, rfl⟩ := h
    rfl
  | .im d :: sl, _, _, _, k, h, hz, e => by
    obtain ⟨v, r, rfl, h1, h2⟩ := h
    unfold posts at e
    rw [List.tail_drop] at e
    exact posts_ok S (k + 1) h2 (fun i => by have := hz (i + 1); rw [show k + (i + 1) = k + 1 + i by omega] at this; exact this) e
  | .mu o ds :: sl, _, _, _, k, h, hz, e => by
    obtain ⟨l, r, Q, rfl, rfl, _, h3, h4⟩ := h
    unfold posts at e
    split at e
    · rename_i dd ρ' q
      have hk : ρ[k]? = some (some (.mu false dd)) := by
        have := congrArg (·[0]?) q
        simpa using this
      have hd : ρ' = ρ.drop (k + 1) := by
        have := congrArg List.tail q
        rw [List.tail_drop] at this
        exact this.symm
      cases q2 : posts sl ρ' with
      | none => rw [q2] at e; cases e
      | some ps2 =>
        rw [q2] at e; cases e
        obtain ⟨l', ws, a1, a2, a3, a4, a5, a6⟩ := S.mu k _ _ hk
        have z := (a6 rfl).2
        have z0 := hz 0
        have z2 : refOf vs0[k]? = some l' := z
        rw [Nat.add_zero] at z0
        rw [← z0] at z2
        cases z2
        subst hd
        exact ⟨dd, ps2, rfl, ⟨ws, a2, a3, a4⟩, posts_ok S (k + 1) h4 (fun i => by have := hz (i + 1); rw [show k + (i + 1) = k + 1 + i by omega] at this; exact this) q2⟩
    · cases e
end
/-- THE RULE: a def of the text, by its body's function -/
theorem okD0 {P : Program} {w : World} {K : PySem.W.Frag} {mg : Str → Option Value} {base : Heap} {f : Addr} {x qual : Str} {st : Stmt} {N ps : List Str} {k : Nat} {g : En → R Fl} {oc kV doc pm cdv ct : Value} {od an : Option Addr} {osl : Array (Option Value)}
    (lk : K.lookup f = some ⟨oc, od, .func (PySem.W.fnOf x qual (defArgs st) (defBody st) (defScope st) .none kV doc pm an cdv ct), osl⟩) (hcd : PySem.W.codeIn K cdv qual = true) (S : FnScope N ps (defScope st))
    (hb : ∀ (A : Around) (outer : List Env) (s : Shared) (H : Hp) (E : XK), RoomG k (A.deeper (envOfC qual (defScope st) s.heap.objs.size f cdv)) →
      PSts (cxOf (XC P w) P w K mg base N qual (defScope st) f cdv A outer s H E) (fun c d _ H' => E c d H') (defBody st) g) : FnG P w K mg base (k + 1) f (PySem.W.fnOf x qual (defArgs st) (defBody st) (defScope st) .none kV doc pm an cdv ct) ps (spF ⟨K, mg⟩ (runF N.length ps.length g)) := by
  have hl : ∀ vs H Q E, spF ⟨K, mg⟩ (runF N.length ps.length g) vs H Q E → vs.length = ps.length := by
    rintro vs H Q E ⟨B, sls, P', hA, _, _, _, _, h⟩
    by_cases e : sls.length = ps.length
    · rw [hA.length, e]
    · unfold runF at h
      rw [if_neg e] at h
      exact h.elim
  refine fnG_of lk hcd S hl ?_
  rintro A outer s H vs Q E hr ⟨B, sls, P', hA, nd, ex, tb, nt, h⟩
  obtain ⟨t, ht, hs⟩ := hb A outer s H E hr
  refine ⟨t, ht, ?_⟩
  have S0 := so_start (N := N) hA nd ex tb nt
  refine hs (gh0 ⟨K, mg⟩ B H vs P' tb nt) rfl B H (L2.start N vs) (startEn N.length sls) _ S0 ?_
  have e : sls.length = ps.length := by rw [← hA.length]; exact hl vs H Q E ⟨B, sls, P', hA, nd, ex, tb, nt, h⟩
  unfold runF at h
  rw [if_pos e] at h
  cases q : g (startEn N.length sls) with
  | stk => rw [q] at h; exact h.elim
  | exn c ns ds ρ' =>
    rw [q] at h
    exact fun B' H' σ' A d vs' _ S' e1 e2 e3 r => h B' H' A d vs' S'.tr S'.ex e1 e2 e3 r
  | ok fl =>
    rw [q] at h
    cases fl with
    | bk ρ => exact h.elim
    | ct ρ => exact h.elim
    | nx ρ =>
      dsimp only at h
      cases q2 : posts sls ρ with
      | none => rw [q2] at h; exact h.elim
      | some ps2 =>
        rw [q2] at h
        exact fun B' H' σ' _ S' => h B' H' .non S'.tr S'.ex (posts_ok S' 0 hA (fun i => by rw [Nat.zero_add]) q2) rfl
    | rt r ρ =>
      dsimp only at h
      cases q2 : posts sls ρ with
      | none => rw [q2] at h; exact h.elim
      | some ps2 =>
        rw [q2] at h
        exact fun B' H' σ' v _ S' rv => h B' H' v S'.tr S'.ex (posts_ok S' 0 hA (fun i => by rw [Nat.zero_add]) q2) rv
theorem okD {P : Program} {w : World} {K : PySem.W.Frag} {mg : Str → Option Value} {base : Heap} {f : Addr} {fd : FuncData} {x qual : Str} {st : Stmt} {N ps : List Str} {k : Nat} {g : En → R Fl} (F : Fun K x qual st f fd) (S : FnScope N ps (defScope st))
    (hb : ∀ (cdv : Value) (A : Around) (outer : List Env) (s : Shared) (H : Hp) (E : XK), RoomG k (A.deeper (envOfC qual (defScope st) s.heap.objs.size f cdv)) →
      PSts (cxOf (XC P w) P w K mg base N qual (defScope st) f cdv A outer s H E) (fun c d _ H' => E c d H') (defBody st) g) : FnG P w K mg base (k + 1) f fd ps (spF ⟨K, mg⟩ (runF N.length ps.length g)) := by
  obtain ⟨oc, od, kV, doc, pm, an, cdv, ct, osl, rfl, lk, hcd⟩ := F.ex
  exact okD0 lk hcd S fun A outer s H E hr => hb cdv A outer s H E hr
end DL
set_option Elab.async false
set_option linter.all false
set_option maxRecDepth 100000
set_option autoImplicit false
namespace DL
open PySem PySem.Spec PyProof.Rows L2
open Evl (Ex)
variable [Tb] {X : Cx} {W : WX} {C : Ck}

/-! ### arguments that may be read -/
def VRepL (C : Ck) (B H : Hp) : List D → List V → Prop
  | [], vs => vs = []
  | d :: ds, vs => ∃ v r, vs = v :: r ∧ VRep C B H d v ∧ VRepL C B H ds r
def viewPs (ρ : En) : List Pl → R (List D)
  | [] => .ok []
  | p :: ps => (view ρ p).bind fun d => (viewPs ρ ps).bind fun ds => .ok (d :: ds)
theorem viewPs_exn {ρ : En} : ∀ {ps : List Pl} {c ns ds ρ'}, viewPs ρ ps = .exn c ns ds ρ' → False
  | [], _, _, _, _, e => by cases e
  | p :: ps, c, ns, ds, ρ', e => by
    unfold viewPs at e
    cases q0 : view ρ p with
    | exn c ns ds ρ' => exact (view_exn q0).elim
    | stk => rw [q0] at e; cases e
    | ok d =>
      rw [q0] at e
      cases q : viewPs ρ ps with
      | ok z => rw [R.ok_bind, q] at e; cases e
      | stk => rw [R.ok_bind, q] at e; cases e
      | exn c ns ds ρ' => exact viewPs_exn q
theorem viewPs_ok {G : Gh} {B H Hs : Hp} {σ : St} {ρ : En} (S : SO G B H σ ρ) : ∀ {ps : List Pl} {vs : List V} {ds : List D}, plReps G.C Hs σ B H ps vs → viewPs ρ ps = .ok ds → VRepL G.C B H ds vs
  | [], _, _, h, e => by cases e; exact h
  | p :: ps, _, ds, h, e => by
    obtain ⟨v, r, rfl, h1, h2⟩ := h
    unfold viewPs at e
    cases q0 : view ρ p with
    | exn c ns ds ρ' => exact (view_exn q0).elim
    | stk => rw [q0] at e; cases e
    | ok d =>
      rw [q0] at e
      cases q : viewPs ρ ps with
      | ok z => rw [R.ok_bind, q] at e; cases e; exact ⟨v, r, rfl, view_ok S h1 q0, viewPs_ok S h2 q⟩
      | stk => rw [R.ok_bind, q] at e; cases e
      | exn c ns ds ρ' => exact (viewPs_exn q).elim
/-- a builtin's rule by a function of its arguments -/
def CRS (C : Ck) (r : List V → Hp → VK → Prop) (g : List D → Option Pl) : Prop := ∀ (G : Gh), G.C = C → ∀ (B H : Hp) (σ : St) (ρ : En) (vs : List V) (ds : List D) (p : Pl) (Q : VK), SO G B H σ ρ → VRepL C B H ds vs → g ds = some p →
  (∀ B' H' v, SO G B' H' σ ρ → StT σ ρ B H ρ B' H' → plRep C H σ B' H' p v → Q v H') → r vs H Q
def biG (fs : En → R (List Pl × En)) (g : List D → Option Pl) : En → R (Pl × En) := fun ρ => (fs ρ).bind fun p => (viewPs p.2 p.1).bind fun ds => (oR (g ds)).bind fun z => .ok (z, p.2)
theorem sat_bi {r : List V → Hp → VK → Prop} {g : List D → Option Pl} {t : TA} {fs : En → R (List Pl × En)} (hr : CRS C r g) (h : Sat C W relA t fs) : Sat C W relP (tCB r t) (biG fs g) := by
  refine Sat.bind (R2 := relP) (t2 := fun vs σ H1 Q => r vs H1 Q) (f2 := fun ps ρ1 => (viewPs ρ1 ps).bind fun ds => (oR (g ds)).bind fun z => .ok (z, ρ1)) h ?_
  intro ps G eG B H σ ρ B1 H1 ρ1 vs Q S S1 st rel hp
  subst eG
  cases v1 : viewPs ρ1 ps with
  | exn c ns ds ρ' => exact (viewPs_exn v1).elim
  | stk => rw [v1] at hp; exact hp.elim
  | ok ds =>
    rw [v1] at hp
    simp only [R.ok_bind] at hp
    cases v3 : g ds with
    | none => rw [v3] at hp; exact hp.elim
    | some z =>
      rw [v3] at hp
      exact hr G rfl B1 H1 σ ρ1 vs ds z Q S1 (viewPs_ok S1 rel v1) v3 fun B' H' v S3 st3 rz => hp B' H' v S3 (st.trans st3) (plRep.start rz st.tr.dm)
section
variable {r : List V → Hp → VK → Prop} {g : List D → Option Pl} {x : Str} {p pos : Pos} {e : Expr} {es : List Expr} {fs : En → R (List Pl × En)} {id T : String}
theorem px_bi (hc : CallR X (.builtin id) r) (hr : CRS (Cx.ck X) r g) (hm : X.mg x = none) (ha : PXs X W (e :: es) fs) (hv : bootBuiltins x = some (.builtin id)) (hg : Gl X x := by rfl) (hn : x ≠ "__name__" := by decide) (hdb : (x == ("__debug__" : Str)) = false := by decide)
    (he : starEach (e :: es) X.env = (false, eval e X.env) :: starEach es X.env := by rfl) (hpl : (backTo pos (starEach es X.env)).any (·.1) = false := by rfl) : PX X W (.Call (.Name x p) (e :: es) [] pos) (biG fs g) := by
  obtain ⟨t, h, s⟩ := ha
  exact ⟨_, pe_callB hc hg hm hv h hn hdb he hpl, sat_bi hr s⟩
theorem px_ty (hc : CallR X (.type T) r) (hr : CRS (Cx.ck X) r g) (hm : X.mg x = none) (ha : PXs X W (e :: es) fs) (hv : bootBuiltins x = some (.type T)) (hg : Gl X x := by rfl) (hn : x ≠ "__name__" := by decide) (hdb : (x == ("__debug__" : Str)) = false := by decide)
    (he : starEach (e :: es) X.env = (false, eval e X.env) :: starEach es X.env := by rfl) (hpl : (backTo pos (starEach es X.env)).any (·.1) = false := by rfl) : PX X W (.Call (.Name x p) (e :: es) [] pos) (biG fs g) := by
  obtain ⟨t, h, s⟩ := ha
  exact ⟨_, pe_callTy hc hg hm hv h hn hdb he hpl, sat_bi hr s⟩
end
/-- one that makes nothing new -/
theorem CRS.pure {r : List V → Hp → VK → Prop} {g : List D → Option D} (h : ∀ (B H : Hp) (vs : List V) (ds : List D) (d : D) (Q : VK), Ex B H → VRepL C B H ds vs → g ds = some d → (∀ v, Rep C B d v → Q v H) → r vs H Q) : CRS C r (fun a => (g a).map Pl.val) := by
  intro G eG B H σ ρ vs ds p Q S h1 e q
  subst eG
  try dsimp only at e
  cases z : g ds with
  | none => rw [z] at e; cases e
  | some d =>
    rw [z] at e; cases e
    exact h B H vs ds d Q S.ex h1 z fun v rv => q B H v S (StT.refl _ _ _ _) rv
theorem CRS.or {r r' : List V → Hp → VK → Prop} {g g' : List D → Option Pl} (h : CRS C r g) (h' : CRS C r' g') : CRS C (fun vs H Q => r vs H Q ∨ r' vs H Q) (fun a => (g a).or (g' a)) := by
  intro G eG B H σ ρ vs ds p Q S h1 e q
  cases z : g ds with
  | some p' =>
    have e : (g ds).or (g' ds) = some p := e
    rw [z] at e
    cases e
    exact .inl (h G eG B H σ ρ vs ds p Q S h1 z q)
  | none =>
    have e : (g ds).or (g' ds) = some p := e
    rw [z] at e
    exact .inr (h' G eG B H σ ρ vs ds p Q S h1 e q)
theorem VRepL.one {B H : Hp} {d : D} {vs : List V} (h : VRepL C B H [d] vs) : ∃ v, vs = [v] ∧ VRep C B H d v := by
  obtain ⟨v, r, rfl, h1, h2⟩ := h
  exact ⟨v, by rw [show r = [] from h2], h1⟩
theorem VRepL.two {B H : Hp} {d e : D} {vs : List V} (h : VRepL C B H [d, e] vs) : ∃ v w, vs = [v, w] ∧ VRep C B H d v ∧ VRep C B H e w := by
  obtain ⟨v, r, rfl, h1, w, r2, rfl, h2, h3⟩ := h
  exact ⟨v, w, by rw [show r2 = [] from h3], h1, h2⟩
/-! ### sequences -/
def lstOf : D → Option (List D)
  | .lst ds => some ds
  | .frz ds => some ds
  | _ => none
def tupOf : D → Option (List D)
  | .tup ds => some ds
  | _ => none
theorem lst_view {B H : Hp} {d : D} {ds : List D} {v : V} (ex : Ex B H) (h : VRep C B H d v) (e : lstOf d = some ds) : ∃ a vs, v = .ref a ∧ SqL C.K H a vs ∧ RepL C B ds vs := by
  cases d with
  | lst es => cases e; obtain ⟨a, vs, rfl, h1, h2⟩ := h; exact ⟨a, vs, rfl, SqL.of h1, h2⟩
  | frz es => cases e; obtain ⟨a, vs, rfl, h1, h2⟩ := h; exact ⟨a, vs, rfl, Evl.ex_l ex h1, h2⟩
  | _ => cases e
theorem tup_view {B H : Hp} {d : D} {ds : List D} {v : V} (ex : Ex B H) (h : VRep C B H d v) (e : tupOf d = some ds) : ∃ a vs, v = .ref a ∧ SqT C.K H a vs ∧ RepL C B ds vs := by
  cases d with
  | tup es => cases e; obtain ⟨a, vs, rfl, h1, h2⟩ := h; exact ⟨a, vs, rfl, Evl.ex_t ex h1, h2⟩
  | _ => cases e
theorem seq_view {B H : Hp} {d : D} {ds : List D} {v : V} (ex : Ex B H) (h : VRep C B H d v) (e : seqOf d = some ds) : ∃ a vs, v = .ref a ∧ (SqL C.K H a vs ∨ SqT C.K H a vs) ∧ RepL C B ds vs := by
  cases d with
  | lst es => obtain ⟨a, vs, e1, h1, h2⟩ := lst_view (ds := ds) ex h e; exact ⟨a, vs, e1, .inl h1, h2⟩
  | frz es => obtain ⟨a, vs, e1, h1, h2⟩ := lst_view (ds := ds) ex h e; exact ⟨a, vs, e1, .inl h1, h2⟩
  | tup es => obtain ⟨a, vs, e1, h1, h2⟩ := tup_view (ds := ds) ex h e; exact ⟨a, vs, e1, .inr h1, h2⟩
  | _ => cases e
def intsOf : List D → Option (List Int)
  | [] => some []
  | .int i :: r => (intsOf r).map (i :: ·)
  | _ => none
theorem intsOf_eq : ∀ {ds : List D} {ns : List Int}, intsOf ds = some ns → ds = ns.map D.int
  | [], ns, e => by cases e; rfl
  | .int i :: r, ns, e => by
    unfold intsOf at e
    cases q : intsOf r with
    | none => rw [q] at e; cases e
    | some ms => rw [q] at e; cases e; rw [intsOf_eq q]; rfl
  | .non :: _, _, e | .bl _ :: _, _, e | .str _ :: _, _, e | .tup _ :: _, _, e | .lst _ :: _, _, e | .frz _ :: _, _, e | .obj _ _ _ :: _, _, e => by cases e
@[simp] theorem intsOf_map (ns : List Int) : intsOf (ns.map D.int) = some ns := by
  induction ns with
  | nil => rfl
  | cons n ns ih => show (intsOf (ns.map D.int)).map (n :: ·) = _; rw [ih]; rfl
def blsOf : List D → Option (List Bool)
  | [] => some []
  | .bl i :: r => (blsOf r).map (i :: ·)
  | _ => none
theorem blsOf_eq : ∀ {ds : List D} {ns : List Bool}, blsOf ds = some ns → ds = ns.map D.bl
  | [], ns, e => by cases e; rfl
  | .bl i :: r, ns, e => by
    unfold blsOf at e
    cases q : blsOf r with
    | none => rw [q] at e; cases e
    | some ms => rw [q] at e; cases e; rw [blsOf_eq q]; rfl
  | .non :: _, _, e | .int _ :: _, _, e | .str _ :: _, _, e | .tup _ :: _, _, e | .lst _ :: _, _, e | .frz _ :: _, _, e | .obj _ _ _ :: _, _, e => by cases e
@[simp] theorem blsOf_map (ns : List Bool) : blsOf (ns.map D.bl) = some ns := by
  induction ns with
  | nil => rfl
  | cons n ns ih => show (blsOf (ns.map D.bl)).map (n :: ·) = _; rw [ih]; rfl
theorem RepL.bls {B : Hp} : ∀ {ns : List Bool} {vs : List V}, RepL C B (ns.map D.bl) vs → vs = ns.map V.bl
  | [], _, h => h
  | n :: ns, _, h => by
    obtain ⟨v, r, rfl, h1, h2⟩ := h
    rw [show v = _ from h1, RepL.bls h2]
    rfl
/-! ### the builtins -/
def lenD : List D → Option D
  | [.str s] => if s.length ≤ sizeLine then some (.int s.length) else none
  | [d] => (seqOf d).map fun ds => .int ds.length
  | _ => none
theorem LenV_view {B H : Hp} {d : D} {ds : List D} {v : V} (ex : Ex B H) (h : VRep C B H d v) (e : seqOf d = some ds) : LenV C.K v H ds.length := by
  obtain ⟨a, vs, rfl, h1, h2⟩ := seq_view ex h e
  rcases h1 with h1 | h1
  · exact .inl ⟨vs, h1, h2.length.symm⟩
  · exact .inr ⟨vs, h1, h2.length.symm⟩
theorem cr_len : CRS C (fun xs H Q => ∃ x n, xs = [x] ∧ LenV C.K x H n ∧ Q (.int n) H) (fun a => (lenD a).map Pl.val) := by
  refine CRS.pure ?_
  intro B H vs ds d Q ex h e q
  unfold lenD at e
  split at e
  · split at e
    · rename_i s hl
      cases e
      obtain ⟨v, rfl, h1⟩ := h.one
      rw [show v = _ from h1]
      exact ⟨_, s.length, rfl, ⟨hl, rfl⟩, q _ rfl⟩
    · cases e
  · rename_i d' _
    obtain ⟨v, rfl, h1⟩ := h.one
    cases z : seqOf d' with
    | none => rw [z] at e; cases e
    | some es => rw [z] at e; cases e; exact ⟨v, _, rfl, LenV_view ex h1 z, q _ rfl⟩
  · cases e
theorem px_len {p pos : Pos} {e : Expr} {fs : En → R (List Pl × En)} (hm : X.mg "len" = none) (ha : PXs X W [e] fs) (hg : Gl X "len" := by rfl) (he : starEach [e] X.env = (false, eval e X.env) :: starEach [] X.env := by rfl) : PX X W (.Call (.Name "len" p) [e] [] pos) (biG fs fun a => (lenD a).map Pl.val) :=
  px_bi call_len cr_len hm ha PySem.boot_len hg (by decide) (by decide) he rfl
def tupD : List D → Option Pl
  | [d] => (seqOf d).map fun ds => .val (.tup ds)
  | _ => none
theorem cr_tup : CRS C (fun xs H Q => ∃ p ys, xs = [.ref p] ∧ ((SqL C.K H p ys ∧ ∀ l, H l = none → Q (.ref l) (upd H l (.tup ys))) ∨ (SqT C.K H p ys ∧ Q (.ref p) H))) tupD := by
  intro G eG B H σ ρ vs ds p Q S h e q
  subst eG
  unfold tupD at e
  split at e
  · rename_i d
    obtain ⟨v, rfl, h1⟩ := h.one
    cases d with
    | tup es =>
      cases e
      obtain ⟨a, vs, rfl, h2, h3⟩ := h1
      exact ⟨a, vs, rfl, .inr ⟨Evl.ex_t S.ex h2, q B H _ S (StT.refl _ _ _ _) ⟨a, vs, rfl, h2, h3⟩⟩⟩
    | lst es =>
      cases e
      obtain ⟨a, vs, rfl, h2, h3⟩ := lst_view (ds := es) S.ex h1 rfl
      exact ⟨a, vs, rfl, .inl ⟨h2, newT S h3 q⟩⟩
    | frz es =>
      cases e
      obtain ⟨a, vs, rfl, h2, h3⟩ := lst_view (ds := es) S.ex h1 rfl
      exact ⟨a, vs, rfl, .inl ⟨h2, newT S h3 q⟩⟩
    | _ => cases e
  · cases e
theorem px_tupOf {p pos : Pos} {e : Expr} {fs : En → R (List Pl × En)} (hm : X.mg "tuple" = none) (ha : PXs X W [e] fs) (hg : Gl X "tuple" := by rfl) (he : starEach [e] X.env = (false, eval e X.env) :: starEach [] X.env := by rfl) : PX X W (.Call (.Name "tuple" p) [e] [] pos) (biG fs tupD) :=
  px_ty call_tuple_of cr_tup hm ha (by decide +kernel) hg (by decide) (by decide) he rfl
def lstD : List D → Option Pl
  | [d] => (seqOf d).map fun ds => .new ds
  | _ => none
theorem cr_lst : CRS C (fun xs H Q => ∃ p ys, xs = [.ref p] ∧ (SqL C.K H p ys ∨ SqT C.K H p ys) ∧ ∀ l, H l = none → Q (.ref l) (upd H l (.lst ys))) lstD := by
  intro G eG B H σ ρ vs ds p Q S h e q
  subst eG
  unfold lstD at e
  split at e
  · rename_i d
    obtain ⟨v, rfl, h1⟩ := h.one
    cases z : seqOf d with
    | none => rw [z] at e; cases e
    | some es =>
      rw [z] at e; cases e
      obtain ⟨a, vs, rfl, h2, h3⟩ := seq_view S.ex h1 z
      exact ⟨a, vs, rfl, h2, newL S h3 q⟩
  · cases e
theorem px_lstOf {p pos : Pos} {e : Expr} {fs : En → R (List Pl × En)} (hm : X.mg "list" = none) (ha : PXs X W [e] fs) (hg : Gl X "list" := by rfl) (he : starEach [e] X.env = (false, eval e X.env) :: starEach [] X.env := by rfl) : PX X W (.Call (.Name "list" p) [e] [] pos) (biG fs lstD) :=
  px_ty call_list_of cr_lst hm ha (by decide +kernel) hg (by decide) (by decide) he rfl
def intD : List D → Option D
  | [.int i] => some (.int i)
  | [.bl b] => some (.int (if b then 1 else 0))
  | _ => none
theorem cr_int : CRS C (fun xs H Q => (∃ i, xs = [.int i] ∧ Q (.int i) H) ∨ ∃ k, xs = [.bl k] ∧ Q (.int (if k then 1 else 0)) H) (fun a => (intD a).map Pl.val) := by
  refine CRS.pure ?_
  intro B H vs ds d Q ex h e q
  unfold intD at e
  split at e
  · cases e; obtain ⟨v, rfl, h1⟩ := h.one; rw [show v = _ from h1]; exact .inl ⟨_, rfl, q _ rfl⟩
  · cases e; obtain ⟨v, rfl, h1⟩ := h.one; rw [show v = _ from h1]; exact .inr ⟨_, rfl, q _ rfl⟩
  · cases e
theorem px_intOf {p pos : Pos} {e : Expr} {fs : En → R (List Pl × En)} (hm : X.mg "int" = none) (ha : PXs X W [e] fs) (hg : Gl X "int" := by rfl) (he : starEach [e] X.env = (false, eval e X.env) :: starEach [] X.env := by rfl) : PX X W (.Call (.Name "int" p) [e] [] pos) (biG fs fun a => (intD a).map Pl.val) :=
  px_ty call_int1 cr_int hm ha (by decide +kernel) hg (by decide) (by decide) he rfl
def boolD : List D → Option D
  | [.int i] => some (.bl (i != 0))
  | [.bl b] => some (.bl b)
  | _ => none
theorem cr_bool : CRS C (fun xs H Q => (∃ i, xs = [.int i] ∧ Q (.bl (i != 0)) H) ∨ ∃ k, xs = [.bl k] ∧ Q (.bl k) H) (fun a => (boolD a).map Pl.val) := by
  refine CRS.pure ?_
  intro B H vs ds d Q ex h e q
  unfold boolD at e
  split at e
  · cases e; obtain ⟨v, rfl, h1⟩ := h.one; rw [show v = _ from h1]; exact .inl ⟨_, rfl, q _ rfl⟩
  · cases e; obtain ⟨v, rfl, h1⟩ := h.one; rw [show v = _ from h1]; exact .inr ⟨_, rfl, q _ rfl⟩
  · cases e
theorem px_boolOf {p pos : Pos} {e : Expr} {fs : En → R (List Pl × En)} (hm : X.mg "bool" = none) (ha : PXs X W [e] fs) (hg : Gl X "bool" := by rfl) (he : starEach [e] X.env = (false, eval e X.env) :: starEach [] X.env := by rfl) : PX X W (.Call (.Name "bool" p) [e] [] pos) (biG fs fun a => (boolD a).map Pl.val) :=
  px_ty call_bool1 cr_bool hm ha (by decide +kernel) hg (by decide) (by decide) he rfl
def absD : List D → Option D
  | [.int i] => some (.int (if i < 0 then -i else i))
  | _ => none
theorem px_abs {p pos : Pos} {e : Expr} {fs : En → R (List Pl × En)} (hm : X.mg "abs" = none) (ha : PXs X W [e] fs) (hg : Gl X "abs" := by rfl) (he : starEach [e] X.env = (false, eval e X.env) :: starEach [] X.env := by rfl) : PX X W (.Call (.Name "abs" p) [e] [] pos) (biG fs fun a => (absD a).map Pl.val) :=
  px_bi call_abs (CRS.pure (g := absD) (by
    intro B H vs ds d Q ex h e q
    unfold absD at e
    split at e
    · cases e; obtain ⟨v, rfl, h1⟩ := h.one; rw [show v = _ from h1]; exact ⟨_, rfl, q _ rfl⟩
    · cases e)) hm ha PyProof.Rows.boot_abs hg (by decide) (by decide) he rfl
def two (f : Int → Int → Int) : List D → Option D
  | [.int i, .int j] => some (.int (f i j))
  | _ => none
theorem cr_two {f : Int → Int → Int} : CRS C (fun xs H Q => ∃ i j, xs = [.int i, .int j] ∧ Q (.int (f i j)) H) (fun a => (two f a).map Pl.val) := by
  refine CRS.pure ?_
  intro B H vs ds d Q ex h e q
  unfold two at e
  split at e
  · cases e; obtain ⟨v, w, rfl, h1, h2⟩ := h.two; rw [show v = _ from h1, show w = _ from h2]; exact ⟨_, _, rfl, q _ rfl⟩
  · cases e
def maxI (i j : Int) : Int := if j > i then j else i
def minI (i j : Int) : Int := if j < i then j else i
section
variable {p pos : Pos} {a b : Expr} {fs : En → R (List Pl × En)}
theorem px_max2 (hm : X.mg "max" = none) (ha : PXs X W [a, b] fs) (hc : X.calm = true := by rfl) (hg : Gl X "max" := by rfl) (he : starEach [a, b] X.env = (false, eval a X.env) :: starEach [b] X.env := by rfl) (hpl : (backTo pos (starEach [b] X.env)).any (·.1) = false := by rfl) :
    PX X W (.Call (.Name "max" p) [a, b] [] pos) (biG fs fun a => (two maxI a).map Pl.val) := px_bi (call_max2 hc) cr_two hm ha PyProof.Rows.boot_max hg (by decide) (by decide) he hpl
theorem px_min2 (hm : X.mg "min" = none) (ha : PXs X W [a, b] fs) (hc : X.calm = true := by rfl) (hg : Gl X "min" := by rfl) (he : starEach [a, b] X.env = (false, eval a X.env) :: starEach [b] X.env := by rfl) (hpl : (backTo pos (starEach [b] X.env)).any (·.1) = false := by rfl) :
    PX X W (.Call (.Name "min" p) [a, b] [] pos) (biG fs fun a => (two minI a).map Pl.val) := px_bi (call_min2 hc) cr_two hm ha PyProof.Rows.boot_min hg (by decide) (by decide) he hpl
end
/-- of a list of ints -/
def ofInts (f : List Int → Option D) : List D → Option D
  | [d] => ((lstOf d).bind intsOf).bind f
  | _ => none
theorem ofInts_view {B H : Hp} {f : List Int → Option D} {ds : List D} {d : D} {vs : List V} (ex : Ex B H) (h : VRepL C B H ds vs) (e : ofInts f ds = some d) : ∃ a ns, vs = [.ref a] ∧ SqL C.K H a (ns.map V.int) ∧ f ns = some d := by
  unfold ofInts at e
  split at e
  · rename_i d'
    obtain ⟨v, rfl, h1⟩ := h.one
    cases z : lstOf d' with
    | none => rw [z] at e; cases e
    | some es =>
      rw [z] at e
      dsimp only [Option.bind_some] at e
      cases z2 : intsOf es with
      | none => rw [z2] at e; cases e
      | some ns =>
        rw [z2] at e
        obtain ⟨a, ws, rfl, h2, h3⟩ := lst_view ex h1 z
        rw [intsOf_eq z2] at h3
        rw [h3.ints] at h2
        exact ⟨a, ns, rfl, h2, e⟩
  · cases e
def ofBls (f : List Bool → Bool) : List D → Option D
  | [d] => ((lstOf d).bind blsOf).map fun bs => .bl (f bs)
  | _ => none
theorem ofBls_view {B H : Hp} {f : List Bool → Bool} {ds : List D} {d : D} {vs : List V} (ex : Ex B H) (h : VRepL C B H ds vs) (e : ofBls f ds = some d) : ∃ a ns, vs = [.ref a] ∧ SqL C.K H a (ns.map V.bl) ∧ d = .bl (f ns) := by
  unfold ofBls at e
  split at e
  · rename_i d'
    obtain ⟨v, rfl, h1⟩ := h.one
    cases z : lstOf d' with
    | none => rw [z] at e; cases e
    | some es =>
      rw [z] at e
      dsimp only [Option.bind_some] at e
      cases z2 : blsOf es with
      | none => rw [z2] at e; cases e
      | some ns =>
        rw [z2] at e
        cases e
        obtain ⟨a, ws, rfl, h2, h3⟩ := lst_view ex h1 z
        rw [blsOf_eq z2] at h3
        rw [h3.bls] at h2
        exact ⟨a, ns, rfl, h2, rfl⟩
  · cases e
def maxL : List Int → Option D
  | [] => none
  | n :: ns => some (.int (ns.foldl max n))
def minL : List Int → Option D
  | [] => none
  | n :: ns => some (.int (ns.foldl min n))
theorem foldl_max_spec : ∀ (ns : List Int) (n : Int), (ns.foldl max n = n ∨ ns.foldl max n ∈ ns) ∧ n ≤ ns.foldl max n ∧ ∀ y ∈ ns, y ≤ ns.foldl max n
  | [], n => ⟨.inl rfl, Int.le_refl _, fun _ h => by cases h⟩
  | m :: ns, n => by
    obtain ⟨h1, h2, h3⟩ := foldl_max_spec ns (max n m)
    refine ⟨?_, by have : n ≤ max n m := by omega
                   exact Int.le_trans this h2, fun y hy => ?_⟩
    · rcases h1 with h1 | h1
      · rw [List.foldl_cons, h1]
        by_cases z : n ≤ m
        · right; rw [show max n m = m by omega]; exact List.mem_cons_self
        · left; omega
      · exact .inr (List.mem_cons_of_mem _ h1)
    · rcases List.mem_cons.mp hy with rfl | hy
      · exact Int.le_trans (by omega) h2
      · exact h3 y hy
theorem foldl_min_spec : ∀ (ns : List Int) (n : Int), (ns.foldl min n = n ∨ ns.foldl min n ∈ ns) ∧ ns.foldl min n ≤ n ∧ ∀ y ∈ ns, ns.foldl min n ≤ y
  | [], n => ⟨.inl rfl, Int.le_refl _, fun _ h => by cases h⟩
  | m :: ns, n => by
    obtain ⟨h1, h2, h3⟩ := foldl_min_spec ns (min n m)
    refine ⟨?_, by have : min n m ≤ n := by omega
                   exact Int.le_trans h2 this, fun y hy => ?_⟩
    · rcases h1 with h1 | h1
      · rw [List.foldl_cons, h1]
        by_cases z : m ≤ n
        · right; rw [show min n m = m by omega]; exact List.mem_cons_self
        · left; omega
      · exact .inr (List.mem_cons_of_mem _ h1)
    · rcases List.mem_cons.mp hy with rfl | hy
      · exact Int.le_trans h2 (by omega)
      · exact h3 y hy
theorem maxL_spec {ns : List Int} {d : D} (e : maxL ns = some d) : ∃ m, d = .int m ∧ m ∈ ns ∧ (∀ y ∈ ns, y ≤ m) ∧ 0 < ns.length := by
  cases ns with
  | nil => cases e
  | cons n ns =>
    cases e
    obtain ⟨h1, h2, h3⟩ := foldl_max_spec ns n
    refine ⟨_, rfl, ?_, fun y hy => ?_, by simp⟩
    · rcases h1 with h1 | h1
      · rw [h1]; exact List.mem_cons_self
      · exact List.mem_cons_of_mem _ h1
    · rcases List.mem_cons.mp hy with rfl | hy
      · exact h2
      · exact h3 y hy
theorem minL_spec {ns : List Int} {d : D} (e : minL ns = some d) : ∃ m, d = .int m ∧ m ∈ ns ∧ (∀ y ∈ ns, m ≤ y) ∧ 0 < ns.length := by
  cases ns with
  | nil => cases e
  | cons n ns =>
    cases e
    obtain ⟨h1, h2, h3⟩ := foldl_min_spec ns n
    refine ⟨_, rfl, ?_, fun y hy => ?_, by simp⟩
    · rcases h1 with h1 | h1
      · rw [h1]; exact List.mem_cons_self
      · exact List.mem_cons_of_mem _ h1
    · rcases List.mem_cons.mp hy with rfl | hy
      · exact h2
      · exact h3 y hy
section
variable {p pos : Pos} {a : Expr} {fs : En → R (List Pl × En)}
theorem px_sum (hm : X.mg "sum" = none) (ha : PXs X W [a] fs) (hc : X.calm = true := by rfl) (hg : Gl X "sum" := by rfl) (he : starEach [a] X.env = (false, eval a X.env) :: starEach [] X.env := by rfl) :
    PX X W (.Call (.Name "sum" p) [a] [] pos) (biG fs fun a => (ofInts (fun ns => some (.int ns.sum)) a).map Pl.val) :=
  px_bi (cr_sum hc) (CRS.pure (by
    intro B H vs ds d Q ex h e q
    obtain ⟨a, ns, rfl, h1, h2⟩ := ofInts_view ex h e
    cases h2
    exact ⟨a, ns, rfl, h1, q _ rfl⟩)) hm ha PyProof.Rows.boot_sum hg (by decide) (by decide) he rfl
theorem px_maxL (hm : X.mg "max" = none) (ha : PXs X W [a] fs) (hc : X.calm = true := by rfl) (hg : Gl X "max" := by rfl) (he : starEach [a] X.env = (false, eval a X.env) :: starEach [] X.env := by rfl) :
    PX X W (.Call (.Name "max" p) [a] [] pos) (biG fs fun a => (ofInts maxL a).map Pl.val) :=
  px_bi (cr_max hc) (CRS.pure (by
    intro B H vs ds d Q ex h e q
    obtain ⟨a, ns, rfl, h1, h2⟩ := ofInts_view ex h e
    obtain ⟨m, rfl, h3, h4, h5⟩ := maxL_spec h2
    refine ⟨a, ns, rfl, h1, h5, fun m' h6 h7 => ?_⟩
    have : m' = m := Int.le_antisymm (h4 _ h6) (h7 _ h3)
    rw [this]
    exact q _ rfl)) hm ha PyProof.Rows.boot_max hg (by decide) (by decide) he rfl
theorem px_minL (hm : X.mg "min" = none) (ha : PXs X W [a] fs) (hc : X.calm = true := by rfl) (hg : Gl X "min" := by rfl) (he : starEach [a] X.env = (false, eval a X.env) :: starEach [] X.env := by rfl) :
    PX X W (.Call (.Name "min" p) [a] [] pos) (biG fs fun a => (ofInts minL a).map Pl.val) :=
  px_bi (cr_min hc) (CRS.pure (by
    intro B H vs ds d Q ex h e q
    obtain ⟨a, ns, rfl, h1, h2⟩ := ofInts_view ex h e
    obtain ⟨m, rfl, h3, h4, h5⟩ := minL_spec h2
    refine ⟨a, ns, rfl, h1, h5, fun m' h6 h7 => ?_⟩
    have : m' = m := Int.le_antisymm (h7 _ h3) (h4 _ h6)
    rw [this]
    exact q _ rfl)) hm ha PyProof.Rows.boot_min hg (by decide) (by decide) he rfl
theorem px_any (hm : X.mg "any" = none) (ha : PXs X W [a] fs) (hc : X.calm = true := by rfl) (hg : Gl X "any" := by rfl) (he : starEach [a] X.env = (false, eval a X.env) :: starEach [] X.env := by rfl) :
    PX X W (.Call (.Name "any" p) [a] [] pos) (biG fs fun a => (ofBls (·.any id) a).map Pl.val) :=
  px_bi (cr_any hc) (CRS.pure (by
    intro B H vs ds d Q ex h e q
    obtain ⟨a, ns, rfl, h1, h2⟩ := ofBls_view ex h e
    cases h2
    exact ⟨a, ns, rfl, h1, q _ rfl⟩)) hm ha PyProof.Rows.boot_any hg (by decide) (by decide) he rfl
theorem px_all (hm : X.mg "all" = none) (ha : PXs X W [a] fs) (hc : X.calm = true := by rfl) (hg : Gl X "all" := by rfl) (he : starEach [a] X.env = (false, eval a X.env) :: starEach [] X.env := by rfl) :
    PX X W (.Call (.Name "all" p) [a] [] pos) (biG fs fun a => (ofBls (·.all id) a).map Pl.val) :=
  px_bi (cr_all hc) (CRS.pure (by
    intro B H vs ds d Q ex h e q
    obtain ⟨a, ns, rfl, h1, h2⟩ := ofBls_view ex h e
    cases h2
    exact ⟨a, ns, rfl, h1, q _ rfl⟩)) hm ha PyProof.Rows.boot_all hg (by decide) (by decide) he rfl
end
/-! ### a[i] -/
def ixD : D → D → Option D
  | .str s, .int i => if s.length ≤ sizeLine then (atI s.cps.toList i).map fun c => .str ⟨#[c]⟩ else none
  | d, .int i => (seqOf d).bind fun ds => atI ds i
  | _, _ => none
theorem RepL.atI {B : Hp} {ds : List D} {vs : List V} {i : Int} {d : D} (h : RepL C B ds vs) (e : L2.atI ds i = some d) : ∃ v, L2.atI vs i = some v ∧ Rep C B d v := by
  unfold L2.atI at e ⊢
  rw [h.length]
  cases z : ixN ds.length i with
  | none => rw [z] at e; cases e
  | some j => rw [z] at e; exact h.get e
theorem r2_ix : R2S C (rIx C.K) (fun a b => (ixD a b).map Pl.val) := by
  refine R2S.pure ?_
  intro B H x y d1 d2 d Q ex h1 h2 e q
  unfold ixD at e
  split at e
  · rename_i s i
    split at e
    · rename_i hl
      cases z : L2.atI s.cps.toList i with
      | none => rw [z] at e; cases e
      | some c =>
        rw [z] at e; cases e
        rw [show x = _ from h1, show y = _ from h2]
        exact .inr (.inr ⟨s, i, c, rfl, rfl, hl, z, q _ rfl⟩)
    · cases e
  · rename_i d' i _
    cases z : seqOf d1 with
    | none => rw [z] at e; cases e
    | some es =>
      rw [z] at e
      obtain ⟨a, vs, rfl, h3, h4⟩ := seq_view ex h1 z
      obtain ⟨v, h5, h6⟩ := h4.atI e
      rw [show y = _ from h2]
      rcases h3 with h3 | h3
      · exact .inl ⟨a, vs, i, v, rfl, rfl, h3, h5, q v h6⟩
      · exact .inr (.inl ⟨a, vs, i, v, rfl, rfl, h3, h5, q v h6⟩)
  · cases e
theorem px_ix {a b : Expr} {pos : Pos} {fa fb : En → R (Pl × En)} (ha : PX X W a fa) (hb : PX X W b fb) (hs : PlainIx b := by intro _ _; rfl) : PX X W (.Subscript a b pos) (bin fa fb fun a b => (ixD a b).map Pl.val) := by
  obtain ⟨ta, h1, s1⟩ := ha
  obtain ⟨tb, h2, s2⟩ := hb
  exact ⟨_, pe_ix ix_seq h1 h2 hs, sat_op r2_ix s1 s2⟩
/-! ### in -/
def flatD : D → Bool
  | .non => true
  | .bl _ => true
  | .int _ => true
  | .str _ => true
  | _ => false
def eqF : D → D → Bool
  | .non, .non => true
  | .bl a, .bl b => a == b
  | .bl a, .int b => (if a then 1 else 0) == b
  | .int a, .bl b => a == (if b then 1 else 0)
  | .int a, .int b => a == b
  | .str a, .str b => a == b
  | _, _ => false
theorem flat_rep {B : Hp} {d : D} {v : V} (h : Rep C B d v) (f : flatD d = true) : flatV v = true := by
  cases d with
  | non => rw [show v = _ from h]; rfl
  | bl b => rw [show v = _ from h]; rfl
  | int b => rw [show v = _ from h]; rfl
  | str b => rw [show v = _ from h]; rfl
  | _ => cases f
theorem eqF_rep {B : Hp} {d e : D} {v w : V} (h : Rep C B d v) (h' : Rep C B e w) (f : flatD d = true) (f' : flatD e = true) : eqV v w = eqF d e := by
  cases d with
  | non => cases e with
    | non => rw [show v = _ from h, show w = _ from h']; rfl
    | bl _ => rw [show v = _ from h, show w = _ from h']; rfl
    | int _ => rw [show v = _ from h, show w = _ from h']; rfl
    | str _ => rw [show v = _ from h, show w = _ from h']; rfl
    | _ => cases f'
  | bl b => cases e with
    | non => rw [show v = _ from h, show w = _ from h']; rfl
    | bl _ => rw [show v = _ from h, show w = _ from h']; rfl
    | int _ => rw [show v = _ from h, show w = _ from h']; rfl
    | str _ => rw [show v = _ from h, show w = _ from h']; rfl
    | _ => cases f'
  | int b => cases e with
    | non => rw [show v = _ from h, show w = _ from h']; rfl
    | bl _ => rw [show v = _ from h, show w = _ from h']; rfl
    | int _ => rw [show v = _ from h, show w = _ from h']; rfl
    | str _ => rw [show v = _ from h, show w = _ from h']; rfl
    | _ => cases f'
  | str b => cases e with
    | non => rw [show v = _ from h, show w = _ from h']; rfl
    | bl _ => rw [show v = _ from h, show w = _ from h']; rfl
    | int _ => rw [show v = _ from h, show w = _ from h']; rfl
    | str _ => rw [show v = _ from h, show w = _ from h']; rfl
    | _ => cases f'
  | _ => cases f
theorem flat_reps {B : Hp} : ∀ {ds : List D} {vs : List V}, RepL C B ds vs → ds.all flatD = true → vs.all flatV = true
  | [], _, h, _ => by rw [show _ = [] from h]; rfl
  | d :: ds, _, h, f => by
    obtain ⟨v, r, rfl, h1, h2⟩ := h
    rw [List.all_cons, Bool.and_eq_true] at f ⊢
    exact ⟨flat_rep h1 f.1, flat_reps h2 f.2⟩
theorem in_reps {B : Hp} {x : D} {y : V} (hx : Rep C B x y) (fx : flatD x = true) : ∀ {ds : List D} {vs : List V}, RepL C B ds vs → ds.all flatD = true → inV y vs = ds.any fun z => eqF z x
  | [], _, h, _ => by rw [show _ = [] from h]; rfl
  | d :: ds, _, h, f => by
    obtain ⟨v, r, rfl, h1, h2⟩ := h
    rw [List.all_cons, Bool.and_eq_true] at f
    have ih := in_reps hx fx h2 f.2
    unfold inV at ih ⊢
    rw [List.any_cons, List.any_cons, ih, eqF_rep h1 hx f.1 fx]
/-- of flat things -/
def inFl (x y : D) : Option Bool := (seqOf y).bind fun ds => if flatD x = true ∧ ds.all flatD = true then some (ds.any fun z => eqF z x) else none
theorem VRep.flat {B H : Hp} {d : D} {v : V} (h : VRep C B H d v) (f : flatD d = true) : Rep C B d v := by
  cases d with
  | lst ds => cases f
  | _ => exact h
theorem r2_inFl (neg : Bool) : R2S C (rIn C.K neg) (cmpG fun x y => (inFl x y).map fun k => if neg then !k else k) := by
  refine R2S.pure ?_
  intro B H x y d1 d2 d Q ex h1 h2 e q
  unfold inFl at e
  dsimp only at e
  cases z : seqOf d2 with
  | none => rw [z] at e; cases e
  | some ds =>
    rw [z] at e
    dsimp only [Option.bind_some] at e
    by_cases hf : flatD d1 = true ∧ ds.all flatD = true
    · rw [if_pos hf] at e
      cases e
      obtain ⟨a, vs, rfl, h3, h4⟩ := seq_view ex h2 z
      have hx := h1.flat hf.1
      refine ⟨a, vs, rfl, h3, flat_rep hx hf.1, flat_reps h4 hf.2, ?_⟩
      rw [in_reps hx hf.1 h4 hf.2]
      exact q _ rfl
    · rw [if_neg hf] at e; cases e
theorem cr_inFl : CmpR X .In inFl := ⟨_, op_in_seq, by
  have h := r2_inFl (C := Cx.ck X) false
  have e : (fun x y => (inFl x y).map fun k => if false = true then !k else k) = inFl := by
    funext x y
    cases inFl x y <;> rfl
  rw [e] at h
  exact h⟩
/-! ### isinstance of the built-in types -/
inductive T5 where
  | int | bool | str | tuple | list
def T5.nm : T5 → String
  | .int => "int" | .bool => "bool" | .str => "str" | .tuple => "tuple" | .list => "list"
def tyN : D → Option String
  | .non => some "NoneType" | .bl _ => some "bool" | .int _ => some "int" | .str _ => some "str" | .tup _ => some "tuple" | .lst _ => some "list" | .frz _ => some "list" | .obj _ _ _ => none
def isT : T5 → D → Option Bool
  | _, .obj _ _ _ => none
  | .int, .int _ => some true
  | .int, .bl _ => some true
  | .bool, .bl _ => some true
  | .str, .str _ => some true
  | .tuple, .tup _ => some true
  | .list, .lst _ => some true
  | .list, .frz _ => some true
  | _, _ => some false
theorem kitB_T : ∀ (T : T5) (a : String), a ∈ ["NoneType", "bool", "int", "str", "tuple", "list"] → kitB a T.nm = some (a == T.nm || (a == "bool" && T.nm == "int")) := by
  intro T a h
  cases T <;> (simp only [List.mem_cons, List.not_mem_nil, or_false] at h; rcases h with rfl | rfl | rfl | rfl | rfl | rfl <;> decide +kernel)
theorem isT_kit {T : T5} {d : D} {k : Bool} (e : isT T d = some k) : ∃ a, tyN d = some a ∧ kitB a T.nm = some k := by
  cases d <;> cases T <;> first | (cases e; done) | (cases e; exact ⟨_, rfl, by decide +kernel⟩)
theorem tyX_view {B H : Hp} {d : D} {v : V} {a : String} (ex : Ex B H) (h : VRep C B H d v) (e : tyN d = some a) : TyX C.K H v (.type a) := by
  cases d with
  | non => cases e; rw [show v = _ from h]; exact .base .non
  | bl b => cases e; rw [show v = _ from h]; exact .base (.bl b)
  | int b => cases e; rw [show v = _ from h]; exact .base (.int b)
  | str b => cases e; rw [show v = _ from h]; exact .base (.str b)
  | tup ds =>
    cases e
    obtain ⟨l, vs, rfl, h1, _⟩ := tup_view (ds := ds) ex h rfl
    rcases h1 with (h1 | ⟨o, h1⟩) | ⟨o, its, n, h1, h2, _⟩
    · exact .base (.tup h1)
    · exact .fTuple h1
    · exact .kTuple h1 h2
  | lst ds => cases e; obtain ⟨l, vs, rfl, h1, _⟩ := h; exact .base (.lst h1)
  | frz ds =>
    cases e
    obtain ⟨l, vs, rfl, h1, _⟩ := lst_view (ds := ds) ex h rfl
    rcases h1 with (h1 | ⟨o, h1⟩) | ⟨o, its, n, h1, h2, _⟩
    · exact .base (.lst h1)
    · exact .base (.frz h1)
    · exact .kList h1 h2
  | obj c ns ds => cases e
def isAny : List T5 → D → Option Bool
  | [], .obj _ _ _ => none
  | [], _ => some false
  | T :: Ts, d => (isT T d).bind fun k => if k = true then some true else isAny Ts d
theorem isAny_kit {K : PySem.W.Frag} {d : D} {a : String} (ha : tyN d = some a) : ∀ {Ts : List T5} {k : Bool}, isAny Ts d = some k → PySem.W.kitAny K (.type a) (Ts.map fun T => .type T.nm) = some k
  | [], k, e => by cases d <;> first | (cases ha; done) | (cases e; rfl)
  | T :: Ts, k, e => by
    unfold isAny at e
    cases z : isT T d with
    | none => rw [z] at e; cases e
    | some b =>
      rw [z] at e
      obtain ⟨a', h1, h2⟩ := isT_kit z
      rw [ha] at h1; cases h1
      dsimp only [Option.bind_some] at e
      refine kitAny_cons (kit_ty h2) (fun hb => ?_) fun hb => ?_
      · subst hb; exact isAny_kit ha e
      · subst hb; rw [if_pos rfl] at e; cases e; rfl
def isi1 (T : T5) (f : En → R (Pl × En)) : En → R (Pl × En) := una f fun d => ((isT T d).map D.bl).map Pl.val
def isiN (Ts : List T5) (f : En → R (Pl × En)) : En → R (Pl × En) := una f fun d => ((isAny Ts d).map D.bl).map Pl.val
theorem boot_T : ∀ T : T5, bootBuiltins (Str.ofString T.nm) = some (.type T.nm) := by intro T; cases T <;> decide +kernel
theorem px_isi1 {x : Str} (T : T5) {p p2 pos : Pos} {e : Expr} {f : En → R (Pl × En)} (hm : X.mg "isinstance" = none) (hx : X.mg x = none) (he : PX X W e f) (hxT : x = Str.ofString T.nm := by rfl) (hg : Gl X "isinstance" := by rfl) (hg2 : Gl X x := by rfl) (hd : (x == ("__debug__" : Str)) = false := by decide) (hn : x ≠ "__name__" := by decide)
    (hs1 : starEach [e, .Name x p2] X.env = (false, eval e X.env) :: starEach [.Name x p2] X.env := by rfl) (hs2 : starEach [.Name x p2] X.env = (false, eval (.Name x p2) X.env) :: starEach [] X.env := by rfl) (hpl : (backTo pos (starEach [.Name x p2] X.env)).any (·.1) = false := by rfl) :
    PX X W (.Call (.Name "isinstance" p) [e, .Name x p2] [] pos) (isi1 T f) := by
  obtain ⟨t, h, s⟩ := he
  have h2 : PE X (.Name x p2) (tC (.ty T.nm)) := pe_bltn hg2 hx (by rw [hxT]; exact boot_T T) (by rfl) hn hd
  refine ⟨_, pe_callB call_isi hg hm PyProof.Rows.boot_isinstance (pa_cons h (pa_cons h2 pa_nil hs2) hs1) (by decide) (by decide) hs1 hpl, ?_⟩
  refine sat_un (r := fun x H Q => rIsi X.K [x, .ty T.nm] H Q) (g := fun d => ((isT T d).map D.bl).map Pl.val) (R1S.pure ?_) s
  intro B H x d1 d Q ex h e q
  cases z : isT T d1 with
  | none => rw [z] at e; cases e
  | some k =>
    rw [z] at e; cases e
    obtain ⟨a, h1, h2⟩ := isT_kit z
    exact ⟨x, .ty T.nm, .type a, .type T.nm, k, rfl, .ty _, tyX_view ex h h1, kit_ty h2, q _ rfl⟩
/-- isinstance(x, (T1, T2)) -/
theorem px_isi2 {x y : Str} (T U : T5) {k : Nat} {p p2 p3 p4 pos : Pos} {e : Expr} {f : En → R (Pl × En)} (hm : X.mg "isinstance" = none) (hx : X.mg x = none) (hy : X.mg y = none) (he : PX X W e f) (hxT : x = Str.ofString T.nm := by rfl) (hyU : y = Str.ofString U.nm := by rfl) (hg : Gl X "isinstance" := by rfl) (hg2 : Gl X x := by rfl) (hg3 : Gl X y := by rfl) (hd : (x == ("__debug__" : Str)) = false := by decide) (hn : x ≠ "__name__" := by decide) (hd2 : (y == ("__debug__" : Str)) = false := by decide) (hn2 : y ≠ "__name__" := by decide)
    (hs1 : starEach [e, .Tuple [.Name x p2, .Name y p3] k p4] X.env = (false, eval e X.env) :: starEach [.Tuple [.Name x p2, .Name y p3] k p4] X.env := by rfl) (hs2 : starEach [.Tuple [.Name x p2, .Name y p3] k p4] X.env = (false, eval (.Tuple [.Name x p2, .Name y p3] k p4) X.env) :: starEach [] X.env := by rfl)
    (hs3 : starEach [.Name x p2, .Name y p3] X.env = (false, eval (.Name x p2) X.env) :: starEach [.Name y p3] X.env := by rfl) (hs4 : starEach [.Name y p3] X.env = (false, eval (.Name y p3) X.env) :: starEach [] X.env := by rfl) (hpl : (backTo pos (starEach [.Tuple [.Name x p2, .Name y p3] k p4] X.env)).any (·.1) = false := by rfl) :
    PX X W (.Call (.Name "isinstance" p) [e, .Tuple [.Name x p2, .Name y p3] k p4] [] pos) (isiN [T, U] f) := by
  obtain ⟨t, h, s⟩ := he
  have h2 : PE X (.Name x p2) (tC (.ty T.nm)) := pe_bltn hg2 hx (by rw [hxT]; exact boot_T T) (by rfl) hn hd
  have h3 : PE X (.Name y p3) (tC (.ty U.nm)) := pe_bltn hg3 hy (by rw [hyU]; exact boot_T U) (by rfl) hn2 hd2
  refine ⟨_, pe_callB call_isiT hg hm PyProof.Rows.boot_isinstance (pa_cons h (pa_cons (pe_tup (pa_cons h2 (pa_cons h3 pa_nil hs4) hs3)) pa_nil hs2) hs1) (by decide) (by decide) hs1 hpl, ?_⟩
  refine sat_un (r := fun x H Q => 2 ≤ sizeLine ∧ ∀ p, H p = none → rIsiT X.K [x, .ref p] (upd H p (.tup [.ty T.nm, .ty U.nm])) Q) (g := fun d => ((isAny [T, U] d).map D.bl).map Pl.val) ?_ s
  intro G eG B H σ ρ x d1 p Q S h e q
  dsimp only at e
  refine ⟨by rw [sizeLine_eq]; omega, fun p' hp => ?_⟩
  cases z : isAny [T, U] d1 with
  | none => rw [z] at e; cases e
  | some k =>
    rw [z] at e; cases e
    have ht : ∃ a, tyN d1 = some a := by
      cases d1 <;> first | exact ⟨_, rfl⟩ | (cases z; done)
    obtain ⟨a, ha⟩ := ht
    have S' := S.newI (o := .tup [.ty T.nm, .ty U.nm]) hp
    have hv : VRep (Cx.ck X) (upd B p' (.tup [.ty T.nm, .ty U.nm])) (upd H p' (.tup [.ty T.nm, .ty U.nm])) d1 x := by
      cases d1 with
      | lst ds =>
        obtain ⟨l, vs, e1, h1, h2⟩ := h
        exact ⟨l, vs, e1, by rw [upd_ne (ne_of_none h1 hp)]; exact h1, RepL.mono (Ex.new (S.bnone hp)) ds h2⟩
      | _ => exact Rep.mono (Ex.new (S.bnone hp)) _ h
    exact ⟨x, p', [.ty T.nm, .ty U.nm], .type a, [.type T.nm, .type U.nm], k, rfl, upd_same, .cons (.ty _) (.cons (.ty _) .nil), tyX_view S'.ex hv ha, isAny_kit ha z, q _ _ _ S' (StT.newI S hp) rfl⟩
end DL
set_option Elab.async false
set_option linter.all false
set_option maxRecDepth 100000
set_option autoImplicit false
namespace DL
open PySem PySem.Spec PyProof.Rows L2
open Evl (Ex)
variable [Tb] {X : Cx} {W : WX} {C : Ck}

/-! ### a list's method -/
def MRS (C : Ck) (r : V → List V → Hp → VK → Prop) (g : List D → List D → Option (List D × D)) : Prop := ∀ (B H : Hp) (l : Addr) (vs xs : List V) (ds as ds' : List D) (d : D) (Q : VK), Ex B H → B l = none → H l = some (.lst vs) → RepL C B ds vs → RepL C B as xs → g ds as = some (ds', d) →
  (∀ vs' v, RepL C B ds' vs' → Rep C B d v → Q v (upd H l (.lst vs'))) → r (.ref l) xs H Q
def methG (j : Nat) (fs : En → R (List Pl × En)) (g : List D → List D → Option (List D × D)) : En → R (Pl × En) := fun ρ => match ρ[j]? with
  | some (some (.mu _ _)) => (fs ρ).bind fun p => (immPs p.2 p.1).bind fun as => match p.2[j]? with
    | some (some (.mu o ds)) => (oR (g ds as)).bind fun z => .ok (.val z.2, p.2.set j (some (.mu o z.1)))
    | _ => .stk
  | _ => .stk
theorem sat_meth {r : V → List V → Hp → VK → Prop} {g : List D → List D → Option (List D × D)} {t : TA} {fs : En → R (List Pl × En)} (j : Nat) (hr : MRS C r g) (h : Sat C W relA t fs) : Sat C W relP (tBM C.K "list" r (tVar j) t) (methG j fs g) := by
  intro G eG B H σ ρ Q S hp
  unfold methG at hp
  split at hp
  case h_2 => exact hp.elim
  rename_i o0 ds0 q0
  obtain ⟨l, vs0, e1, h1, h2, h3, _⟩ := S.mu j o0 ds0 q0
  refine ⟨.ref l, e1, .inl ⟨rfl, vs0, SqL.of h1⟩, h G eG B H σ ρ _ S ?_⟩
  cases q1 : fs ρ with
  | stk => rw [q1] at hp; exact hp
  | exn c ns ds ρ' => rw [q1] at hp; exact hp
  | ok p =>
    obtain ⟨ps, ρ1⟩ := p
    rw [q1] at hp
    intro B1 H1 xs S1 st rel
    simp only [R.ok_bind] at hp
    subst eG
    cases q2 : immPs ρ1 ps with
    | exn c ns ds ρ' => exact (immPs_exn q2).elim
    | stk => rw [q2] at hp; exact hp.elim
    | ok as =>
      rw [q2] at hp
      simp only [R.ok_bind] at hp
      split at hp
      case h_2 => exact hp.elim
      rename_i o ds q3
      cases q4 : g ds as with
      | none => rw [q4] at hp; exact hp.elim
      | some z =>
        rw [q4] at hp
        obtain ⟨l', vs, e2, a1, a2, a3, _⟩ := S1.mu j o ds q3
        rw [e1] at e2; cases e2
        refine hr B1 H1 l vs xs ds as z.1 z.2 Q S1.ex a2 a1 a3 (immPs_ok S1 rel q2) q4 fun vs' v r1 r2 => ?_
        obtain ⟨S2, st2⟩ := S1.write q3 e1 r1
        exact hp B1 _ v S2 (st.trans st2) r2
section
variable {r : V → List V → Hp → VK → Prop} {g : List D → List D → Option (List D × D)} {fs : En → R (List Pl × En)} {x name : Str} {px apos cpos : Pos} {e : Expr} {es : List Expr} {id : String}
theorem px_meth (j : Nat) (pa : PlainAttrs "list") (slot : Slot "list" name id) (hty : typeOf (.builtin id) = pure (.type "method_descriptor")) (hm : MtR X id r) (hr : MRS (Cx.ck X) r g) (ha : PXs X W (e :: es) fs) (hN : X.N[j]? = some x := by rfl) (hv : Vis X.env.scope x := by first | exact Or.inl rfl | exact Or.inr (Or.inl rfl) | exact Or.inr (Or.inr rfl)) (hd : (x == ("__debug__" : Str)) = false := by decide) (hcd : (x == ("__classdict__" : Str)) = false := by decide)
    (hbase : attributeBase (.Name x px) name X.env (eval (.Name x px) X.env) = eval (.Name x px) X.env := by rfl)
    (hfew : ((backTo cpos (starEach (e :: es) X.env)).all (fun x => !x.1) && (backToKw cpos (keywordEach [] X.env)).all (fun x => x.1.isSome)
      && decide ((e :: es).length + ([] : List Keyword).length + (if ([] : List Keyword).isEmpty then 0 else 1) < 30)) = true := by rfl)
    (hline : (apos.endLine == cpos.line) = true := by rfl) (hs : starEach (e :: es) X.env = (false, eval e X.env) :: starEach es X.env := by rfl) (hplain : (backTo cpos (starEach es X.env)).any (·.1) = false := by rfl) :
    PX X W (.Call (.Attribute (.Name x px) name apos) (e :: es) [] cpos) (methG j fs g) := by
  obtain ⟨t, h, s⟩ := ha
  exact ⟨_, pe_bm pa slot hty hm (pe_var hN hv hd hcd) h hbase hfew hline hs hplain, sat_meth j hr s⟩
end
def appD : List D → List D → Option (List D × D)
  | ds, [d] => if ds.length < sizeLine then some (ds ++ [d], .non) else none
  | _, _ => none
theorem mr_app : MRS C rAppend appD := by
  intro B H l vs xs ds as ds' d Q ex hb hl r1 r2 e q
  unfold appD at e
  split at e
  · rename_i d0
    split at e
    · rename_i hz
      cases e
      obtain ⟨v, r, rfl, a1, a2⟩ := r2
      rw [show r = [] from a2]
      exact ⟨l, vs, v, rfl, rfl, hl, by rw [r1.length]; exact hz, q _ _ (RepL.append r1 (RepL.one a1)) rfl⟩
    · cases e
  · cases e
def popAtD : List D → List D → Option (List D × D)
  | ds, [.int i] => if -(2 ^ 63) ≤ i ∧ i < 2 ^ 63 then (seqIndex? i ds.length).bind fun k => (ds[k]?).map fun d => (ds.eraseIdx k, d) else none
  | _, _ => none
theorem mr_popAt : MRS C rPopAt popAtD := by
  intro B H l vs xs ds as ds' d Q ex hb hl r1 r2 e q
  unfold popAtD at e
  split at e
  · rename_i i
    split at e
    · rename_i hz
      obtain ⟨v, r, rfl, a1, a2⟩ := r2
      rw [show r = [] from a2, show v = _ from a1]
      cases z : seqIndex? i ds.length with
      | none => rw [z] at e; cases e
      | some k =>
        rw [z] at e
        dsimp only [Option.bind_some] at e
        cases z2 : ds[k]? with
        | none => rw [z2] at e; cases e
        | some d0 =>
          rw [z2] at e; cases e
          obtain ⟨w, b1, b2⟩ := r1.get z2
          exact ⟨l, vs, i, k, w, rfl, rfl, hl, hz.1, hz.2, by rw [r1.length]; exact z, b1, q _ _ (RepL.erase k r1) b2⟩
    · cases e
  · cases e
section
variable {fs : En → R (List Pl × En)} {x : Str} {px apos cpos : Pos} {e : Expr}
theorem px_append (j : Nat) (ha : PXs X W [e] fs) (hN : X.N[j]? = some x := by rfl) (hv : Vis X.env.scope x := by first | exact Or.inl rfl | exact Or.inr (Or.inl rfl) | exact Or.inr (Or.inr rfl)) (hd : (x == ("__debug__" : Str)) = false := by decide) (hcd : (x == ("__classdict__" : Str)) = false := by decide)
    (hbase : attributeBase (.Name x px) "append" X.env (eval (.Name x px) X.env) = eval (.Name x px) X.env := by rfl)
    (hfew : ((backTo cpos (starEach [e] X.env)).all (fun x => !x.1) && (backToKw cpos (keywordEach [] X.env)).all (fun x => x.1.isSome)
      && decide ([e].length + ([] : List Keyword).length + (if ([] : List Keyword).isEmpty then 0 else 1) < 30)) = true := by rfl)
    (hline : (apos.endLine == cpos.line) = true := by rfl) (hs : starEach [e] X.env = (false, eval e X.env) :: starEach [] X.env := by rfl) :
    PX X W (.Call (.Attribute (.Name x px) "append" apos) [e] [] cpos) (methG j fs appD) := px_meth j PySem.F.plainAttrs_list PySem.F.slot_list_append PySem.F.type_list_append mt_append mr_app ha hN hv hd hcd hbase hfew hline hs rfl
theorem px_popAt (j : Nat) (ha : PXs X W [e] fs) (hN : X.N[j]? = some x := by rfl) (hv : Vis X.env.scope x := by first | exact Or.inl rfl | exact Or.inr (Or.inl rfl) | exact Or.inr (Or.inr rfl)) (hd : (x == ("__debug__" : Str)) = false := by decide) (hcd : (x == ("__classdict__" : Str)) = false := by decide)
    (hbase : attributeBase (.Name x px) "pop" X.env (eval (.Name x px) X.env) = eval (.Name x px) X.env := by rfl)
    (hfew : ((backTo cpos (starEach [e] X.env)).all (fun x => !x.1) && (backToKw cpos (keywordEach [] X.env)).all (fun x => x.1.isSome)
      && decide ([e].length + ([] : List Keyword).length + (if ([] : List Keyword).isEmpty then 0 else 1) < 30)) = true := by rfl)
    (hline : (apos.endLine == cpos.line) = true := by rfl) (hs : starEach [e] X.env = (false, eval e X.env) :: starEach [] X.env := by rfl) :
    PX X W (.Call (.Attribute (.Name x px) "pop" apos) [e] [] cpos) (methG j fs popAtD) := px_meth j PySem.F.plainAttrs_list PySem.F.slot_list_pop PySem.F.type_list_pop mt_popAt mr_popAt ha hN hv hd hcd hbase hfew hline hs rfl
end
/-! ### x[i] = e -/
def setK (j : Nat) (fi : En → R (Pl × En)) (d : D) : En → R Fl := fun ρ => match ρ[j]? with
  | some (some (.mu _ _)) => (toI fi ρ).bind fun r => match r.2[j]?, r.1 with
    | some (some (.mu o ds)), .int k => (oR (ixN ds.length k)).bind fun n => .ok (.nx (r.2.set j (some (.mu o (ds.set n d)))))
    | _, _ => .stk
  | _ => .stk
def setG (j : Nat) (fe fi : En → R (Pl × En)) : En → R Fl := fun ρ => (toI fe ρ).bind fun p => setK j fi p.1 p.2
theorem ps_setI {x : Str} {px ps pos : Pos} {ie e : Expr} {fe fi : En → R (Pl × En)} (j : Nat) (he : PX X W e fe) (hi : PX X W ie fi) (hN : X.N[j]? = some x := by rfl) (hv : Vis X.env.scope x := by first | exact Or.inl rfl | exact Or.inr (Or.inl rfl) | exact Or.inr (Or.inr rfl)) (hd : (x == ("__debug__" : Str)) = false := by decide) (hcd : (x == ("__classdict__" : Str)) = false := by decide)
    (hs : swapsWithSole [.Subscript (.Name x px) ie ps] e pos.line X.env = pure false := by rfl) (hw : swappedStores [.Subscript (.Name x px) ie ps] e X.env = pure none := by rfl) (h1 : (assignEach [.Subscript (.Name x px) ie ps] X.env).map (·.2) = [assign (.Subscript (.Name x px) ie ps) X.env] := by rfl)
    (ha : ∀ v, assign (.Subscript (.Name x px) ie ps) X.env v = (do
      let ov ← holding [v] (eval (.Name x px) X.env)
      let iv ← holding [v, ov] (eval ie X.env)
      standAt ps
      holding [v, ov, iv] (setItem ov iv v)
      release [v, ov, iv] []) := by intro _; rfl) :
    PSt X W (.Assign [.Subscript (.Name x px) ie ps] e pos) (setG j fe fi) := by
  obtain ⟨t, h, s⟩ := he
  obtain ⟨u, h', s'⟩ := hi
  refine ⟨_, ps_asg h (pg_sub (pe_var hN hv hd hcd) h' set_list ha) hs hw h1, SSat.of (k := fun E x σ H1 => gSub (tVar j) u rSetL x σ H1 E.nx) (g := fun d ρ1 => setK j fi d ρ1) s.imm ?_⟩
  intro d G eG B H σ ρ B1 H1 ρ1 y E S S1 st rel hp
  unfold setK at hp
  split at hp
  case h_2 => exact hp.elim
  rename_i o0 ds0 q0
  obtain ⟨l, vs0, e1, a1, a2, a3, _⟩ := S1.mu j o0 ds0 q0
  refine ⟨.ref l, e1, s'.imm G eG B1 H1 σ ρ1 _ S1 ?_⟩
  cases q : toI fi ρ1 with
  | stk => rw [q] at hp; exact hp.elim
  | exn c ns ds ρ' =>
    rw [q] at hp
    exact fun B' H' A d vs S2 st2 => hp B' H' σ A d vs st2.tr.ex S2
  | ok p =>
    obtain ⟨di, ρ2⟩ := p
    rw [q] at hp
    intro B2 H2 i S2 st2 ri
    simp only [R.ok_bind] at hp
    split at hp
    case h_2 => exact hp.elim
    rename_i o ds k q2
    cases q3 : ixN ds.length k with
    | none => rw [q3] at hp; exact hp.elim
    | some n =>
      rw [q3] at hp
      obtain ⟨l', vs, e2, b1, b2, b3, _⟩ := S2.mu j o ds q2
      rw [e1] at e2; cases e2
      have ri : i = .int k := ri
      subst ri
      have rel : Rep (Cx.ck X) B1 d y := rel
      rw [← eG] at rel
      have b4 := RepL.set n b3 (Rep.mono st2.tr.ex d rel)
      obtain ⟨S3, st3⟩ := S2.write q2 e1 b4
      exact ⟨l, vs, k, n, rfl, rfl, b1, by rw [b3.length]; exact q3, hp B2 _ σ st2.tr.ex S3⟩
/-! ### slices -/
def relO : Relt (Option Int) (Option Int) := fun _ _ _ _ _ a b => a = b
def PXO (X : Cx) (W : WX) (o : Option Expr) (f : En → R (Option Int × En)) : Prop := ∃ t, PO X o t ∧ Sat (Cx.ck X) W relO t f
def noO : En → R (Option Int × En) := fun ρ => .ok (none, ρ)
def someO (f : En → R (Pl × En)) : En → R (Option Int × En) := fun ρ => (toI f ρ).bind fun p => match p.1 with
  | .int i => .ok (some i, p.2)
  | _ => .stk
theorem pxo_none : PXO X W none noO := ⟨_, po_none, fun G eG B H σ ρ Q S hp => hp B H none S (StT.refl _ _ _ _) rfl⟩
theorem pxo_some {e : Expr} {f : En → R (Pl × En)} (h : PX X W e f) : PXO X W (some e) (someO f) := by
  obtain ⟨t, h, s⟩ := h
  refine ⟨_, po_some h, ?_⟩
  refine Sat.bind (R2 := relO) (t2 := fun x σ H1 Q => ∃ i, x = .int i ∧ Q (some i) H1) (f2 := fun d ρ1 => match d with
    | .int i => .ok (some i, ρ1)
    | _ => .stk) s.imm ?_
  intro d G eG B H σ ρ B1 H1 ρ1 y Q S S1 st rel hp
  cases d with
  | int i => exact ⟨i, rel, hp B1 H1 _ S1 st rfl⟩
  | _ => exact hp.elim
def cutD (ds : List D) (lo hi : Option Int) : List D := (ds.drop (HT.sIx ds.length 0 lo)).take (HT.sIx ds.length ds.length hi - HT.sIx ds.length 0 lo)
theorem RepL.cut {B : Hp} {ds : List D} {vs : List V} (lo hi : Option Int) (h : RepL C B ds vs) : RepL C B (cutD ds lo hi) (cutV vs lo hi) := by
  unfold cutD cutV
  rw [h.length]
  exact RepL.take _ (RepL.drop _ h)
def slD (lo hi : Option Int) : D → Option Pl
  | .str s => if s.length ≤ sizeLine then some (.val (.str (cutS s lo hi))) else none
  | .tup ds => some (.val (.tup (cutD ds lo hi)))
  | .lst ds => some (.new (cutD ds lo hi))
  | .frz ds => some (.new (cutD ds lo hi))
  | _ => none
def slG (f : En → R (Pl × En)) (fl fh : En → R (Option Int × En)) : En → R (Pl × En) := fun ρ => (f ρ).bind fun p => (fl p.2).bind fun l => (fh l.2).bind fun h => (view h.2 p.1).bind fun d => (oR (slD l.1 h.1 d)).bind fun z => .ok (z, h.2)
theorem sl_ok {G : Gh} {B H : Hp} {σ : St} {ρ : En} {x : V} {d : D} {lo hi : Option Int} {p : Pl} {Q : VK} (S : SO G B H σ ρ) (h : VRep G.C B H d x) (e : slD lo hi d = some p) (q : ∀ B' H' v, SO G B' H' σ ρ → StT σ ρ B H ρ B' H' → plRep G.C H σ B' H' p v → Q v H') :
    (rSlL G.C.K x lo hi H Q ∨ rSlA G.C.K x lo hi H Q) ∨ rSlS x lo hi H Q := by
  cases d with
  | str s =>
    unfold slD at e
    dsimp only at e
    split at e
    · rename_i hl
      cases e
      exact .inr ⟨s, h, hl, q B H _ S (StT.refl _ _ _ _) rfl⟩
    · cases e
  | tup ds =>
    cases e
    obtain ⟨a, vs, rfl, h1, h2⟩ := h
    refine .inl (.inr ⟨a, vs, rfl, Evl.ex_t S.ex h1, fun z => ?_, fun _ => newT S (h2.cut lo hi) q⟩)
    refine q B H _ S (StT.refl _ _ _ _) ⟨a, vs, rfl, h1, ?_⟩
    have e : cutD ds lo hi = ds := by
      unfold cutD
      rw [h2.length] at z
      rw [z.1, z.2, List.drop_zero, Nat.sub_zero, List.take_length]
    rw [e]
    exact h2
  | lst ds =>
    cases e
    obtain ⟨a, vs, rfl, h1, h2⟩ := lst_view (ds := ds) S.ex h rfl
    exact .inl (.inl ⟨a, vs, rfl, h1, newL S (h2.cut lo hi) q⟩)
  | frz ds =>
    cases e
    obtain ⟨a, vs, rfl, h1, h2⟩ := lst_view (ds := ds) S.ex h rfl
    exact .inl (.inl ⟨a, vs, rfl, h1, newL S (h2.cut lo hi) q⟩)
  | _ => cases e
theorem rsO : RS relO := fun C Hs Hs' σ B H a y dm h => h
theorem px_slice {e : Expr} {lo hi : Option Expr} {p2 pos : Pos} {f : En → R (Pl × En)} {fl fh : En → R (Option Int × En)} (he : PX X W e f) (hl : PXO X W lo fl) (hh : PXO X W hi fh) : PX X W (.Subscript e (.Slice lo hi none p2) pos) (slG f fl fh) := by
  obtain ⟨t, h1, s1⟩ := he
  obtain ⟨tl, h2, s2⟩ := hl
  obtain ⟨th, h3, s3⟩ := hh
  refine ⟨_, pe_slice ((sl_list.or sl_tupA).or sl_str) h1 h2 h3, ?_⟩
  refine Sat.bind (R2 := relP) (t2 := fun x σ H1 Q => tl σ H1 fun l H2 => th σ H2 fun u H3 => (rSlL X.K x l u H3 Q ∨ rSlA X.K x l u H3 Q) ∨ rSlS x l u H3 Q) (f2 := fun p ρ1 => (fl ρ1).bind fun l => (fh l.2).bind fun h => (view h.2 p).bind fun d => (oR (slD l.1 h.1 d)).bind fun z => .ok (z, h.2)) s1 ?_
  intro p G eG B H σ ρ B1 H1 ρ1 x Q S S1 st rel hp
  refine s2 G eG B1 H1 σ ρ1 _ S1 ?_
  cases e1 : fl ρ1 with
  | exn c ns ds ρ' => rw [e1] at hp; exact fun B' H' A d vs S' s' => hp B' H' A d vs S' (st.trans s')
  | stk => rw [e1] at hp; exact hp
  | ok l =>
    obtain ⟨l, ρ2⟩ := l
    rw [e1] at hp
    intro B2 H2 l' S2 st2 rl
    obtain rfl : l = l' := rl
    simp only [R.ok_bind] at hp
    have st12 := st.trans st2
    refine s3 G eG B2 H2 σ ρ2 _ S2 ?_
    cases e2 : fh ρ2 with
    | exn c ns ds ρ' => rw [e2] at hp; exact fun B' H' A d vs S' s' => hp B' H' A d vs S' (st12.trans s')
    | stk => rw [e2] at hp; exact hp
    | ok u =>
      obtain ⟨u, ρ3⟩ := u
      rw [e2] at hp
      intro B3 H3 u' S3 st3 ru
      obtain rfl : u = u' := ru
      simp only [R.ok_bind] at hp
      have st23 := st2.trans st3
      have st13 := st12.trans st3
      have eK : X.K = G.C.K := by rw [eG]
      have rel : plRep G.C H σ B1 H1 p x := by rw [eG]; exact rel
      have rel1' : plRep G.C H σ B3 H3 p x := plRep.step S1 (fun b hb => MuA.there S b (st.mu b hb)) rel st23
      cases v1 : view ρ3 p with
      | exn c ns ds ρ' => exact (view_exn v1).elim
      | stk => rw [v1] at hp; exact hp.elim
      | ok d =>
        rw [v1] at hp
        simp only [R.ok_bind] at hp
        cases v3 : slD l u d with
        | none => rw [v3] at hp; exact hp.elim
        | some z =>
          rw [v3] at hp
          rw [eK]
          exact sl_ok S3 (view_ok S3 rel1' v1) v3 fun B' H' v S4 st4 rz => hp B' H' v S4 (st13.trans st4) (by have rz' := plRep.start rz st13.tr.dm; rw [eG] at rz'; exact rz')
end DL
set_option Elab.async false
set_option linter.all false
set_option maxRecDepth 100000
set_option autoImplicit false
namespace DL
open PySem PySem.Spec PyProof.Rows L2
open Evl (Ex)

/-! ### walks over things that stay, in new tuples -/
def ItW (SH : Hp → Prop) (n : Nat) (Pv : Nat → List V → Prop) : It := ⟨fun i H => SH H ∧ i < n, fun i H x H' => ∃ T vs, x = .ref T ∧ H T = none ∧ H' = upd H T (.tup vs) ∧ Pv i vs, fun i H => SH H ∧ i = n⟩
theorem turn_walks {P : Program} {w : World} {K : PySem.W.Frag} {elts : List Expr} {kk : Nat} {tpos : Pos} {SH : Hp → Prop} {n : Nat} {Pv : Nat → List V → Prop} {I : Addr} {fpT fpW wr : List Addr} {ι : Type} {nz : ι → Nat} {tn : Nat → Heap → Prop} {St : ι → Nat → Heap → Prop} {Src : ι → Heap → Prop} {Pt : ι → Nat → Array Value → Prop} {Mid : ι → Nat → Addr → Heap → Prop}
    (hmem : I ∈ fpT) (hwr : ∀ b ∈ wr, b ∈ fpT) (hobj : ∀ i h, tn i h → ∀ b ∈ fpT, ∃ o, h.get? b = some o ∧ ∀ v, o.data ≠ .cell v) (hkeep : ∀ i h h', tn i h → (∀ b ∈ fpT, ∀ o, h.get? b = some o → h'.get? b = some o) → tn i h')
    (WT : ∀ (z : ι) (A : Around), A.handled = none → WalksT P w A I fpW wr (nz z) (Pt z) (St z) (Mid z)) (hst : ∀ z i h, St z i h ↔ tn i h ∧ Src z h) (hself : ∀ (A : Around) (i : Nat) (s : Shared) (Q : Value → Shared → Prop) (E : Value → Shared → Prop), tn i s.heap → Q (.ref I) s → wpAny (model P w) A (pyIter (.ref I)) Q E s)
    (hsrc : ∀ X : Cx, X.prog = P → X.w = w → X.K = K → ∀ (pins : List (Addr × Obj)) (s : Shared) (σ : L2.St) (H : Hp), Inv X pins σ H s → SH H → ∃ z, nz z = n ∧ Src z s.heap ∧ ∀ i vals, Pt z i vals → i < n → ∃ vs, Pv i vs ∧ vs.length ≤ 1000 ∧ Vals vs vals.toList) :
    Turn P w K (.Tuple elts kk tpos) (ItW SH n Pv) fpT I tn where
  mem := hmem
  obj := hobj
  keep := hkeep
  item := by
    intro X hP hw hK hc i pins s σ H E J hf st ⟨hS, hi⟩
    obtain ⟨z, hn, src, hv⟩ := hsrc X hP hw hK pins s σ H J hS
    subst hP hw hK hn
    refine (WT z X.A (J.ok.hd hc)).item i s _ E hi ((hst z i _).mpr ⟨st, src⟩) fun T vals h' tk hPt hT hTup hMid hk => ?_
    refine ⟨_, rfl, (WT z X.A (J.ok.hd hc)).go elts kk tpos i T { s with heap := h', toks := tk } _ _ hMid fun h'' hst2 hk2 => ?_⟩
    obtain ⟨vs, pv, hl, rv⟩ := hv i vals hPt hi
    obtain ⟨o, ho, hcl, hd⟩ := hTup
    have ho2 : h''.get? T = some o := hk2 T o ((WT z X.A (J.ok.hd hc)).apart i T h' hMid) ho
    have hl' : vs.length ≤ sizeLine := Nat.le_of_lt (small1000 hl)
    have new : ObjOk X.prog X.w (upd H T (.tup vs)) h'' T (.tup vs) := by
      obtain ⟨m, hd⟩ := hd
      exact ⟨hl', vals.toList, rv, ⟨o, ho2, hcl, m, by rw [Array.toArray_toList]; exact hd⟩⟩
    have I1 : Inv X pins σ (upd H T (.tup vs)) { s with heap := h'', toks := tk } := J.turnedNew (ch := wr) (fun b ob hb q => hk2 b ob hb (hk b ob hb q)) (fun b hb => hf b (hwr b hb)) hT new
    refine ⟨.ref T, _, I1, rfl, ⟨T, vs, rfl, J.hok.fresh hT, rfl, pv⟩, ((hst z _ _).mp hst2).1, fun b hb => ?_⟩
    obtain ⟨ob, hob, _⟩ := hobj i _ st b hb
    rw [upd_ne (Nat.ne_of_lt (Nat.lt_of_lt_of_le (Heap.lt_size hob) hT))]
    exact (hf b hb).1
  done := by
    intro X hP hw hK hc i pins s σ H E J hf st ⟨hS, hi⟩
    obtain ⟨z, hn, src, hv⟩ := hsrc X hP hw hK pins s σ H J hS
    subst hP hw hK hn hi
    exact (WT z X.A (J.ok.hd hc)).done s _ E ((hst z _ _).mpr ⟨st, src⟩) fun h' tk hk => ⟨rfl, J.turnedL (ch := wr) (fun b o hb q => hk b o hb q) fun b hb => hf b (hwr b hb)⟩
  self := hself
/-! lists and tuples alike -/
def IsIt : Bool → Heap → Addr → Addr → Nat → Prop
  | true, h, it, l, i => h.IsListIter it l i
  | false, h, it, l, i => h.IsTupleIter it l i
def IsSq : Bool → Heap → Addr → Array Value → Prop
  | true, h, l, vs => h.IsList l vs
  | false, h, l, vs => h.IsTuple l vs
def SqB : Bool → PySem.W.Frag → Hp → Addr → List V → Prop
  | true, K, H, a, xs => SqL K H a xs
  | false, K, H, a, xs => SqT K H a xs
def itO : Bool → Addr → Obj
  | true, l => { cls := .type "list_iterator", data := .fields #[.ref l, .int 0 0] }
  | false, l => { cls := .type "tuple_iterator", data := .fields #[.ref l, .int 0 0] }
theorem draws_sq {P : Program} {w : World} {A : Around} (b : Bool) (hh : A.handled = none) (it l : Addr) (hne : l ≠ it) (items : Array Value) : Draws P w A it [it, l] items.size (fun i v => items[i]? = some v) (fun i h => IsIt b h it l i ∧ IsSq b h l items) := by
  cases b
  · exact Draws.tuple hh it l hne items
  · exact Draws.list hh it l hne items
theorem begins_sq (b : Bool) (l : Addr) (items : Array Value) : Begins (.ref l) (itO b l) fun h => IsSq b h l items := by
  cases b
  · exact begins_tuple l items
  · exact begins_list l items
theorem isIt_new (b : Bool) {h : Heap} {it l : Addr} (e : h.get? it = some (itO b l)) : IsIt b h it l 0 := by
  cases b <;> exact ⟨_, e, rfl, rfl⟩
theorem isIt_obj (b : Bool) {h : Heap} {it l : Addr} {i : Nat} (q : IsIt b h it l i) : ∃ o, h.get? it = some o ∧ ∀ v, o.data ≠ .cell v := by
  cases b
  · obtain ⟨o, ho, hc, hd⟩ := q
    exact ⟨o, ho, fun v z => by rw [hd] at z; cases z⟩
  · obtain ⟨o, ho, hc, hd⟩ := q
    exact ⟨o, ho, fun v z => by rw [hd] at z; cases z⟩
theorem isIt_keep (b : Bool) {h h' : Heap} {it l : Addr} {i : Nat} (q : IsIt b h it l i) (k : ∀ o, h.get? it = some o → h'.get? it = some o) : IsIt b h' it l i := by
  cases b
  · obtain ⟨o, ho, r⟩ := q; exact ⟨o, k o ho, r⟩
  · obtain ⟨o, ho, r⟩ := q; exact ⟨o, k o ho, r⟩
theorem inv_sq (b : Bool) {X : Cx} {pins : List (Addr × Obj)} {σ : L2.St} {H : Hp} {s : Shared} {a : Addr} {xs : List V} (I : Inv X pins σ H s) (h : SqB b X.K H a xs) : ∃ its : List Value, Vals xs its ∧ IsSq b s.heap a its.toArray := by
  cases b
  · obtain ⟨its, rv, p, _⟩ := I.tuple h; exact ⟨its, rv, p⟩
  · obtain ⟨its, rv, p, _⟩ := I.list h; exact ⟨its, rv, p.isList⟩
theorem isSq_lt (b : Bool) {h : Heap} {a : Addr} {v : Array Value} (p : IsSq b h a v) : a < h.objs.size := by
  cases b
  · obtain ⟨o, ho, _⟩ := p; exact Heap.lt_size ho
  · obtain ⟨o, ho, _⟩ := p; exact Heap.lt_size ho
/-! ### enumerate -/
theorem enum_new1 {v : Value} {o : Obj} {Hh : Heap → Prop} (B : Begins v o Hh) : Meets (Builtin.«enumerate.__new__» ⟨[.type "enumerate", v], []⟩) (fun _ R s => Hh s.heap ∧
    R (.ok (.ret (.ref (s.heap.push o).objs.size))) { s with heap := (s.heap.push o).push { cls := .type "enumerate", data := .fields #[.none, .bool false, .ref s.heap.objs.size, rawInt 0, .none, .none] } }) :=
  .of_wp fun prog w A R s h => by
    obtain ⟨hp, g, d, tk, os⟩ := s
    obtain ⟨h1, h⟩ := h
    have hsub := sub_enumerate
    have begin_ : ∀ {A' : Around} {E Q : Value → Shared → Prop}, Q (.ref hp.objs.size) ⟨hp.push o, g, d, tk, os⟩ → wpAny (model prog w) A' (pyIter v) Q E ⟨hp, g, d, tk, os⟩ := fun q => B.iter prog w _ _ ⟨hp, g, d, tk, os⟩ _ h1 q
    wp_walk using begin_
    refine wpAny_stack_any fun st => wpAny_pure ?_
    split
    · rename_i c _ _ _ _ _
      cases (c == Value.type "enumerate") <;> (wp_walk using begin_; exact ⟨_, rfl, h⟩)
    · wp_walk using begin_
      exact ⟨_, rfl, h⟩
theorem enum_call {prog : Program} {w : World} {A : Around} {E : Value → Shared → Prop} {s : Shared} {v : Value} {o : Obj} {Hh : Heap → Prop} {Q : Value → Shared → Prop} (B : Begins v o Hh) (h1 : Hh s.heap)
    (h : ∀ h', IsEnum h' (s.heap.objs.size + 1) s.heap.objs.size 0 .none → h'.get? s.heap.objs.size = some o → (∀ b o, s.heap.get? b = some o → h'.get? b = some o) → Q (.ref (s.heap.objs.size + 1)) { s with heap := h' }) :
    wpAny (model prog w) A (call (.type "enumerate") [v]) Q E s := by
  apply callType_new F.called_enumerate (by decide) (F.typeCall_enumerate_1 _) (F.newCall_enumerate_1 _) (fun obj => F.args_object_init_2 obj _) F.entry_enumerate_new (enum_new1 B)
  refine ⟨h1, ?_⟩
  have hz : (s.heap.push o).objs.size = s.heap.objs.size + 1 := Heap.size_push ..
  show _ ∧ _
  rw [hz]
  have he := Heap.get?_push_size (s.heap.push o) (o := { cls := .type "enumerate", data := .fields #[.none, .bool false, .ref s.heap.objs.size, rawInt 0, .none, .none] }) rfl
  rw [hz] at he
  exact ⟨⟨_, he, rfl⟩, h _ he (Heap.get?_push_of_some _ (Heap.get?_push_size _ B.free)) fun b o x => Heap.get?_push_of_some _ (Heap.get?_push_of_some _ x)⟩
def iEnA (K : PySem.W.Frag) (ta : TA) : TI := fun σ H R => ta σ H fun vs H1 => ∃ b a xs, vs = [.ref a] ∧ SqB b K H1 a xs ∧ R (ItW (fun H => SqB b K H a xs) xs.length fun i vs => ∃ x, xs[i]? = some x ∧ vs = [.int (i : Nat), x]) H1
theorem pi_enumA {X : Cx} {e : Expr} {ta : TA} {p pos tpos : Pos} {elts : List Expr} {kk : Nat} (hg : Gl X "enumerate") (hm : X.mg "enumerate" = none) (ha : PA X [e] ta) (hs : starEach [e] X.env = [(false, eval e X.env)]) : PI X (.Tuple elts kk tpos) (.Call (.Name "enumerate" p) [e] [] pos) (iEnA X.K ta) := by
  refine ⟨fun pins s σ H R I h => ?_⟩
  refine Call_ (ld_blt I hg hm boot_enumerate (PyProof.Rows.callWith_type1 (thn (ha.run pos pins s σ H _ I h) fun us s1 ⟨vs, H1, I1, r1, q1⟩ => ?_) hs rfl))
  obtain ⟨b, a, xs, rfl, hq, q⟩ := q1
  obtain ⟨u, rfl, ru⟩ := Vals.one r1
  obtain rfl : u = .ref a := ru
  obtain ⟨its, rv, hsq⟩ := inv_sq b I1 hq
  refine enum_call (begins_sq b a its.toArray) hsq fun h' he hit hk => wpAny_pyIter_enum he ?_
  have I2 : Inv X pins σ H1 { s1 with heap := h' } := I1.kept (t' := s1.toks) hk
  have hal : a < s1.heap.objs.size := isSq_lt b hsq
  have hae : s1.heap.objs.size + 1 ∉ [s1.heap.objs.size, a] := fun z => by
    rcases List.mem_cons.mp z with z | z
    · exact Nat.succ_ne_self _ z
    · rw [List.mem_singleton] at z
      exact absurd hal (Nat.not_lt.mpr (by rw [← z]; exact Nat.le_succ _))
  refine ⟨s1.heap.objs.size + 1, [s1.heap.objs.size + 1, s1.heap.objs.size], fun i h => (∃ old, IsEnum h (s1.heap.objs.size + 1) s1.heap.objs.size ((i : Nat) : Int) old) ∧ IsIt b h s1.heap.objs.size a i, _, H1, rfl, I2, ?_, ⟨⟨.none, he⟩, isIt_new b hit⟩, fun c hc => ?_, q⟩
  · refine turn_walks (ι := Array Value) (nz := Array.size) (Src := fun z h => IsSq b h a z) (fpW := (s1.heap.objs.size + 1) :: [s1.heap.objs.size, a]) (wr := [s1.heap.objs.size + 1, s1.heap.objs.size])
      (St := fun z i h => (∃ old, IsEnum h (s1.heap.objs.size + 1) s1.heap.objs.size ((i : Nat) : Int) old) ∧ IsIt b h s1.heap.objs.size a i ∧ IsSq b h a z) (by simp) (fun c hc => hc) ?_ ?_
      (fun z A hh => WalksT.enumerateD (draws_sq b (A := A.in1) hh s1.heap.objs.size a (Nat.ne_of_lt hal) z) (s1.heap.objs.size + 1) (Nat.succ_ne_self _) hae (by simp)) (fun z i h => ⟨fun ⟨h1, h2, h3⟩ => ⟨⟨h1, h2⟩, h3⟩, fun ⟨⟨h1, h2⟩, h3⟩ => ⟨h1, h2, h3⟩⟩) (fun A i s Q E ⟨⟨_, he⟩, _⟩ h => wpAny_pyIter_enum he h) ?_
    · rintro i h ⟨⟨old, he⟩, hi⟩ c hc
      rcases List.mem_cons.mp hc with rfl | hc
      · exact ⟨_, he, fun v q => nomatch q⟩
      · rw [List.mem_singleton] at hc
        subst hc
        exact isIt_obj b hi
    · rintro i h h' ⟨⟨old, he⟩, hi⟩ k
      exact ⟨⟨old, k _ (by simp) _ he⟩, isIt_keep b hi fun o => k _ (by simp) o⟩
    · rintro Y hP hw hK pins2 s2 σ2 H2 J hS
      rw [← hK] at hS
      obtain ⟨its2, rv2, hsq2⟩ := inv_sq b J hS
      refine ⟨its2.toArray, by rw [List.size_toArray, rv2.length], hsq2, ?_⟩
      rintro i vals ⟨t, x, hx, rfl⟩ hi
      obtain ⟨u, hu, ru⟩ := rv2.get (List.getElem?_eq_getElem hi)
      have hx' : its2[i]? = some x := by simpa using hx
      rw [hu] at hx'; cases hx'
      exact ⟨[.int (i : Nat), xs[i]], ⟨_, List.getElem?_eq_getElem hi, rfl⟩, by show 2 ≤ 1000; omega, .cons ⟨t, rfl⟩ (.cons ru .nil)⟩
  · have e' : c = s1.heap.objs.size + 1 ∨ c = s1.heap.objs.size := by simpa using hc
    have hle : s1.heap.objs.size ≤ c := by
      rcases e' with z | z
      · rw [z]; exact Nat.le_add_right _ _
      · rw [z]; exact Nat.le_refl _
    exact I1.fpOk hle (I1.hok.fresh hle)
end DL
set_option Elab.async false
set_option linter.all false
set_option maxRecDepth 100000
set_option autoImplicit false
namespace DL
open PySem PySem.Spec PyProof.Rows L2
open Evl (Ex)

section
variable {X : Cx}
theorem get_raw {xs : List V} {its : List Value} (rv : Vals xs its) {i : Nat} {x : Value} (hx : its.toArray[i]? = some x) (hi : i < xs.length) : RelV xs[i] x := by
  obtain ⟨u, hu, ru⟩ := rv.get (List.getElem?_eq_getElem hi)
  have hx' : its[i]? = some x := by simpa using hx
  rw [hu] at hx'; cases hx'
  exact ru
def iZi2 (K : PySem.W.Frag) (ta : TA) : TI := fun σ H R => ta σ H fun vs H1 => ∃ b1 a1 xs b2 a2 ys, vs = [.ref a1, .ref a2] ∧ SqB b1 K H1 a1 xs ∧ SqB b2 K H1 a2 ys ∧ R (ItW (fun H => SqB b1 K H a1 xs ∧ SqB b2 K H a2 ys) (min xs.length ys.length) fun i vs => ∃ x y, xs[i]? = some x ∧ ys[i]? = some y ∧ vs = [x, y]) H1
theorem pi_zip2 {e e2 : Expr} {ta : TA} {p pos tpos : Pos} {elts : List Expr} {kk : Nat} (hg : Gl X "zip") (hm : X.mg "zip" = none) (ha : PA X [e, e2] ta) (hs : starEach [e, e2] X.env = (false, eval e X.env) :: starEach [e2] X.env) (hpl : (backTo pos (starEach [e2] X.env)).any (·.1) = false) :
    PI X (.Tuple elts kk tpos) (.Call (.Name "zip" p) [e, e2] [] pos) (iZi2 X.K ta) := by
  refine ⟨fun pins s σ H R I h => ?_⟩
  refine Call_ (ld_blt I hg hm boot_zip (PyProof.Rows.callWith_type1 (thn (ha.run pos pins s σ H _ I h) fun us s1 ⟨vs, H1, I1, r1, q1⟩ => ?_) hs hpl))
  obtain ⟨b1, a1, xs, b2, a2, ys, rfl, hq1, hq2, q⟩ := q1
  obtain ⟨u1, u2, rfl, ru1, ru2⟩ := Vals.two r1
  obtain rfl : u1 = .ref a1 := ru1
  obtain rfl : u2 = .ref a2 := ru2
  obtain ⟨its1, rv1, hsq1⟩ := inv_sq b1 I1 hq1
  obtain ⟨its2, rv2, hsq2⟩ := inv_sq b2 I1 hq2
  have l1 := isSq_lt b1 hsq1
  have l2 := isSq_lt b2 hsq2
  refine zip_begins2 (begins_sq b1 a1 its1.toArray) (begins_sq b2 a2 its2.toArray) hsq1 hsq2 fun h' hz hTI hTO g1 g2 hsz hk => wpAny_pyIter_zip hz ?_
  have I2 : Inv X pins σ H1 { s1 with heap := h' } := I1.kept (t' := s1.toks) hk
  have S := zip_sep2 (N := s1.heap.objs.size) (fp1 := [a1]) (fp2 := [a2]) (fun b hb => by rw [List.mem_singleton] at hb; rw [hb]; exact l1) (fun b hb => by rw [List.mem_singleton] at hb; rw [hb]; exact l2)
  generalize hN : s1.heap.objs.size = N at *
  refine ⟨N + 4, [N + 4, N + 2, N + 3, N, N + 1], fun i h => IsZip h (N + 4) (N + 2) (N + 3) .none ∧ IsTupOf2 h (N + 2) (.ref N) (.ref (N + 1)) ∧ (∃ c1 c2, IsTupOf2 h (N + 3) c1 c2) ∧ IsIt b1 h N a1 i ∧ IsIt b2 h (N + 1) a2 i, _, H1, rfl, I2, ?_, ⟨hz, hTI, ⟨_, _, hTO⟩, isIt_new b1 g1, isIt_new b2 g2⟩, fun c hc => ?_, q⟩
  · refine turn_walks (ι := Array Value × Array Value) (nz := fun z => min z.1.size z.2.size) (Src := fun z h => IsSq b1 h a1 z.1 ∧ IsSq b2 h a2 z.2) (fpW := (N + 4) :: (N + 2) :: (N + 3) :: ([N, a1] ++ [N + 1, a2])) (wr := [N + 4, N + 3, N, N + 1])
      (St := fun z i h => IsZip h (N + 4) (N + 2) (N + 3) .none ∧ IsTupOf2 h (N + 2) (.ref N) (.ref (N + 1)) ∧ (∃ c1 c2, IsTupOf2 h (N + 3) c1 c2) ∧ (IsIt b1 h N a1 i ∧ IsSq b1 h a1 z.1) ∧ IsIt b2 h (N + 1) a2 i ∧ IsSq b2 h a2 z.2)
      (by simp) (fun c hc => ?_) ?_ ?_ (fun z A hh => WalksT.zipD2 S (draws_sq b1 (A := A.in1) hh N a1 (Nat.ne_of_lt l1) z.1) (draws_sq b2 (A := A.in1) hh (N + 1) a2 (Nat.ne_of_lt (Nat.lt_succ_of_lt l2)) z.2))
      (fun z i h => ⟨fun ⟨h1, h2, h3, ⟨h4, h5⟩, h6, h7⟩ => ⟨⟨h1, h2, h3, h4, h6⟩, h5, h7⟩, fun ⟨⟨h1, h2, h3, h4, h6⟩, h5, h7⟩ => ⟨h1, h2, h3, ⟨h4, h5⟩, h6, h7⟩⟩) (fun A i s Q E h q => wpAny_pyIter_zip h.1 q) ?_
    · have hc' : c = N + 4 ∨ c = N + 3 ∨ c = N ∨ c = N + 1 := by simpa using hc
      rcases hc' with rfl | rfl | rfl | rfl <;> simp
    · rintro i h ⟨h1, h2, ⟨c1, c2, h3⟩, h4, h5⟩ c hc
      have hc' : c = N + 4 ∨ c = N + 2 ∨ c = N + 3 ∨ c = N ∨ c = N + 1 := by simpa using hc
      rcases hc' with rfl | rfl | rfl | rfl | rfl
      · exact ⟨_, h1, fun v q => nomatch q⟩
      · exact ⟨_, h2, fun v q => nomatch q⟩
      · exact ⟨_, h3, fun v q => nomatch q⟩
      · exact isIt_obj b1 h4
      · exact isIt_obj b2 h5
    · rintro i h h' ⟨h1, h2, ⟨c1, c2, h3⟩, h4, h5⟩ k
      exact ⟨k _ (by simp) _ h1, k _ (by simp) _ h2, ⟨c1, c2, k _ (by simp) _ h3⟩, isIt_keep b1 h4 fun o => k _ (by simp) o, isIt_keep b2 h5 fun o => k _ (by simp) o⟩
    · rintro Y hP hw hK pins2 s2 σ2 H2 J ⟨hS1, hS2⟩
      rw [← hK] at hS1 hS2
      obtain ⟨js1, rw1, hsr1⟩ := inv_sq b1 J hS1
      obtain ⟨js2, rw2, hsr2⟩ := inv_sq b2 J hS2
      refine ⟨(js1.toArray, js2.toArray), by dsimp only; rw [List.size_toArray, List.size_toArray, rw1.length, rw2.length], ⟨hsr1, hsr2⟩, ?_⟩
      rintro i vals ⟨x1, x2, hx1, hx2, rfl⟩ hi
      have hi1 : i < xs.length := by omega
      have hi2 : i < ys.length := by omega
      exact ⟨[xs[i], ys[i]], ⟨_, _, List.getElem?_eq_getElem hi1, List.getElem?_eq_getElem hi2, rfl⟩, by show 2 ≤ 1000; omega, .cons (get_raw rw1 hx1 hi1) (.cons (get_raw rw2 hx2 hi2) .nil)⟩
  · have e' : c = N + 4 ∨ c = N + 2 ∨ c = N + 3 ∨ c = N ∨ c = N + 1 := by simpa using hc
    have hle : s1.heap.objs.size ≤ c := by
      rw [hN]
      rcases e' with z | z | z | z | z <;> rw [z] <;> first | exact Nat.le_add_right _ _ | exact Nat.le_refl _
    exact I1.fpOk hle (I1.hok.fresh hle)
def iZi3 (K : PySem.W.Frag) (ta : TA) : TI := fun σ H R => ta σ H fun vs H1 => ∃ b1 a1 xs b2 a2 ys b3 a3 zs, vs = [.ref a1, .ref a2, .ref a3] ∧ SqB b1 K H1 a1 xs ∧ SqB b2 K H1 a2 ys ∧ SqB b3 K H1 a3 zs ∧
  R (ItW (fun H => SqB b1 K H a1 xs ∧ SqB b2 K H a2 ys ∧ SqB b3 K H a3 zs) (min (min xs.length ys.length) zs.length) fun i vs => ∃ x y z, xs[i]? = some x ∧ ys[i]? = some y ∧ zs[i]? = some z ∧ vs = [x, y, z]) H1
theorem Vals.three' {x y z : V} {us : List Value} (h : Vals [x, y, z] us) : ∃ u v w, us = [u, v, w] ∧ RelV x u ∧ RelV y v ∧ RelV z w := by
  cases h with
  | cons r t => cases t with
    | cons r2 t2 => cases t2 with
      | cons r3 t3 => cases t3; exact ⟨_, _, _, rfl, r, r2, r3⟩
theorem pi_zip3 {e e2 e3 : Expr} {ta : TA} {p pos tpos : Pos} {elts : List Expr} {kk : Nat} (hg : Gl X "zip") (hm : X.mg "zip" = none) (ha : PA X [e, e2, e3] ta) (hs : starEach [e, e2, e3] X.env = (false, eval e X.env) :: starEach [e2, e3] X.env) (hpl : (backTo pos (starEach [e2, e3] X.env)).any (·.1) = false) :
    PI X (.Tuple elts kk tpos) (.Call (.Name "zip" p) [e, e2, e3] [] pos) (iZi3 X.K ta) := by
  refine ⟨fun pins s σ H R I h => ?_⟩
  refine Call_ (ld_blt I hg hm boot_zip (PyProof.Rows.callWith_type1 (thn (ha.run pos pins s σ H _ I h) fun us s1 ⟨vs, H1, I1, r1, q1⟩ => ?_) hs hpl))
  obtain ⟨b1, a1, xs, b2, a2, ys, b3, a3, zs, rfl, hq1, hq2, hq3, q⟩ := q1
  obtain ⟨u1, u2, u3, rfl, ru1, ru2, ru3⟩ := Vals.three' r1
  obtain rfl : u1 = .ref a1 := ru1
  obtain rfl : u2 = .ref a2 := ru2
  obtain rfl : u3 = .ref a3 := ru3
  obtain ⟨its1, rv1, hsq1⟩ := inv_sq b1 I1 hq1
  obtain ⟨its2, rv2, hsq2⟩ := inv_sq b2 I1 hq2
  obtain ⟨its3, rv3, hsq3⟩ := inv_sq b3 I1 hq3
  have l1 := isSq_lt b1 hsq1
  have l2 := isSq_lt b2 hsq2
  have l3 := isSq_lt b3 hsq3
  refine zip_begins3 (begins_sq b1 a1 its1.toArray) (begins_sq b2 a2 its2.toArray) (begins_sq b3 a3 its3.toArray) hsq1 hsq2 hsq3 fun h' hz hTI hTO g1 g2 g3 hsz hk => wpAny_pyIter_zip hz ?_
  have I2 : Inv X pins σ H1 { s1 with heap := h' } := I1.kept (t' := s1.toks) hk
  have S := zip_sep3 (N := s1.heap.objs.size) (fp1 := [a1]) (fp2 := [a2]) (fp3 := [a3]) (fun b hb => by rw [List.mem_singleton] at hb; rw [hb]; exact l1) (fun b hb => by rw [List.mem_singleton] at hb; rw [hb]; exact l2) (fun b hb => by rw [List.mem_singleton] at hb; rw [hb]; exact l3)
  generalize hN : s1.heap.objs.size = N at *
  refine ⟨N + 5, [N + 5, N + 3, N + 4, N, N + 1, N + 2], fun i h => IsZip h (N + 5) (N + 3) (N + 4) .none ∧ IsTupOf3 h (N + 3) (.ref N) (.ref (N + 1)) (.ref (N + 2)) ∧ (∃ c1 c2 c3, IsTupOf3 h (N + 4) c1 c2 c3) ∧ IsIt b1 h N a1 i ∧ IsIt b2 h (N + 1) a2 i ∧ IsIt b3 h (N + 2) a3 i, _, H1, rfl, I2, ?_, ⟨hz, hTI, ⟨_, _, _, hTO⟩, isIt_new b1 g1, isIt_new b2 g2, isIt_new b3 g3⟩, fun c hc => ?_, q⟩
  · refine turn_walks (ι := Array Value × Array Value × Array Value) (nz := fun z => min (min z.1.size z.2.1.size) z.2.2.size) (Src := fun z h => IsSq b1 h a1 z.1 ∧ IsSq b2 h a2 z.2.1 ∧ IsSq b3 h a3 z.2.2) (fpW := (N + 5) :: (N + 3) :: (N + 4) :: ([N, a1] ++ [N + 1, a2] ++ [N + 2, a3])) (wr := [N + 5, N + 4, N, N + 1, N + 2])
      (St := fun z i h => IsZip h (N + 5) (N + 3) (N + 4) .none ∧ IsTupOf3 h (N + 3) (.ref N) (.ref (N + 1)) (.ref (N + 2)) ∧ (∃ c1 c2 c3, IsTupOf3 h (N + 4) c1 c2 c3) ∧ (IsIt b1 h N a1 i ∧ IsSq b1 h a1 z.1) ∧ (IsIt b2 h (N + 1) a2 i ∧ IsSq b2 h a2 z.2.1) ∧ IsIt b3 h (N + 2) a3 i ∧ IsSq b3 h a3 z.2.2)
      (by simp) (fun c hc => ?_) ?_ ?_ (fun z A hh => WalksT.zipD3 S (draws_sq b1 (A := A.in1) hh N a1 (Nat.ne_of_lt l1) z.1) (draws_sq b2 (A := A.in1) hh (N + 1) a2 (Nat.ne_of_lt (Nat.lt_succ_of_lt l2)) z.2.1) (draws_sq b3 (A := A.in1) hh (N + 2) a3 (Nat.ne_of_lt (Nat.lt_succ_of_lt (Nat.lt_succ_of_lt l3))) z.2.2))
      (fun z i h => ⟨fun ⟨h1, h2, h3, ⟨h4, h5⟩, ⟨h6, h7⟩, h8, h9⟩ => ⟨⟨h1, h2, h3, h4, h6, h8⟩, h5, h7, h9⟩, fun ⟨⟨h1, h2, h3, h4, h6, h8⟩, h5, h7, h9⟩ => ⟨h1, h2, h3, ⟨h4, h5⟩, ⟨h6, h7⟩, h8, h9⟩⟩) (fun A i s Q E h q => wpAny_pyIter_zip h.1 q) ?_
    · have hc' : c = N + 5 ∨ c = N + 4 ∨ c = N ∨ c = N + 1 ∨ c = N + 2 := by simpa using hc
      rcases hc' with rfl | rfl | rfl | rfl | rfl <;> simp
    · rintro i h ⟨h1, h2, ⟨c1, c2, c3, h3⟩, h4, h5, h6⟩ c hc
      have hc' : c = N + 5 ∨ c = N + 3 ∨ c = N + 4 ∨ c = N ∨ c = N + 1 ∨ c = N + 2 := by simpa using hc
      rcases hc' with rfl | rfl | rfl | rfl | rfl | rfl
      · exact ⟨_, h1, fun v q => nomatch q⟩
      · exact ⟨_, h2, fun v q => nomatch q⟩
      · exact ⟨_, h3, fun v q => nomatch q⟩
      · exact isIt_obj b1 h4
      · exact isIt_obj b2 h5
      · exact isIt_obj b3 h6
    · rintro i h h' ⟨h1, h2, ⟨c1, c2, c3, h3⟩, h4, h5, h6⟩ k
      exact ⟨k _ (by simp) _ h1, k _ (by simp) _ h2, ⟨c1, c2, c3, k _ (by simp) _ h3⟩, isIt_keep b1 h4 fun o => k _ (by simp) o, isIt_keep b2 h5 fun o => k _ (by simp) o, isIt_keep b3 h6 fun o => k _ (by simp) o⟩
    · rintro Y hP hw hK pins2 s2 σ2 H2 J ⟨hS1, hS2, hS3⟩
      rw [← hK] at hS1 hS2 hS3
      obtain ⟨js1, rw1, hsr1⟩ := inv_sq b1 J hS1
      obtain ⟨js2, rw2, hsr2⟩ := inv_sq b2 J hS2
      obtain ⟨js3, rw3, hsr3⟩ := inv_sq b3 J hS3
      refine ⟨(js1.toArray, js2.toArray, js3.toArray), by dsimp only; rw [List.size_toArray, List.size_toArray, List.size_toArray, rw1.length, rw2.length, rw3.length], ⟨hsr1, hsr2, hsr3⟩, ?_⟩
      rintro i vals ⟨x1, x2, x3, hx1, hx2, hx3, rfl⟩ hi
      have hi1 : i < xs.length := by omega
      have hi2 : i < ys.length := by omega
      have hi3 : i < zs.length := by omega
      exact ⟨[xs[i], ys[i], zs[i]], ⟨_, _, _, List.getElem?_eq_getElem hi1, List.getElem?_eq_getElem hi2, List.getElem?_eq_getElem hi3, rfl⟩, by show 3 ≤ 1000; omega, .cons (get_raw rw1 hx1 hi1) (.cons (get_raw rw2 hx2 hi2) (.cons (get_raw rw3 hx3 hi3) .nil))⟩
  · have e' : c = N + 5 ∨ c = N + 3 ∨ c = N + 4 ∨ c = N ∨ c = N + 1 ∨ c = N + 2 := by simpa using hc
    have hle : s1.heap.objs.size ≤ c := by
      rw [hN]
      rcases e' with z | z | z | z | z | z <;> rw [z] <;> first | exact Nat.le_add_right _ _ | exact Nat.le_refl _
    exact I1.fpOk hle (I1.hok.fresh hle)
end
/-! ### the same by functions of the slots -/
variable [Tb] {X : Cx} {W : WX} {C : Ck}
def enumD : Nat → List D → List D
  | _, [] => []
  | k, d :: ds => .tup [.int (k : Nat), d] :: enumD (k + 1) ds
theorem enumD_len : ∀ (ds : List D) (k : Nat), (enumD k ds).length = ds.length
  | [], _ => rfl
  | d :: ds, k => by unfold enumD; rw [List.length_cons, List.length_cons, enumD_len]
theorem enumD_get : ∀ (ds : List D) (k i : Nat), (enumD k ds)[i]? = (ds[i]?).map fun d => .tup [.int ((k + i : Nat) : Int), d]
  | [], _, i => by cases i <;> rfl
  | d :: ds, k, 0 => rfl
  | d :: ds, k, i + 1 => by
    unfold enumD
    rw [List.getElem?_cons_succ, List.getElem?_cons_succ, enumD_get ds (k + 1) i, show k + 1 + i = k + (i + 1) by omega]
def zip2D : List D → List D → List D
  | a :: as, b :: bs => .tup [a, b] :: zip2D as bs
  | _, _ => []
def zip3D : List D → List D → List D → List D
  | a :: as, b :: bs, c :: cs => .tup [a, b, c] :: zip3D as bs cs
  | _, _, _ => []
theorem zip2D_len : ∀ (as bs : List D), (zip2D as bs).length = min as.length bs.length
  | [], bs => by simp [zip2D]
  | a :: as, [] => by simp [zip2D]
  | a :: as, b :: bs => by
    unfold zip2D
    rw [List.length_cons, List.length_cons, List.length_cons, zip2D_len as bs]
    omega
theorem zip2D_get : ∀ (as bs : List D) (i : Nat) (d : D), (zip2D as bs)[i]? = some d → ∃ a b, as[i]? = some a ∧ bs[i]? = some b ∧ d = .tup [a, b]
  | [], bs, i, d, h => by simp [zip2D] at h
  | a :: as, [], i, d, h => by simp [zip2D] at h
  | a :: as, b :: bs, 0, d, h => by cases h; exact ⟨a, b, rfl, rfl, rfl⟩
  | a :: as, b :: bs, i + 1, d, h => zip2D_get as bs i d h
theorem zip3D_len : ∀ (as bs cs : List D), (zip3D as bs cs).length = min (min as.length bs.length) cs.length
  | [], bs, cs => by simp [zip3D]
  | a :: as, [], cs => by simp [zip3D]
  | a :: as, b :: bs, [] => by simp [zip3D]
  | a :: as, b :: bs, c :: cs => by
    unfold zip3D
    rw [List.length_cons, List.length_cons, List.length_cons, List.length_cons, zip3D_len as bs cs]
    omega
theorem zip3D_get : ∀ (as bs cs : List D) (i : Nat) (d : D), (zip3D as bs cs)[i]? = some d → ∃ a b c, as[i]? = some a ∧ bs[i]? = some b ∧ cs[i]? = some c ∧ d = .tup [a, b, c]
  | [], bs, cs, i, d, h => by simp [zip3D] at h
  | a :: as, [], cs, i, d, h => by simp [zip3D] at h
  | a :: as, b :: bs, [], i, d, h => by simp [zip3D] at h
  | a :: as, b :: bs, c :: cs, 0, d, h => by cases h; exact ⟨a, b, c, rfl, rfl, rfl, rfl⟩
  | a :: as, b :: bs, c :: cs, i + 1, d, h => zip3D_get as bs cs i d h
/-- a list or a tuple that stays -/
theorem imm_sq {B : Hp} {d : D} {ds : List D} {v : V} (h : Rep C B d v) (e : seqOf d = some ds) : ∃ b a vs, v = .ref a ∧ (∀ H, Ex B H → SqB b C.K H a vs) ∧ RepL C B ds vs := by
  cases d with
  | lst es => cases e; obtain ⟨a, vs, rfl, h1, h2⟩ := h; exact ⟨true, a, vs, rfl, fun H ex => SqL.of (ex _ _ h1), h2⟩
  | frz es => cases e; obtain ⟨a, vs, rfl, h1, h2⟩ := h; exact ⟨true, a, vs, rfl, fun H ex => Evl.ex_l ex h1, h2⟩
  | tup es => cases e; obtain ⟨a, vs, rfl, h1, h2⟩ := h; exact ⟨false, a, vs, rfl, fun H ex => Evl.ex_t ex h1, h2⟩
  | _ => cases e
theorem itW_ok {B : Hp} {SH : Hp → Prop} {n : Nat} {Pv : Nat → List V → Prop} {ds : List D} (hS : ∀ H, Ex B H → SH H) (hn : ds.length = n) (hv : ∀ i d, ds[i]? = some d → ∃ es, d = .tup es ∧ ∀ vs, Pv i vs → RepL C B es vs) : ItOk C B (ItW SH n Pv) ds := by
  intro i B1 H1 e1 e2
  have s1 := hS H1 (e1.trans e2)
  refine ⟨fun d hd => ⟨⟨s1, by rw [← hn]; exact (List.getElem?_eq_some_iff.mp hd).1⟩, fun x H2 ⟨T, vs, ex, hT, eH, pv⟩ => ?_⟩, fun e => ⟨s1, e.trans hn⟩⟩
  obtain ⟨es, ed, hr⟩ := hv i d hd
  exact .inr ⟨T, vs, es, hT, eH, ed, ex, RepL.mono e1 es (hr vs pv)⟩
def fEnum (fs : En → R (List Pl × En)) : En → R (List D × En) := fun ρ => (fs ρ).bind fun p => (immPs p.2 p.1).bind fun ds => match ds with
  | [d] => (oR (seqOf d)).bind fun es => .ok (enumD 0 es, p.2)
  | _ => .stk
def fZip2 (fs : En → R (List Pl × En)) : En → R (List D × En) := fun ρ => (fs ρ).bind fun p => (immPs p.2 p.1).bind fun ds => match ds with
  | [a, b] => (oR (seqOf a)).bind fun as => (oR (seqOf b)).bind fun bs => .ok (zip2D as bs, p.2)
  | _ => .stk
def fZip3 (fs : En → R (List Pl × En)) : En → R (List D × En) := fun ρ => (fs ρ).bind fun p => (immPs p.2 p.1).bind fun ds => match ds with
  | [a, b, c] => (oR (seqOf a)).bind fun as => (oR (seqOf b)).bind fun bs => (oR (seqOf c)).bind fun cs => .ok (zip3D as bs cs, p.2)
  | _ => .stk
theorem sat_enum {t : TA} {fs : En → R (List Pl × En)} (h : Sat C W relA t fs) : Sat C W relI (iEnA C.K t) (fEnum fs) := by
  refine Sat.bind (R2 := relI) (t2 := fun vs σ H1 R => ∃ b a xs, vs = [.ref a] ∧ SqB b C.K H1 a xs ∧ R (ItW (fun H => SqB b C.K H a xs) xs.length fun i vs => ∃ x, xs[i]? = some x ∧ vs = [.int (i : Nat), x]) H1) (f2 := fun ps ρ1 => (immPs ρ1 ps).bind fun ds => match ds with
    | [d] => (oR (seqOf d)).bind fun es => .ok (enumD 0 es, ρ1)
    | _ => .stk) h ?_
  intro ps G eG B H σ ρ B1 H1 ρ1 xs Q S S1 st rel hp
  subst eG
  cases v1 : immPs ρ1 ps with
  | exn c ns ds ρ' => exact (immPs_exn v1).elim
  | stk => rw [v1] at hp; exact hp.elim
  | ok ds =>
    rw [v1] at hp
    simp only [R.ok_bind] at hp
    have r := immPs_ok S1 rel v1
    split at hp
    case h_2 => exact hp.elim
    rename_i d
    obtain ⟨v, r0, rfl, r1, r2⟩ := r
    rw [show r0 = [] from r2]
    cases z : seqOf d with
    | none => rw [z] at hp; exact hp.elim
    | some es =>
      rw [z] at hp
      obtain ⟨b, a, vs, rfl, hS, hr⟩ := imm_sq r1 z
      refine ⟨b, a, vs, rfl, hS H1 S1.ex, hp B1 H1 _ S1 st (itW_ok hS (by rw [enumD_len, hr.length]) fun i d hd => ?_)⟩
      rw [enumD_get] at hd
      cases z2 : es[i]? with
      | none => rw [z2] at hd; cases hd
      | some e0 =>
        rw [z2] at hd; cases hd
        refine ⟨_, rfl, fun ws ⟨x, hx, ew⟩ => ?_⟩
        obtain ⟨y, hy, ry⟩ := hr.get z2
        rw [hx] at hy; cases hy
        rw [ew]
        exact ⟨_, _, rfl, by rw [Nat.zero_add]; rfl, RepL.one ry⟩
theorem pit_enum {elts : List Expr} {kk : Nat} {tpos : Pos} {a : Expr} {p pos : Pos} {fs : En → R (List Pl × En)} (hm : X.mg "enumerate" = none) (h : PXs X W [a] fs) (hg : Gl X "enumerate" := by rfl) (hs : starEach [a] X.env = [(false, eval a X.env)] := by rfl) : PIt X W (.Tuple elts kk tpos) (.Call (.Name "enumerate" p) [a] [] pos) (fEnum fs) := by
  obtain ⟨t, h, s⟩ := h
  exact ⟨_, pi_enumA hg hm h hs, sat_enum s⟩
theorem sat_zip2 {t : TA} {fs : En → R (List Pl × En)} (h : Sat C W relA t fs) : Sat C W relI (iZi2 C.K t) (fZip2 fs) := by
  refine Sat.bind (R2 := relI) (t2 := fun vs σ H1 R => ∃ b1 a1 xs b2 a2 ys, vs = [.ref a1, .ref a2] ∧ SqB b1 C.K H1 a1 xs ∧ SqB b2 C.K H1 a2 ys ∧ R (ItW (fun H => SqB b1 C.K H a1 xs ∧ SqB b2 C.K H a2 ys) (min xs.length ys.length) fun i vs => ∃ x y, xs[i]? = some x ∧ ys[i]? = some y ∧ vs = [x, y]) H1) (f2 := fun ps ρ1 => (immPs ρ1 ps).bind fun ds => match ds with
    | [a, b] => (oR (seqOf a)).bind fun as => (oR (seqOf b)).bind fun bs => .ok (zip2D as bs, ρ1)
    | _ => .stk) h ?_
  intro ps G eG B H σ ρ B1 H1 ρ1 xs Q S S1 st rel hp
  subst eG
  cases v1 : immPs ρ1 ps with
  | exn c ns ds ρ' => exact (immPs_exn v1).elim
  | stk => rw [v1] at hp; exact hp.elim
  | ok ds =>
    rw [v1] at hp
    simp only [R.ok_bind] at hp
    have r := immPs_ok S1 rel v1
    split at hp
    case h_2 => exact hp.elim
    rename_i d e
    obtain ⟨v, r0, rfl, r1, w, r2, rfl, r3, r4⟩ := r
    rw [show r2 = [] from r4]
    cases z : seqOf d with
    | none => rw [z] at hp; exact hp.elim
    | some es =>
      rw [z] at hp
      simp only [oR_some, R.ok_bind] at hp
      cases z' : seqOf e with
      | none => rw [z'] at hp; exact hp.elim
      | some fs =>
        rw [z'] at hp
        obtain ⟨b, a, vs, rfl, hS, hr⟩ := imm_sq r1 z
        obtain ⟨b', a', vs', rfl, hS', hr'⟩ := imm_sq r3 z'
        refine ⟨b, a, vs, b', a', vs', rfl, hS H1 S1.ex, hS' H1 S1.ex, hp B1 H1 _ S1 st (itW_ok (fun H ex => ⟨hS H ex, hS' H ex⟩) (by rw [zip2D_len, hr.length, hr'.length]) fun i d hd => ?_)⟩
        obtain ⟨x, y, h1, h2, rfl⟩ := zip2D_get _ _ i d hd
        refine ⟨_, rfl, fun ws ⟨x', y', hx, hy, ew⟩ => ?_⟩
        obtain ⟨x2, hx2, rx⟩ := hr.get h1
        obtain ⟨y2, hy2, ry⟩ := hr'.get h2
        rw [hx] at hx2; cases hx2
        rw [hy] at hy2; cases hy2
        rw [ew]
        exact ⟨_, _, rfl, rx, RepL.one ry⟩
theorem sat_zip3 {t : TA} {fs : En → R (List Pl × En)} (h : Sat C W relA t fs) : Sat C W relI (iZi3 C.K t) (fZip3 fs) := by
  refine Sat.bind (R2 := relI) (t2 := fun vs σ H1 R => ∃ b1 a1 xs b2 a2 ys b3 a3 zs, vs = [.ref a1, .ref a2, .ref a3] ∧ SqB b1 C.K H1 a1 xs ∧ SqB b2 C.K H1 a2 ys ∧ SqB b3 C.K H1 a3 zs ∧ R (ItW (fun H => SqB b1 C.K H a1 xs ∧ SqB b2 C.K H a2 ys ∧ SqB b3 C.K H a3 zs) (min (min xs.length ys.length) zs.length) fun i vs => ∃ x y z, xs[i]? = some x ∧ ys[i]? = some y ∧ zs[i]? = some z ∧ vs = [x, y, z]) H1) (f2 := fun ps ρ1 => (immPs ρ1 ps).bind fun ds => match ds with
    | [a, b, c] => (oR (seqOf a)).bind fun as => (oR (seqOf b)).bind fun bs => (oR (seqOf c)).bind fun cs => .ok (zip3D as bs cs, ρ1)
    | _ => .stk) h ?_
  intro ps G eG B H σ ρ B1 H1 ρ1 xs Q S S1 st rel hp
  subst eG
  cases v1 : immPs ρ1 ps with
  | exn c ns ds ρ' => exact (immPs_exn v1).elim
  | stk => rw [v1] at hp; exact hp.elim
  | ok ds =>
    rw [v1] at hp
    simp only [R.ok_bind] at hp
    have r := immPs_ok S1 rel v1
    split at hp
    case h_2 => exact hp.elim
    rename_i d e g
    obtain ⟨v, r0, rfl, r1, w, r2, rfl, r3, u, r4, rfl, r5, r6⟩ := r
    rw [show r4 = [] from r6]
    cases z : seqOf d with
    | none => rw [z] at hp; exact hp.elim
    | some es =>
      rw [z] at hp
      simp only [oR_some, R.ok_bind] at hp
      cases z' : seqOf e with
      | none => rw [z'] at hp; exact hp.elim
      | some fs =>
        rw [z'] at hp
        simp only [oR_some, R.ok_bind] at hp
        cases z2 : seqOf g with
        | none => rw [z2] at hp; exact hp.elim
        | some gs =>
          rw [z2] at hp
          obtain ⟨b, a, vs, rfl, hS, hr⟩ := imm_sq r1 z
          obtain ⟨b', a', vs', rfl, hS', hr'⟩ := imm_sq r3 z'
          obtain ⟨b2, a2, vs2, rfl, hS2, hr2⟩ := imm_sq r5 z2
          refine ⟨b, a, vs, b', a', vs', b2, a2, vs2, rfl, hS H1 S1.ex, hS' H1 S1.ex, hS2 H1 S1.ex, hp B1 H1 _ S1 st (itW_ok (fun H ex => ⟨hS H ex, hS' H ex, hS2 H ex⟩) (by rw [zip3D_len, hr.length, hr'.length, hr2.length]) fun i d hd => ?_)⟩
          obtain ⟨x, y, k, h1, h2, h3, rfl⟩ := zip3D_get _ _ _ i d hd
          refine ⟨_, rfl, fun ws ⟨x', y', k', hx, hy, hk, ew⟩ => ?_⟩
          obtain ⟨x2, hx2, rx⟩ := hr.get h1
          obtain ⟨y2, hy2, ry⟩ := hr'.get h2
          obtain ⟨k2, hk2, rk⟩ := hr2.get h3
          rw [hx] at hx2; cases hx2
          rw [hy] at hy2; cases hy2
          rw [hk] at hk2; cases hk2
          rw [ew]
          exact ⟨_, _, rfl, rx, _, _, rfl, ry, RepL.one rk⟩
theorem pit_zip2 {elts : List Expr} {kk : Nat} {tpos : Pos} {a b : Expr} {p pos : Pos} {fs : En → R (List Pl × En)} (hm : X.mg "zip" = none) (h : PXs X W [a, b] fs) (hg : Gl X "zip" := by rfl) (hs : starEach [a, b] X.env = (false, eval a X.env) :: starEach [b] X.env := by rfl) (hpl : (backTo pos (starEach [b] X.env)).any (·.1) = false := by rfl) :
    PIt X W (.Tuple elts kk tpos) (.Call (.Name "zip" p) [a, b] [] pos) (fZip2 fs) := by
  obtain ⟨t, h, s⟩ := h
  exact ⟨_, pi_zip2 hg hm h hs hpl, sat_zip2 s⟩
theorem pit_zip3 {elts : List Expr} {kk : Nat} {tpos : Pos} {a b c : Expr} {p pos : Pos} {fs : En → R (List Pl × En)} (hm : X.mg "zip" = none) (h : PXs X W [a, b, c] fs) (hg : Gl X "zip" := by rfl) (hs : starEach [a, b, c] X.env = (false, eval a X.env) :: starEach [b, c] X.env := by rfl) (hpl : (backTo pos (starEach [b, c] X.env)).any (·.1) = false := by rfl) :
    PIt X W (.Tuple elts kk tpos) (.Call (.Name "zip" p) [a, b, c] [] pos) (fZip3 fs) := by
  obtain ⟨t, h, s⟩ := h
  exact ⟨_, pi_zip3 hg hm h hs hpl, sat_zip3 s⟩
end DL
set_option Elab.async false
set_option linter.all false
set_option maxRecDepth 100000
set_option autoImplicit false
namespace DL
open PySem PySem.Spec PyProof.Rows L2 PySem.Calls
open PySem.W (AllAlike Sortable EachIs dataLe KeepsBut dataKind SortsAt sortVals KeyedOut keyedOut_each)
open Evl (Ex)

/-! ### sorted(xs, key=f), the key's calls told by the invariant -/
section
variable {X : Cx} {pins : List (Addr × Obj)} {σ : L2.St} {H : Hp} {s : Shared}
/-- a young object, known to nobody, is known as this list from now on; the objects at ch have changed -/
theorem Inv.adopt {h' : Heap} {t' : Nat} {ch : List Addr} {a : Addr} {xs : List V} (I : Inv X pins σ H s) (k : ∀ b o, b ∉ ch → s.heap.get? b = some o → h'.get? b = some o) (hf : ∀ b ∈ ch, FpOk X pins H b) (ha : a ∈ ch)
    (new : ObjOk X.prog X.w (upd H a (.lst xs)) h' a (.lst xs)) : Inv X pins σ (upd H a (.lst xs)) { s with heap := h', toks := t' } := by
  have hn : H a = none := (hf a ha).1
  have out : ∀ b u, H b = some u → b ∉ ch := fun b u e z => by
    rw [(hf b z).1] at e; cases e
  have same : ∀ b u, H b = some u → upd H a (.lst xs) b = some u := fun b u e => by
    rw [upd_ne (ne_of_none e hn)]; exact e
  refine Inv.step (g' := s.gens) (d' := s.drawn) (ch := ch) I (fun b hb => ⟨(hf b hb).2.2.2.1, (hf b hb).2.1, (hf b hb).2.2.2.2.1, (hf b hb).2.2.2.2.2⟩) (fun b o _ _ hc e _ => k b o hc e) (fun b o _ _ hc e _ => ⟨o.slots, k b o hc e⟩)
    (fun b o hc _ n => by rw [upd_ne (fun z => hc (by rw [z]; exact ha))]; exact n) (fun b o hc e => ⟨o, k b o hc e⟩) (fun b ys e => same b _ e) (fun b o u e => same b _ e) (fun b ps e => ⟨#[], by rw [same b _ e]; simp⟩) ?_ ?_ I.bare
  · rintro m ⟨o, es, ep, ho, r⟩
    exact ⟨o, es, ep, k _ o (fun z => (hf _ z).2.1 rfl) ho, r⟩
  · intro b u e
    by_cases hb : b = a
    · subst hb
      rw [upd_same] at e; cases e
      exact new
    · rw [upd_ne hb] at e
      refine (I.hok b u e).stay (fun c v hc q => k c v ?_ q) (fun c q => same c _ q) fun c ys q => same c _ q
      rcases hc with z | z
      · rw [z]; exact out b u e
      · exact out c _ z
theorem each_of_vals {β : Type} {R : Value → β → Prop} : ∀ {vs : List Value} {bs : List β}, vs.length = bs.length → (∀ (i : Nat) (v : Value) (b : β), vs[i]? = some v → bs[i]? = some b → R v b) → EachIs R vs bs
  | [], [], _, _ => .nil
  | v :: vs, b :: bs, hl, h => .cons (h 0 v b rfl rfl) (each_of_vals (by simpa using hl) fun i v b e1 e2 => h (i + 1) v b e1 e2)
theorem sortk_run {a0 f : Addr} {xs : List V} {β : Type} {bs : List β} (k : β → PyData) (J : Nat → List V → Hp → Prop) {Q : VK} (I : Inv X pins σ H s) (hs : SqL X.K H a0 xs) (hbl : bs.length = xs.length) (hal : AllAlike (bs.map k)) (hsk : Sortable (bs.map k)) (hu : ∀ x ∈ bs, X.A.units + 2 + (k x).depth < cLine)
    (h0 : J 0 [] H) (turn : ∀ (i : Nat) (x : V) (ys : List V) (H' : Hp) (pins' : List (Addr × Obj)) (s' : Shared) (v : Value), xs[i]? = some x → RelV x v → (∀ p ∈ pins, p ∈ pins') → Inv X pins' σ H' s' → J i ys H' →
      wpAny (model X.prog X.w) X.A.in1.in1 (call (.ref f) [v]) (fun u s2 => ∃ y H2, Inv X pins' σ H2 s2 ∧ RelV y u ∧ J (i + 1) (ys ++ [y]) H2) (fun _ _ => False) s')
    (keys : ∀ ys H', J xs.length ys H' → DpAll X.K H' ys (bs.map k))
    (fin : ∀ (H' : Hp) (a : Addr) (ys : List V), J xs.length ys H' → H' a = none → H a = none → Q (.ref a) (upd H' a (.lst (((bs.zip xs).mergeSort (dataLe false fun z => k z.1)).map Prod.snd)))) :
    wpAny (model X.prog X.w) X.A (call (.builtin "sorted") [.ref a0] [(Str.ofString "key", .ref f)]) (EP X pins σ Q) X.xe s := by
  obtain ⟨its, rv, hl, hz⟩ := I.list hs
  have hlen : its.length = xs.length := rv.length.symm
  have hL : its.length ≤ sizeLine := by rw [hlen]; exact hz
  refine PySem.W.sorted_of_sort hl.isList hL (ksk_s1 _ _) (fun _ => ksk_l1 _ _) fun E' => ?_
  rw [ksk_t1]
  -- the cells
  have hA := PySem.W.copyHeap_at s.heap its
  generalize ea : s.heap.objs.size + 1 = a at hA ⊢
  obtain ⟨e1, hA1⟩ : ∃ e1, ((PySem.W.copyHeap s.heap its).update a (Obj.mapSeq fun _ => (#[] : Array Value))).get? a = some (seqObj "list" #[] e1) := ⟨_, get?_update_seq hA fun _ => #[]⟩
  unfold ksk_tree
  refine wpAny_bind (listItems_at hA rfl ?_)
  refine wpAny_bind (listUpdate_at hA rfl ?_ (by rw [List.size_toArray]; exact hL) (Nat.zero_le _))
  refine wpAny_bind (seqEpoch_at hA1 rfl ?_)
  refine wpAny_bind (wpAny_newTuple ?_ (by show its.length ≤ _; exact hL))
  refine wpAny_bind (wpAny_newList ?_ (Nat.zero_le _))
  refine wpAny_holding ?_
  have old : ∀ b o, s.heap.get? b = some o → (PySem.W.sortingHeap (PySem.W.copyHeap s.heap its) a its).get? b = some o := fun b o e => PySem.W.sortingHeap_old (Nat.ne_of_lt (Nat.lt_of_lt_of_eq (Nat.lt_succ_of_lt (Heap.lt_size e)) ea)) (PySem.W.copyHeap_old e)
  have sz0 : (PySem.W.copyHeap s.heap its).objs.size = s.heap.objs.size + 2 := by
    have e0 : ((s.heap.push (seqObj "list" #[] 0)).update s.heap.objs.size (Obj.mapSeq (· ++ its.toArray))).objs.size = s.heap.objs.size + 1 := by rw [Heap.size_update, size_push']
    unfold PySem.W.copyHeap
    rw [size_push', e0]
  have hkS : (((PySem.W.copyHeap s.heap its).update a (Obj.mapSeq fun _ => (#[] : Array Value))).push (seqObj "tuple" its.toArray 0)).objs.size = s.heap.objs.size + 3 := by rw [size_push', Heap.size_update, sz0]
  show wpAny _ _ (ksk_rest a (.ref f) false its.toArray e1 (.ref (((PySem.W.copyHeap s.heap its).update a (Obj.mapSeq fun _ => (#[] : Array Value))).push (seqObj "tuple" its.toArray 0)).objs.size)) _ _ { s with heap := PySem.W.sortingHeap (PySem.W.copyHeap s.heap its) a its }
  have gK : (PySem.W.sortingHeap (PySem.W.copyHeap s.heap its) a its).get? (((PySem.W.copyHeap s.heap its).update a (Obj.mapSeq fun _ => (#[] : Array Value))).push (seqObj "tuple" its.toArray 0)).objs.size = some (seqObj "list" #[] 0) := Heap.get?_push_size _ rfl
  have gA : (PySem.W.sortingHeap (PySem.W.copyHeap s.heap its) a its).get? a = some (seqObj "list" #[] e1) := Heap.get?_push_of_some _ (Heap.get?_push_of_some _ hA1)
  rw [hkS] at gK ⊢
  generalize eS : PySem.W.sortingHeap (PySem.W.copyHeap s.heap its) a its = hS at *
  obtain ⟨kS, ek⟩ : ∃ kS : Addr, kS = s.heap.objs.size + 3 := ⟨_, rfl⟩
  rw [← ek] at gK ⊢
  have kNa : kS ≠ a := by rw [ek, ← ea]; exact Nat.ne_of_gt (by omega)
  have kge : s.heap.objs.size ≤ kS := by rw [ek]; exact Nat.le_add_right _ _
  have age : s.heap.objs.size ≤ a := by rw [← ea]; exact Nat.le_succ _
  have I1 : Inv X pins σ H { s with heap := hS } := I.kept (t' := s.toks) old
  have fpo : ∀ (H' : Hp) (b : Addr), s.heap.objs.size ≤ b → H' b = none → FpOk X pins H' b := fun H' b hb hn => I.fpOk hb hn
  -- pins at a and kS
  let PN : Array Value → Nat → List (Addr × Obj) := fun kA e => pins ++ [(a, seqObj "list" #[] e1), (kS, seqObj "list" kA e)]
  have repin : ∀ {H' : Hp} {s' : Shared} {kA : Array Value} {e : Nat}, Inv X pins σ H' s' → H' a = none → H' kS = none → s'.heap.get? a = some (seqObj "list" #[] e1) → s'.heap.get? kS = some (seqObj "list" kA e) → Inv X (PN kA e) σ H' s' := fun {H' s' kA e} J' na nk ga gk =>
    J'.pins_of fun p hp => by
      rcases List.mem_append.mp hp with z | z
      · exact J'.pin p (List.mem_append_right _ z)
      · have z' : p = (a, seqObj "list" #[] e1) ∨ p = (kS, seqObj "list" kA e) := by simpa using z
        rcases z' with rfl | rfl
        · obtain ⟨f1, f2, f3, _⟩ := fpo H' a age na
          exact ⟨ga, f1, f2, f3, fun v q => nomatch q⟩
        · obtain ⟨f1, f2, f3, _⟩ := fpo H' kS kge nk
          exact ⟨gk, f1, f2, f3, fun v q => nomatch q⟩
  have unpin : ∀ {H' : Hp} {s' : Shared} {kA : Array Value} {e : Nat}, Inv X (PN kA e) σ H' s' → Inv X pins σ H' s' ∧ H' a = none ∧ H' kS = none ∧ s'.heap.get? a = some (seqObj "list" #[] e1) ∧ s'.heap.get? kS = some (seqObj "list" kA e) := fun {H' s' kA e} J' => by
    have pa := J'.pin (a, seqObj "list" #[] e1) (List.mem_append_right _ (List.mem_append_right _ (by simp)))
    have pk := J'.pin (kS, seqObj "list" kA e) (List.mem_append_right _ (List.mem_append_right _ (by simp)))
    exact ⟨J'.pins_of fun p hp => J'.pin p (List.mem_append_right _ (List.mem_append_left _ hp)), pa.2.1, pk.2.1, pa.1, pk.1⟩
  have nA : H a = none := I.hok.fresh age
  have nK : H kS = none := I.hok.fresh kge
  unfold ksk_rest
  refine wpAny_bind (wpAny_rule ?_)
  first
    | rw [List.forIn_toArray]
    | (rw [← Array.forIn_toList]; simp only [List.toList_toArray])
  refine wpAny_bind (ksk_fold (fun i s' => ∃ H' ys kA e, Inv X (PN kA e) σ H' s' ∧ J i ys H' ∧ Vals ys kA.toList ∧ ys.length = i) its 0 { s with heap := hS } ⟨H, [], #[], 0, repin I1 nA nK gA gK, h0, .nil, rfl⟩ ?step ?done)
  case step =>
    rintro j v s' hv ⟨H', ys, kA, e, J', hJ, rk, hlj⟩
    simp only [Nat.zero_add] at hJ hlj ⊢
    have hj : j < its.length := (List.getElem?_eq_some_iff.mp hv).1
    have hjx : j < xs.length := by rw [← hlen]; exact hj
    have hx : xs[j]? = some xs[j] := List.getElem?_eq_getElem hjx
    have rx : RelV xs[j] v := get_raw rv (by simpa using hv) hjx
    have hkz : kA.size ≤ its.length := by
      have hq : ys.length = kA.size := rk.length.trans Array.length_toList
      omega
    refine wpAny_bind (wpAny_attempt (wpAny_mono (turn j _ ys H' (PN kA e) s' v hx rx (fun p hp => List.mem_append_left _ hp) J' hJ) (fun u s2 he => ?_) fun _ _ hF => hF.elim))
    obtain ⟨y, H2, J2, ry, hJ2⟩ := he
    obtain ⟨I2, na, nk, ga, gk⟩ := unpin J2
    try dsimp only
    have sb := Heap.SameBut.update s2.heap kS (Obj.mapSeq (·.push u))
    obtain ⟨c2, hc2⟩ : ∃ c2, (s2.heap.update kS (Obj.mapSeq (·.push u))).get? kS = some (seqObj "list" (kA.push u) c2) := ⟨_, get?_update_seq gk (·.push u)⟩
    refine wpAny_bind (listUpdate_at gk rfl ?_ (Nat.le_trans hkz hL) (Nat.le_trans (Nat.le_of_eq (Array.size_push ..)) (Nat.succ_le_succ (Nat.le_trans hkz hL))))
    have I3 : Inv X pins σ H2 { s2 with heap := s2.heap.update kS (Obj.mapSeq (·.push u)) } := Inv.turnedL (t' := s2.toks) (ch := [kS]) I2 (fun b o hb q => (sb.2 b (fun z => hb (by rw [z]; exact List.mem_singleton_self _))).trans q) (fun b hb => by rw [List.mem_singleton] at hb; rw [hb]; exact fpo H2 kS kge nk)
    exact wpAny_pure ⟨rfl, H2, ys ++ [y], kA.push u, c2, repin I3 na nk ((sb.2 a kNa.symm).trans ga) hc2, hJ2, by rw [Array.toList_push]; exact Vals.append rk (.cons ry .nil), by rw [List.length_append, hlj]; rfl⟩
  case done =>
    rintro s' ⟨H', ys, kA, e, J', hJ, rk, hlj⟩
    simp only [Nat.zero_add] at hJ hlj
    rw [hlen] at hJ hlj
    obtain ⟨I2, na, nk, ga, gk⟩ := unpin J'
    have hks : kA.size = its.length := by
      have hq : ys.length = kA.size := rk.length.trans Array.length_toList
      omega
    try dsimp only
    refine wpAny_bind (listItems_at gk rfl ?_)
    obtain ⟨as, hR⟩ := Dp.readsAll I2 (bs.map k) ys kA.toList (keys ys H' hJ) rk
    have hk' : EachIs (fun v d => ∃ as, Reads s'.heap v d as) kA.toList (bs.map k) := PySem.W.readsAll_each (fun d => d) (bs := bs.map k) (by rw [List.map_id']; exact hR)
    have hu' : ∀ d ∈ bs.map k, X.A.in1.in1.units + d.depth < cLine := fun d hd => by
      obtain ⟨x, hx, rfl⟩ := List.mem_map.mp hd
      exact hu x hx
    refine PySem.W.keyH_end (κ := dataKind s'.heap (bs.map k)) (h₁ := PySem.W.hideAll s'.heap [kS]) (kS := kS) (vs := its) (fun b o hb q => PySem.W.of_hideAll _ q) (PySem.W.hideAll_none _ (List.mem_singleton_self _)) gk ga kNa (SortsAt.data hk' hal hsk hu') hks hL ?_
    intro h' tk c kp hD
    have ko : KeyedOut false (bs.map k) its (sortVals (dataKind s'.heap (bs.map k)) false kA.toList its) := ⟨s'.heap, kA.toList, hal, rfl, hk'⟩
    have ko2 : KeyedOut false ((bs.zip xs).map fun z => k z.1) its (sortVals (dataKind s'.heap (bs.map k)) false kA.toList its) := by
      have em : (bs.zip xs).map (fun z => k z.1) = bs.map k := by
        have e2 : (bs.zip xs).map (fun z => k z.1) = ((bs.zip xs).map Prod.fst).map k := by rw [List.map_map]; rfl
        rw [e2, List.map_fst_zip (Nat.le_of_eq hbl)]
      rw [em]
      exact ko
    have hEa := keyedOut_each (R := fun v (z : β × V) => RelV z.2 v) (fun z : β × V => k z.1) ko2 (each_of_vals (by rw [List.length_zip, hbl, Nat.min_self, hlen]) fun i v z e1 e2 => by
      obtain ⟨q1, q2⟩ := List.getElem?_zip_eq_some.mp e2
      have hi := (List.getElem?_eq_some_iff.mp q2).1
      have q3 : xs[i] = z.2 := Option.some.inj ((List.getElem?_eq_getElem hi).symm.trans q2)
      rw [← q3]
      exact get_raw rv (by simpa using e1) hi)
    generalize eo : sortVals (dataKind s'.heap (bs.map k)) false kA.toList its = out at hEa hD
    have rout : ∀ {vs : List Value} {zs : List (β × V)}, EachIs (fun v (z : β × V) => RelV z.2 v) vs zs → Vals (zs.map Prod.snd) vs := by
      intro vs zs h
      induction h with
      | nil => exact .nil
      | cons r t ih => exact .cons r ih
    have rvo := rout hEa
    have hol : (((bs.zip xs).mergeSort (dataLe false fun z => k z.1)).map Prod.snd).length ≤ sizeLine := by
      rw [List.length_map, (List.mergeSort_perm _ _).length_eq, List.length_zip, hbl, Nat.min_self, ← hlen]
      exact hL
    have kept : ∀ b o, b ∉ [a, kS] → s'.heap.get? b = some o → h'.get? b = some o := fun b o hb q => kp b o (fun z => hb (by rw [z]; simp)) (PySem.W.hideAll_get _ q fun z => hb (by rw [List.mem_singleton] at z; rw [z]; simp))
    refine ⟨rfl, .ref a, upd H' a (.lst _), ?_, rfl, fin H' a ys hJ na nA⟩
    exact Inv.adopt I2 kept (fun b hb => by
      have hb' : b = a ∨ b = kS := by simpa using hb
      rcases hb' with rfl | rfl
      · exact fpo H' _ age na
      · exact fpo H' _ kge nk) (by simp) ⟨hol, out, c, rvo, hD⟩
end
end DL
set_option Elab.async false
set_option linter.all false
set_option maxRecDepth 100000
set_option autoImplicit false
namespace DL
open PySem PySem.Spec PyProof.Rows L2 PySem.Calls
open PySem.W (AllAlike Sortable EachIs dataLe alike)
open Evl (Ex)
variable [Tb]

/-! ### a lambda of one parameter -/
structure LamP (sc scope : Scope) (p : Str) (caps : List (Str × Nat)) : Prop where
  kind : scope.kind = .function
  co : scope.isCoroutine = false
  gen : scope.isGenerator = false
  noc : ∀ y ∈ scope.names, y.2 ≠ .cell
  par : scope.names.lookup p = some .local
  loc : ∀ y ∈ scope.names, y.2 = .local → y.1 = p
  cap : ∀ c ∈ caps, scope.names.lookup c.1 = some .free
  free : ∀ y ∈ scope.names, y.2 = .free → sc.names.lookup y.1 = some .cell ∨ sc.names.lookup y.1 = some .free
def lamPB (sc scope : Scope) (p : Str) (caps : List (Str × Nat)) : Bool :=
  decide (scope.kind = .function) && !scope.isCoroutine && !scope.isGenerator && decide (scope.names.lookup p = some .local) && caps.all (fun c => decide (scope.names.lookup c.1 = some .free)) &&
    scope.names.all fun y => !decide (y.2 = .cell) && (!decide (y.2 = .local) || decide (y.1 = p)) && (!decide (y.2 = .free) || decide (sc.names.lookup y.1 = some .cell) || decide (sc.names.lookup y.1 = some .free))
theorem lamP_by {sc scope : Scope} {p : Str} {caps : List (Str × Nat)} (h : lamPB sc scope p caps = true) : LamP sc scope p caps := by
  unfold lamPB at h
  simp only [Bool.and_eq_true, Bool.or_eq_true, Bool.not_eq_true', decide_eq_true_eq, decide_eq_false_iff_not, List.all_eq_true] at h
  obtain ⟨⟨⟨⟨⟨h1, h2⟩, h3⟩, h4⟩, h5⟩, h6⟩ := h
  refine ⟨h1, h2, h3, fun y hy => (h6 y hy).1.1, h4, fun y hy e => ?_, h5, fun y hy e => ?_⟩
  · rcases (h6 y hy).1.2 with z | z
    · exact absurd e z
    · exact z
  · rcases (h6 y hy).2 with (z | z) | z
    · exact absurd e z
    · exact .inl z
    · exact .inr z
abbrev lamE (X : Cx) (scope : Scope) (L f c' : Addr) : Env := PySem.W.envX (X.env.qual ++ "<lambda>") scope L f (.ref c') (cloFrom X.env.cells scope.names [])
def lamC (X : Cx) (A : Around) (outer : List Env) (s : Shared) (H : Hp) (N : List Str) (scope : Scope) (f c' : Addr) : Cx where
  prog := X.prog
  w := X.w
  K := X.K
  mg := X.mg
  base := X.base
  A := A.deeper (lamE X scope s.heap.objs.size f c')
  N := N
  s_0 := s
  H_0 := H
  env := lamE X scope s.heap.objs.size f c'
  outer := outer
  stack := lamE X scope s.heap.objs.size f c' :: outer
  ex := []
  fn := fun _ => false
  calm := true
  pn := []
  xe := fun e s' => wpAny (model X.prog X.w) (A.deeper (lamE X scope s.heap.objs.size f c')) (leaving (lamE X scope s.heap.objs.size f c') e) (fun _ _ => False) (fun _ _ => False) s'
section
variable {X : Cx} {pins : List (Addr × Obj)} {σ : L2.St} {H : Hp} {s : Shared}
theorem lam_inv {A : Around} {scope : Scope} {f c' : Addr} {p : Str} {caps : List (Str × Nat)} {h₁ : Heap} {tk : Nat} {v : V} {u : Value} (I : Inv X pins σ H s) (L : LamP X.env.scope scope p caps) (hA : A.frames = some X.stack) (hd : A.handled = none) (hcap : ∀ c ∈ caps, X.N[c.2]? = some c.1) (rv : RelV v u)
    (hns : h₁.Ns s.heap.objs.size fun y => ([(p, u)] : List (Str × Value)).reverse.lookup y) (kp : ∀ b o, s.heap.get? b = some o → h₁.get? b = some o) :
    Inv (lamC X A X.stack s H (p :: caps.map (·.1)) scope f c') [] (some v :: caps.map fun c => (σ[c.2]?).join) H { s with heap := h₁, toks := tk } := by
  have e0 := I.env0
  have hfree : ∀ y ∈ scope.names, y.2 = .free → ∃ c, X.env.cells.lookup y.1 = some c := fun y hy e => (L.free y hy e).elim (fun k => I.ok.has _ (.inl k)) fun k => I.ok.has _ (.inr k)
  have cm : ∀ {y c}, (cloFrom X.env.cells scope.names []).lookup y = some c → X.env.cells.lookup y = some c := fun {y c} e => by
    rcases cloFrom_mem (PySem.mem_of_lookup e) with hm | ⟨h1, h2⟩
    · cases hm
    · obtain ⟨c1, hc⟩ := hfree _ h1 rfl
      have hc : X.env.cells.lookup y = some c1 := hc
      have e2 : c = c1 := by
        rw [h2, hc]
        rfl
      rw [e2]
      exact hc
  have look : ∀ {y}, scope.names.lookup y = some .free → ∃ c, (cloFrom X.env.cells scope.names []).lookup y = some c := fun {y} hl =>
    mem_lookup (cloFrom_has (cells := X.env.cells) (acc := []) (PySem.mem_of_lookup hl))
  have cellK : ∀ {c : Addr} {v : Option Value}, s.heap.IsCell c v → h₁.IsCell c v := fun {c v} ⟨o, ho, hd⟩ => ⟨o, kp _ _ ho, hd⟩
  have noA : ∀ b : Addr, b ∉ (lamC X A X.stack s H (p :: caps.map (·.1)) scope f c').ex := fun b z => absurd (show b ∈ ([] : List Addr) from z) (by simp)
  refine ⟨⟨e0.mod, L.kind, rfl, rfl, Nat.le_refl _, fun y z c e1 e2 => I.ok.inj y z c (cm e1) (cm e2), fun y hy => ?_, fun y c z _ => ?_, fun _ => hd, Around.frames_deeper hA, .inr ⟨rfl, rfl⟩, fun b z => absurd z (noA b), e0.bs, e0.bsz, fun b _ _ => noA b,
      fun b z => absurd z (noA b), e0.funs, e0.frf⟩,
    rfl, e0.bare, Un.kept kp, ⟨_, hns, fun i y w e1 e2 e3 => ?_⟩, fun y c e => ?_, e0.hok.fresh (Nat.le_refl _), fun y c e => I.freeC y c (cm e), fun q hq => absurd (show q ∈ ([] : List (Addr × Obj)) ++ [] from hq) (by simp), e0.hok.kept kp, ?_⟩
  · have hy : scope.names.lookup y = some .cell ∨ scope.names.lookup y = some .free := hy
    rcases hy with hy | hy
    · exact absurd rfl (L.noc _ (PySem.mem_of_lookup hy))
    · exact look hy
  · have z : false = true := z
    cases z
  · have e1 : (p :: caps.map (·.1))[i]? = some y := e1
    cases i with
    | zero =>
      cases e1
      cases e2
      refine ⟨u, rv, .inl ⟨L.par, ?_⟩⟩
      show (List.lookup p ([(p, u)] : List (Str × Value)).reverse) = some u
      simp [List.lookup]
    | succ i =>
      have e1' : (caps.map (·.1))[i]? = some y := e1
      have e2' : (caps.map fun c => (σ[c.2]?).join)[i]? = some (some w) := e2
      rw [List.getElem?_map] at e1' e2'
      cases q : caps[i]? with
      | none => rw [q] at e1'; cases e1'
      | some c =>
        rw [q] at e1' e2'
        have hy : c.1 = y := Option.some.inj e1'
        have hw : (σ[c.2]?).join = some w := Option.some.inj e2'
        have hc : c ∈ caps := List.mem_of_getElem? q
        have hσ : σ[c.2]? = some (some w) := by
          cases z : σ[c.2]? with
          | none => rw [z] at hw; cases hw
          | some t => rw [z] at hw; exact congrArg some hw
        have hf := L.cap c hc
        rw [hy] at hf
        obtain ⟨m, hn, hl⟩ := I.loc
        have hsc := L.free _ (PySem.mem_of_lookup hf) rfl
        have hvis : Vis X.env.scope y := hsc.elim (fun k => .inr (.inl k)) (fun k => .inr (.inr k))
        obtain ⟨w', r, ql⟩ := hl c.2 y w (by rw [← hy]; exact hcap c hc) hσ hvis
        obtain ⟨c2, h2⟩ := look hf
        refine ⟨w', r, .inr ⟨.inr hf, c2, h2, ?_⟩⟩
        have c1 := cm h2
        rcases ql with ⟨k', _⟩ | ⟨_, c3, e', z⟩
        · have k' : X.env.scope.names.lookup y = some .local := k'
          rcases hsc with k2 | k2 <;> rw [show X.env.scope.names.lookup y = _ from k2] at k' <;> cases k'
        · rw [c1] at e'
          cases e'
          exact cellK z
  · obtain ⟨w', z⟩ := I.cell y c (cm e)
    exact ⟨w', cellK z⟩
  · show (some v :: caps.map fun c => (σ[c.2]?).join).length = (p :: caps.map (·.1)).length
    simp
/-- a call of the lambda's function -/
theorem lam_run {A : Around} {params : Arguments} {body : Expr} {scope : Scope} {f c' : Addr} {pm ctv : Value} {p : Str} {caps : List (Str × Nat)} {tb : TE} {Q : VK} {v : V} {u : Value} (I : Inv X pins σ H s) (L : LamP X.env.scope scope p caps) (hA : A.frames = some X.stack) (hd : A.handled = none) (hdp : A.depth < recursionLimit)
    (hcap : ∀ c ∈ caps, X.N[c.2]? = some c.1) (hf : s.heap.get? f = some (PySem.W.kla_obj "<lambda>" (X.env.qual ++ "<lambda>") params body scope (cloFrom X.env.cells scope.names []) pm c' ctv)) (hc : H c' = some (LamX.CodeO c' (X.env.qual ++ "<lambda>")))
    (hbind : bindArgs (PySem.W.kla_fn "<lambda>" (X.env.qual ++ "<lambda>") params body scope (cloFrom X.env.cells scope.names []) pm (.ref c') ctv) ⟨[u], []⟩ = pure [(p, u)]) (rv : RelV v u)
    (hbody : PE (lamC X A X.stack s H (p :: caps.map (·.1)) scope f c') body tb) (ht : tb (some v :: caps.map fun c => (σ[c.2]?).join) H Q) :
    wpAny (model X.prog X.w) A (call (.ref f) [u]) (EP X pins σ Q) (fun _ _ => False) s := by
  obtain ⟨⟨oc, vs, t, hoc, hdc, hvc⟩, _, _⟩ := I.hok c' _ hc
  have rc : codeAny (model X.prog X.w) A (.call (.ref f) ⟨[u], []⟩) (CR (fun _ _ _ _ _ _ => False) X.stack X.prog X.w H s Q fun _ _ _ => False) s := by
    refine PySem.W.kla_callFunE hdp hf rfl L.co L.gen rfl ⟨c', oc, vs, t, rfl, hoc, hdc, hvc⟩ ?_
    rw [hbind]
    refine wpAny_pure (wpAny_newFunctionEnv (fun y hy => L.noc y hy) (fun y hy => ?_) (fun h₁ hns hsb => ⟨I.nolimit.fresh _ hsb, ?_⟩) L.kind)
    · have hy' : y = (p, u) := by simpa using hy
      rw [hy']
      exact L.par
    · show codeAny _ _ (.expr body (lamE X scope s.heap.objs.size f c')) _ _
      have kp : ∀ b o, s.heap.get? b = some o → h₁.get? b = some o := fun b o e => hsb.extBut b o (Nat.ne_of_lt (Heap.lt_size e)) (Heap.get?_push_of_some _ e)
      have J := lam_inv (f := f) (c' := c') (tk := s.toks + ([(p, u)] : List (Str × Value)).length) I L hA hd hcap rv hns kp
      refine PySem.W.kla_codeExpr (wpAny_mono (hbody.run [] _ _ H Q J ht) (fun w s' hq => ?_) fun e s' hq => hq)
      obtain ⟨w', H', J', rw', q⟩ := hq
      exact ⟨w', H', J'.os, J'.bare, J'.base, J'.hok, rw', q⟩
  refine wpAny_call (codeAny_mono rc fun r s' hq => ?_)
  match r, hq with
  | .error e, hq => exact hq.elim
  | .ok (.ret u), hq => exact I.after hq
  | .ok .next, hq => exact False.elim hq
  | .ok .brk, hq => exact False.elim hq
  | .ok .cont, hq => exact False.elim hq
end
end DL
set_option Elab.async false
set_option linter.all false
set_option maxRecDepth 100000
set_option autoImplicit false
namespace DL
open PySem PySem.Spec PyProof.Rows L2 PySem.Calls
open PySem.W (AllAlike Sortable EachIs dataLe alike)
open Evl (Ex)
variable [Tb]

/-! ### sorted(xs, key=lambda ..) by functions of the slots -/
def lamEn (caps : List (Str × Nat)) (ρ : En) (d : D) : En := some (.im d) :: caps.map fun c => keepI ρ[c.2]?
def keysOf (fk : En → R (Pl × En)) (caps : List (Str × Nat)) (ρ : En) : List D → R (List D)
  | [] => .ok []
  | d :: ds => (noX (toI fk (lamEn caps ρ d))).bind fun q => (keysOf fk caps ρ ds).bind fun ks => .ok (q.1 :: ks)
def tupKey : PyData → Bool
  | .tuple (_ :: _) => true
  | _ => false
def okKeys (ks : List PyData) : Bool := ks.all (fun a => ks.all fun b => alike a b) && ks.all tupKey && ks.all fun k => decide (k.depth ≤ 50)
def sortD (ds : List D) (ks : List PyData) : List D := ((ds.zip ks).mergeSort (dataLe false fun z => z.2)).map (·.1)
def sortKG (fi : En → R (Pl × En)) (caps : List (Str × Nat)) (fk : En → R (Pl × En)) : En → R (Pl × En) := fun ρ => (settle fi ρ).bind fun p => (view p.2 p.1).bind fun d => (oR (lstOf d)).bind fun ds => (keysOf fk caps p.2 ds).bind fun kds => (oR (toPyL kds)).bind fun ks =>
  if okKeys ks = true then .ok (.new (sortD ds ks), p.2) else .stk
theorem okKeys_spec {ks : List PyData} (h : okKeys ks = true) : AllAlike ks ∧ Sortable ks ∧ ∀ d ∈ ks, d.depth ≤ 50 := by
  unfold okKeys at h
  simp only [Bool.and_eq_true, List.all_eq_true, decide_eq_true_eq] at h
  obtain ⟨⟨h1, h2⟩, h3⟩ := h
  refine ⟨fun d hd e he => h1 d hd e he, .inl fun d hd => ?_, h3⟩
  have := h2 d hd
  unfold tupKey at this
  split at this
  · exact ⟨_, _, rfl⟩
  · cases this
theorem keysOf_exn {fk : En → R (Pl × En)} {caps : List (Str × Nat)} {ρ : En} : ∀ {ds : List D} {c ns es ρ'}, keysOf fk caps ρ ds = .exn c ns es ρ' → False
  | [], _, _, _, _, e => by cases e
  | d :: ds, c, ns, es, ρ', e => by
    unfold keysOf at e
    cases q : noX (toI fk (lamEn caps ρ d)) with
    | exn c ns ds ρ' => cases z : toI fk (lamEn caps ρ d) <;> rw [z] at q <;> cases q
    | stk => rw [q] at e; cases e
    | ok a =>
      rw [q] at e
      cases q2 : keysOf fk caps ρ ds with
      | exn c ns ds ρ' => exact keysOf_exn q2
      | stk => rw [R.ok_bind, q2] at e; cases e
      | ok b => rw [R.ok_bind, q2] at e; cases e
theorem keysOf_get {fk : En → R (Pl × En)} {caps : List (Str × Nat)} {ρ : En} : ∀ {ds ks : List D}, keysOf fk caps ρ ds = .ok ks → ks.length = ds.length ∧ ∀ (i : Nat) (d : D), ds[i]? = some d → ∃ k ρ', toI fk (lamEn caps ρ d) = .ok (k, ρ') ∧ ks[i]? = some k
  | [], ks, e => by cases e; exact ⟨rfl, fun i d h => by cases h⟩
  | d :: ds, ks, e => by
    unfold keysOf at e
    cases q : noX (toI fk (lamEn caps ρ d)) with
    | exn c ns ds ρ' => cases z : toI fk (lamEn caps ρ d) <;> rw [z] at q <;> cases q
    | stk => rw [q] at e; cases e
    | ok a =>
      rw [q] at e
      cases q2 : keysOf fk caps ρ ds with
      | exn c ns ds ρ' => exact (keysOf_exn q2).elim
      | stk => rw [R.ok_bind, q2] at e; cases e
      | ok b =>
        rw [R.ok_bind, q2] at e
        cases e
        obtain ⟨h1, h2⟩ := keysOf_get q2
        refine ⟨by rw [List.length_cons, List.length_cons, h1], fun i d' hd => ?_⟩
        cases i with
        | zero =>
          have ed : d = d' := Option.some.inj hd
          subst ed
          cases z : toI fk (lamEn caps ρ d) with
          | ok z0 => rw [z] at q; cases q; exact ⟨_, _, rfl, rfl⟩
          | stk => rw [z] at q; cases q
          | exn _ _ _ _ => rw [z] at q; cases q
        | succ i => exact h2 i d' hd
theorem RepL.all_of {C : Ck} {B : Hp} {α : Type} (f : α → D) (g : α → V) : ∀ {l : List α}, (∀ z ∈ l, Rep C B (f z) (g z)) → RepL C B (l.map f) (l.map g)
  | [], _ => rfl
  | z :: l, h => ⟨_, _, rfl, h z List.mem_cons_self, RepL.all_of f g fun y hy => h y (List.mem_cons_of_mem _ hy)⟩
theorem RepL.zip_mem {C : Ck} {B : Hp} {α : Type} : ∀ {ds : List D} {vs : List V} {as : List α}, RepL C B ds vs → ∀ z ∈ (ds.zip as).zip vs, Rep C B z.1.1 z.2
  | [], _, _, _, z, h => by simp at h
  | d :: ds, _, [], _, z, h => by simp at h
  | d :: ds, _, a :: as, hr, z, h => by
    obtain ⟨v, r, rfl, h1, h2⟩ := hr
    rw [List.zip_cons_cons, List.zip_cons_cons] at h
    rcases List.mem_cons.mp h with rfl | h
    · exact h1
    · exact RepL.zip_mem h2 z h
section
variable {X : Cx} {W : WX} {pins : List (Addr × Obj)} {σ : L2.St} {H : Hp} {s : Shared}
/-- what is known behind the making of a lambda -/
structure Made (H H2 : Hp) : Prop where
  ext : ∀ b o, H b = some o → (∀ ps, o ≠ .tbl ps) → H2 b = some o
  dom : ∀ b, H b ≠ none → H2 b ≠ none
  tab : LamX.Tabs Tb.T H → LamX.Tabs Tb.T H2
theorem Made.refl (H : Hp) : Made H H := ⟨fun _ _ h _ => h, fun _ h => h, fun h => h⟩
theorem lam_new {c P : Addr} {params : Arguments} {body : Expr} {scope : Scope} {pos : Pos} {E : Value → Shared → Prop} {Q : Value → Shared → Prop} (I : Inv X pins σ H s) (TB : LamX.TabB X.base X.mg c P) (hcode : X.env.code = .ref c)
    (hm : (P, X.env.qual ++ "<lambda>") ∈ Tb.T) (hu : ∀ p ∈ Tb.T, p.1 = P → p.2 = X.env.qual ++ "<lambda>") (hT : LamX.Tabs Tb.T H) (hdef : defaultsOf params X.env = ([], [])) (hfree : ∀ y ∈ scope.names, y.2 = .free → ∃ c, X.env.cells.lookup y.1 = some c)
    (h : ∀ (f c' : Addr) (pm ctv : Value) (H1 : Hp) (s' : Shared), Inv X pins σ H1 s' → Made H H1 → s'.heap.get? f = some (PySem.W.kla_obj "<lambda>" (X.env.qual ++ "<lambda>") params body scope (cloFrom X.env.cells scope.names []) pm c' ctv) → s.heap.objs.size ≤ f → H1 f = none → f ∉ frs X.stack →
      H1 c' = some (LamX.CodeO c' (X.env.qual ++ "<lambda>")) → Q (.ref f) s') : wpAny (model X.prog X.w) X.A (eval (.Lambda params body scope pos) X.env) Q E s := by
  obtain ⟨ps, hP, ht, ha⟩ := hT _ hm
  apply PySem.W.kla_eval hdef
  have bP : s.heap.BuiltinsAt X.mg P := TB.bm.keeps I.bk
  have hP' : s.heap.get? P = some { cls := .none, data := .fields ps } := I.hok P _ hP
  have nofr : ∀ f, s.heap.objs.size ≤ f → f ∉ frs X.stack := fun f hf z => (List.mem_cons.mp (I.stkSub _ z)).elim (fun e => absurd (Nat.lt_of_lt_of_le I.lt (e ▸ hf)) (Nat.lt_irrefl _)) (I.nofs hf)
  cases hc : codeAmong pos ps.toList with
  | some cv =>
    obtain ⟨c', rfl, hco⟩ := ha pos cv hc
    apply PySem.W.kla_makeFunctionHit (mg := X.mg) (c := c) (P := P) (ps := ps) (closure_ok hfree) I.ok.glob (I.mod.glob.keeps I.bk) hcode (TB.code.keeps I.bk) hP' ht hc bP
    intro ctv h' tk hx hsz
    exact h h'.objs.size c' _ ctv H _ (I.kept fun b o e => Heap.get?_push_of_some _ (hx b o e)) (Made.refl H) (Heap.get?_push_size _ rfl) hsz (I.hok.fresh hsz) (nofr _ hsz) hco
  | none =>
    apply PySem.W.kla_makeFunction (mg := X.mg) (c := c) (P := P) (ps := ps) (closure_ok hfree) I.ok.glob (I.mod.glob.keeps I.bk) hcode (TB.code.keeps I.bk) hP' ht hc TB.gP bP
    rintro c' ctv h' tk hx hge hlt ⟨c2, oc, vs, t, e2, hoc, hd, hv⟩ htb
    cases e2
    have hsz : s.heap.objs.size ≤ h'.objs.size := Nat.le_trans hge (Nat.le_of_lt hlt)
    have nC : H c' = none := I.hok.fresh hge
    have I1 := LamX.inv_table (t' := tk) (more := #[rawInt pos.line, rawInt pos.col, .ref c']) (h' := h'.push (PySem.W.kla_obj "<lambda>" (X.env.qual ++ "<lambda>") params body scope (cloFrom X.env.cells scope.names []) ((X.mg "__name__").getD .none) c' ctv)) I hP
      (fun b o hb e => Heap.get?_push_of_some _ (hx b o hb e)) (Heap.get?_push_of_some _ htb) hge ⟨oc, vs, t, Heap.get?_push_of_some _ hoc, hd, hv⟩
    have keepN : ∀ b o, H b = some o → (∀ ps, o ≠ .tbl ps) → (upd (upd H P (.tbl (ps ++ #[rawInt pos.line, rawInt pos.col, .ref c']))) c' (LamX.CodeO c' (X.env.qual ++ "<lambda>"))) b = some o := fun b o e n => by
      rw [upd_ne (ne_of_none e nC), upd_ne (fun z => n ps (Option.some.inj (e.symm.trans (by rw [z]; exact hP))))]
      exact e
    have eL : (ps ++ #[rawInt pos.line, rawInt pos.col, .ref c']).toList = ps.toList ++ [rawInt pos.line, rawInt pos.col, .ref c'] := by simp
    refine h h'.objs.size c' _ ctv _ _ I1 ⟨keepN, fun b hb => ?_, fun hT p hp => ?_⟩ (Heap.get?_push_size _ rfl) hsz ?_ (nofr _ hsz) upd_same
    · by_cases z1 : b = c'
      · rw [z1, upd_same]; intro z; cases z
      · rw [upd_ne z1]
        by_cases z2 : b = P
        · rw [z2, upd_same]; intro z; cases z
        · rw [upd_ne z2]; exact hb
    · by_cases hb : p.1 = P
      · rw [hu p hp hb, hb]
        refine ⟨_, by rw [upd_ne (ne_of_none hP nC), upd_same], by rw [eL]; exact PySem.TriplesOk_snoc _ _ _ _ ht, fun p' cv hcv => ?_⟩
        rw [eL] at hcv
        rcases LamX.among_app _ ht hcv with z | z
        · obtain ⟨c0, e1, e2⟩ := ha p' cv z
          exact ⟨c0, e1, keepN _ _ e2 LamX.codeO_ne⟩
        · exact ⟨c', z, upd_same⟩
      · obtain ⟨ps', a1, a2, a3⟩ := hT p hp
        refine ⟨ps', by rw [upd_ne (ne_of_none a1 nC), upd_ne hb]; exact a1, a2, fun p' cv hcv => ?_⟩
        obtain ⟨c0, e1, e2⟩ := a3 p' cv hcv
        exact ⟨c0, e1, keepN _ _ e2 LamX.codeO_ne⟩
    · rw [upd_ne (Nat.ne_of_gt hlt), upd_ne (Nat.ne_of_gt (Nat.lt_of_lt_of_le (Heap.lt_size hP') hsz))]
      exact I.hok.fresh hsz
theorem SO.lam {G : Gh} {B H H2 : Hp} {σ : St} {ρ : En} (S : SO G B H σ ρ) (m : Made H H2) : SO G B H2 σ ρ ∧ StT σ ρ B H ρ B H2 := by
  have nt := S.tr.nt G.nt
  have ex2 : Ex B H2 := fun b o e => m.ext b o (S.ex b o e) fun ps z => nt b ps (by rw [← z]; exact e)
  have mu : ∀ b vs, H b = some (.lst vs) → H2 b = some (.lst vs) := fun b vs e => m.ext b _ e no_tbl
  refine ⟨⟨S.len, ex2, S.im, fun i o ds e => ?_, S.ap, S.tr.ex, S.tr.nb, fun b o e n q => m.ext b o (S.tr.kp b o e n q) q, fun b h => m.dom b (S.tr.dm b h), fun h => m.tab (S.tr.tb h), S.tr.nt⟩, ⟨Ex.refl B, fun _ _ => rfl, fun b o e _ q => m.ext b o e q, m.dom, m.tab, fun h => h⟩, fun _ h => h⟩
  obtain ⟨l, vs, e1, h1, r⟩ := S.mu i o ds e
  exact ⟨l, vs, e1, mu l vs h1, r⟩
/-- the slots of a lambda's body -/
theorem so_lam {G : Gh} {B H : Hp} {σ : St} {ρ : En} (S : SO G B H σ ρ) {d : D} {v : V} (r : Rep G.C B d v) (caps : List (Str × Nat)) :
    SO { C := G.C, H0 := H, B0 := B, P := [], Z := fun _ => none, tb := S.tr.tb G.tb, nt := S.tr.nt G.nt } B H (some v :: caps.map fun c => (σ[c.2]?).join) (lamEn caps ρ d) := by
  have key : ∀ (i : Nat) (x : Sl), (lamEn caps ρ d)[i]? = some (some x) → ∃ d' w, x = .im d' ∧ (some v :: caps.map fun c => (σ[c.2]?).join)[i]? = some (some w) ∧ Rep G.C B d' w := fun i x e => by
    cases i with
    | zero => cases e; exact ⟨d, v, rfl, rfl, r⟩
    | succ i =>
      have e' : (caps.map fun c => keepI ρ[c.2]?)[i]? = some (some x) := e
      rw [List.getElem?_map] at e'
      cases q : caps[i]? with
      | none => rw [q] at e'; cases e'
      | some c =>
        rw [q] at e'
        have e2 : keepI ρ[c.2]? = some x := Option.some.inj e'
        unfold keepI at e2
        split at e2
        · rename_i d' z
          cases e2
          obtain ⟨w, h1, h2⟩ := S.im c.2 d' z
          refine ⟨d', w, rfl, ?_, h2⟩
          show (caps.map fun c => (σ[c.2]?).join)[i]? = some (some w)
          rw [List.getElem?_map, q]
          show some ((σ[c.2]?).join) = _
          rw [h1]
          rfl
        · cases e2
  refine ⟨by simp [lamEn], S.ex, fun i d' e => ?_, fun i o ds e => ?_, fun i j o ds o' ds' l e => ?_, Tr.refl _ _ _⟩
  · obtain ⟨d2, w, z, h1, h2⟩ := key i _ e
    cases z
    exact ⟨w, h1, h2⟩
  · obtain ⟨d2, w, z, _⟩ := key i _ e
    cases z
  · obtain ⟨d2, w, z, _⟩ := key i _ e
    cases z
theorem lamEn_mu {caps : List (Str × Nat)} {ρ : En} {d : D} {σ' : St} {b : Addr} (h : MuA σ' (lamEn caps ρ d) b) : False := by
  obtain ⟨i, o, ds, e, _⟩ := h
  cases i with
  | zero => cases e
  | succ i =>
    have e' : (caps.map fun c => keepI ρ[c.2]?)[i]? = some (some (Sl.mu o ds)) := e
    rw [List.getElem?_map] at e'
    cases q : caps[i]? with
    | none => rw [q] at e'; cases e'
    | some c =>
      rw [q] at e'
      have e2 : keepI ρ[c.2]? = some (Sl.mu o ds) := Option.some.inj e'
      unfold keepI at e2
      split at e2 <;> cases e2
/-- steps of a lambda's body, in the caller's slots -/
theorem SO.tr0 {G : Gh} {B H B2 H2 : Hp} {σ : St} {ρ : En} (S : SO G B H σ ρ) (tr : Tr (fun _ => False) B H B2 H2) (ex : Ex B2 H2) : SO G B2 H2 σ ρ ∧ StT σ ρ B H ρ B2 H2 := by
  have tr' : Tr (· ∈ ([] : List Addr)) B H B2 H2 := ⟨tr.ex, tr.nb, fun b o e n q => tr.kp b o e (fun z => z) q, tr.dm, tr.tb, tr.nt⟩
  exact SO.after (P := []) S tr' ex (fun l hl => by cases hl) (fun i o ds' e => ⟨ds', e, fun l hl => .inl ⟨by simp, rfl⟩⟩) (fun i d e => e) rfl
end
end DL
set_option Elab.async false
set_option linter.all false
set_option maxRecDepth 100000
set_option autoImplicit false
namespace DL
open PySem PySem.Spec PyProof.Rows L2 PySem.Calls
open PySem.W (AllAlike Sortable EachIs dataLe alike)
open Evl (Ex)
variable [Tb] {X : Cx} {W : WX}

def tSortK (X : Cx) (te : TE) (caps : List (Str × Nat)) (fk : En → R (Pl × En)) : TE := fun σ H Q => te σ H fun x H1 => ∃ (G : Gh) (B1 : Hp) (ρ1 : En) (d : D) (ds kds : List D) (ks : List PyData), G.C = Cx.ck X ∧ SO G B1 H1 σ ρ1 ∧ VRep G.C B1 H1 d x ∧ lstOf d = some ds ∧ keysOf fk caps ρ1 ds = .ok kds ∧ toPyL kds = some ks ∧ okKeys ks = true ∧
  ∀ B' H' v, SO G B' H' σ ρ1 → StT σ ρ1 B1 H1 ρ1 B' H' → plRep G.C H1 σ B' H' (.new (sortD ds ks)) v → Q v H'
theorem toPyL_len : ∀ {ds : List D} {ks : List PyData}, toPyL ds = some ks → ks.length = ds.length
  | [], ks, e => by
    unfold toPyL at e
    cases e; rfl
  | d :: ds, ks, e => by
    unfold toPyL at e
    cases q : toPy d with
    | none => rw [q] at e; cases e
    | some k =>
      rw [q] at e
      cases q2 : toPyL ds with
      | none => rw [q2] at e; cases e
      | some ls => rw [q2] at e; cases e; rw [List.length_cons, List.length_cons, toPyL_len q2]
theorem pe_sortk {P c : Addr} {k : Nat} {p : Str} {q pos lpos kpos : Pos} {e body : Expr} {params : Arguments} {scope : Scope} {te : TE} {caps : List (Str × Nat)} {fk : En → R (Pl × En)} (hr : RoomG k X.A) (hc : X.calm = true) (hm : X.mg "sorted" = none) (he : PE X e te) (L : LamP X.env.scope scope p caps) (hcap : ∀ c ∈ caps, X.N[c.2]? = some c.1)
    (TB : LamX.TabB X.base X.mg c P) (hcode : X.env.code = .ref c) (hmT : (P, X.env.qual ++ "<lambda>") ∈ Tb.T) (hu : ∀ p ∈ Tb.T, p.1 = P → p.2 = X.env.qual ++ "<lambda>") (hb : ∀ (s : Shared) (H : Hp) (f c' : Addr), PX (lamC X X.A.in1.in1 X.stack s H (p :: caps.map (·.1)) scope f c') W0 body fk)
    (hdef : defaultsOf params X.env = ([], [])) (hbind : ∀ (cl : List (Str × Addr)) (pm : Value) (c' : Addr) (ctv u : Value), bindArgs (PySem.W.kla_fn "<lambda>" (X.env.qual ++ "<lambda>") params body scope cl pm (.ref c') ctv) ⟨[u], []⟩ = pure [(p, u)])
    (hg : Gl X "sorted") (hs : starEach [e] X.env = (false, eval e X.env) :: starEach [] X.env) : PE X (.Call (.Name "sorted" q) [e] [⟨some "key", .Lambda params body scope lpos, kpos⟩] pos) (tSortK X te caps fk) := by
  refine ⟨fun pins s σ H Q I h => ?_⟩
  refine wpAny_Call_Name_kw (ld_blt I hg hm PyProof.Rows.boot_sorted ?_ (by decide) (by decide))
  have ha := (pa_cons he pa_nil hs).run pos pins s σ H (fun vs H1 => match vs with
    | [x] => ∃ (G : Gh) (B1 : Hp) (ρ1 : En) (d : D) (ds kds : List D) (ks : List PyData), G.C = Cx.ck X ∧ SO G B1 H1 σ ρ1 ∧ VRep G.C B1 H1 d x ∧ lstOf d = some ds ∧ keysOf fk caps ρ1 ds = .ok kds ∧ toPyL kds = some ks ∧ okKeys ks = true ∧
      ∀ B' H' v, SO G B' H' σ ρ1 → StT σ ρ1 B1 H1 ρ1 B' H' → plRep G.C H1 σ B' H' (.new (sortD ds ks)) v → Q v H'
    | _ => False) I h
  have hs' : backTo pos (starEach [e] X.env) = (false, eval e X.env) :: backTo pos (starEach [] X.env) := by rw [hs]; rfl
  refine PyProof.Rows.callWith_kw (thn ha fun us s1 ⟨vs, H1, I1, r1, ev⟩ => ?_) hs' (by rw [hs']; rfl) rfl rfl
  match vs, ev with
  | [x], ev =>
  obtain ⟨G, B1, ρ1, d, ds, kds, ks, eG, S1, rv, e1, e2, e3, e4, hQ⟩ := ev
  obtain ⟨a0, xs, rfl, hsq, hrep⟩ := lst_view S1.ex rv e1
  obtain ⟨u0, rfl, ru0⟩ := Vals.one r1
  obtain rfl : u0 = .ref a0 := ru0
  -- the lambda
  refine wpAny_evalAll_cons (wpAny_bind (lam_new I1 TB hcode hmT hu (S1.tr.tb G.tb) hdef (fun y hy e => (L.free y hy e).elim (fun k => I1.ok.has _ (.inl k)) fun k => I1.ok.has _ (.inr k)) fun f c' pm ctv H2 s2 I2 md hf hfs hfn hfr hco => wpAny_bind (wpAny_standAt (wpAny_pure (wpAny_evalAll_nil ?_)))))
  show wpAny _ _ (call (.builtin "sorted") [.ref a0] [(Str.ofString "key", .ref f)]) _ _ _
  obtain ⟨S2, st2⟩ := S1.lam md
  have eK : X.K = G.C.K := by rw [eG]
  have hsq2 : SqL X.K H2 a0 xs := by
    rw [eK]
    rcases hsq with (z | ⟨o, z⟩) | z
    · exact .inl (.inl (md.ext _ _ z no_tbl))
    · exact .inl (.inr ⟨o, md.ext _ _ z (fun _ w => by cases w)⟩)
    · exact .inr z
  have hkl := (keysOf_get e2).1
  have hksl := toPyL_len e3
  have hxl := hrep.length
  obtain ⟨k1, k2, k3⟩ := okKeys_spec e4
  have ebs : (ds.zip ks).map Prod.snd = ks := List.map_snd_zip (by omega)
  let fo : Obj := PySem.W.kla_obj "<lambda>" (X.env.qual ++ "<lambda>") params body scope (cloFrom X.env.cells scope.names []) pm c' ctv
  have I3 : Inv X (pins ++ [(f, fo)]) σ H2 s2 := I2.pins_of fun p hp => by
    rcases List.mem_append.mp hp with z | z
    · exact I2.pin p (List.mem_append_right _ z)
    · rw [List.mem_singleton] at z
      rw [z]
      exact ⟨hf, hfn, Nat.ne_of_gt (Nat.lt_of_lt_of_le I1.lt hfs), I1.nofs hfs, fun v q => nomatch q⟩
  refine wpAny_mono (sortk_run (β := D × PyData) (bs := ds.zip ks) (f := f) (fun z => z.2) (fun i ys H' => ∃ B', SO G B' H' σ ρ1 ∧ StT σ ρ1 B1 H1 ρ1 B' H' ∧ RepL G.C B' (kds.take i) ys ∧ H' c' = some (LamX.CodeO c' (X.env.qual ++ "<lambda>"))) (Q := Q) I3 hsq2 ?_ ?_ ?_ ?_ ⟨B1, S2, st2, rfl, hco⟩ ?_ ?_ ?_) (fun v s' ⟨y, H', J', r, q⟩ => ⟨y, H', J'.pins_of fun p hp => J'.pin p (List.mem_append_right _ (List.mem_append_left _ hp)), r, q⟩) fun _ _ z => z
  · rw [List.length_zip]; omega
  · rw [ebs]; exact k1
  · rw [ebs]; exact k2
  · rintro ⟨d1, k0⟩ hx
    have hk0 : k0 ∈ ks := (List.of_mem_zip hx).2
    have h1 := k3 _ hk0
    have h2 := hr.r.un
    show X.A.units + 2 + k0.depth < cLine
    omega
  · rintro i x0 ys H' pins' s' v hx rx hp I' ⟨B', S', st', rk, hco'⟩
    have hi : i < ds.length := by rw [← hxl]; exact (List.getElem?_eq_some_iff.mp hx).1
    have hdi : ds[i]? = some ds[i] := List.getElem?_eq_getElem hi
    obtain ⟨x1, hx1, rx1⟩ := hrep.get hdi
    rw [hx] at hx1
    obtain rfl : x0 = x1 := Option.some.inj hx1
    obtain ⟨kd, ρk, ek1, ek2⟩ := (keysOf_get e2).2 i _ hdi
    obtain ⟨tb, hPE, hSat⟩ := hb s' H' f c'
    have pf := I'.pin (f, fo) (List.mem_append_right _ (hp _ (by simp)))
    refine lam_run (A := X.A.in1.in1) I' L I'.ok.frames (I'.ok.hd hc) (by have := hr.r.dp; show X.A.depth < recursionLimit; omega) hcap pf.1 hco' (hbind _ _ _ _ _) rx hPE ?_
    have SL := so_lam S' (Rep.mono st'.tr.ex _ rx1) caps
    refine hSat.imm { C := G.C, H0 := H', B0 := B', P := [], Z := fun _ => none, tb := S'.tr.tb G.tb, nt := S'.tr.nt G.nt } eG B' H' _ (lamEn caps ρ1 ds[i]) _ SL ?_
    rw [ek1]
    intro B2 H2' y SY stY relY
    have trF : Tr (fun _ => False) B' H' B2 H2' := ⟨SY.tr.ex, SY.tr.nb, fun b o e _ q => SY.tr.kp b o e (fun z => by cases z) q, SY.tr.dm, SY.tr.tb, SY.tr.nt⟩
    obtain ⟨S4, st4⟩ := S'.tr0 trF SY.ex
    refine ⟨B2, S4, st'.trans st4, ?_, trF.kp _ _ hco' (fun z => z) LamX.codeO_ne⟩
    rw [List.take_add_one, ek2]
    have relY' : Rep (Cx.ck X) B2 kd y := relY
    rw [← eG] at relY'
    exact RepL.append (RepL.mono st4.tr.ex _ rk) (RepL.one relY')
  · rintro ys H' ⟨B', S', st', rk, _⟩
    rw [hxl, ← hkl, List.take_length] at rk
    rw [ebs, eK]
    exact DpAll.ex S'.ex (dpl_of kds rk e3)
  · rintro H' a ys ⟨B', S', st', rk, _⟩ na na2
    refine newL (G := G) (B := B') (σ := σ) (ρ := ρ1) (ds := sortD ds ks) S' ?_ (fun B'' H'' v S'' st'' rz => hQ B'' H'' v S'' (st'.trans st'') (plRep.start rz st'.tr.dm)) a na
    have e5 : sortD ds ks = (((ds.zip ks).zip xs).mergeSort (dataLe false fun z : (D × PyData) × V => z.1.2)).map fun z => z.1.1 := by
      unfold sortD
      have e6 := PySem.W.sort_maps (r := dataLe false fun z : (D × PyData) × V => z.1.2) (s := dataLe false fun z : D × PyData => z.2) Prod.fst (l := (ds.zip ks).zip xs) (fun a _ b _ => rfl)
      rw [List.map_fst_zip (by rw [List.length_zip]; omega)] at e6
      rw [← e6, List.map_map]
      rfl
    rw [e5]
    refine RepL.all_of (fun z : (D × PyData) × V => z.1.1) Prod.snd fun z hz => ?_
    rw [(List.mergeSort_perm _ _).mem_iff] at hz
    exact Rep.mono st'.tr.ex _ (RepL.zip_mem hrep z hz)
theorem sat_sortk {te : TE} {fi : En → R (Pl × En)} {caps : List (Str × Nat)} {fk : En → R (Pl × En)} (h : Sat (Cx.ck X) W relP te fi) : Sat (Cx.ck X) W relP (tSortK X te caps fk) (sortKG fi caps fk) := by
  refine Sat.bind (R2 := relP) (t2 := fun x σ H1 Q => ∃ (G : Gh) (B1 : Hp) (ρ1 : En) (d : D) (ds kds : List D) (ks : List PyData), G.C = Cx.ck X ∧ SO G B1 H1 σ ρ1 ∧ VRep G.C B1 H1 d x ∧ lstOf d = some ds ∧ keysOf fk caps ρ1 ds = .ok kds ∧ toPyL kds = some ks ∧ okKeys ks = true ∧
    ∀ B' H' v, SO G B' H' σ ρ1 → StT σ ρ1 B1 H1 ρ1 B' H' → plRep G.C H1 σ B' H' (.new (sortD ds ks)) v → Q v H') (f2 := fun p ρ1 => (view ρ1 p).bind fun d => (oR (lstOf d)).bind fun ds => (keysOf fk caps ρ1 ds).bind fun kds => (oR (toPyL kds)).bind fun ks =>
      if okKeys ks = true then .ok (.new (sortD ds ks), ρ1) else .stk) h.settle ?_
  intro p G eG B H σ ρ B1 H1 ρ1 x Q S S1 st rel hp
  have rel : plRep G.C H σ B1 H1 p x := by rw [eG]; exact rel
  cases v1 : view ρ1 p with
  | exn c ns ds ρ' => exact (view_exn v1).elim
  | stk => rw [v1] at hp; exact hp.elim
  | ok d =>
    rw [v1] at hp
    simp only [R.ok_bind] at hp
    cases v2 : lstOf d with
    | none => rw [v2] at hp; exact hp.elim
    | some ds =>
      rw [v2] at hp
      simp only [oR_some, R.ok_bind] at hp
      cases v3 : keysOf fk caps ρ1 ds with
      | exn c ns ds ρ' => exact (keysOf_exn v3).elim
      | stk => rw [v3] at hp; exact hp.elim
      | ok kds =>
        rw [v3] at hp
        simp only [R.ok_bind] at hp
        cases v4 : toPyL kds with
        | none => rw [v4] at hp; exact hp.elim
        | some ks =>
          rw [v4] at hp
          simp only [oR_some, R.ok_bind] at hp
          split at hp
          case isFalse => exact hp.elim
          rename_i hok
          exact ⟨G, B1, ρ1, d, ds, kds, ks, eG, S1, view_ok S1 rel v1, v2, v3, v4, hok, fun B' H' v S' st' rz => hp B' H' v S' (st.trans st') (by have rz' := plRep.start rz st.tr.dm; rw [eG] at rz'; exact rz')⟩
/-- sorted(e, key=lambda p: body) -/
theorem px_sortk {P c : Addr} {k : Nat} {p : Str} {q pos lpos kpos : Pos} {e body : Expr} {params : Arguments} {scope : Scope} {fi : En → R (Pl × En)} {fk : En → R (Pl × En)} (caps : List (Str × Nat)) (hr : RoomG k X.A) (hm : X.mg "sorted" = none) (he : PX X W e fi) (L : LamP X.env.scope scope p caps)
    (TB : LamX.TabB X.base X.mg c P) (hcode : X.env.code = .ref c) (hmT : (P, X.env.qual ++ "<lambda>") ∈ Tb.T) (hu : ∀ p ∈ Tb.T, p.1 = P → p.2 = X.env.qual ++ "<lambda>") (hb : ∀ (s : Shared) (H : Hp) (f c' : Addr), PX (lamC X X.A.in1.in1 X.stack s H (p :: caps.map (·.1)) scope f c') W0 body fk)
    (hcap : ∀ c ∈ caps, X.N[c.2]? = some c.1 := by first | (intro c h; cases h; done) | (intro c h; simp only [List.mem_cons, List.not_mem_nil, or_false] at h; rcases h with rfl; rfl)) (hc : X.calm = true := by rfl)
    (hdef : defaultsOf params X.env = ([], []) := by rfl) (hbind : ∀ (cl : List (Str × Addr)) (pm : Value) (c' : Addr) (ctv u : Value), bindArgs (PySem.W.kla_fn "<lambda>" (X.env.qual ++ "<lambda>") params body scope cl pm (.ref c') ctv) ⟨[u], []⟩ = pure [(p, u)] := by intros; rfl)
    (hg : Gl X "sorted" := by rfl) (hs : starEach [e] X.env = (false, eval e X.env) :: starEach [] X.env := by rfl) : PX X W (.Call (.Name "sorted" q) [e] [⟨some "key", .Lambda params body scope lpos, kpos⟩] pos) (sortKG fi caps fk) := by
  obtain ⟨te, h, s⟩ := he
  exact ⟨_, pe_sortk hr hc hm h L hcap TB hcode hmT hu hb hdef hbind hg hs, sat_sortk s⟩
end DL
set_option Elab.async false
set_option linter.all false
set_option maxRecDepth 100000
set_option autoImplicit false
namespace DL
open PySem PySem.Spec PyProof.Rows L2
open Evl (Ex)
variable [Tb]

/-! ### defs by their names -/
structure CalD (P : Program) (w : World) (K : PySem.W.Frag) (mg : Str → Option Value) (base : Heap) (k : Nat) (x : Str) (n : Nat) (F : FD) : Prop where
  ex : ∃ f fd ps, FnG P w K mg base k f fd ps (spF ⟨K, mg⟩ F) ∧ mg x = some (.ref f) ∧ PySem.W.keepIn K (.ref f) = true ∧ Binds K fd ps [] ∧ ps.length = n
theorem CalD.mono {P : Program} {w : World} {K : PySem.W.Frag} {mg : Str → Option Value} {base : Heap} {j k : Nat} {x : Str} {n : Nat} {F : FD} (D : CalD P w K mg base j x n F) (h : j ≤ k) : CalD P w K mg base k x n F := by
  obtain ⟨f, fd, ps, h1, h2⟩ := D.ex
  exact ⟨f, fd, ps, h1.mono h, h2⟩
theorem FnG.stuck {P : Program} {w : World} {K : PySem.W.Frag} {mg : Str → Option Value} {base : Heap} {k : Nat} {f : Addr} {fd : FuncData} {ps : List Str} : FnG P w K mg base k f fd ps (spF ⟨K, mg⟩ fun _ => .stk) where
  len := fun vs H Q E ⟨_, _, _, _, _, _, _, _, z⟩ => z.elim
  run := fun A o s H a us vs Q E _ _ _ _ ⟨_, _, _, _, _, _, _, _, z⟩ => z.elim
section
variable {X : Cx} {W : WX}
theorem px_call1 {k n : Nat} {F : FD} {x : Str} {p pos : Pos} {e : Expr} {es : List Expr} {fs : En → R (List Pl × En)} (D : CalD X.prog X.w X.K X.mg X.base k x n F) (hr : RoomG k X.A) (tk : Takes X W) (ha : PXs X W (e :: es) fs) (hg : Gl X x := by rfl) (hdb : (x == ("__debug__" : Str)) = false := by decide)
    (he : starEach (e :: es) X.env = (false, eval e X.env) :: starEach es X.env := by rfl) (hpl : (backTo pos (starEach es X.env)).any (·.1) = false := by rfl) : PX X W (.Call (.Name x p) (e :: es) [] pos) (callG F fs) := by
  obtain ⟨f, fd, ps, F', hm, hk, hb, _⟩ := D.ex
  obtain ⟨t, h, s⟩ := ha
  exact ⟨_, pe_callG F' hr tk hg hm hk hb h hdb he hpl, sat_call s⟩
/-- a statement of which nothing is said -/
def stkG : En → R Fl := fun _ => .stk
theorem ps_stuck {st : Stmt} : PSt X W st stkG := ⟨fun _ _ _ => False, ⟨fun _ _ _ _ _ _ h => h.elim⟩, fun _ _ _ _ _ _ _ _ h => h.elim⟩
/-- a module's constant -/
theorem px_gc {x : Str} {v : V} {d : D} {pos : Pos} (h : ∃ u, X.mg x = some u ∧ RelV v u) (hr : ∀ B, Rep (Cx.ck X) B d v := by intro _; rfl) (hg : Gl X x := by rfl) (hd : (x == ("__debug__" : Str)) = false := by decide) : PX X W (.Name x pos) (fC d) := by
  obtain ⟨u, h1, h2⟩ := h
  exact px_glob hg h1 h2 hr hd
abbrev ixG (fa fb : En → R (Pl × En)) : En → R (Pl × En) := bin fa fb fun a b => (ixD a b).map Pl.val
abbrev sumD : List D → Option Pl := fun a => (ofInts (fun ns => some (.int ns.sum)) a).map Pl.val
/-! sorted ints -/
def sortI : List D → Option Pl
  | [d] => ((lstOf d).bind intsOf).map fun ns => .new ((ns.mergeSort fun a b => decide (a ≤ b)).map D.int)
  | _ => none
theorem sorted_one : ∀ {l m : List Int}, l.Perm m → l.Pairwise (· ≤ ·) → m.Pairwise (· ≤ ·) → l = m
  | [], m, p, _, _ => by
    have := p.length_eq
    cases m with
    | nil => rfl
    | cons _ _ => simp at this
  | a :: l, [], p, _, _ => by have := p.length_eq; simp at this
  | a :: l, b :: m, p, h1, h2 => by
    obtain ⟨a1, a2⟩ := List.pairwise_cons.mp h1
    obtain ⟨b1, b2⟩ := List.pairwise_cons.mp h2
    have e : a = b := by
      have m1 : a ∈ b :: m := p.mem_iff.mp List.mem_cons_self
      have m2 : b ∈ a :: l := p.mem_iff.mpr List.mem_cons_self
      rcases List.mem_cons.mp m1 with e | m1
      · exact e
      · rcases List.mem_cons.mp m2 with e | m2
        · exact e.symm
        · exact Int.le_antisymm (a1 _ m2) (b1 _ m1)
    subst e
    rw [sorted_one p.cons_inv a2 b2]
theorem sorted_ms (ns : List Int) : (ns.mergeSort fun a b => decide (a ≤ b)).Pairwise (· ≤ ·) := by
  have h := List.pairwise_mergeSort (le := fun a b : Int => decide (a ≤ b)) (fun a b c h1 h2 => by simp only [decide_eq_true_eq] at *; omega) (fun a b => by simp only [Bool.or_eq_true, decide_eq_true_eq]; omega) ns
  exact h.imp fun h => by simpa using h
theorem cr_sortI {C : Ck} : CRS C (rSortedI C.K) sortI := by
  intro G eG B H σ ρ vs ds p Q S h e q
  subst eG
  unfold sortI at e
  split at e
  · rename_i d
    obtain ⟨v, rfl, h1⟩ := h.one
    cases z : lstOf d with
    | none => rw [z] at e; cases e
    | some es =>
      rw [z] at e
      dsimp only [Option.bind_some] at e
      cases z2 : intsOf es with
      | none => rw [z2] at e; cases e
      | some ns =>
        rw [z2] at e
        cases e
        obtain ⟨a, ws, rfl, h2, h3⟩ := lst_view S.ex h1 z
        rw [intsOf_eq z2] at h3
        rw [h3.ints] at h2
        refine ⟨a, ns, rfl, h2, fun ns' p hp hs hn => ?_⟩
        have en : ns' = ns.mergeSort fun a b => decide (a ≤ b) := sorted_one (hp.trans (List.mergeSort_perm _ _).symm) hs (sorted_ms ns)
        rw [en]
        exact newL S RepL.of_ints q p hn
  · cases e
theorem px_sortI {p pos : Pos} {e : Expr} {fs : En → R (List Pl × En)} (hm : X.mg "sorted" = none) (ha : PXs X W [e] fs) (hg : Gl X "sorted" := by rfl) (he : starEach [e] X.env = (false, eval e X.env) :: starEach [] X.env := by rfl) : PX X W (.Call (.Name "sorted" p) [e] [] pos) (biG fs sortI) :=
  px_bi cr_sortedI cr_sortI hm ha PyProof.Rows.boot_sorted hg (by decide) (by decide) he rfl
end
/-! ### a def whose code object is known -/
structure FunC (K : PySem.W.Frag) (x qual : Str) (st : Stmt) (f : Addr) (fd : FuncData) (c : Addr) : Prop where
  ex : ∃ (oc : Value) (od : Option Addr) (kV doc pm : Value) (an : Option Addr) (ct : Value) (osl : Array (Option Value)),
    fd = PySem.W.fnOf x qual (defArgs st) (defBody st) (defScope st) .none kV doc pm an (.ref c) ct ∧ K.lookup f = some ⟨oc, od, .func fd, osl⟩ ∧ PySem.W.codeIn K (.ref c) qual = true
  kp : PySem.W.keepIn K (.ref f) = true
theorem FunC.fun {K : PySem.W.Frag} {x qual : Str} {st : Stmt} {f : Addr} {fd : FuncData} {c : Addr} (F : FunC K x qual st f fd c) : Fun K x qual st f fd := by
  obtain ⟨oc, od, kV, doc, pm, an, ct, osl, h⟩ := F.ex
  exact ⟨⟨oc, od, kV, doc, pm, an, .ref c, ct, osl, h⟩, F.kp⟩
theorem okDc {P : Program} {w : World} {K : PySem.W.Frag} {mg : Str → Option Value} {base : Heap} {f c : Addr} {fd : FuncData} {x qual : Str} {st : Stmt} {N ps : List Str} {k : Nat} {g : En → R Fl} (F : FunC K x qual st f fd c) (S : FnScope N ps (defScope st))
    (hb : ∀ (A : Around) (outer : List Env) (s : Shared) (H : Hp) (E : XK), RoomG k (A.deeper (envOfC qual (defScope st) s.heap.objs.size f (.ref c))) →
      PSts (cxOf (XC P w) P w K mg base N qual (defScope st) f (.ref c) A outer s H E) (fun c d _ H' => E c d H') (defBody st) g) : FnG P w K mg base (k + 1) f fd ps (spF ⟨K, mg⟩ (runF N.length ps.length g)) := by
  obtain ⟨oc, od, kV, doc, pm, an, ct, osl, rfl, lk, hcd⟩ := F.ex
  exact okD0 lk hcd S hb
end DL
set_option Elab.async false
set_option linter.all false
set_option maxRecDepth 100000
set_option autoImplicit false
namespace DL
open PySem PySem.Spec PyProof.Rows L2
open Evl (Ex)

/-! ### from the head to the defs -/
theorem fun_of {K : PySem.W.Frag} {x : Str} {st : Stmt} {f : Addr} {fd : FuncData} (F : FunD K x x (defArgs st) (defBody st) (defScope st) [] [] f fd) : Fun K x x st f fd := by
  obtain ⟨oc, od, dV, kV, doc, pm, an, cdv, ct, osl, e, lk, hcd, hd, _⟩ := F.ex
  rcases hd with ⟨_, rfl⟩ | ⟨z, _⟩
  · exact ⟨⟨oc, od, kV, doc, pm, an, cdv, ct, osl, e, lk, hcd⟩, F.kp⟩
  · exact absurd rfl z
theorem funC_of {K : PySem.W.Frag} {x : Str} {st : Stmt} {fd : FuncData} (F : FunD K x x (defArgs st) (defBody st) (defScope st) [] [] (He.fAd K (x, none)) fd) : FunC K x x st (He.fAd K (x, none)) fd (He.codeOf K (x, none)) := by
  obtain ⟨oc, od, dV, kV, doc, pm, an, cdv, ct, osl, e, lk, hcd, hd, _⟩ := F.ex
  rcases hd with ⟨_, rfl⟩ | ⟨z, _⟩
  · obtain ⟨c, rfl⟩ := He.codeIn_ref hcd
    subst e
    have ec : He.codeOf K (x, none) = c := He.codeOf_eq lk rfl
    rw [ec]
    exact ⟨⟨oc, od, kV, doc, pm, an, ct, osl, rfl, lk, hcd⟩, F.kp⟩
  · exact absurd rfl z
variable [Tb]
theorem FnG.ok {P : Program} {w : World} {K : PySem.W.Frag} {mg : Str → Option Value} {base : Heap} {k : Nat} {f : Addr} {fd : FuncData} {ps : List Str} {sp : Sp} (h : ¬ Tb.gd) (F : FnG P w K mg base k f fd ps sp) : FnOk P w K mg base (XC P w) k f fd ps sp :=
  ⟨F.len, fun A o s H a us vs Q E hr => F.run A o s H a us vs Q E ⟨hr, fun z => (h z).elim⟩⟩
theorem law_sp {K : PySem.W.Frag} {mg : Str → Option Value} {a : Addr} {ns : List Int} {H : Hp} {F : FD} (hS : SqL K H a (ns.map V.int)) (ht : LamX.Tabs Tb.T H) (hF : F [.im (.frz (ns.map D.int))] = .ret (.im (.bl true)) []) : spF ⟨K, mg⟩ F [.ref a] H (fun v _ => v = .bl true) (fun _ _ _ => False) := by
  have key : ∃ B : Hp, SqL K B a (ns.map V.int) ∧ Ex B H ∧ NT B := by
    rcases hS with h | h
    · refine ⟨fun b => if b = a then H a else none, ?_, fun b o e => ?_, fun b ps e => ?_⟩
      · rcases h with h | ⟨o, h⟩
        · exact .inl (.inl (by show (if a = a then H a else none) = _; rw [if_pos rfl]; exact h))
        · exact .inl (.inr ⟨o, by show (if a = a then H a else none) = _; rw [if_pos rfl]; exact h⟩)
      · by_cases z : b = a
        · have e' : (if b = a then H a else none) = some o := e
          rw [if_pos z] at e'
          rw [z]; exact e'
        · have e' : (if b = a then H a else none) = some o := e
          rw [if_neg z] at e'; cases e'
      · by_cases z : b = a
        · have e' : (if b = a then H a else none) = some (.tbl ps) := e
          rw [if_pos z] at e'
          rcases h with h | ⟨o, h⟩
          · rw [h] at e'; cases e'
          · rw [h] at e'; cases e'
        · have e' : (if b = a then H a else none) = some (.tbl ps) := e
          rw [if_neg z] at e'; cases e'
    · exact ⟨fun _ => none, .inr h, fun b o e => (by cases e), fun b ps e => (by cases e)⟩
  obtain ⟨B, h1, h2, h3⟩ := key
  refine ⟨B, [.im (.frz (ns.map D.int))], [], ⟨.ref a, [], rfl, ⟨a, _, rfl, h1, RepL.of_ints⟩, rfl, rfl⟩, List.nodup_nil, h2, ht, h3, ?_⟩
  rw [hF]
  intro B' H' v _ _ _ rv
  exact rv
end DL
set_option Elab.async false
set_option linter.all false
set_option maxRecDepth 100000
set_option autoImplicit false
namespace DL
open PySem PySem.Spec PyProof.Rows L2

/-- for the plain part, where no table matters -/
instance tb0 : Tb := ⟨[], False⟩
def rng1 (j : Int) (ρ : En) : R (List D × En) := if j < 2 ^ 62 ∧ -(2 ^ 62) ≤ j then .ok (rangeD 0 j, ρ) else .stk
def rng2 (i j : Int) (ρ : En) : R (List D × En) := if (-(2 ^ 62) ≤ i ∧ i < 2 ^ 62 ∧ -(2 ^ 62) ≤ j ∧ j < 2 ^ 62) then .ok (rangeD i j, ρ) else .stk
theorem rng1_nat {n : Nat} (h : n ≤ 1000000) (ρ : En) : rng1 (n : Int) ρ = .ok ((List.range n).map fun (k : Nat) => D.int k, ρ) := by
  unfold rng1
  rw [if_pos (by omega)]
  unfold rangeD
  simp
/-! ### the functions, applied: for simp -/
section
variable {f g fa fb fc fe fi : En → R (Pl × En)} {t u : En → R (Bool × En)} {g1 g2 gb : En → R Fl} {fs : En → R (List Pl × En)} {fl : En → R (List D × En)} {ρ : En} {i j : Nat}
@[simp] theorem a_seq : seqG g1 g2 ρ = (g1 ρ).bind fun f => match f with | .nx ρ' => g2 ρ' | f => .ok f := rfl
@[simp] theorem a_nx : nxG ρ = .ok (.nx ρ) := rfl
@[simp] theorem a_asgI : asgI i f ρ = (toI f ρ).bind fun p => .ok (.nx (p.2.set i (some (.im p.1)))) := rfl
@[simp] theorem a_asgM : asgM i f ρ = (f ρ).bind fun p => match p.1 with | .new ds => .ok (.nx (p.2.set i (some (.mu true ds)))) | _ => .stk := rfl
@[simp] theorem a_asgT {tg : D → En → Option En} : asgT tg f ρ = (toI f ρ).bind fun p => (oR (tg p.1 p.2)).bind fun ρ' => .ok (.nx ρ') := rfl
@[simp] theorem a_drp : drpG f ρ = (f ρ).bind fun p => .ok (.nx p.2) := rfl
@[simp] theorem a_ret : retG f ρ = (f ρ).bind fun p => retP p.1 p.2 := rfl
@[simp] theorem a_retV {d : D} : retP (.val d) ρ = .ok (.rt (.im d) ρ) := rfl
@[simp] theorem a_retN {ds : List D} : retP (.new ds) ρ = .ok (.rt (.nw ds) ρ) := rfl
@[simp] theorem a_retS : retP (.slot i) ρ = match ρ[i]? with | some (some (.im d)) => .ok (.rt (.im d) ρ) | some (some (.mu true ds)) => .ok (.rt (.nw ds) (ρ.set i none)) | _ => .stk := rfl
@[simp] theorem a_if : ifG t g1 g2 ρ = (t ρ).bind fun p => if p.1 = true then g1 p.2 else g2 p.2 := rfl
@[simp] theorem a_frz : frzG i g1 ρ = match ρ[i]? with | some (some (.mu true ds)) => g1 (ρ.set i (some (.im (.lst ds)))) | _ => g1 ρ := rfl
@[simp] theorem a_var : fVar i ρ = match ρ[i]? with | some (some _) => .ok (.slot i, ρ) | _ => .stk := rfl
@[simp] theorem a_c {d : D} : fC d ρ = .ok (.val d, ρ) := rfl
@[simp] theorem a_viewV {d : D} : view ρ (.val d) = .ok d := rfl
@[simp] theorem a_viewN {ds : List D} : view ρ (.new ds) = .ok (.lst ds) := rfl
@[simp] theorem a_viewS : view ρ (.slot i) = match ρ[i]? with | some (some (.im d)) => .ok d | some (some (.mu _ ds)) => .ok (.lst ds) | _ => .stk := rfl
@[simp] theorem a_immV {d : D} : immP ρ (.val d) = .ok d := rfl
@[simp] theorem a_immN {ds : List D} : immP ρ (.new ds) = .ok (.lst ds) := rfl
@[simp] theorem a_immS : immP ρ (.slot i) = match ρ[i]? with | some (some (.im d)) => .ok d | _ => .stk := rfl
@[simp] theorem a_toI : toI f ρ = (f ρ).bind fun p => (immP p.2 p.1).bind fun d => .ok (d, p.2) := rfl
@[simp] theorem a_bin {g : D → D → Option Pl} : bin fa fb g ρ = (fa ρ).bind fun p => (fb p.2).bind fun q => (view q.2 p.1).bind fun d1 => (view q.2 q.1).bind fun d2 => (oR (g d1 d2)).bind fun z => .ok (z, q.2) := rfl
@[simp] theorem a_una {g : D → Option Pl} : una fa g ρ = (fa ρ).bind fun p => (view p.2 p.1).bind fun d1 => (oR (g d1)).bind fun z => .ok (z, p.2) := rfl
@[simp] theorem a_toB : toB f ρ = (f ρ).bind fun p => match p.1 with | .val (.bl b) => .ok (b, p.2) | _ => .stk := rfl
@[simp] theorem a_chn {c1 c2 : D → D → Option Bool} : chn fa fb fc c1 c2 ρ = (fa ρ).bind fun p => (fb p.2).bind fun q => (view q.2 p.1).bind fun d1 => (view q.2 q.1).bind fun d2 => (oR (c1 d1 d2)).bind fun k =>
    if k = true then (fc q.2).bind fun r => (view r.2 q.1).bind fun d2' => (view r.2 r.1).bind fun d3 => (oR (c2 d2' d3)).bind fun k2 => .ok (.val (.bl k2), r.2) else .ok (.val (.bl false), q.2) := rfl
@[simp] theorem a_andT : andT t u ρ = (t ρ).bind fun p => if p.1 = true then u p.2 else .ok (false, p.2) := rfl
@[simp] theorem a_orT : orT t u ρ = (t ρ).bind fun p => if p.1 = true then .ok (true, p.2) else u p.2 := rfl
@[simp] theorem a_notT : notT t ρ = (t ρ).bind fun p => .ok (!p.1, p.2) := rfl
@[simp] theorem a_andV : andV f g ρ = (f ρ).bind fun p => (oR (blOf p.1)).bind fun k => if k = true then g p.2 else .ok (.val (.bl false), p.2) := rfl
@[simp] theorem a_orV : orV f g ρ = (f ρ).bind fun p => (oR (blOf p.1)).bind fun k => if k = true then .ok (.val (.bl true), p.2) else g p.2 := rfl
@[simp] theorem a_notV : notV f ρ = (f ρ).bind fun p => (oR (blOf p.1)).bind fun k => .ok (.val (.bl (!k)), p.2) := rfl
@[simp] theorem a_blOf {b : Bool} : blOf (.val (.bl b)) = some b := rfl
@[simp] theorem a_truT : truT f ρ = (f ρ).bind fun p => (view p.2 p.1).bind fun d => (oR (truD d)).bind fun k => .ok (k, p.2) := rfl
@[simp] theorem a_ifV : ifV t f g ρ = (t ρ).bind fun p => if p.1 = true then f p.2 else g p.2 := rfl
@[simp] theorem a_settle : settle f ρ = (f ρ).bind fun p => match p.1 with | .new ds => .ok (.val (.lst ds), p.2) | q => .ok (q, p.2) := rfl
@[simp] theorem a_nil : fNil ρ = .ok ([], ρ) := rfl
@[simp] theorem a_cons : fCons f fs ρ = (settle f ρ).bind fun p => (fs p.2).bind fun q => .ok (p.1 :: q.1, q.2) := rfl
@[simp] theorem a_imNil : immPs ρ [] = .ok [] := rfl
@[simp] theorem a_imV {d : D} {ps : List Pl} : immPs ρ (.val d :: ps) = (immPs ρ ps).bind fun ds => .ok (d :: ds) := rfl
@[simp] theorem a_imS {ps : List Pl} : immPs ρ (.slot i :: ps) = (immP ρ (.slot i)).bind fun d => (immPs ρ ps).bind fun ds => .ok (d :: ds) := rfl
@[simp] theorem a_tup : fTup fs ρ = (fs ρ).bind fun p => (immPs p.2 p.1).bind fun ds => if ds.length ≤ 1000 then .ok (.val (.tup ds), p.2) else .stk := rfl
@[simp] theorem a_lst : fLst fs ρ = (fs ρ).bind fun p => (immPs p.2 p.1).bind fun ds => if ds.length ≤ 1000 then .ok (.new ds, p.2) else .stk := rfl
@[simp] theorem a_vwNil : viewPs ρ [] = .ok [] := rfl
@[simp] theorem a_vw {p : Pl} {ps : List Pl} : viewPs ρ (p :: ps) = (view ρ p).bind fun d => (viewPs ρ ps).bind fun ds => .ok (d :: ds) := rfl
@[simp] theorem a_bi {g : List D → Option Pl} : biG fs g ρ = (fs ρ).bind fun p => (viewPs p.2 p.1).bind fun ds => (oR (g ds)).bind fun z => .ok (z, p.2) := rfl
@[simp] theorem a_asNil : argSls ρ [] = .ok ([], []) := rfl
@[simp] theorem a_asV {d : D} {ps : List Pl} : argSls ρ (.val d :: ps) = (argSls ρ ps).bind fun q => .ok (.im d :: q.1, q.2) := rfl
@[simp] theorem a_asS {ps : List Pl} : argSls ρ (.slot i :: ps) = match ρ[i]? with
    | some (some (.im d)) => (argSls ρ ps).bind fun q => .ok (.im d :: q.1, q.2)
    | some (some (.mu _ ds)) => (argSls ρ ps).bind fun q => .ok (.mu false ds :: q.1, i :: q.2)
    | _ => .stk := rfl
@[simp] theorem a_pmNil : putMu ρ [] [] = .ok ρ := rfl
@[simp] theorem a_pm {is : List Nat} {ds : List D} {ps : List (List D)} : putMu ρ (i :: is) (ds :: ps) = match ρ[i]? with | some (some (.mu o _)) => putMu (ρ.set i (some (.mu o ds))) is ps | _ => .stk := rfl
@[simp] theorem a_wmNil : wipeMu ρ [] = ρ := rfl
@[simp] theorem a_wm {is : List Nat} : wipeMu ρ (i :: is) = wipeMu (ρ.set i none) is := rfl
@[simp] theorem a_call {F : FD} : callG F fs ρ = (fs ρ).bind fun p => (argSls p.2 p.1).bind fun a => if a.2.Nodup then match F a.1 with
    | .ret r ps => (putMu p.2 a.2 ps).bind fun ρ' => .ok (rvPl r, ρ')
    | .exn c ns ds => .exn c ns ds (wipeMu p.2 a.2)
    | .stk => .stk
  else .stk := rfl
@[simp] theorem a_rvI {d : D} : rvPl (.im d) = .val d := rfl
@[simp] theorem a_rvN {ds : List D} : rvPl (.nw ds) = .new ds := rfl
@[simp] theorem a_tgN {d : D} : tgN i d ρ = some (ρ.set i (some (.im d))) := rfl
@[simp] theorem a_tgNil : tgNil [] ρ = some ρ := rfl
@[simp] theorem a_tgC {f : D → En → Option En} {fs : List D → En → Option En} {d : D} {ds : List D} : tgCons f fs (d :: ds) ρ = (f d ρ).bind fun ρ1 => fs ds ρ1 := rfl
@[simp] theorem a_tgT {n : Nat} {fs : List D → En → Option En} {ds : List D} : tgT n fs (.tup ds) ρ = if ds.length = n then fs ds ρ else none := rfl
@[simp] theorem a_for {tgt : D → En → Option En} {ws : List Nat} : forG fl tgt gb ws ρ = (fl ρ).bind fun p => loopG tgt gb ws p.1 (wipeMu p.2 ws) := rfl
@[simp] theorem a_seqf : fSeq f ρ = (toI f ρ).bind fun p => (oR (seqOf p.1)).bind fun ds => .ok (ds, p.2) := rfl
@[simp] theorem a_rng1 : fRng1 fs ρ = (fs ρ).bind fun p => (immPs p.2 p.1).bind fun ds => match ds with | [.int j] => rng1 j p.2 | _ => .stk := rfl
@[simp] theorem a_rng2 : fRng2 fs ρ = (fs ρ).bind fun p => (immPs p.2 p.1).bind fun ds => match ds with | [.int i, .int j] => rng2 i j p.2 | _ => .stk := rfl
@[simp] theorem a_enum : fEnum fs ρ = (fs ρ).bind fun p => (immPs p.2 p.1).bind fun ds => match ds with | [d] => (oR (seqOf d)).bind fun es => .ok (enumD 0 es, p.2) | _ => .stk := rfl
@[simp] theorem a_lc {tgt : D → En → Option En} {own : List Nat} : lcG fl tgt t f own ρ = (fl ρ).bind fun p => (noX (lcLoop tgt t (toI f) own p.1 [] (wipeMu p.2 own))).bind fun q => .ok (.new q.1, restE p.2 own q.2) := rfl
@[simp] theorem a_yes : tyes ρ = .ok (true, ρ) := rfl
@[simp] theorem a_rsNil {ρ0 : En} : restE ρ0 [] ρ = ρ := rfl
@[simp] theorem a_rs {ρ0 : En} {is : List Nat} : restE ρ0 (i :: is) ρ = restE ρ0 is (ρ.set i (keepI ρ0[i]?)) := rfl
@[simp] theorem a_keepI {d : D} : keepI (some (some (.im d))) = some (.im d) := rfl
@[simp] theorem a_keepN : keepI (some none) = none := rfl
@[simp] theorem a_keepM {o : Bool} {ds : List D} : keepI (some (some (.mu o ds))) = none := rfl
@[simp] theorem a_isi1 {T : T5} : isi1 T f ρ = una f (fun d => ((isT T d).map D.bl).map Pl.val) ρ := rfl
@[simp] theorem a_isiN {Ts : List T5} : isiN Ts f ρ = una f (fun d => ((isAny Ts d).map D.bl).map Pl.val) ρ := rfl
@[simp] theorem a_meth {g : List D → List D → Option (List D × D)} : methG j fs g ρ = match ρ[j]? with
    | some (some (.mu _ _)) => (fs ρ).bind fun p => (immPs p.2 p.1).bind fun as => match p.2[j]? with
      | some (some (.mu o ds)) => (oR (g ds as)).bind fun z => .ok (.val z.2, p.2.set j (some (.mu o z.1)))
      | _ => .stk
    | _ => .stk := rfl
@[simp] theorem a_set : setG j fe fi ρ = (toI fe ρ).bind fun p => setK j fi p.1 p.2 := rfl
@[simp] theorem a_setK {d : D} : setK j fi d ρ = match ρ[j]? with
    | some (some (.mu _ _)) => (toI fi ρ).bind fun r => match r.2[j]?, r.1 with
      | some (some (.mu o ds)), .int k => (oR (ixN ds.length k)).bind fun n => .ok (.nx (r.2.set j (some (.mu o (ds.set n d)))))
      | _, _ => .stk
    | _ => .stk := rfl
@[simp] theorem a_oR {α : Type} {a : α} : oR (some a) = .ok a := rfl
@[simp] theorem a_stE {n : Nat} {sls : List Sl} : startEn n sls = sls.map inSl ++ List.replicate (n - sls.length) none := rfl
@[simp] theorem a_inI {d : D} : inSl (.im d) = some (.im d) := rfl
@[simp] theorem a_inM {o : Bool} {ds : List D} : inSl (.mu o ds) = some (.mu false ds) := rfl
@[simp] theorem a_poNil : posts [] ρ = some [] := rfl
@[simp] theorem a_poI {d : D} {r : List Sl} : posts (.im d :: r) ρ = posts r ρ.tail := rfl
@[simp] theorem a_poM {o : Bool} {ds es : List D} {r : List Sl} : posts (.mu o ds :: r) (some (.mu false es) :: ρ) = (posts r ρ).map (es :: ·) := rfl
end
/-! values -/
section
variable {i j : Int} {ds es : List D} {b : Bool}
@[simp] theorem v_add : addD (.int i) (.int j) = some (.val (.int (i + j))) := rfl
@[simp] theorem v_sub : subD (.int i) (.int j) = some (.val (.int (i - j))) := rfl
@[simp] theorem v_lt : cmpG ltB (.int i) (.int j) = some (.val (.bl (decide (i < j)))) := rfl
@[simp] theorem v_le : cmpG leB (.int i) (.int j) = some (.val (.bl (decide (i ≤ j)))) := rfl
@[simp] theorem v_gt : cmpG gtB (.int i) (.int j) = some (.val (.bl (decide (j < i)))) := rfl
@[simp] theorem v_ge : cmpG geB (.int i) (.int j) = some (.val (.bl (decide (j ≤ i)))) := rfl
@[simp] theorem v_leB : leB (.int i) (.int j) = some (decide (i ≤ j)) := rfl
@[simp] theorem v_ltB : ltB (.int i) (.int j) = some (decide (i < j)) := rfl
@[simp] theorem v_gtB : gtB (.int i) (.int j) = some (decide (j < i)) := rfl
@[simp] theorem v_geB : geB (.int i) (.int j) = some (decide (j ≤ i)) := rfl
@[simp] theorem v_trI : truD (.int i) = some (i != 0) := rfl
@[simp] theorem v_trB : truD (.bl b) = some b := rfl
@[simp] theorem v_trN : truD .non = some false := rfl
@[simp] theorem v_trT : truD (.tup ds) = some (!ds.isEmpty) := rfl
@[simp] theorem v_trL : truD (.lst ds) = some (!ds.isEmpty) := rfl
@[simp] theorem v_sqT : seqOf (.tup ds) = some ds := rfl
@[simp] theorem v_sqL : seqOf (.lst ds) = some ds := rfl
@[simp] theorem v_sqF : seqOf (.frz ds) = some ds := rfl
@[simp] theorem v_lsL : lstOf (.lst ds) = some ds := rfl
@[simp] theorem v_lsF : lstOf (.frz ds) = some ds := rfl
@[simp] theorem v_lenT : lenD [.tup ds] = some (.int ds.length) := rfl
@[simp] theorem v_lenL : lenD [.lst ds] = some (.int ds.length) := rfl
@[simp] theorem v_lenF : lenD [.frz ds] = some (.int ds.length) := rfl
@[simp] theorem v_tupT : tupD [.tup ds] = some (.val (.tup ds)) := rfl
@[simp] theorem v_tupL : tupD [.lst ds] = some (.val (.tup ds)) := rfl
@[simp] theorem v_lstT : lstD [.tup ds] = some (.new ds) := rfl
@[simp] theorem v_lstL : lstD [.lst ds] = some (.new ds) := rfl
@[simp] theorem v_intI : intD [.int i] = some (.int i) := rfl
@[simp] theorem v_intB : intD [.bl b] = some (.int (if b then 1 else 0)) := rfl
@[simp] theorem v_two {f : Int → Int → Int} : two f [.int i, .int j] = some (.int (f i j)) := rfl
@[simp] theorem v_ixT : ixD (.tup ds) (.int i) = atI ds i := rfl
@[simp] theorem v_ixL : ixD (.lst ds) (.int i) = atI ds i := rfl
@[simp] theorem v_ixF : ixD (.frz ds) (.int i) = atI ds i := rfl
@[simp] theorem v_inL {x : D} : inFl x (.lst ds) = if flatD x = true ∧ ds.all flatD = true then some (ds.any fun z => eqF z x) else none := rfl
theorem at_nat {α : Type} {xs : List α} {k : Nat} (h : k < xs.length) : atI xs (k : Int) = some xs[k] := by
  have e : ixN xs.length (k : Int) = some k := by
    unfold ixN
    rw [if_pos (Int.natCast_nonneg k), if_pos (by omega), Int.toNat_natCast]
  unfold atI
  rw [e]
  exact List.getElem?_eq_getElem h
theorem and_nat (a b : Nat) : Builtin.bitAnd (a : Int) (b : Int) = ((a &&& b : Nat) : Int) := PySem.W.os_band a b
end
/-- a def whose parameters are all plain values -/
theorem run_im {n : Nat} {g : En → R Fl} {ds : List D} {r : Rv} (h : ∃ ρ', g (startEn n (ds.map .im)) = .ok (.rt r ρ')) : runF n ds.length g (ds.map .im) = .ret r [] := by
  obtain ⟨ρ', h⟩ := h
  have hp : ∀ (ds : List D) (ρ : En), posts (ds.map Sl.im) ρ = some [] := by
    intro ds
    induction ds with
    | nil => intro ρ; rfl
    | cons d ds ih => intro ρ; exact ih ρ.tail
  unfold runF
  rw [if_pos (by rw [List.length_map]), h]
  dsimp only
  rw [hp]
theorem run_nx {n : Nat} {g : En → R Fl} {ds : List D} (h : ∃ ρ', g (startEn n (ds.map .im)) = .ok (.nx ρ')) : runF n ds.length g (ds.map .im) = .ret (.im .non) [] := by
  obtain ⟨ρ', h⟩ := h
  have hp : ∀ (ds : List D) (ρ : En), posts (ds.map Sl.im) ρ = some [] := by
    intro ds
    induction ds with
    | nil => intro ρ; rfl
    | cons d ds ih => intro ρ; exact ih ρ.tail
  unfold runF
  rw [if_pos (by rw [List.length_map]), h]
  dsimp only
  rw [hp]
end DL
set_option Elab.async false
set_option linter.all false
set_option maxRecDepth 100000
set_option autoImplicit false
namespace DL
open PySem PySem.Spec PyProof.Rows L2

/-! ### loops and comprehensions, by plain lists -/
theorem set_none {ρ : En} {i : Nat} {x : Option Sl} (h : ρ[i]? = some none) : (ρ.set i x).set i none = ρ := by
  rw [List.set_set]
  apply List.ext_getElem?
  intro j
  by_cases z : i = j
  · subst z
    rw [List.getElem?_set_self (List.getElem?_eq_some_iff.mp h).1, h]
  · rw [List.getElem?_set_ne z]
/-- [elt for x in ds if test] -/
theorem lc_loop {i : Nat} {ft : En → R (Bool × En)} {fe : En → R (Pl × En)} {ρ : En} (test : D → Bool) (elt : D → D) (hρ : ρ[i]? = some none) : ∀ (ds acc : List D), (∀ d ∈ ds, ft (ρ.set i (some (.im d))) = .ok (test d, ρ.set i (some (.im d)))) →
    (∀ d ∈ ds, test d = true → toI fe (ρ.set i (some (.im d))) = .ok (elt d, ρ.set i (some (.im d)))) → acc.length + ds.length ≤ sizeLine → lcLoop (tgN i) ft (toI fe) [i] ds acc ρ = .ok (acc ++ (ds.filter test).map elt, ρ)
  | [], acc, _, _, _ => by simp [lcLoop]
  | d :: ds, acc, h1, h2, hl => by
    have e1 := h1 d List.mem_cons_self
    have e2 := h2 d List.mem_cons_self
    unfold lcLoop
    rw [a_tgN, a_oR, R.ok_bind, e1, noX_ok, R.ok_bind]
    dsimp only
    cases ht : test d with
    | false =>
      rw [if_neg Bool.false_ne_true, a_wm, a_wmNil, set_none hρ, lc_loop test elt hρ ds acc (fun d hd => h1 d (List.mem_cons_of_mem _ hd)) (fun d hd => h2 d (List.mem_cons_of_mem _ hd)) (by rw [List.length_cons] at hl; omega)]
      rw [List.filter_cons_of_neg (by rw [ht]; exact Bool.false_ne_true)]
    | true =>
      rw [if_pos rfl, e2 ht, noX_ok, R.ok_bind]
      dsimp only
      rw [List.length_cons] at hl
      rw [if_pos (by omega), a_wm, a_wmNil, set_none hρ, lc_loop test elt hρ ds (acc ++ [elt d]) (fun d hd => h1 d (List.mem_cons_of_mem _ hd)) (fun d hd => h2 d (List.mem_cons_of_mem _ hd)) (by rw [List.length_append, List.length_singleton]; omega)]
      rw [List.filter_cons_of_pos ht, List.map_cons, List.append_assoc]
      rfl
theorem rangeD_nat (n : Nat) : rangeD 0 (n : Int) = (List.range n).map fun (k : Nat) => D.int k := by
  unfold rangeD
  simp
/-- a loop that looks for the first one -/
theorem loop_find {tgt : D → En → Option En} {body : En → R Fl} {ws : List Nat} {ρ : En} {r : Rv} (p : D → Bool) : ∀ ds : List D, (∀ d ∈ ds, ∃ ρ1, tgt d ρ = some ρ1 ∧ (p d = true → ∃ ρ2, body ρ1 = .ok (.rt r ρ2)) ∧ (p d = false → ∃ ρ2, (body ρ1 = .ok (.nx ρ2) ∨ body ρ1 = .ok (.ct ρ2)) ∧ wipeMu ρ2 ws = ρ)) →
    (ds.any p = true → ∃ ρ2, loopG tgt body ws ds ρ = .ok (.rt r ρ2)) ∧ (ds.any p = false → loopG tgt body ws ds ρ = .ok (.nx ρ))
  | [], _ => ⟨fun h => by simp at h, fun _ => rfl⟩
  | d :: ds, h => by
    obtain ⟨ρ1, e1, e2, e3⟩ := h d List.mem_cons_self
    have ih := loop_find p ds fun d hd => h d (List.mem_cons_of_mem _ hd)
    cases hp : p d with
    | true =>
      obtain ⟨ρ2, e4⟩ := e2 hp
      refine ⟨fun _ => ⟨ρ2, ?_⟩, fun z => by simp [hp] at z⟩
      unfold loopG
      rw [e1, a_oR, R.ok_bind, e4, R.ok_bind]
    | false =>
      obtain ⟨ρ2, e4, e5⟩ := e3 hp
      have key : loopG tgt body ws (d :: ds) ρ = loopG tgt body ws ds ρ := by
        rw [show loopG tgt body ws (d :: ds) ρ = (oR (tgt d ρ)).bind fun ρ1 => (body ρ1).bind fun f => match f with
          | .nx ρ2 => loopG tgt body ws ds (wipeMu ρ2 ws)
          | .ct ρ2 => loopG tgt body ws ds (wipeMu ρ2 ws)
          | .bk ρ2 => .ok (.nx (wipeMu ρ2 ws))
          | .rt r ρ2 => .ok (.rt r ρ2) from rfl]
        rw [e1, a_oR, R.ok_bind]
        rcases e4 with e4 | e4
        · rw [e4, R.ok_bind]; dsimp only; rw [e5]
        · rw [e4, R.ok_bind]; dsimp only; rw [e5]
      rw [key, List.any_cons, hp, Bool.false_or]
      exact ih
/-- a loop that folds -/
theorem loop_fold {α : Type} {tgt : D → En → Option En} {body : En → R Fl} {ws : List Nat} (st : α → En) (step : α → D → α) (P : Nat → α → Prop) : ∀ (ds : List D) (a : α) (k : Nat), P k a →
    (∀ (i : Nat) (d : D) (a' : α), ds[i]? = some d → P (k + i) a' → P (k + i + 1) (step a' d) ∧ ∃ ρ1 ρ2, tgt d (st a') = some ρ1 ∧ (body ρ1 = .ok (.nx ρ2) ∨ body ρ1 = .ok (.ct ρ2)) ∧ wipeMu ρ2 ws = st (step a' d)) →
    loopG tgt body ws ds (st a) = .ok (.nx (st (ds.foldl step a))) ∧ P (k + ds.length) (ds.foldl step a)
  | [], a, k, hP, _ => ⟨rfl, hP⟩
  | d :: ds, a, k, hP, h => by
    obtain ⟨h1, ρ1, ρ2, e1, e2, e3⟩ := h 0 d a rfl hP
    have ih := loop_fold (tgt := tgt) (body := body) (ws := ws) st step P ds (step a d) (k + 1) h1 fun i d' a' hd hp => by
      have := h (i + 1) d' a' hd (by rw [show k + (i + 1) = k + 1 + i by omega]; exact hp)
      rw [show k + (i + 1) = k + 1 + i by omega] at this
      exact this
    have key : loopG tgt body ws (d :: ds) (st a) = loopG tgt body ws ds (st (step a d)) := by
      rw [show loopG tgt body ws (d :: ds) (st a) = (oR (tgt d (st a))).bind fun ρ1 => (body ρ1).bind fun f => match f with
          | .nx ρ2 => loopG tgt body ws ds (wipeMu ρ2 ws)
          | .ct ρ2 => loopG tgt body ws ds (wipeMu ρ2 ws)
          | .bk ρ2 => .ok (.nx (wipeMu ρ2 ws))
          | .rt r ρ2 => .ok (.rt r ρ2) from rfl]
      rw [e1, a_oR, R.ok_bind]
      rcases e2 with e2 | e2
      · rw [e2, R.ok_bind]; dsimp only; rw [e3]
      · rw [e2, R.ok_bind]; dsimp only; rw [e3]
    rw [key, List.foldl_cons, List.length_cons, show k + (ds.length + 1) = k + 1 + ds.length by omega]
    exact ih
end DL
set_option Elab.async false
set_option linter.all false
set_option maxRecDepth 100000
set_option maxHeartbeats 0
set_option autoImplicit false
namespace K69
open PySem PySem.Spec PyProof.Rows L2 DL
open Evl (Ex)
/-! ### the text -/
abbrev top (i : Nat) : Stmt := PySem.Challenge.pw_seatsbothways_k69_whole_lots_meet_bars.main.body.getD i (.Pass ⟨0, 0, 0, 0⟩)
abbrev s_is_integer : Stmt := top 6
abbrev s_is_from_to : Stmt := top 7
abbrev s_is_sequence : Stmt := top 8
abbrev s_is_rising : Stmt := top 9
abbrev s_is_in : Stmt := top 11
abbrev s_members_of : Stmt := top 12
abbrev s_lot_of : Stmt := top 13
abbrev s_sorted_lots : Stmt := top 14
abbrev s_seats_of_masks : Stmt := top 15
abbrev s_winning_masks : Stmt := top 16
abbrev s_check_seats : Stmt := top 21
abbrev s_check_game : Stmt := top 22
abbrev s_wins : Stmt := top 23
abbrev s_is_least : Stmt := top 24
abbrev s_least_masks : Stmt := top 25
abbrev s_least_winning : Stmt := top 26
abbrev s_bars : Stmt := top 27
abbrev s_is_least_bar : Stmt := top 28
abbrev s_barring : Stmt := top 29
abbrev s_needless : Stmt := top 30
abbrev s_must_be_in : Stmt := top 31
abbrev s_law_mix : Stmt := top 33
abbrev s_law_open : Stmt := top 34
abbrev s_law_next : Stmt := top 35
abbrev s_law_same : Stmt := top 36
abbrev s_law_game : Stmt := top 37
abbrev s_law_weights : Stmt := top 38
abbrev s_law_lot_of : Stmt := top 39
abbrev s_law_lots : Stmt := top 40
abbrev s_law_apart : Stmt := top 41
abbrev s_law_holds : Stmt := top 42
abbrev s_law_meets : Stmt := top 43
abbrev s_law_shared : Stmt := top 44
abbrev s_law_single : Stmt := top 45
abbrev s_law_right : Stmt := top 46
abbrev s_law : Stmt := top 47
theorem sc_is_integer : FnScope ["value"] ["value"] (defScope s_is_integer) := ⟨rfl, rfl, rfl, by decide +kernel, rfl, by decide +kernel, by decide +kernel⟩
theorem sc_is_from_to : FnScope ["value", "least", "most"] ["value", "least", "most"] (defScope s_is_from_to) := ⟨rfl, rfl, rfl, by decide +kernel, rfl, by decide +kernel, by decide +kernel⟩
theorem sc_is_sequence : FnScope ["value"] ["value"] (defScope s_is_sequence) := ⟨rfl, rfl, rfl, by decide +kernel, rfl, by decide +kernel, by decide +kernel⟩
theorem sc_is_rising : FnScope ["value", "bound", "least", "one"] ["value", "bound"] (defScope s_is_rising) := ⟨rfl, rfl, rfl, by decide +kernel, rfl, by decide +kernel, by decide +kernel⟩
theorem sc_is_in : FnScope ["party", "mask"] ["party", "mask"] (defScope s_is_in) := ⟨rfl, rfl, rfl, by decide +kernel, rfl, by decide +kernel, by decide +kernel⟩
theorem sc_members_of : FnScope ["mask", "many", "party"] ["mask", "many"] (defScope s_members_of) := ⟨rfl, rfl, rfl, by decide +kernel, rfl, by decide +kernel, by decide +kernel⟩
theorem sc_lot_of : FnScope ["mask", "many"] ["mask", "many"] (defScope s_lot_of) := ⟨rfl, rfl, rfl, by decide +kernel, rfl, by decide +kernel, by decide +kernel⟩
theorem sc_sorted_lots : FnScope ["masks", "many", "lots", "mask"] ["masks", "many"] (defScope s_sorted_lots) := ⟨rfl, rfl, rfl, by decide +kernel, rfl, by decide +kernel, by decide +kernel⟩
theorem sc_seats_of_masks : FnScope ["seats", "row", "number", "total"] ["seats"] (defScope s_seats_of_masks) := ⟨rfl, rfl, rfl, by decide +kernel, rfl, by decide +kernel, by decide +kernel⟩
theorem sc_winning_masks : FnScope ["seats", "need", "total"] ["seats", "need"] (defScope s_winning_masks) := ⟨rfl, rfl, rfl, by decide +kernel, rfl, by decide +kernel, by decide +kernel⟩
theorem sc_check_seats : FnScope ["seats", "party", "number"] ["seats"] (defScope s_check_seats) := ⟨rfl, rfl, rfl, by decide +kernel, rfl, by decide +kernel, by decide +kernel⟩
theorem sc_check_game : FnScope ["seats", "need"] ["seats", "need"] (defScope s_check_game) := ⟨rfl, rfl, rfl, by decide +kernel, rfl, by decide +kernel, by decide +kernel⟩
theorem sc_wins : FnScope ["seats", "need", "lot", "party"] ["seats", "need", "lot"] (defScope s_wins) := ⟨rfl, rfl, rfl, by decide +kernel, rfl, by decide +kernel, by decide +kernel⟩
theorem sc_is_least : FnScope ["winning", "mask", "many", "party"] ["winning", "mask", "many"] (defScope s_is_least) := ⟨rfl, rfl, rfl, by decide +kernel, rfl, by decide +kernel, by decide +kernel⟩
theorem sc_least_masks : FnScope ["winning", "many", "mask"] ["winning", "many"] (defScope s_least_masks) := ⟨rfl, rfl, rfl, by decide +kernel, rfl, by decide +kernel, by decide +kernel⟩
theorem sc_least_winning : FnScope ["seats", "need", "many"] ["seats", "need"] (defScope s_least_winning) := ⟨rfl, rfl, rfl, by decide +kernel, rfl, by decide +kernel, by decide +kernel⟩
theorem sc_bars : FnScope ["winning", "mask"] ["winning", "mask"] (defScope s_bars) := ⟨rfl, rfl, rfl, by decide +kernel, rfl, by decide +kernel, by decide +kernel⟩
theorem sc_is_least_bar : FnScope ["winning", "mask", "many", "party"] ["winning", "mask", "many"] (defScope s_is_least_bar) := ⟨rfl, rfl, rfl, by decide +kernel, rfl, by decide +kernel, by decide +kernel⟩
theorem sc_barring : FnScope ["seats", "need", "many", "winning", "masks", "mask"] ["seats", "need"] (defScope s_barring) := ⟨rfl, rfl, rfl, by decide +kernel, rfl, by decide +kernel, by decide +kernel⟩
theorem sc_needless : FnScope ["seats", "need", "many", "masks", "found", "party", "mask"] ["seats", "need"] (defScope s_needless) := ⟨rfl, rfl, rfl, by decide +kernel, rfl, by decide +kernel, by decide +kernel⟩
theorem sc_must_be_in : FnScope ["seats", "need", "many", "masks", "found", "party", "mask"] ["seats", "need"] (defScope s_must_be_in) := ⟨rfl, rfl, rfl, by decide +kernel, rfl, by decide +kernel, by decide +kernel⟩
theorem sc_law_mix : FnScope ["number", "prime"] ["number"] (defScope s_law_mix) := ⟨rfl, rfl, rfl, by decide +kernel, rfl, by decide +kernel, by decide +kernel⟩
theorem sc_law_open : FnScope ["script", "seed", "state", "cell"] ["script"] (defScope s_law_open) := ⟨rfl, rfl, rfl, by decide +kernel, rfl, by decide +kernel, by decide +kernel⟩
theorem sc_law_next : FnScope ["state", "many", "told"] ["state", "many"] (defScope s_law_next) := ⟨rfl, rfl, rfl, by decide +kernel, rfl, by decide +kernel, by decide +kernel⟩
theorem sc_law_same : FnScope ["actual", "due", "k"] ["actual", "due"] (defScope s_law_same) := ⟨rfl, rfl, rfl, by decide +kernel, rfl, by decide +kernel, by decide +kernel⟩
theorem sc_law_game : FnScope ["state", "most", "base", "spread", "seats", "k", "kind", "n", "total", "need"] ["state", "most"] (defScope s_law_game) := ⟨rfl, rfl, rfl, by decide +kernel, rfl, by decide +kernel, by decide +kernel⟩
theorem sc_law_weights : FnScope ["seats", "weights", "n", "before"] ["seats"] (defScope s_law_weights) := ⟨rfl, rfl, rfl, by decide +kernel, rfl, by decide +kernel, by decide +kernel⟩
theorem sc_law_lot_of : FnScope ["mask", "many", "k"] ["mask", "many"] (defScope s_law_lot_of) := ⟨rfl, rfl, rfl, by decide +kernel, rfl, by decide +kernel, by decide +kernel⟩
theorem sc_law_lots : FnScope ["told", "many", "masks", "lot", "last", "mask", "k"] ["told", "many"] (defScope s_law_lots) := ⟨rfl, rfl, rfl, by decide +kernel, rfl, by decide +kernel, by decide +kernel⟩
theorem sc_law_apart : FnScope ["masks", "k", "j"] ["masks"] (defScope s_law_apart) := ⟨rfl, rfl, rfl, by decide +kernel, rfl, by decide +kernel, by decide +kernel⟩
theorem sc_law_holds : FnScope ["mask", "masks", "one"] ["mask", "masks"] (defScope s_law_holds) := ⟨rfl, rfl, rfl, by decide +kernel, rfl, by decide +kernel, by decide +kernel⟩
theorem sc_law_meets : FnScope ["mask", "masks", "one"] ["mask", "masks"] (defScope s_law_meets) := ⟨rfl, rfl, rfl, by decide +kernel, rfl, by decide +kernel, by decide +kernel⟩
theorem sc_law_shared : FnScope ["mask", "masks", "one"] ["mask", "masks"] (defScope s_law_shared) := ⟨rfl, rfl, rfl, by decide +kernel, rfl, by decide +kernel, by decide +kernel⟩
theorem sc_law_single : FnScope ["seats", "need", "least", "bars_v", "many", "idle", "k", "must", "told"] ["seats", "need", "least", "bars_v"] (defScope s_law_single) := ⟨rfl, rfl, rfl, by decide +kernel, rfl, by decide +kernel, by decide +kernel⟩
theorem sc_law_right : FnScope ["seats", "need", "many", "least", "bars_v", "weights", "mask", "holds", "other", "least_there", "bars_there"] ["seats", "need"] (defScope s_law_right) := ⟨rfl, rfl, rfl, by decide +kernel, rfl, by decide +kernel, by decide +kernel⟩
theorem sc_law : FnScope ["script", "state", "seats", "need", "kept", "other", "much", "asked"] ["script"] (defScope s_law) := ⟨rfl, rfl, rfl, by decide +kernel, rfl, by decide +kernel, by decide +kernel⟩
/-! ### what the defs do, as functions of the slots -/
def g_is_integer : En → R Fl := retG (andV (isi1 .int (fVar 0)) (notV (isi1 .bool (fVar 0))))
def F_is_integer : FD := runF 1 1 (g_is_integer)
def g_is_from_to (F_is_integer : FD) : En → R Fl := retG (andV (callG F_is_integer (fCons (fVar 0) (fNil))) (chn (fVar 1) (fVar 0) (fVar 2) leB leB))
def F_is_from_to : FD := runF 3 3 (g_is_from_to F_is_integer)
def g_is_sequence : En → R Fl := retG (isiN [.tuple, .list] (fVar 0))
def F_is_sequence : FD := runF 1 1 (g_is_sequence)
def b_is_rising1 (F_is_from_to : FD) : En → R Fl := seqG (ifG (notT (truT (callG F_is_from_to (fCons (fVar 3) (fCons (fVar 2) (fCons (bin (fVar 1) (fC (.int 1)) subD) (fNil))))))) (retG (fC (.bl false))) (nxG)) (asgI 2 (bin (fVar 3) (fC (.int 1)) addD))
def g_is_rising (F_is_from_to : FD) : En → R Fl := seqG (ifG (notT (truT (isi1 .tuple (fVar 0)))) (retG (fC (.bl false))) (nxG)) (seqG (asgI 2 (fC (.int 0))) (seqG (forG (fSeq (fVar 0)) (tgN 3) (b_is_rising1 F_is_from_to) [3]) (retG (fC (.bl true)))))
def F_is_rising : FD := runF 4 2 (g_is_rising F_is_from_to)
def g_is_in : En → R Fl := retG (bin (bin (bin (fVar 1) (fVar 0) shrD) (fC (.int 1)) andD) (fC (.int 1)) (cmpG eqD))
def F_is_in : FD := runF 2 2 (g_is_in)
def g_members_of (F_is_in : FD) : En → R Fl := retG (lcG (fRng1 (fCons (fVar 1) (fNil))) (tgN 2) (truT (callG F_is_in (fCons (fVar 2) (fCons (fVar 0) (fNil))))) (fVar 2) [2])
def F_members_of : FD := runF 3 2 (g_members_of F_is_in)
def g_lot_of (F_members_of : FD) : En → R Fl := retG (biG (fCons (callG F_members_of (fCons (fVar 0) (fCons (fVar 1) (fNil)))) (fNil)) tupD)
def F_lot_of : FD := runF 2 2 (g_lot_of F_members_of)
def g_sorted_lots (F_lot_of : FD) : En → R Fl := seqG (asgI 2 (lcG (fSeq (fVar 0)) (tgN 3) (tyes) (callG F_lot_of (fCons (fVar 3) (fCons (fVar 1) (fNil)))) [3])) (retG (biG (fCons (sortKG (fVar 2) [] (fTup (fCons (biG (fCons (fVar 0) (fNil)) (fun a => (lenD a).map Pl.val)) (fCons (fVar 0) (fNil))))) (fNil)) tupD))
def F_sorted_lots : FD := runF 4 2 (g_sorted_lots F_lot_of)
def b_seats_of_masks1 : En → R Fl := asgI 1 (bin (fVar 1) (lcG (fSeq (fVar 1)) (tgN 3) (tyes) (bin (fVar 3) (fVar 2) addD) [3]) addD)
def g_seats_of_masks : En → R Fl := seqG (asgI 1 (fLst (fCons (fC (.int 0)) (fNil)))) (seqG (forG (fSeq (fVar 0)) (tgN 2) (b_seats_of_masks1) [2, 3]) (retG (fVar 1)))
def F_seats_of_masks : FD := runF 4 1 (g_seats_of_masks)
def g_winning_masks (F_seats_of_masks : FD) : En → R Fl := retG (lcG (fSeq (callG F_seats_of_masks (fCons (fVar 0) (fNil)))) (tgN 2) (tyes) (bin (fVar 2) (fVar 1) (cmpG geB)) [2])
def F_winning_masks : FD := runF 3 2 (g_winning_masks F_seats_of_masks)
def b_check_seats1 (F_is_from_to F_is_sequence : FD) : En → R Fl := ifG (notT (truT (callG F_is_from_to (fCons (fVar 2) (fCons (fC (.int 0)) (fCons (fC (.int 1000)) (fNil))))))) (stkG) (nxG)
def g_check_seats (F_is_from_to F_is_sequence : FD) : En → R Fl := seqG (ifG (orT (notT (truT (callG F_is_sequence (fCons (fVar 0) (fNil))))) (notT (toB (chn (fC (.int 1)) (biG (fCons (fVar 0) (fNil)) (fun a => (lenD a).map Pl.val)) (fC (.int 10)) leB leB)))) (stkG) (nxG)) (forG (fEnum (fCons (fVar 0) (fNil))) (tgT 2 (tgCons (tgN 1) (tgCons (tgN 2) (tgNil)))) (b_check_seats1 F_is_from_to F_is_sequence) [1, 2])
def F_check_seats : FD := runF 3 1 (g_check_seats F_is_from_to F_is_sequence)
def g_check_game (F_check_seats F_is_from_to : FD) : En → R Fl := seqG (drpG (callG F_check_seats (fCons (fVar 0) (fNil)))) (ifG (notT (truT (callG F_is_from_to (fCons (fVar 1) (fCons (fC (.int 1)) (fCons (fC (.int 10000)) (fNil))))))) (stkG) (nxG))
def F_check_game : FD := runF 2 2 (g_check_game F_check_seats F_is_from_to)
def g_wins (F_check_game F_is_rising : FD) : En → R Fl := seqG (drpG (callG F_check_game (fCons (fVar 0) (fCons (fVar 1) (fNil))))) (seqG (ifG (notT (truT (callG F_is_rising (fCons (fVar 2) (fCons (biG (fCons (fVar 0) (fNil)) (fun a => (lenD a).map Pl.val)) (fNil)))))) (stkG) (nxG)) (retG (bin (biG (fCons (lcG (fSeq (fVar 2)) (tgN 3) (tyes) (ixG (fVar 0) (fVar 3)) [3]) (fNil)) sumD) (fVar 1) (cmpG geB))))
def F_wins : FD := runF 4 3 (g_wins F_check_game F_is_rising)
def b_is_least1 (F_members_of : FD) : En → R Fl := ifG (truT (ixG (fVar 0) (bin (fVar 1) (bin (fC (.int 1)) (fVar 3) shlD) subD))) (retG (fC (.bl false))) (nxG)
def g_is_least (F_members_of : FD) : En → R Fl := seqG (ifG (notT (truT (ixG (fVar 0) (fVar 1)))) (retG (fC (.bl false))) (nxG)) (seqG (forG (fSeq (callG F_members_of (fCons (fVar 1) (fCons (fVar 2) (fNil))))) (tgN 3) (b_is_least1 F_members_of) [3]) (retG (fC (.bl true))))
def F_is_least : FD := runF 4 3 (g_is_least F_members_of)
def g_least_masks (F_is_least : FD) : En → R Fl := retG (lcG (fRng1 (fCons (bin (fC (.int 1)) (fVar 1) shlD) (fNil))) (tgN 2) (truT (callG F_is_least (fCons (fVar 0) (fCons (fVar 2) (fCons (fVar 1) (fNil)))))) (fVar 2) [2])
def F_least_masks : FD := runF 3 2 (g_least_masks F_is_least)
def g_least_winning (F_check_game F_least_masks F_sorted_lots F_winning_masks : FD) : En → R Fl := seqG (drpG (callG F_check_game (fCons (fVar 0) (fCons (fVar 1) (fNil))))) (seqG (asgI 2 (biG (fCons (fVar 0) (fNil)) (fun a => (lenD a).map Pl.val))) (retG (callG F_sorted_lots (fCons (callG F_least_masks (fCons (callG F_winning_masks (fCons (fVar 0) (fCons (fVar 1) (fNil)))) (fCons (fVar 2) (fNil)))) (fCons (fVar 2) (fNil))))))
def F_least_winning : FD := runF 3 2 (g_least_winning F_check_game F_least_masks F_sorted_lots F_winning_masks)
def g_bars : En → R Fl := retG (notV (ixG (fVar 0) (bin (bin (biG (fCons (fVar 0) (fNil)) (fun a => (lenD a).map Pl.val)) (fC (.int 1)) subD) (fVar 1) subD)))
def F_bars : FD := runF 2 2 (g_bars)
def b_is_least_bar1 (F_bars F_members_of : FD) : En → R Fl := ifG (truT (callG F_bars (fCons (fVar 0) (fCons (bin (fVar 1) (bin (fC (.int 1)) (fVar 3) shlD) subD) (fNil))))) (retG (fC (.bl false))) (nxG)
def g_is_least_bar (F_bars F_members_of : FD) : En → R Fl := seqG (ifG (notT (truT (callG F_bars (fCons (fVar 0) (fCons (fVar 1) (fNil)))))) (retG (fC (.bl false))) (nxG)) (seqG (forG (fSeq (callG F_members_of (fCons (fVar 1) (fCons (fVar 2) (fNil))))) (tgN 3) (b_is_least_bar1 F_bars F_members_of) [3]) (retG (fC (.bl true))))
def F_is_least_bar : FD := runF 4 3 (g_is_least_bar F_bars F_members_of)
def g_barring (F_check_game F_is_least_bar F_sorted_lots F_winning_masks : FD) : En → R Fl := seqG (drpG (callG F_check_game (fCons (fVar 0) (fCons (fVar 1) (fNil))))) (seqG (asgI 2 (biG (fCons (fVar 0) (fNil)) (fun a => (lenD a).map Pl.val))) (seqG (asgI 3 (callG F_winning_masks (fCons (fVar 0) (fCons (fVar 1) (fNil))))) (seqG (asgI 4 (lcG (fRng1 (fCons (bin (fC (.int 1)) (fVar 2) shlD) (fNil))) (tgN 5) (truT (callG F_is_least_bar (fCons (fVar 3) (fCons (fVar 5) (fCons (fVar 2) (fNil)))))) (fVar 5) [5])) (retG (callG F_sorted_lots (fCons (fVar 4) (fCons (fVar 2) (fNil))))))))
def F_barring : FD := runF 6 2 (g_barring F_check_game F_is_least_bar F_sorted_lots F_winning_masks)
def b_needless1 (F_check_game F_is_in F_least_masks F_winning_masks : FD) : En → R Fl := ifG (notT (truT (biG (fCons (lcG (fSeq (fVar 3)) (tgN 6) (tyes) (callG F_is_in (fCons (fVar 5) (fCons (fVar 6) (fNil)))) [6]) (fNil)) (fun a => (ofBls (·.any id) a).map Pl.val)))) (drpG (methG 4 (fCons (fVar 5) (fNil)) appD)) (nxG)
def g_needless (F_check_game F_is_in F_least_masks F_winning_masks : FD) : En → R Fl := seqG (drpG (callG F_check_game (fCons (fVar 0) (fCons (fVar 1) (fNil))))) (seqG (asgI 2 (biG (fCons (fVar 0) (fNil)) (fun a => (lenD a).map Pl.val))) (seqG (asgI 3 (callG F_least_masks (fCons (callG F_winning_masks (fCons (fVar 0) (fCons (fVar 1) (fNil)))) (fCons (fVar 2) (fNil))))) (seqG (asgM 4 (fLst (fNil))) (seqG (forG (fRng1 (fCons (fVar 2) (fNil))) (tgN 5) (b_needless1 F_check_game F_is_in F_least_masks F_winning_masks) [5, 6]) (retG (biG (fCons (fVar 4) (fNil)) tupD))))))
def F_needless : FD := runF 7 2 (g_needless F_check_game F_is_in F_least_masks F_winning_masks)
def b_must_be_in1 (F_check_game F_is_in F_least_masks F_winning_masks : FD) : En → R Fl := ifG (truT (biG (fCons (lcG (fSeq (fVar 3)) (tgN 6) (tyes) (callG F_is_in (fCons (fVar 5) (fCons (fVar 6) (fNil)))) [6]) (fNil)) (fun a => (ofBls (·.all id) a).map Pl.val))) (drpG (methG 4 (fCons (fVar 5) (fNil)) appD)) (nxG)
def g_must_be_in (F_check_game F_is_in F_least_masks F_winning_masks : FD) : En → R Fl := seqG (drpG (callG F_check_game (fCons (fVar 0) (fCons (fVar 1) (fNil))))) (seqG (asgI 2 (biG (fCons (fVar 0) (fNil)) (fun a => (lenD a).map Pl.val))) (seqG (asgI 3 (callG F_least_masks (fCons (callG F_winning_masks (fCons (fVar 0) (fCons (fVar 1) (fNil)))) (fCons (fVar 2) (fNil))))) (seqG (ifG (notT (truT (fVar 3))) (retG (fTup (fNil))) (nxG)) (seqG (asgM 4 (fLst (fNil))) (seqG (forG (fRng1 (fCons (fVar 2) (fNil))) (tgN 5) (b_must_be_in1 F_check_game F_is_in F_least_masks F_winning_masks) [5, 6]) (retG (biG (fCons (fVar 4) (fNil)) tupD)))))))
def F_must_be_in : FD := runF 7 2 (g_must_be_in F_check_game F_is_in F_least_masks F_winning_masks)
def g_law_mix : En → R Fl := seqG (asgI 1 (fC (.int 2305843009213693951))) (seqG (asgI 0 (bin (biG (fCons (fVar 0) (fNil)) (fun a => (intD a).map Pl.val)) (fVar 1) modD)) (seqG (asgI 0 (bin (bin (bin (fVar 0) (fVar 0) mulD) (fC (.int 1442695040888963407)) addD) (fVar 1) modD)) (retG (bin (bin (bin (fVar 0) (fVar 0) mulD) (fC (.int 88172645463325252)) addD) (fVar 1) modD))))
def F_law_mix : FD := runF 2 1 (g_law_mix)
def b_law_open1 (F_law_mix : FD) : En → R Fl := seqG (asgI 1 (callG F_law_mix (fCons (bin (bin (fVar 1) (fC (.int 1)) addD) (biG (fCons (fVar 3) (fNil)) (fun a => (intD a).map Pl.val)) addD) (fNil)))) (ifG (toB (bin (biG (fCons (fVar 3) (fNil)) (fun a => (intD a).map Pl.val)) (bin (fC (.int 10)) (fC (.int 18)) powD) (cmpG geB))) (drpG (methG 2 (fCons (biG (fCons (fVar 3) (fNil)) (fun a => (intD a).map Pl.val)) (fNil)) appD)) (nxG))
def g_law_open (F_law_mix : FD) : En → R Fl := seqG (asgI 1 (fC (.int 20261119))) (seqG (asgM 2 (fLst (fCons (fC (.int 0)) (fNil)))) (seqG (forG (fSeq (fVar 0)) (tgN 3) (b_law_open1 F_law_mix) [3]) (seqG (setG 2 (fVar 1) (fC (.int 0))) (retG (fVar 2)))))
def F_law_open : FD := runF 4 1 (g_law_open F_law_mix)
def g_law_next (F_law_mix : FD) : En → R Fl := seqG (ifG (toB (bin (biG (fCons (fVar 0) (fNil)) (fun a => (lenD a).map Pl.val)) (fC (.int 1)) (cmpG gtB))) (seqG (asgI 2 (bin (biG (fCons (ixG (fVar 0) (fC (.int 1))) (fNil)) (fun a => (intD a).map Pl.val)) (fVar 1) modD)) (seqG (setG 0 (bin (ixG (fVar 0) (fC (.int 1))) (fVar 1) divD) (fC (.int 1))) (seqG (ifG (toB (bin (ixG (fVar 0) (fC (.int 1))) (fC (.int 0)) (cmpG eqD))) (drpG (methG 0 (fCons (fC (.int 1)) (fNil)) popAtD)) (nxG)) (retG (fVar 2))))) (nxG)) (seqG (setG 0 (callG F_law_mix (fCons (ixG (fVar 0) (fC (.int 0))) (fNil))) (fC (.int 0))) (retG (bin (bin (biG (fCons (ixG (fVar 0) (fC (.int 0))) (fNil)) (fun a => (intD a).map Pl.val)) (fC (.int 1009)) divD) (fVar 1) modD)))
def F_law_next : FD := runF 3 2 (g_law_next F_law_mix)
def b_law_same1 (F_n : FD) : En → R Fl := ifG (notT (truT (callG F_n (fCons (ixG (fVar 0) (fVar 2)) (fCons (ixG (fVar 1) (fVar 2)) (fNil)))))) (retG (fC (.bl false))) (nxG)
def g_law_same (F_n : FD) : En → R Fl := seqG (ifG (toB (bin (fVar 1) (fC .non) (cmpG isB))) (retG (bin (fVar 0) (fC .non) (cmpG isB))) (nxG)) (seqG (ifG (toB (bin (fVar 1) (fC (.bl true)) (cmpG isB))) (retG (bin (fVar 0) (fC (.bl true)) (cmpG isB))) (nxG)) (seqG (ifG (toB (bin (fVar 1) (fC (.bl false)) (cmpG isB))) (retG (bin (fVar 0) (fC (.bl false)) (cmpG isB))) (nxG)) (seqG (ifG (truT (isi1 .tuple (fVar 1))) (seqG (ifG (orT (notT (truT (isi1 .tuple (fVar 0)))) (toB (bin (biG (fCons (fVar 0) (fNil)) (fun a => (lenD a).map Pl.val)) (biG (fCons (fVar 1) (fNil)) (fun a => (lenD a).map Pl.val)) (cmpG neD)))) (retG (fC (.bl false))) (nxG)) (seqG (forG (fRng1 (fCons (biG (fCons (fVar 1) (fNil)) (fun a => (lenD a).map Pl.val)) (fNil))) (tgN 2) (b_law_same1 F_n) [2]) (retG (fC (.bl true))))) (nxG)) (seqG (ifG (truT (isi1 .int (fVar 1))) (retG (andV (isi1 .int (fVar 0)) (andV (notV (isi1 .bool (fVar 0))) (bin (fVar 0) (fVar 1) (cmpG eqD))))) (nxG)) (retG (andV (isi1 .str (fVar 0)) (bin (fVar 0) (fVar 1) (cmpG eqD))))))))
def F_law_same : Nat → FD
  | 0 => fun _ => .stk
  | n + 1 => runF 3 2 (g_law_same (F_law_same n))
def b_law_game1 (F_law_next : FD) : En → R Fl := seqG (asgI 6 (callG F_law_next (fCons (fVar 0) (fCons (fC (.int 8)) (fNil))))) (seqG (asgI 7 (bin (fVar 2) (callG F_law_next (fCons (fVar 0) (fCons (fVar 3) (fNil)))) mulD)) (seqG (ifG (toB (bin (fVar 6) (fC (.int 0)) (cmpG eqD))) (asgI 7 (fC (.int 0))) (nxG)) (seqG (ifG (toB (bin (fVar 6) (fC (.int 1)) (cmpG eqD))) (asgI 7 (callG F_law_next (fCons (fVar 0) (fCons (fC (.int 1001)) (fNil))))) (nxG)) (seqG (ifG (toB (bin (fVar 6) (fC (.int 2)) (cmpG eqD))) (asgI 7 (bin (fVar 2) (bin (fVar 3) (fC (.int 1)) subD) mulD)) (nxG)) (drpG (methG 4 (fCons (fVar 7) (fNil)) appD))))))
def g_law_game (F_law_next : FD) : En → R Fl := seqG (asgI 2 (ixG (fTup (fCons (fC (.int 1)) (fCons (fC (.int 2)) (fCons (fC (.int 10)) (fCons (fC (.int 50)) (fCons (fC (.int 100)) (fNil))))))) (callG F_law_next (fCons (fVar 0) (fCons (fC (.int 5)) (fNil)))))) (seqG (asgI 3 (ixG (fTup (fCons (fC (.int 2)) (fCons (fC (.int 4)) (fCons (fC (.int 11)) (fNil))))) (callG F_law_next (fCons (fVar 0) (fCons (fC (.int 3)) (fNil)))))) (seqG (asgM 4 (fLst (fNil))) (seqG (forG (fRng1 (fCons (bin (fC (.int 1)) (callG F_law_next (fCons (fVar 0) (fCons (fVar 1) (fNil)))) addD) (fNil))) (tgN 5) (b_law_game1 F_law_next) [5, 6, 7]) (seqG (asgI 8 (biG (fCons (fVar 4) (fNil)) sumD)) (seqG (asgI 6 (callG F_law_next (fCons (fVar 0) (fCons (fC (.int 9)) (fNil))))) (seqG (asgI 9 (bin (fC (.int 1)) (callG F_law_next (fCons (fVar 0) (fCons (bin (fVar 8) (fC (.int 1)) addD) (fNil)))) addD)) (seqG (ifG (toB (bin (fVar 6) (fC (.int 3)) (cmpG ltB))) (asgI 9 (bin (bin (fVar 8) (fC (.int 2)) divD) (fC (.int 1)) addD)) (nxG)) (seqG (ifG (toB (bin (fVar 6) (fC (.int 3)) (cmpG eqD))) (asgI 9 (biG (fCons (fC (.int 1)) (fCons (fVar 8) (fNil))) (fun a => (two maxI a).map Pl.val))) (nxG)) (seqG (ifG (toB (bin (fVar 6) (fC (.int 4)) (cmpG eqD))) (asgI 9 (biG (fCons (bin (fVar 8) (fC (.int 1)) addD) (fCons (fC (.int 10000)) (fNil))) (fun a => (two minI a).map Pl.val))) (nxG)) (seqG (ifG (toB (bin (fVar 6) (fC (.int 5)) (cmpG eqD))) (asgI 9 (ixG (fTup (fCons (fC (.int 1)) (fCons (fC (.int 10000)) (fNil)))) (callG F_law_next (fCons (fVar 0) (fCons (fC (.int 2)) (fNil)))))) (nxG)) (seqG (ifG (toB (bin (fVar 6) (fC (.int 6)) (cmpG eqD))) (asgI 9 (biG (fCons (fC (.int 1)) (fCons (bin (bin (fVar 8) (fC (.int 2)) mulD) (fC (.int 3)) divD) (fNil))) (fun a => (two maxI a).map Pl.val))) (nxG)) (frzG 4 (retG (fTup (fCons (fVar 4) (fCons (biG (fCons (fVar 9) (fCons (fC (.int 10000)) (fNil))) (fun a => (two minI a).map Pl.val)) (fNil)))))))))))))))))
def F_law_game : FD := runF 10 2 (g_law_game F_law_next)
def b_law_weights1 : En → R Fl := asgI 1 (bin (fVar 1) (lcG (fSeq (fVar 1)) (tgN 3) (tyes) (bin (fVar 3) (fVar 2) addD) [3]) addD)
def g_law_weights : En → R Fl := seqG (asgI 1 (fLst (fCons (fC (.int 0)) (fNil)))) (seqG (forG (fSeq (fVar 0)) (tgN 2) (b_law_weights1) [2, 3]) (retG (fVar 1)))
def F_law_weights : FD := runF 4 1 (g_law_weights)
def g_law_lot_of : En → R Fl := retG (biG (fCons (lcG (fRng1 (fCons (fVar 1) (fNil))) (tgN 2) (toB (bin (bin (biG (fCons (bin (fVar 0) (fVar 2) shrD) (fNil)) (fun a => (intD a).map Pl.val)) (fC (.int 1)) andD) (fC (.int 1)) (cmpG eqD))) (fVar 2) [2]) (fNil)) tupD)
def F_law_lot_of : FD := runF 3 2 (g_law_lot_of)
def b_law_lots1 : En → R Fl := seqG (ifG (orT (notT (truT (isi1 .int (fVar 6)))) (orT (truT (isi1 .bool (fVar 6))) (orT (toB (bin (fVar 6) (fVar 4) (cmpG leB))) (toB (bin (fVar 6) (fVar 1) (cmpG geB)))))) (retG (fC .non)) (nxG)) (seqG (asgI 4 (fVar 6)) (asgI 5 (bin (fVar 5) (bin (fC (.int 1)) (fVar 6) shlD) addD)))
def b_law_lots2 : En → R Fl := seqG (ifG (notT (truT (isi1 .tuple (fVar 3)))) (retG (fC .non)) (nxG)) (seqG (asgI 4 (una (fC (.int 1)) negD)) (seqG (asgI 5 (fC (.int 0))) (seqG (forG (fSeq (fVar 3)) (tgN 6) (b_law_lots1) [6]) (seqG (ifG (toB (bin (fVar 5) (fVar 2) (cmpG inFl))) (retG (fC .non)) (nxG)) (drpG (methG 2 (fCons (fVar 5) (fNil)) appD))))))
def g_law_lots : En → R Fl := seqG (ifG (notT (truT (isi1 .tuple (fVar 0)))) (retG (fC .non)) (nxG)) (seqG (asgM 2 (fLst (fNil))) (seqG (forG (fSeq (fVar 0)) (tgN 3) (b_law_lots2) [3, 4, 5, 6]) (retG (fVar 2))))
def F_law_lots : FD := runF 7 2 (g_law_lots)
def b_law_apart1 : En → R Fl := ifG (andT (toB (bin (fVar 2) (fVar 1) (cmpG neD))) (toB (bin (bin (ixG (fVar 0) (fVar 1)) (ixG (fVar 0) (fVar 2)) andD) (ixG (fVar 0) (fVar 1)) (cmpG eqD)))) (retG (fC (.bl false))) (nxG)
def b_law_apart2 : En → R Fl := forG (fRng1 (fCons (biG (fCons (fVar 0) (fNil)) (fun a => (lenD a).map Pl.val)) (fNil))) (tgN 2) (b_law_apart1) [2]
def g_law_apart : En → R Fl := seqG (forG (fRng1 (fCons (biG (fCons (fVar 0) (fNil)) (fun a => (lenD a).map Pl.val)) (fNil))) (tgN 1) (b_law_apart2) [1, 2]) (retG (fC (.bl true)))
def F_law_apart : FD := runF 3 1 (g_law_apart)
def b_law_holds1 : En → R Fl := ifG (toB (bin (bin (fVar 0) (fVar 2) andD) (fVar 2) (cmpG eqD))) (retG (fC (.bl true))) (nxG)
def g_law_holds : En → R Fl := seqG (forG (fSeq (fVar 1)) (tgN 2) (b_law_holds1) [2]) (retG (fC (.bl false)))
def F_law_holds : FD := runF 3 2 (g_law_holds)
def b_law_meets1 : En → R Fl := ifG (toB (bin (bin (fVar 0) (fVar 2) andD) (fC (.int 0)) (cmpG eqD))) (retG (fC (.bl false))) (nxG)
def g_law_meets : En → R Fl := seqG (forG (fSeq (fVar 1)) (tgN 2) (b_law_meets1) [2]) (retG (fC (.bl true)))
def F_law_meets : FD := runF 3 2 (g_law_meets)
def b_law_shared1 : En → R Fl := ifG (toB (bin (bin (fVar 0) (fVar 2) andD) (fC (.int 0)) (cmpG gtB))) (retG (fC (.bl true))) (nxG)
def g_law_shared : En → R Fl := seqG (forG (fSeq (fVar 1)) (tgN 2) (b_law_shared1) [2]) (retG (fC (.bl false)))
def F_law_shared : FD := runF 3 2 (g_law_shared)
def g_law_single (F_law_meets F_law_same F_law_shared F_must_be_in F_needless : FD) : En → R Fl := seqG (asgI 4 (biG (fCons (fVar 0) (fNil)) (fun a => (lenD a).map Pl.val))) (seqG (asgI 5 (biG (fCons (lcG (fRng1 (fCons (fVar 4) (fNil))) (tgN 6) (notT (truT (callG F_law_shared (fCons (bin (fC (.int 1)) (fVar 6) shlD) (fCons (fVar 2) (fNil)))))) (fVar 6) [6]) (fNil)) tupD)) (seqG (ifG (notT (truT (callG F_law_same (fCons (callG F_needless (fCons (biG (fCons (fVar 0) (fNil)) lstD) (fCons (fVar 1) (fNil)))) (fCons (fVar 5) (fNil)))))) (retG (fC (.bl false))) (nxG)) (seqG (asgI 7 (biG (fCons (lcG (fRng1 (fCons (fVar 4) (fNil))) (tgN 6) (toB (chn (biG (fCons (fVar 0) (fNil)) sumD) (fVar 1) (bin (biG (fCons (fVar 0) (fNil)) sumD) (ixG (fVar 0) (fVar 6)) subD) geB gtB)) (fVar 6) [6]) (fNil)) tupD)) (seqG (ifG (notT (truT (callG F_law_same (fCons (callG F_must_be_in (fCons (biG (fCons (fVar 0) (fNil)) lstD) (fCons (fVar 1) (fNil)))) (fCons (fVar 7) (fNil)))))) (retG (fC (.bl false))) (nxG)) (seqG (asgI 8 (lcG (fRng1 (fCons (fVar 4) (fNil))) (tgN 6) (andT (toB (bin (biG (fCons (fVar 2) (fNil)) (fun a => (lenD a).map Pl.val)) (fC (.int 0)) (cmpG gtB))) (truT (callG F_law_meets (fCons (bin (fC (.int 1)) (fVar 6) shlD) (fCons (fVar 2) (fNil)))))) (fVar 6) [6])) (retG (andV (bin (biG (fCons (fVar 8) (fNil)) tupD) (fVar 7) (cmpG eqD)) (bin (fVar 7) (biG (fCons (lcG (fRng1 (fCons (fVar 4) (fNil))) (tgN 6) (toB (bin (bin (fC (.int 1)) (fVar 6) shlD) (fVar 3) (cmpG inFl))) (fVar 6) [6]) (fNil)) tupD) (cmpG eqD)))))))))
def F_law_single : FD := runF 9 4 (g_law_single F_law_meets (F_law_same 3) F_law_shared F_must_be_in F_needless)
def b_law_right1 (F_law_apart F_law_holds F_law_lot_of F_law_lots F_law_meets F_law_same F_law_single F_law_weights F_barring F_least_winning F_wins : FD) : En → R Fl := seqG (asgI 7 (bin (ixG (fVar 5) (fVar 6)) (fVar 1) (cmpG geB))) (seqG (ifG (orT (toB (bin (callG F_law_holds (fCons (fVar 6) (fCons (fVar 3) (fNil)))) (fVar 7) (cmpG neD))) (toB (bin (callG F_law_meets (fCons (fVar 6) (fCons (fVar 4) (fNil)))) (fVar 7) (cmpG neD)))) (retG (fC (.bl false))) (nxG)) (seqG (ifG (toB (bin (callG F_law_meets (fCons (fVar 6) (fCons (fVar 3) (fNil)))) (callG F_law_holds (fCons (fVar 6) (fCons (fVar 4) (fNil)))) (cmpG neD))) (retG (fC (.bl false))) (nxG)) (ifG (notT (truT (callG F_law_same (fCons (callG F_wins (fCons (fVar 0) (fCons (fVar 1) (fCons (callG F_law_lot_of (fCons (fVar 6) (fCons (fVar 2) (fNil)))) (fNil))))) (fCons (fVar 7) (fNil)))))) (retG (fC (.bl false))) (nxG))))
def g_law_right (F_law_apart F_law_holds F_law_lot_of F_law_lots F_law_meets F_law_same F_law_single F_law_weights F_barring F_least_winning F_wins : FD) : En → R Fl := seqG (asgI 2 (biG (fCons (fVar 0) (fNil)) (fun a => (lenD a).map Pl.val))) (seqG (asgI 3 (callG F_law_lots (fCons (callG F_least_winning (fCons (biG (fCons (fVar 0) (fNil)) lstD) (fCons (fVar 1) (fNil)))) (fCons (fVar 2) (fNil))))) (seqG (asgI 4 (callG F_law_lots (fCons (callG F_barring (fCons (biG (fCons (fVar 0) (fNil)) tupD) (fCons (fVar 1) (fNil)))) (fCons (fVar 2) (fNil))))) (seqG (ifG (orT (toB (bin (fVar 3) (fC .non) (cmpG isB))) (orT (toB (bin (fVar 4) (fC .non) (cmpG isB))) (orT (notT (truT (callG F_law_apart (fCons (fVar 3) (fNil))))) (notT (truT (callG F_law_apart (fCons (fVar 4) (fNil)))))))) (retG (fC (.bl false))) (nxG)) (seqG (asgI 5 (callG F_law_weights (fCons (fVar 0) (fNil)))) (seqG (forG (fRng1 (fCons (biG (fCons (fVar 5) (fNil)) (fun a => (lenD a).map Pl.val)) (fNil))) (tgN 6) (b_law_right1 F_law_apart F_law_holds F_law_lot_of F_law_lots F_law_meets F_law_same F_law_single F_law_weights F_barring F_least_winning F_wins) [6, 7]) (seqG (asgI 8 (bin (bin (biG (fCons (fVar 0) (fNil)) sumD) (fC (.int 1)) addD) (fVar 1) subD)) (seqG (ifG (toB (chn (fC (.int 1)) (fVar 8) (fC (.int 10000)) leB leB)) (seqG (asgI 9 (callG F_law_lots (fCons (callG F_least_winning (fCons (fVar 0) (fCons (fVar 8) (fNil)))) (fCons (fVar 2) (fNil))))) (seqG (asgI 10 (callG F_law_lots (fCons (callG F_barring (fCons (fVar 0) (fCons (fVar 8) (fNil)))) (fCons (fVar 2) (fNil))))) (seqG (ifG (orT (toB (bin (fVar 9) (fC .non) (cmpG isB))) (toB (bin (fVar 10) (fC .non) (cmpG isB)))) (retG (fC (.bl false))) (nxG)) (ifG (orT (toB (bin (biG (fCons (fVar 9) (fNil)) sortI) (biG (fCons (fVar 4) (fNil)) sortI) (cmpG neD))) (toB (bin (biG (fCons (fVar 10) (fNil)) sortI) (biG (fCons (fVar 3) (fNil)) sortI) (cmpG neD)))) (retG (fC (.bl false))) (nxG))))) (nxG)) (retG (callG F_law_single (fCons (fVar 0) (fCons (fVar 1) (fCons (fVar 3) (fCons (fVar 4) (fNil))))))))))))))
def F_law_right : FD := runF 11 2 (g_law_right F_law_apart F_law_holds F_law_lot_of F_law_lots F_law_meets (F_law_same 3) F_law_single F_law_weights F_barring F_least_winning F_wins)
def b_law1 (F_law_game F_law_next F_law_open F_law_right : FD) : En → R Fl := ifG (notT (truT (callG F_law_right (fCons (fVar 5) (fCons (fVar 7) (fNil)))))) (retG (fC (.bl false))) (nxG)
def g_law (F_law_game F_law_next F_law_open F_law_right : FD) : En → R Fl := seqG (asgM 1 (callG F_law_open (fCons (fVar 0) (fNil)))) (seqG (asgT (tgT 2 (tgCons (tgN 2) (tgCons (tgN 3) (tgNil)))) (callG F_law_game (fCons (fVar 1) (fCons (bin (fC (.int 6)) (biG (fCons (bin (callG F_law_next (fCons (fVar 1) (fCons (fC (.int 6)) (fNil)))) (fC (.int 0)) (cmpG eqD)) (fNil)) (fun a => (intD a).map Pl.val)) addD) (fNil))))) (seqG (asgI 4 (biG (fCons (fVar 2) (fNil)) lstD)) (seqG (ifG (orT (notT (truT (callG F_law_right (fCons (fVar 2) (fCons (fVar 3) (fNil)))))) (toB (bin (fVar 2) (fVar 4) (cmpG neD)))) (retG (fC (.bl false))) (nxG)) (seqG (asgT (tgT 2 (tgCons (tgN 5) (tgCons (tgN 6) (tgNil)))) (callG F_law_game (fCons (fVar 1) (fCons (fC (.int 5)) (fNil))))) (seqG (forG (fSeq (fTup (fCons (fVar 6) (fCons (bin (bin (biG (fCons (fVar 5) (fNil)) sumD) (fC (.int 2)) divD) (fC (.int 1)) addD) (fCons (biG (fCons (fC (.int 1)) (fCons (biG (fCons (fVar 5) (fNil)) sumD) (fNil))) (fun a => (two maxI a).map Pl.val)) (fCons (biG (fCons (fC (.int 10000)) (fCons (bin (biG (fCons (fVar 5) (fNil)) sumD) (fC (.int 1)) addD) (fNil))) (fun a => (two minI a).map Pl.val)) (fCons (fC (.int 1)) (fNil)))))))) (tgN 7) (b_law1 F_law_game F_law_next F_law_open F_law_right) [7]) (retG (callG F_law_right (fCons (fVar 4) (fCons (fVar 3) (fNil))))))))))
def F_law : FD := runF 8 1 (g_law F_law_game F_law_next F_law_open F_law_right)
/-! ### what is known of the names -/
structure Txt [Tb] (K : PySem.W.Frag) (mg : Str → Option Value) (base : Heap) : Prop where
  b_all : mg "all" = none
  b_any : mg "any" = none
  b_bool : mg "bool" = none
  b_enumerate : mg "enumerate" = none
  b_int : mg "int" = none
  b_isinstance : mg "isinstance" = none
  b_len : mg "len" = none
  b_list : mg "list" = none
  b_max : mg "max" = none
  b_min : mg "min" = none
  b_range : mg "range" = none
  b_sorted : mg "sorted" = none
  b_str : mg "str" = none
  b_sum : mg "sum" = none
  b_tuple : mg "tuple" = none
  c_MOST_NEED : ∃ u, mg "MOST_NEED" = some u ∧ RelV (.int 10000) u
  c_MOST_PARTIES : ∃ u, mg "MOST_PARTIES" = some u ∧ RelV (.int 10) u
  c_MOST_SEATS : ∃ u, mg "MOST_SEATS" = some u ∧ RelV (.int 1000) u
  f_is_integer : ∃ f fd, Fun K "is_integer" "is_integer" s_is_integer f fd ∧ mg "is_integer" = some (.ref f)
  f_is_from_to : ∃ f fd, Fun K "is_from_to" "is_from_to" s_is_from_to f fd ∧ mg "is_from_to" = some (.ref f)
  f_is_sequence : ∃ f fd, Fun K "is_sequence" "is_sequence" s_is_sequence f fd ∧ mg "is_sequence" = some (.ref f)
  f_is_rising : ∃ f fd, Fun K "is_rising" "is_rising" s_is_rising f fd ∧ mg "is_rising" = some (.ref f)
  f_is_in : ∃ f fd, Fun K "is_in" "is_in" s_is_in f fd ∧ mg "is_in" = some (.ref f)
  f_members_of : ∃ f fd, Fun K "members_of" "members_of" s_members_of f fd ∧ mg "members_of" = some (.ref f)
  f_lot_of : ∃ f fd, Fun K "lot_of" "lot_of" s_lot_of f fd ∧ mg "lot_of" = some (.ref f)
  f_sorted_lots : ∃ f fd c Pt, FunC K "sorted_lots" "sorted_lots" s_sorted_lots f fd c ∧ mg "sorted_lots" = some (.ref f) ∧ LamX.TabB base mg c Pt ∧ (Pt, ("sorted_lots.<locals>.<lambda>" : Str)) ∈ Tb.T ∧ ∀ p ∈ Tb.T, p.1 = Pt → p.2 = ("sorted_lots.<locals>.<lambda>" : Str)
  f_seats_of_masks : ∃ f fd, Fun K "seats_of_masks" "seats_of_masks" s_seats_of_masks f fd ∧ mg "seats_of_masks" = some (.ref f)
  f_winning_masks : ∃ f fd, Fun K "winning_masks" "winning_masks" s_winning_masks f fd ∧ mg "winning_masks" = some (.ref f)
  f_check_seats : ∃ f fd, Fun K "check_seats" "check_seats" s_check_seats f fd ∧ mg "check_seats" = some (.ref f)
  f_check_game : ∃ f fd, Fun K "check_game" "check_game" s_check_game f fd ∧ mg "check_game" = some (.ref f)
  f_wins : ∃ f fd, Fun K "wins" "wins" s_wins f fd ∧ mg "wins" = some (.ref f)
  f_is_least : ∃ f fd, Fun K "is_least" "is_least" s_is_least f fd ∧ mg "is_least" = some (.ref f)
  f_least_masks : ∃ f fd, Fun K "least_masks" "least_masks" s_least_masks f fd ∧ mg "least_masks" = some (.ref f)
  f_least_winning : ∃ f fd, Fun K "least_winning" "least_winning" s_least_winning f fd ∧ mg "least_winning" = some (.ref f)
  f_bars : ∃ f fd, Fun K "bars" "bars" s_bars f fd ∧ mg "bars" = some (.ref f)
  f_is_least_bar : ∃ f fd, Fun K "is_least_bar" "is_least_bar" s_is_least_bar f fd ∧ mg "is_least_bar" = some (.ref f)
  f_barring : ∃ f fd, Fun K "barring" "barring" s_barring f fd ∧ mg "barring" = some (.ref f)
  f_needless : ∃ f fd, Fun K "needless" "needless" s_needless f fd ∧ mg "needless" = some (.ref f)
  f_must_be_in : ∃ f fd, Fun K "must_be_in" "must_be_in" s_must_be_in f fd ∧ mg "must_be_in" = some (.ref f)
  f_law_mix : ∃ f fd, Fun K "_law_mix" "_law_mix" s_law_mix f fd ∧ mg "_law_mix" = some (.ref f)
  f_law_open : ∃ f fd, Fun K "_law_open" "_law_open" s_law_open f fd ∧ mg "_law_open" = some (.ref f)
  f_law_next : ∃ f fd, Fun K "_law_next" "_law_next" s_law_next f fd ∧ mg "_law_next" = some (.ref f)
  f_law_same : ∃ f fd, Fun K "_law_same" "_law_same" s_law_same f fd ∧ mg "_law_same" = some (.ref f)
  f_law_game : ∃ f fd, Fun K "_law_game" "_law_game" s_law_game f fd ∧ mg "_law_game" = some (.ref f)
  f_law_weights : ∃ f fd, Fun K "_law_weights" "_law_weights" s_law_weights f fd ∧ mg "_law_weights" = some (.ref f)
  f_law_lot_of : ∃ f fd, Fun K "_law_lot_of" "_law_lot_of" s_law_lot_of f fd ∧ mg "_law_lot_of" = some (.ref f)
  f_law_lots : ∃ f fd, Fun K "_law_lots" "_law_lots" s_law_lots f fd ∧ mg "_law_lots" = some (.ref f)
  f_law_apart : ∃ f fd, Fun K "_law_apart" "_law_apart" s_law_apart f fd ∧ mg "_law_apart" = some (.ref f)
  f_law_holds : ∃ f fd, Fun K "_law_holds" "_law_holds" s_law_holds f fd ∧ mg "_law_holds" = some (.ref f)
  f_law_meets : ∃ f fd, Fun K "_law_meets" "_law_meets" s_law_meets f fd ∧ mg "_law_meets" = some (.ref f)
  f_law_shared : ∃ f fd, Fun K "_law_shared" "_law_shared" s_law_shared f fd ∧ mg "_law_shared" = some (.ref f)
  f_law_single : ∃ f fd, Fun K "_law_single" "_law_single" s_law_single f fd ∧ mg "_law_single" = some (.ref f)
  f_law_right : ∃ f fd, Fun K "_law_right" "_law_right" s_law_right f fd ∧ mg "_law_right" = some (.ref f)
  f_law : ∃ f fd, Fun K "law" "law" s_law f fd ∧ mg "law" = some (.ref f)
section
variable [Tb] {P : Program} {w : World} {K : PySem.W.Frag} {mg : Str → Option Value} {base : Heap}
theorem ok_is_integer (T : Txt K mg base) : CalD P w K mg base 1 "is_integer" 1 F_is_integer := by
  obtain ⟨f, fd, F, hm⟩ := T.f_is_integer
  exact ⟨f, fd, ["value"], okD F sc_is_integer (fun cdv A outer s H E hr => (psts_one (ps_retG (px_andV (px_isi1 .int T.b_isinstance T.b_int (px_var 0)) (px_one (px_notV (px_isi1 .bool T.b_isinstance T.b_bool (px_var 0)))))))), hm, F.kp, F.binds (fun _ _ _ _ _ _ us hl => match us, hl with | [_], _ => rfl), rfl⟩
theorem ok_is_from_to (T : Txt K mg base) : CalD P w K mg base 2 "is_from_to" 3 F_is_from_to := by
  obtain ⟨f, fd, F, hm⟩ := T.f_is_from_to
  exact ⟨f, fd, ["value", "least", "most"], okD F sc_is_from_to (fun cdv A outer s H E hr => (psts_one (ps_retG (px_andV (px_call1 ((ok_is_integer T).mono (by omega)) hr (takes_of rfl rfl rfl rfl) (pxs_cons (px_var 0) pxs_nil)) (px_one (px_chain cr_le cr_le (px_var 1) (px_var 0) (px_var 2))))))), hm, F.kp, F.binds (fun _ _ _ _ _ _ us hl => match us, hl with | [_, _, _], _ => rfl), rfl⟩
theorem ok_is_sequence (T : Txt K mg base) : CalD P w K mg base 1 "is_sequence" 1 F_is_sequence := by
  obtain ⟨f, fd, F, hm⟩ := T.f_is_sequence
  exact ⟨f, fd, ["value"], okD F sc_is_sequence (fun cdv A outer s H E hr => (psts_one (ps_retG (px_isi2 .tuple .list T.b_isinstance T.b_tuple T.b_list (px_var 0))))), hm, F.kp, F.binds (fun _ _ _ _ _ _ us hl => match us, hl with | [_], _ => rfl), rfl⟩
theorem ok_is_rising (T : Txt K mg base) : CalD P w K mg base 3 "is_rising" 2 F_is_rising := by
  obtain ⟨f, fd, F, hm⟩ := T.f_is_rising
  exact ⟨f, fd, ["value", "bound"], okD F sc_is_rising (fun cdv A outer s H E hr => (psts_cons (ps_ifG (pt_not' (pt_tru (px_isi1 .tuple T.b_isinstance T.b_tuple (px_var 0)))) (psts_one (ps_retG px_bl)) psts_nil) (psts_cons (ps_asgI 2 px_int sc_is_rising.nd) (psts_cons (ps_forG [3] (passes_of rfl) (pit_seq (px_var 0)) (pgt_name 3 sc_is_rising.nd) (psts_cons (ps_ifG (pt_not' (pt_tru (px_call1 ((ok_is_from_to T).mono (by omega)) hr (takes_of rfl rfl rfl rfl) (pxs_cons (px_var 3) (pxs_cons (px_var 2) (pxs_cons (px_sub (px_var 1) px_int) pxs_nil)))))) (psts_one (ps_retG px_bl)) psts_nil) (psts_one (ps_asgI 2 (px_add (px_var 3) px_int) sc_is_rising.nd)))) (psts_one (ps_retG px_bl)))))), hm, F.kp, F.binds (fun _ _ _ _ _ _ us hl => match us, hl with | [_, _], _ => rfl), rfl⟩
theorem ok_is_in (T : Txt K mg base) : CalD P w K mg base 1 "is_in" 2 F_is_in := by
  obtain ⟨f, fd, F, hm⟩ := T.f_is_in
  exact ⟨f, fd, ["party", "mask"], okD F sc_is_in (fun cdv A outer s H E hr => (psts_one (ps_retG (px_cmp (cr_eq hr.r.units) (px_and_ (px_shr (px_var 1) (px_var 0)) px_int) px_int (by rfl))))), hm, F.kp, F.binds (fun _ _ _ _ _ _ us hl => match us, hl with | [_, _], _ => rfl), rfl⟩
theorem ok_members_of (T : Txt K mg base) : CalD P w K mg base 2 "members_of" 2 F_members_of := by
  obtain ⟨f, fd, F, hm⟩ := T.f_members_of
  exact ⟨f, fd, ["mask", "many"], okD F sc_members_of (fun cdv A outer s H E hr => (psts_one (ps_retG (px_lc [("party", 2)] sc_members_of.nd (pit_rng1 T.b_range (pxs_cons (px_var 1) pxs_nil)) (blkOk_by (by kernel_rfl)) (fun _ _ _ _ _ => (pgt_name 2 sc_members_of.nd)) (fun _ _ _ _ _ => (ptst_one (pt_tru (px_call1 ((ok_is_in T).mono (by omega)) hr takes0 (pxs_cons (px_var 2) (pxs_cons (px_var 0) pxs_nil)))))) (fun _ _ _ _ _ => (px_var 2)))))), hm, F.kp, F.binds (fun _ _ _ _ _ _ us hl => match us, hl with | [_, _], _ => rfl), rfl⟩
theorem ok_lot_of (T : Txt K mg base) : CalD P w K mg base 3 "lot_of" 2 F_lot_of := by
  obtain ⟨f, fd, F, hm⟩ := T.f_lot_of
  exact ⟨f, fd, ["mask", "many"], okD F sc_lot_of (fun cdv A outer s H E hr => (psts_one (ps_retG (px_tupOf T.b_tuple (pxs_cons (px_call1 ((ok_members_of T).mono (by omega)) hr (takes_of rfl rfl rfl rfl) (pxs_cons (px_var 0) (pxs_cons (px_var 1) pxs_nil))) pxs_nil))))), hm, F.kp, F.binds (fun _ _ _ _ _ _ us hl => match us, hl with | [_, _], _ => rfl), rfl⟩
theorem ok_sorted_lots (T : Txt K mg base) : CalD P w K mg base 4 "sorted_lots" 2 F_sorted_lots := by
  obtain ⟨f, fd, c, Pt, F, hm, TB, hTm, hTu⟩ := T.f_sorted_lots
  exact ⟨f, fd, ["masks", "many"], okDc F sc_sorted_lots (fun A outer s H E hr => (psts_cons (ps_lcI 2 [("mask", 3)] sc_sorted_lots.nd (pit_seq (px_var 0)) (blkOk_by (by kernel_rfl)) (fun _ _ _ _ _ => (pgt_name 3 sc_sorted_lots.nd)) (fun _ _ _ _ _ => ptst_nil) (fun _ _ _ _ _ => (px_call1 ((ok_lot_of T).mono (by omega)) hr takes0 (pxs_cons (px_var 3) (pxs_cons (px_var 1) pxs_nil)))) (sw_true rfl rfl rfl (by kernel_rfl))) (psts_one (ps_retG (px_tupOf T.b_tuple (pxs_cons (px_sortk [] hr T.b_sorted (px_var 2) (lamP_by (p := "lot") (by kernel_rfl)) TB rfl hTm hTu (fun _ _ _ _ => (px_tup (pxs_cons (px_len T.b_len (pxs_cons (px_var 0) pxs_nil)) (pxs_cons (px_var 0) pxs_nil))))) pxs_nil)))))), hm, F.kp, F.fun.binds (fun _ _ _ _ _ _ us hl => match us, hl with | [_, _], _ => rfl), rfl⟩
theorem ok_seats_of_masks (T : Txt K mg base) : CalD P w K mg base 1 "seats_of_masks" 1 F_seats_of_masks := by
  obtain ⟨f, fd, F, hm⟩ := T.f_seats_of_masks
  exact ⟨f, fd, ["seats"], okD F sc_seats_of_masks (fun cdv A outer s H E hr => (psts_cons (ps_asgI 1 (px_lst (pxs_cons px_int pxs_nil)) sc_seats_of_masks.nd) (psts_cons (ps_forG [2, 3] (passes_of rfl) (pit_seq (px_var 0)) (pgt_name 2 sc_seats_of_masks.nd) (psts_one (ps_asgI 1 (px_add (px_var 1) (px_lc [("total", 3)] sc_seats_of_masks.nd (pit_seq (px_var 1)) (blkOk_by (by kernel_rfl)) (fun _ _ _ _ _ => (pgt_name 3 sc_seats_of_masks.nd)) (fun _ _ _ _ _ => ptst_nil) (fun _ _ _ _ _ => (px_add (px_var 3) (px_var 2))))) sc_seats_of_masks.nd))) (psts_one (ps_retG (px_var 1)))))), hm, F.kp, F.binds (fun _ _ _ _ _ _ us hl => match us, hl with | [_], _ => rfl), rfl⟩
theorem ok_winning_masks (T : Txt K mg base) : CalD P w K mg base 2 "winning_masks" 2 F_winning_masks := by
  obtain ⟨f, fd, F, hm⟩ := T.f_winning_masks
  exact ⟨f, fd, ["seats", "need"], okD F sc_winning_masks (fun cdv A outer s H E hr => (psts_one (ps_retG (px_lc [("total", 2)] sc_winning_masks.nd (pit_seq (px_call1 ((ok_seats_of_masks T).mono (by omega)) hr (takes_of rfl rfl rfl rfl) (pxs_cons (px_var 0) pxs_nil))) (blkOk_by (by kernel_rfl)) (fun _ _ _ _ _ => (pgt_name 2 sc_winning_masks.nd)) (fun _ _ _ _ _ => ptst_nil) (fun _ _ _ _ _ => (px_cmp cr_ge (px_var 2) (px_var 1) (by rfl))))))), hm, F.kp, F.binds (fun _ _ _ _ _ _ us hl => match us, hl with | [_, _], _ => rfl), rfl⟩
theorem ok_check_seats (T : Txt K mg base) : CalD P w K mg base 3 "check_seats" 1 F_check_seats := by
  obtain ⟨f, fd, F, hm⟩ := T.f_check_seats
  exact ⟨f, fd, ["seats"], okD F sc_check_seats (fun cdv A outer s H E hr => (psts_cons (ps_ifG (pt_pw (pw_or' (pt_not' (pt_tru (px_call1 ((ok_is_sequence T).mono (by omega)) hr (takes_of rfl rfl rfl rfl) (pxs_cons (px_var 0) pxs_nil)))) (pw_or1' (pt_not' (pt_chain' cr_le cr_le px_int (px_len T.b_len (pxs_cons (px_var 0) pxs_nil)) (px_gc T.c_MOST_PARTIES)))))) (psts_one ps_stuck) psts_nil) (psts_one (ps_forG [1, 2] (passes_of rfl) (pit_enum T.b_enumerate (pxs_cons (px_var 0) pxs_nil)) (pgt_tup 2 (pgts_cons (pgt_name 1 sc_check_seats.nd) (pgts_cons (pgt_name 2 sc_check_seats.nd) pgts_nil))) (psts_one (ps_ifG (pt_not' (pt_tru (px_call1 ((ok_is_from_to T).mono (by omega)) hr (takes_of rfl rfl rfl rfl) (pxs_cons (px_var 2) (pxs_cons px_int (pxs_cons (px_gc T.c_MOST_SEATS) pxs_nil)))))) (psts_one ps_stuck) psts_nil)))))), hm, F.kp, F.binds (fun _ _ _ _ _ _ us hl => match us, hl with | [_], _ => rfl), rfl⟩
theorem ok_check_game (T : Txt K mg base) : CalD P w K mg base 4 "check_game" 2 F_check_game := by
  obtain ⟨f, fd, F, hm⟩ := T.f_check_game
  exact ⟨f, fd, ["seats", "need"], okD F sc_check_game (fun cdv A outer s H E hr => (psts_cons (ps_drop (px_call1 ((ok_check_seats T).mono (by omega)) hr (takes_of rfl rfl rfl rfl) (pxs_cons (px_var 0) pxs_nil))) (psts_one (ps_ifG (pt_not' (pt_tru (px_call1 ((ok_is_from_to T).mono (by omega)) hr (takes_of rfl rfl rfl rfl) (pxs_cons (px_var 1) (pxs_cons px_int (pxs_cons (px_gc T.c_MOST_NEED) pxs_nil)))))) (psts_one ps_stuck) psts_nil)))), hm, F.kp, F.binds (fun _ _ _ _ _ _ us hl => match us, hl with | [_, _], _ => rfl), rfl⟩
theorem ok_wins (T : Txt K mg base) : CalD P w K mg base 5 "wins" 3 F_wins := by
  obtain ⟨f, fd, F, hm⟩ := T.f_wins
  exact ⟨f, fd, ["seats", "need", "lot"], okD F sc_wins (fun cdv A outer s H E hr => (psts_cons (ps_drop (px_call1 ((ok_check_game T).mono (by omega)) hr (takes_of rfl rfl rfl rfl) (pxs_cons (px_var 0) (pxs_cons (px_var 1) pxs_nil)))) (psts_cons (ps_ifG (pt_not' (pt_tru (px_call1 ((ok_is_rising T).mono (by omega)) hr (takes_of rfl rfl rfl rfl) (pxs_cons (px_var 2) (pxs_cons (px_len T.b_len (pxs_cons (px_var 0) pxs_nil)) pxs_nil))))) (psts_one ps_stuck) psts_nil) (psts_one (ps_retG (px_cmp cr_ge (px_sum T.b_sum (pxs_cons (px_lc [("party", 3)] sc_wins.nd (pit_seq (px_var 2)) (blkOk_by (by kernel_rfl)) (fun _ _ _ _ _ => (pgt_name 3 sc_wins.nd)) (fun _ _ _ _ _ => ptst_nil) (fun _ _ _ _ _ => (px_ix (px_var 0) (px_var 3)))) pxs_nil)) (px_var 1) (by rfl))))))), hm, F.kp, F.binds (fun _ _ _ _ _ _ us hl => match us, hl with | [_, _, _], _ => rfl), rfl⟩
theorem ok_is_least (T : Txt K mg base) : CalD P w K mg base 3 "is_least" 3 F_is_least := by
  obtain ⟨f, fd, F, hm⟩ := T.f_is_least
  exact ⟨f, fd, ["winning", "mask", "many"], okD F sc_is_least (fun cdv A outer s H E hr => (psts_cons (ps_ifG (pt_not' (pt_tru (px_ix (px_var 0) (px_var 1)))) (psts_one (ps_retG px_bl)) psts_nil) (psts_cons (ps_forG [3] (passes_of rfl) (pit_seq (px_call1 ((ok_members_of T).mono (by omega)) hr (takes_of rfl rfl rfl rfl) (pxs_cons (px_var 1) (pxs_cons (px_var 2) pxs_nil)))) (pgt_name 3 sc_is_least.nd) (psts_one (ps_ifG (pt_tru (px_ix (px_var 0) (px_sub (px_var 1) (px_shl px_int (px_var 3))))) (psts_one (ps_retG px_bl)) psts_nil))) (psts_one (ps_retG px_bl))))), hm, F.kp, F.binds (fun _ _ _ _ _ _ us hl => match us, hl with | [_, _, _], _ => rfl), rfl⟩
theorem ok_least_masks (T : Txt K mg base) : CalD P w K mg base 4 "least_masks" 2 F_least_masks := by
  obtain ⟨f, fd, F, hm⟩ := T.f_least_masks
  exact ⟨f, fd, ["winning", "many"], okD F sc_least_masks (fun cdv A outer s H E hr => (psts_one (ps_retG (px_lc [("mask", 2)] sc_least_masks.nd (pit_rng1 T.b_range (pxs_cons (px_shl px_int (px_var 1)) pxs_nil)) (blkOk_by (by kernel_rfl)) (fun _ _ _ _ _ => (pgt_name 2 sc_least_masks.nd)) (fun _ _ _ _ _ => (ptst_one (pt_tru (px_call1 ((ok_is_least T).mono (by omega)) hr takes0 (pxs_cons (px_var 0) (pxs_cons (px_var 2) (pxs_cons (px_var 1) pxs_nil))))))) (fun _ _ _ _ _ => (px_var 2)))))), hm, F.kp, F.binds (fun _ _ _ _ _ _ us hl => match us, hl with | [_, _], _ => rfl), rfl⟩
theorem ok_least_winning (T : Txt K mg base) : CalD P w K mg base 5 "least_winning" 2 F_least_winning := by
  obtain ⟨f, fd, F, hm⟩ := T.f_least_winning
  exact ⟨f, fd, ["seats", "need"], okD F sc_least_winning (fun cdv A outer s H E hr => (psts_cons (ps_drop (px_call1 ((ok_check_game T).mono (by omega)) hr (takes_of rfl rfl rfl rfl) (pxs_cons (px_var 0) (pxs_cons (px_var 1) pxs_nil)))) (psts_cons (ps_asgI 2 (px_len T.b_len (pxs_cons (px_var 0) pxs_nil)) sc_least_winning.nd) (psts_one (ps_retG (px_call1 ((ok_sorted_lots T).mono (by omega)) hr (takes_of rfl rfl rfl rfl) (pxs_cons (px_call1 ((ok_least_masks T).mono (by omega)) hr (takes_of rfl rfl rfl rfl) (pxs_cons (px_call1 ((ok_winning_masks T).mono (by omega)) hr (takes_of rfl rfl rfl rfl) (pxs_cons (px_var 0) (pxs_cons (px_var 1) pxs_nil))) (pxs_cons (px_var 2) pxs_nil))) (pxs_cons (px_var 2) pxs_nil)))))))), hm, F.kp, F.binds (fun _ _ _ _ _ _ us hl => match us, hl with | [_, _], _ => rfl), rfl⟩
theorem ok_bars (T : Txt K mg base) : CalD P w K mg base 1 "bars" 2 F_bars := by
  obtain ⟨f, fd, F, hm⟩ := T.f_bars
  exact ⟨f, fd, ["winning", "mask"], okD F sc_bars (fun cdv A outer s H E hr => (psts_one (ps_retG (px_notV (px_ix (px_var 0) (px_sub (px_sub (px_len T.b_len (pxs_cons (px_var 0) pxs_nil)) px_int) (px_var 1))))))), hm, F.kp, F.binds (fun _ _ _ _ _ _ us hl => match us, hl with | [_, _], _ => rfl), rfl⟩
theorem ok_is_least_bar (T : Txt K mg base) : CalD P w K mg base 3 "is_least_bar" 3 F_is_least_bar := by
  obtain ⟨f, fd, F, hm⟩ := T.f_is_least_bar
  exact ⟨f, fd, ["winning", "mask", "many"], okD F sc_is_least_bar (fun cdv A outer s H E hr => (psts_cons (ps_ifG (pt_not' (pt_tru (px_call1 ((ok_bars T).mono (by omega)) hr (takes_of rfl rfl rfl rfl) (pxs_cons (px_var 0) (pxs_cons (px_var 1) pxs_nil))))) (psts_one (ps_retG px_bl)) psts_nil) (psts_cons (ps_forG [3] (passes_of rfl) (pit_seq (px_call1 ((ok_members_of T).mono (by omega)) hr (takes_of rfl rfl rfl rfl) (pxs_cons (px_var 1) (pxs_cons (px_var 2) pxs_nil)))) (pgt_name 3 sc_is_least_bar.nd) (psts_one (ps_ifG (pt_tru (px_call1 ((ok_bars T).mono (by omega)) hr (takes_of rfl rfl rfl rfl) (pxs_cons (px_var 0) (pxs_cons (px_sub (px_var 1) (px_shl px_int (px_var 3))) pxs_nil)))) (psts_one (ps_retG px_bl)) psts_nil))) (psts_one (ps_retG px_bl))))), hm, F.kp, F.binds (fun _ _ _ _ _ _ us hl => match us, hl with | [_, _, _], _ => rfl), rfl⟩
theorem ok_barring (T : Txt K mg base) : CalD P w K mg base 5 "barring" 2 F_barring := by
  obtain ⟨f, fd, F, hm⟩ := T.f_barring
  exact ⟨f, fd, ["seats", "need"], okD F sc_barring (fun cdv A outer s H E hr => (psts_cons (ps_drop (px_call1 ((ok_check_game T).mono (by omega)) hr (takes_of rfl rfl rfl rfl) (pxs_cons (px_var 0) (pxs_cons (px_var 1) pxs_nil)))) (psts_cons (ps_asgI 2 (px_len T.b_len (pxs_cons (px_var 0) pxs_nil)) sc_barring.nd) (psts_cons (ps_asgI 3 (px_call1 ((ok_winning_masks T).mono (by omega)) hr (takes_of rfl rfl rfl rfl) (pxs_cons (px_var 0) (pxs_cons (px_var 1) pxs_nil))) sc_barring.nd) (psts_cons (ps_lcI 4 [("mask", 5)] sc_barring.nd (pit_rng1 T.b_range (pxs_cons (px_shl px_int (px_var 2)) pxs_nil)) (blkOk_by (by kernel_rfl)) (fun _ _ _ _ _ => (pgt_name 5 sc_barring.nd)) (fun _ _ _ _ _ => (ptst_one (pt_tru (px_call1 ((ok_is_least_bar T).mono (by omega)) hr takes0 (pxs_cons (px_var 3) (pxs_cons (px_var 5) (pxs_cons (px_var 2) pxs_nil))))))) (fun _ _ _ _ _ => (px_var 5)) (sw_true rfl rfl rfl (by kernel_rfl))) (psts_one (ps_retG (px_call1 ((ok_sorted_lots T).mono (by omega)) hr (takes_of rfl rfl rfl rfl) (pxs_cons (px_var 4) (pxs_cons (px_var 2) pxs_nil)))))))))), hm, F.kp, F.binds (fun _ _ _ _ _ _ us hl => match us, hl with | [_, _], _ => rfl), rfl⟩
theorem ok_needless (T : Txt K mg base) : CalD P w K mg base 5 "needless" 2 F_needless := by
  obtain ⟨f, fd, F, hm⟩ := T.f_needless
  exact ⟨f, fd, ["seats", "need"], okD F sc_needless (fun cdv A outer s H E hr => (psts_cons (ps_drop (px_call1 ((ok_check_game T).mono (by omega)) hr (takes_of rfl rfl rfl rfl) (pxs_cons (px_var 0) (pxs_cons (px_var 1) pxs_nil)))) (psts_cons (ps_asgI 2 (px_len T.b_len (pxs_cons (px_var 0) pxs_nil)) sc_needless.nd) (psts_cons (ps_asgI 3 (px_call1 ((ok_least_masks T).mono (by omega)) hr (takes_of rfl rfl rfl rfl) (pxs_cons (px_call1 ((ok_winning_masks T).mono (by omega)) hr (takes_of rfl rfl rfl rfl) (pxs_cons (px_var 0) (pxs_cons (px_var 1) pxs_nil))) (pxs_cons (px_var 2) pxs_nil))) sc_needless.nd) (psts_cons (ps_asgM 4 (px_lst pxs_nil) sc_needless.nd) (psts_cons (ps_forG [5, 6] (passes_of rfl) (pit_rng1 T.b_range (pxs_cons (px_var 2) pxs_nil)) (pgt_name 5 sc_needless.nd) (psts_one (ps_ifG (pt_not' (pt_tru (px_any T.b_any (pxs_cons (px_lc [("mask", 6)] sc_needless.nd (pit_seq (px_var 3)) (blkOk_by (by kernel_rfl)) (fun _ _ _ _ _ => (pgt_name 6 sc_needless.nd)) (fun _ _ _ _ _ => ptst_nil) (fun _ _ _ _ _ => (px_call1 ((ok_is_in T).mono (by omega)) hr takes0 (pxs_cons (px_var 5) (pxs_cons (px_var 6) pxs_nil))))) pxs_nil)))) (psts_one (ps_drop (px_append 4 (pxs_cons (px_var 5) pxs_nil)))) psts_nil))) (psts_one (ps_retG (px_tupOf T.b_tuple (pxs_cons (px_var 4) pxs_nil)))))))))), hm, F.kp, F.binds (fun _ _ _ _ _ _ us hl => match us, hl with | [_, _], _ => rfl), rfl⟩
theorem ok_must_be_in (T : Txt K mg base) : CalD P w K mg base 5 "must_be_in" 2 F_must_be_in := by
  obtain ⟨f, fd, F, hm⟩ := T.f_must_be_in
  exact ⟨f, fd, ["seats", "need"], okD F sc_must_be_in (fun cdv A outer s H E hr => (psts_cons (ps_drop (px_call1 ((ok_check_game T).mono (by omega)) hr (takes_of rfl rfl rfl rfl) (pxs_cons (px_var 0) (pxs_cons (px_var 1) pxs_nil)))) (psts_cons (ps_asgI 2 (px_len T.b_len (pxs_cons (px_var 0) pxs_nil)) sc_must_be_in.nd) (psts_cons (ps_asgI 3 (px_call1 ((ok_least_masks T).mono (by omega)) hr (takes_of rfl rfl rfl rfl) (pxs_cons (px_call1 ((ok_winning_masks T).mono (by omega)) hr (takes_of rfl rfl rfl rfl) (pxs_cons (px_var 0) (pxs_cons (px_var 1) pxs_nil))) (pxs_cons (px_var 2) pxs_nil))) sc_must_be_in.nd) (psts_cons (ps_ifG (pt_not' (pt_tru (px_var 3))) (psts_one (ps_retG (px_tup pxs_nil))) psts_nil) (psts_cons (ps_asgM 4 (px_lst pxs_nil) sc_must_be_in.nd) (psts_cons (ps_forG [5, 6] (passes_of rfl) (pit_rng1 T.b_range (pxs_cons (px_var 2) pxs_nil)) (pgt_name 5 sc_must_be_in.nd) (psts_one (ps_ifG (pt_tru (px_all T.b_all (pxs_cons (px_lc [("mask", 6)] sc_must_be_in.nd (pit_seq (px_var 3)) (blkOk_by (by kernel_rfl)) (fun _ _ _ _ _ => (pgt_name 6 sc_must_be_in.nd)) (fun _ _ _ _ _ => ptst_nil) (fun _ _ _ _ _ => (px_call1 ((ok_is_in T).mono (by omega)) hr takes0 (pxs_cons (px_var 5) (pxs_cons (px_var 6) pxs_nil))))) pxs_nil))) (psts_one (ps_drop (px_append 4 (pxs_cons (px_var 5) pxs_nil)))) psts_nil))) (psts_one (ps_retG (px_tupOf T.b_tuple (pxs_cons (px_var 4) pxs_nil))))))))))), hm, F.kp, F.binds (fun _ _ _ _ _ _ us hl => match us, hl with | [_, _], _ => rfl), rfl⟩
theorem ok_law_mix (T : Txt K mg base) : CalD P w K mg base 1 "_law_mix" 1 F_law_mix := by
  obtain ⟨f, fd, F, hm⟩ := T.f_law_mix
  exact ⟨f, fd, ["number"], okD F sc_law_mix (fun cdv A outer s H E hr => (psts_cons (ps_asgI 1 px_int sc_law_mix.nd) (psts_cons (ps_asgI 0 (px_mod (px_intOf T.b_int (pxs_cons (px_var 0) pxs_nil)) (px_var 1)) sc_law_mix.nd) (psts_cons (ps_asgI 0 (px_mod (px_add (px_mul (px_var 0) (px_var 0)) px_int) (px_var 1)) sc_law_mix.nd) (psts_one (ps_retG (px_mod (px_add (px_mul (px_var 0) (px_var 0)) px_int) (px_var 1)))))))), hm, F.kp, F.binds (fun _ _ _ _ _ _ us hl => match us, hl with | [_], _ => rfl), rfl⟩
theorem ok_law_open (T : Txt K mg base) : CalD P w K mg base 2 "_law_open" 1 F_law_open := by
  obtain ⟨f, fd, F, hm⟩ := T.f_law_open
  exact ⟨f, fd, ["script"], okD F sc_law_open (fun cdv A outer s H E hr => (psts_cons (ps_asgI 1 px_int sc_law_open.nd) (psts_cons (ps_asgM 2 (px_lst (pxs_cons px_int pxs_nil)) sc_law_open.nd) (psts_cons (ps_forG [3] (passes_of rfl) (pit_seq (px_var 0)) (pgt_name 3 sc_law_open.nd) (psts_cons (ps_asgI 1 (px_call1 ((ok_law_mix T).mono (by omega)) hr (takes_of rfl rfl rfl rfl) (pxs_cons (px_add (px_add (px_var 1) px_int) (px_intOf T.b_int (pxs_cons (px_var 3) pxs_nil))) pxs_nil)) sc_law_open.nd) (psts_one (ps_ifG (pt_cmp' cr_ge (px_intOf T.b_int (pxs_cons (px_var 3) pxs_nil)) (px_pow px_int px_int) (by rfl)) (psts_one (ps_drop (px_append 2 (pxs_cons (px_intOf T.b_int (pxs_cons (px_var 3) pxs_nil)) pxs_nil)))) psts_nil)))) (psts_cons (ps_setI 2 (px_var 1) px_int) (psts_one (ps_retG (px_var 2)))))))), hm, F.kp, F.binds (fun _ _ _ _ _ _ us hl => match us, hl with | [_], _ => rfl), rfl⟩
theorem ok_law_next (T : Txt K mg base) : CalD P w K mg base 2 "_law_next" 2 F_law_next := by
  obtain ⟨f, fd, F, hm⟩ := T.f_law_next
  exact ⟨f, fd, ["state", "many"], okD F sc_law_next (fun cdv A outer s H E hr => (psts_cons (ps_ifG (pt_cmp' cr_gt (px_len T.b_len (pxs_cons (px_var 0) pxs_nil)) px_int (by rfl)) (psts_cons (ps_asgI 2 (px_mod (px_intOf T.b_int (pxs_cons (px_ix (px_var 0) px_int) pxs_nil)) (px_var 1)) sc_law_next.nd) (psts_cons (ps_setI 0 (px_fdiv (px_ix (px_var 0) px_int) (px_var 1)) px_int) (psts_cons (ps_ifG (pt_cmp' (cr_eq hr.r.units) (px_ix (px_var 0) px_int) px_int (by rfl)) (psts_one (ps_drop (px_popAt 0 (pxs_cons px_int pxs_nil)))) psts_nil) (psts_one (ps_retG (px_var 2)))))) psts_nil) (psts_cons (ps_setI 0 (px_call1 ((ok_law_mix T).mono (by omega)) hr (takes_of rfl rfl rfl rfl) (pxs_cons (px_ix (px_var 0) px_int) pxs_nil)) px_int) (psts_one (ps_retG (px_mod (px_fdiv (px_intOf T.b_int (pxs_cons (px_ix (px_var 0) px_int) pxs_nil)) px_int) (px_var 1))))))), hm, F.kp, F.binds (fun _ _ _ _ _ _ us hl => match us, hl with | [_, _], _ => rfl), rfl⟩
theorem ok_law_same (T : Txt K mg base) : ∀ n, CalD P w K mg base (1 + n) "_law_same" 2 (F_law_same n)
  | 0 => by
    obtain ⟨f, fd, F, hm⟩ := T.f_law_same
    exact ⟨f, fd, ["actual", "due"], FnG.stuck, hm, F.kp, F.binds (fun _ _ _ _ _ _ us hl => match us, hl with | [_, _], _ => rfl), rfl⟩
  | n + 1 => by
    have ih := ok_law_same T n
    obtain ⟨f, fd, F, hm⟩ := T.f_law_same
    exact ⟨f, fd, ["actual", "due"], okD F sc_law_same (fun cdv A outer s H E hr => (psts_cons (ps_ifG (pt_cmp' cr_is (px_var 1) px_non (by rfl)) (psts_one (ps_retG (px_cmp cr_is (px_var 0) px_non (by rfl)))) psts_nil) (psts_cons (ps_ifG (pt_cmp' cr_is (px_var 1) px_bl (by rfl)) (psts_one (ps_retG (px_cmp cr_is (px_var 0) px_bl (by rfl)))) psts_nil) (psts_cons (ps_ifG (pt_cmp' cr_is (px_var 1) px_bl (by rfl)) (psts_one (ps_retG (px_cmp cr_is (px_var 0) px_bl (by rfl)))) psts_nil) (psts_cons (ps_ifG (pt_tru (px_isi1 .tuple T.b_isinstance T.b_tuple (px_var 1))) (psts_cons (ps_ifG (pt_pw (pw_or' (pt_not' (pt_tru (px_isi1 .tuple T.b_isinstance T.b_tuple (px_var 0)))) (pw_or1' (pt_cmp' (cr_ne hr.r.units) (px_len T.b_len (pxs_cons (px_var 0) pxs_nil)) (px_len T.b_len (pxs_cons (px_var 1) pxs_nil)) (by rfl))))) (psts_one (ps_retG px_bl)) psts_nil) (psts_cons (ps_forG [2] (passes_of rfl) (pit_rng1 T.b_range (pxs_cons (px_len T.b_len (pxs_cons (px_var 1) pxs_nil)) pxs_nil)) (pgt_name 2 sc_law_same.nd) (psts_one (ps_ifG (pt_not' (pt_tru (px_call1 (ih) hr (takes_of rfl rfl rfl rfl) (pxs_cons (px_ix (px_var 0) (px_var 2)) (pxs_cons (px_ix (px_var 1) (px_var 2)) pxs_nil))))) (psts_one (ps_retG px_bl)) psts_nil))) (psts_one (ps_retG px_bl)))) psts_nil) (psts_cons (ps_ifG (pt_tru (px_isi1 .int T.b_isinstance T.b_int (px_var 1))) (psts_one (ps_retG (px_andV (px_isi1 .int T.b_isinstance T.b_int (px_var 0)) (px_andV (px_notV (px_isi1 .bool T.b_isinstance T.b_bool (px_var 0))) (px_one (px_cmp (cr_eq hr.r.units) (px_var 0) (px_var 1) (by rfl))))))) psts_nil) (psts_one (ps_retG (px_andV (px_isi1 .str T.b_isinstance T.b_str (px_var 0)) (px_one (px_cmp (cr_eq hr.r.units) (px_var 0) (px_var 1) (by rfl)))))))))))), hm, F.kp, F.binds (fun _ _ _ _ _ _ us hl => match us, hl with | [_, _], _ => rfl), rfl⟩
theorem ok_law_game (T : Txt K mg base) : CalD P w K mg base 3 "_law_game" 2 F_law_game := by
  obtain ⟨f, fd, F, hm⟩ := T.f_law_game
  exact ⟨f, fd, ["state", "most"], okD F sc_law_game (fun cdv A outer s H E hr => (psts_cons (ps_asgI 2 (px_ix (px_tup (pxs_cons px_int (pxs_cons px_int (pxs_cons px_int (pxs_cons px_int (pxs_cons px_int pxs_nil)))))) (px_call1 ((ok_law_next T).mono (by omega)) hr (takes_of rfl rfl rfl rfl) (pxs_cons (px_var 0) (pxs_cons px_int pxs_nil)))) sc_law_game.nd) (psts_cons (ps_asgI 3 (px_ix (px_tup (pxs_cons px_int (pxs_cons px_int (pxs_cons px_int pxs_nil)))) (px_call1 ((ok_law_next T).mono (by omega)) hr (takes_of rfl rfl rfl rfl) (pxs_cons (px_var 0) (pxs_cons px_int pxs_nil)))) sc_law_game.nd) (psts_cons (ps_asgM 4 (px_lst pxs_nil) sc_law_game.nd) (psts_cons (ps_forG [5, 6, 7] (passes_of rfl) (pit_rng1 T.b_range (pxs_cons (px_add px_int (px_call1 ((ok_law_next T).mono (by omega)) hr (takes_of rfl rfl rfl rfl) (pxs_cons (px_var 0) (pxs_cons (px_var 1) pxs_nil)))) pxs_nil)) (pgt_name 5 sc_law_game.nd) (psts_cons (ps_asgI 6 (px_call1 ((ok_law_next T).mono (by omega)) hr (takes_of rfl rfl rfl rfl) (pxs_cons (px_var 0) (pxs_cons px_int pxs_nil))) sc_law_game.nd) (psts_cons (ps_asgI 7 (px_mul (px_var 2) (px_call1 ((ok_law_next T).mono (by omega)) hr (takes_of rfl rfl rfl rfl) (pxs_cons (px_var 0) (pxs_cons (px_var 3) pxs_nil)))) sc_law_game.nd) (psts_cons (ps_ifG (pt_cmp' (cr_eq hr.r.units) (px_var 6) px_int (by rfl)) (psts_one (ps_asgI 7 px_int sc_law_game.nd)) psts_nil) (psts_cons (ps_ifG (pt_cmp' (cr_eq hr.r.units) (px_var 6) px_int (by rfl)) (psts_one (ps_asgI 7 (px_call1 ((ok_law_next T).mono (by omega)) hr (takes_of rfl rfl rfl rfl) (pxs_cons (px_var 0) (pxs_cons px_int pxs_nil))) sc_law_game.nd)) psts_nil) (psts_cons (ps_ifG (pt_cmp' (cr_eq hr.r.units) (px_var 6) px_int (by rfl)) (psts_one (ps_asgI 7 (px_mul (px_var 2) (px_sub (px_var 3) px_int)) sc_law_game.nd)) psts_nil) (psts_one (ps_drop (px_append 4 (pxs_cons (px_var 7) pxs_nil)))))))))) (psts_cons (ps_asgI 8 (px_sum T.b_sum (pxs_cons (px_var 4) pxs_nil)) sc_law_game.nd) (psts_cons (ps_asgI 6 (px_call1 ((ok_law_next T).mono (by omega)) hr (takes_of rfl rfl rfl rfl) (pxs_cons (px_var 0) (pxs_cons px_int pxs_nil))) sc_law_game.nd) (psts_cons (ps_asgI 9 (px_add px_int (px_call1 ((ok_law_next T).mono (by omega)) hr (takes_of rfl rfl rfl rfl) (pxs_cons (px_var 0) (pxs_cons (px_add (px_var 8) px_int) pxs_nil)))) sc_law_game.nd) (psts_cons (ps_ifG (pt_cmp' cr_lt (px_var 6) px_int (by rfl)) (psts_one (ps_asgI 9 (px_add (px_fdiv (px_var 8) px_int) px_int) sc_law_game.nd)) psts_nil) (psts_cons (ps_ifG (pt_cmp' (cr_eq hr.r.units) (px_var 6) px_int (by rfl)) (psts_one (ps_asgI 9 (px_max2 T.b_max (pxs_cons px_int (pxs_cons (px_var 8) pxs_nil))) sc_law_game.nd)) psts_nil) (psts_cons (ps_ifG (pt_cmp' (cr_eq hr.r.units) (px_var 6) px_int (by rfl)) (psts_one (ps_asgI 9 (px_min2 T.b_min (pxs_cons (px_add (px_var 8) px_int) (pxs_cons px_int pxs_nil))) sc_law_game.nd)) psts_nil) (psts_cons (ps_ifG (pt_cmp' (cr_eq hr.r.units) (px_var 6) px_int (by rfl)) (psts_one (ps_asgI 9 (px_ix (px_tup (pxs_cons px_int (pxs_cons px_int pxs_nil))) (px_call1 ((ok_law_next T).mono (by omega)) hr (takes_of rfl rfl rfl rfl) (pxs_cons (px_var 0) (pxs_cons px_int pxs_nil)))) sc_law_game.nd)) psts_nil) (psts_cons (ps_ifG (pt_cmp' (cr_eq hr.r.units) (px_var 6) px_int (by rfl)) (psts_one (ps_asgI 9 (px_max2 T.b_max (pxs_cons px_int (pxs_cons (px_fdiv (px_mul (px_var 8) px_int) px_int) pxs_nil))) sc_law_game.nd)) psts_nil) (psts_frz 4 (psts_one (ps_retG (px_tup (pxs_cons (px_var 4) (pxs_cons (px_min2 T.b_min (pxs_cons (px_var 9) (pxs_cons px_int pxs_nil))) pxs_nil))))))))))))))))))), hm, F.kp, F.binds (fun _ _ _ _ _ _ us hl => match us, hl with | [_, _], _ => rfl), rfl⟩
theorem ok_law_weights (T : Txt K mg base) : CalD P w K mg base 1 "_law_weights" 1 F_law_weights := by
  obtain ⟨f, fd, F, hm⟩ := T.f_law_weights
  exact ⟨f, fd, ["seats"], okD F sc_law_weights (fun cdv A outer s H E hr => (psts_cons (ps_asgI 1 (px_lst (pxs_cons px_int pxs_nil)) sc_law_weights.nd) (psts_cons (ps_forG [2, 3] (passes_of rfl) (pit_seq (px_var 0)) (pgt_name 2 sc_law_weights.nd) (psts_one (ps_asgI 1 (px_add (px_var 1) (px_lc [("before", 3)] sc_law_weights.nd (pit_seq (px_var 1)) (blkOk_by (by kernel_rfl)) (fun _ _ _ _ _ => (pgt_name 3 sc_law_weights.nd)) (fun _ _ _ _ _ => ptst_nil) (fun _ _ _ _ _ => (px_add (px_var 3) (px_var 2))))) sc_law_weights.nd))) (psts_one (ps_retG (px_var 1)))))), hm, F.kp, F.binds (fun _ _ _ _ _ _ us hl => match us, hl with | [_], _ => rfl), rfl⟩
theorem ok_law_lot_of (T : Txt K mg base) : CalD P w K mg base 1 "_law_lot_of" 2 F_law_lot_of := by
  obtain ⟨f, fd, F, hm⟩ := T.f_law_lot_of
  exact ⟨f, fd, ["mask", "many"], okD F sc_law_lot_of (fun cdv A outer s H E hr => (psts_one (ps_retG (px_tupOf T.b_tuple (pxs_cons (px_lc [("k", 2)] sc_law_lot_of.nd (pit_rng1 T.b_range (pxs_cons (px_var 1) pxs_nil)) (blkOk_by (by kernel_rfl)) (fun _ _ _ _ _ => (pgt_name 2 sc_law_lot_of.nd)) (fun _ _ _ _ _ => (ptst_one (pt_cmp' (cr_eq hr.r.units) (px_and_ (px_intOf T.b_int (pxs_cons (px_shr (px_var 0) (px_var 2)) pxs_nil)) px_int) px_int (by rfl)))) (fun _ _ _ _ _ => (px_var 2))) pxs_nil))))), hm, F.kp, F.binds (fun _ _ _ _ _ _ us hl => match us, hl with | [_, _], _ => rfl), rfl⟩
theorem ok_law_lots (T : Txt K mg base) : CalD P w K mg base 1 "_law_lots" 2 F_law_lots := by
  obtain ⟨f, fd, F, hm⟩ := T.f_law_lots
  exact ⟨f, fd, ["told", "many"], okD F sc_law_lots (fun cdv A outer s H E hr => (psts_cons (ps_ifG (pt_not' (pt_tru (px_isi1 .tuple T.b_isinstance T.b_tuple (px_var 0)))) (psts_one (ps_retG px_non)) psts_nil) (psts_cons (ps_asgM 2 (px_lst pxs_nil) sc_law_lots.nd) (psts_cons (ps_forG [3, 4, 5, 6] (passes_of rfl) (pit_seq (px_var 0)) (pgt_name 3 sc_law_lots.nd) (psts_cons (ps_ifG (pt_not' (pt_tru (px_isi1 .tuple T.b_isinstance T.b_tuple (px_var 3)))) (psts_one (ps_retG px_non)) psts_nil) (psts_cons (ps_asgI 4 (px_neg px_int) sc_law_lots.nd) (psts_cons (ps_asgI 5 px_int sc_law_lots.nd) (psts_cons (ps_forG [6] (passes_of rfl) (pit_seq (px_var 3)) (pgt_name 6 sc_law_lots.nd) (psts_cons (ps_ifG (pt_pw (pw_or' (pt_not' (pt_tru (px_isi1 .int T.b_isinstance T.b_int (px_var 6)))) (pw_or' (pt_tru (px_isi1 .bool T.b_isinstance T.b_bool (px_var 6))) (pw_or' (pt_cmp' cr_le (px_var 6) (px_var 4) (by rfl)) (pw_or1' (pt_cmp' cr_ge (px_var 6) (px_var 1) (by rfl))))))) (psts_one (ps_retG px_non)) psts_nil) (psts_cons (ps_asgI 4 (px_var 6) sc_law_lots.nd) (psts_one (ps_asgI 5 (px_add (px_var 5) (px_shl px_int (px_var 6))) sc_law_lots.nd))))) (psts_cons (ps_ifG (pt_cmp' cr_inFl (px_var 5) (px_var 2) (by rfl)) (psts_one (ps_retG px_non)) psts_nil) (psts_one (ps_drop (px_append 2 (pxs_cons (px_var 5) pxs_nil)))))))))) (psts_one (ps_retG (px_var 2))))))), hm, F.kp, F.binds (fun _ _ _ _ _ _ us hl => match us, hl with | [_, _], _ => rfl), rfl⟩
theorem ok_law_apart (T : Txt K mg base) : CalD P w K mg base 1 "_law_apart" 1 F_law_apart := by
  obtain ⟨f, fd, F, hm⟩ := T.f_law_apart
  exact ⟨f, fd, ["masks"], okD F sc_law_apart (fun cdv A outer s H E hr => (psts_cons (ps_forG [1, 2] (passes_of rfl) (pit_rng1 T.b_range (pxs_cons (px_len T.b_len (pxs_cons (px_var 0) pxs_nil)) pxs_nil)) (pgt_name 1 sc_law_apart.nd) (psts_one (ps_forG [2] (passes_of rfl) (pit_rng1 T.b_range (pxs_cons (px_len T.b_len (pxs_cons (px_var 0) pxs_nil)) pxs_nil)) (pgt_name 2 sc_law_apart.nd) (psts_one (ps_ifG (pt_pw (pw_and' (pt_cmp' (cr_ne hr.r.units) (px_var 2) (px_var 1) (by rfl)) (pw_and1' (pt_cmp' (cr_eq hr.r.units) (px_and_ (px_ix (px_var 0) (px_var 1)) (px_ix (px_var 0) (px_var 2))) (px_ix (px_var 0) (px_var 1)) (by rfl))))) (psts_one (ps_retG px_bl)) psts_nil))))) (psts_one (ps_retG px_bl)))), hm, F.kp, F.binds (fun _ _ _ _ _ _ us hl => match us, hl with | [_], _ => rfl), rfl⟩
theorem ok_law_holds (T : Txt K mg base) : CalD P w K mg base 1 "_law_holds" 2 F_law_holds := by
  obtain ⟨f, fd, F, hm⟩ := T.f_law_holds
  exact ⟨f, fd, ["mask", "masks"], okD F sc_law_holds (fun cdv A outer s H E hr => (psts_cons (ps_forG [2] (passes_of rfl) (pit_seq (px_var 1)) (pgt_name 2 sc_law_holds.nd) (psts_one (ps_ifG (pt_cmp' (cr_eq hr.r.units) (px_and_ (px_var 0) (px_var 2)) (px_var 2) (by rfl)) (psts_one (ps_retG px_bl)) psts_nil))) (psts_one (ps_retG px_bl)))), hm, F.kp, F.binds (fun _ _ _ _ _ _ us hl => match us, hl with | [_, _], _ => rfl), rfl⟩
theorem ok_law_meets (T : Txt K mg base) : CalD P w K mg base 1 "_law_meets" 2 F_law_meets := by
  obtain ⟨f, fd, F, hm⟩ := T.f_law_meets
  exact ⟨f, fd, ["mask", "masks"], okD F sc_law_meets (fun cdv A outer s H E hr => (psts_cons (ps_forG [2] (passes_of rfl) (pit_seq (px_var 1)) (pgt_name 2 sc_law_meets.nd) (psts_one (ps_ifG (pt_cmp' (cr_eq hr.r.units) (px_and_ (px_var 0) (px_var 2)) px_int (by rfl)) (psts_one (ps_retG px_bl)) psts_nil))) (psts_one (ps_retG px_bl)))), hm, F.kp, F.binds (fun _ _ _ _ _ _ us hl => match us, hl with | [_, _], _ => rfl), rfl⟩
theorem ok_law_shared (T : Txt K mg base) : CalD P w K mg base 1 "_law_shared" 2 F_law_shared := by
  obtain ⟨f, fd, F, hm⟩ := T.f_law_shared
  exact ⟨f, fd, ["mask", "masks"], okD F sc_law_shared (fun cdv A outer s H E hr => (psts_cons (ps_forG [2] (passes_of rfl) (pit_seq (px_var 1)) (pgt_name 2 sc_law_shared.nd) (psts_one (ps_ifG (pt_cmp' cr_gt (px_and_ (px_var 0) (px_var 2)) px_int (by rfl)) (psts_one (ps_retG px_bl)) psts_nil))) (psts_one (ps_retG px_bl)))), hm, F.kp, F.binds (fun _ _ _ _ _ _ us hl => match us, hl with | [_, _], _ => rfl), rfl⟩
theorem ok_law_single (T : Txt K mg base) : CalD P w K mg base 6 "_law_single" 4 F_law_single := by
  obtain ⟨f, fd, F, hm⟩ := T.f_law_single
  exact ⟨f, fd, ["seats", "need", "least", "bars_v"], okD F sc_law_single (fun cdv A outer s H E hr => (psts_cons (ps_asgI 4 (px_len T.b_len (pxs_cons (px_var 0) pxs_nil)) sc_law_single.nd) (psts_cons (ps_asgI 5 (px_tupOf T.b_tuple (pxs_cons (px_lc [("k", 6)] sc_law_single.nd (pit_rng1 T.b_range (pxs_cons (px_var 4) pxs_nil)) (blkOk_by (by kernel_rfl)) (fun _ _ _ _ _ => (pgt_name 6 sc_law_single.nd)) (fun _ _ _ _ _ => (ptst_one (pt_not' (pt_tru (px_call1 ((ok_law_shared T).mono (by omega)) hr takes0 (pxs_cons (px_shl px_int (px_var 6)) (pxs_cons (px_var 2) pxs_nil))))))) (fun _ _ _ _ _ => (px_var 6))) pxs_nil)) sc_law_single.nd) (psts_cons (ps_ifG (pt_not' (pt_tru (px_call1 ((ok_law_same T 3).mono (by omega)) hr (takes_of rfl rfl rfl rfl) (pxs_cons (px_call1 ((ok_needless T).mono (by omega)) hr (takes_of rfl rfl rfl rfl) (pxs_cons (px_lstOf T.b_list (pxs_cons (px_var 0) pxs_nil)) (pxs_cons (px_var 1) pxs_nil))) (pxs_cons (px_var 5) pxs_nil))))) (psts_one (ps_retG px_bl)) psts_nil) (psts_cons (ps_asgI 7 (px_tupOf T.b_tuple (pxs_cons (px_lc [("k", 6)] sc_law_single.nd (pit_rng1 T.b_range (pxs_cons (px_var 4) pxs_nil)) (blkOk_by (by kernel_rfl)) (fun _ _ _ _ _ => (pgt_name 6 sc_law_single.nd)) (fun _ _ _ _ _ => (ptst_one (pt_chain' cr_ge cr_gt (px_sum T.b_sum (pxs_cons (px_var 0) pxs_nil)) (px_var 1) (px_sub (px_sum T.b_sum (pxs_cons (px_var 0) pxs_nil)) (px_ix (px_var 0) (px_var 6)))))) (fun _ _ _ _ _ => (px_var 6))) pxs_nil)) sc_law_single.nd) (psts_cons (ps_ifG (pt_not' (pt_tru (px_call1 ((ok_law_same T 3).mono (by omega)) hr (takes_of rfl rfl rfl rfl) (pxs_cons (px_call1 ((ok_must_be_in T).mono (by omega)) hr (takes_of rfl rfl rfl rfl) (pxs_cons (px_lstOf T.b_list (pxs_cons (px_var 0) pxs_nil)) (pxs_cons (px_var 1) pxs_nil))) (pxs_cons (px_var 7) pxs_nil))))) (psts_one (ps_retG px_bl)) psts_nil) (psts_cons (ps_lcI 8 [("k", 6)] sc_law_single.nd (pit_rng1 T.b_range (pxs_cons (px_var 4) pxs_nil)) (blkOk_by (by kernel_rfl)) (fun _ _ _ _ _ => (pgt_name 6 sc_law_single.nd)) (fun _ _ _ _ _ => (ptst_one (pt_pw (pw_and' (pt_cmp' cr_gt (px_len T.b_len (pxs_cons (px_var 2) pxs_nil)) px_int (by rfl)) (pw_and1' (pt_tru (px_call1 ((ok_law_meets T).mono (by omega)) hr takes0 (pxs_cons (px_shl px_int (px_var 6)) (pxs_cons (px_var 2) pxs_nil))))))))) (fun _ _ _ _ _ => (px_var 6)) (sw_true rfl rfl rfl (by kernel_rfl))) (psts_one (ps_retG (px_andV (px_cmp (cr_eq hr.r.units) (px_tupOf T.b_tuple (pxs_cons (px_var 8) pxs_nil)) (px_var 7) (by rfl)) (px_one (px_cmp (cr_eq hr.r.units) (px_var 7) (px_tupOf T.b_tuple (pxs_cons (px_lc [("k", 6)] sc_law_single.nd (pit_rng1 T.b_range (pxs_cons (px_var 4) pxs_nil)) (blkOk_by (by kernel_rfl)) (fun _ _ _ _ _ => (pgt_name 6 sc_law_single.nd)) (fun _ _ _ _ _ => (ptst_one (pt_cmp' cr_inFl (px_shl px_int (px_var 6)) (px_var 3) (by rfl)))) (fun _ _ _ _ _ => (px_var 6))) pxs_nil)) (by rfl))))))))))))), hm, F.kp, F.binds (fun _ _ _ _ _ _ us hl => match us, hl with | [_, _, _, _], _ => rfl), rfl⟩
theorem ok_law_right (T : Txt K mg base) : CalD P w K mg base 7 "_law_right" 2 F_law_right := by
  obtain ⟨f, fd, F, hm⟩ := T.f_law_right
  exact ⟨f, fd, ["seats", "need"], okD F sc_law_right (fun cdv A outer s H E hr => (psts_cons (ps_asgI 2 (px_len T.b_len (pxs_cons (px_var 0) pxs_nil)) sc_law_right.nd) (psts_cons (ps_asgI 3 (px_call1 ((ok_law_lots T).mono (by omega)) hr (takes_of rfl rfl rfl rfl) (pxs_cons (px_call1 ((ok_least_winning T).mono (by omega)) hr (takes_of rfl rfl rfl rfl) (pxs_cons (px_lstOf T.b_list (pxs_cons (px_var 0) pxs_nil)) (pxs_cons (px_var 1) pxs_nil))) (pxs_cons (px_var 2) pxs_nil))) sc_law_right.nd) (psts_cons (ps_asgI 4 (px_call1 ((ok_law_lots T).mono (by omega)) hr (takes_of rfl rfl rfl rfl) (pxs_cons (px_call1 ((ok_barring T).mono (by omega)) hr (takes_of rfl rfl rfl rfl) (pxs_cons (px_tupOf T.b_tuple (pxs_cons (px_var 0) pxs_nil)) (pxs_cons (px_var 1) pxs_nil))) (pxs_cons (px_var 2) pxs_nil))) sc_law_right.nd) (psts_cons (ps_ifG (pt_pw (pw_or' (pt_cmp' cr_is (px_var 3) px_non (by rfl)) (pw_or' (pt_cmp' cr_is (px_var 4) px_non (by rfl)) (pw_or' (pt_not' (pt_tru (px_call1 ((ok_law_apart T).mono (by omega)) hr (takes_of rfl rfl rfl rfl) (pxs_cons (px_var 3) pxs_nil)))) (pw_or1' (pt_not' (pt_tru (px_call1 ((ok_law_apart T).mono (by omega)) hr (takes_of rfl rfl rfl rfl) (pxs_cons (px_var 4) pxs_nil))))))))) (psts_one (ps_retG px_bl)) psts_nil) (psts_cons (ps_asgI 5 (px_call1 ((ok_law_weights T).mono (by omega)) hr (takes_of rfl rfl rfl rfl) (pxs_cons (px_var 0) pxs_nil)) sc_law_right.nd) (psts_cons (ps_forG [6, 7] (passes_of rfl) (pit_rng1 T.b_range (pxs_cons (px_len T.b_len (pxs_cons (px_var 5) pxs_nil)) pxs_nil)) (pgt_name 6 sc_law_right.nd) (psts_cons (ps_asgI 7 (px_cmp cr_ge (px_ix (px_var 5) (px_var 6)) (px_var 1) (by rfl)) sc_law_right.nd) (psts_cons (ps_ifG (pt_pw (pw_or' (pt_cmp' (cr_ne hr.r.units) (px_call1 ((ok_law_holds T).mono (by omega)) hr (takes_of rfl rfl rfl rfl) (pxs_cons (px_var 6) (pxs_cons (px_var 3) pxs_nil))) (px_var 7) (by rfl)) (pw_or1' (pt_cmp' (cr_ne hr.r.units) (px_call1 ((ok_law_meets T).mono (by omega)) hr (takes_of rfl rfl rfl rfl) (pxs_cons (px_var 6) (pxs_cons (px_var 4) pxs_nil))) (px_var 7) (by rfl))))) (psts_one (ps_retG px_bl)) psts_nil) (psts_cons (ps_ifG (pt_cmp' (cr_ne hr.r.units) (px_call1 ((ok_law_meets T).mono (by omega)) hr (takes_of rfl rfl rfl rfl) (pxs_cons (px_var 6) (pxs_cons (px_var 3) pxs_nil))) (px_call1 ((ok_law_holds T).mono (by omega)) hr (takes_of rfl rfl rfl rfl) (pxs_cons (px_var 6) (pxs_cons (px_var 4) pxs_nil))) (by rfl)) (psts_one (ps_retG px_bl)) psts_nil) (psts_one (ps_ifG (pt_not' (pt_tru (px_call1 ((ok_law_same T 3).mono (by omega)) hr (takes_of rfl rfl rfl rfl) (pxs_cons (px_call1 ((ok_wins T).mono (by omega)) hr (takes_of rfl rfl rfl rfl) (pxs_cons (px_var 0) (pxs_cons (px_var 1) (pxs_cons (px_call1 ((ok_law_lot_of T).mono (by omega)) hr (takes_of rfl rfl rfl rfl) (pxs_cons (px_var 6) (pxs_cons (px_var 2) pxs_nil))) pxs_nil)))) (pxs_cons (px_var 7) pxs_nil))))) (psts_one (ps_retG px_bl)) psts_nil)))))) (psts_cons (ps_asgI 8 (px_sub (px_add (px_sum T.b_sum (pxs_cons (px_var 0) pxs_nil)) px_int) (px_var 1)) sc_law_right.nd) (psts_cons (ps_ifG (pt_chain' cr_le cr_le px_int (px_var 8) px_int) (psts_cons (ps_asgI 9 (px_call1 ((ok_law_lots T).mono (by omega)) hr (takes_of rfl rfl rfl rfl) (pxs_cons (px_call1 ((ok_least_winning T).mono (by omega)) hr (takes_of rfl rfl rfl rfl) (pxs_cons (px_var 0) (pxs_cons (px_var 8) pxs_nil))) (pxs_cons (px_var 2) pxs_nil))) sc_law_right.nd) (psts_cons (ps_asgI 10 (px_call1 ((ok_law_lots T).mono (by omega)) hr (takes_of rfl rfl rfl rfl) (pxs_cons (px_call1 ((ok_barring T).mono (by omega)) hr (takes_of rfl rfl rfl rfl) (pxs_cons (px_var 0) (pxs_cons (px_var 8) pxs_nil))) (pxs_cons (px_var 2) pxs_nil))) sc_law_right.nd) (psts_cons (ps_ifG (pt_pw (pw_or' (pt_cmp' cr_is (px_var 9) px_non (by rfl)) (pw_or1' (pt_cmp' cr_is (px_var 10) px_non (by rfl))))) (psts_one (ps_retG px_bl)) psts_nil) (psts_one (ps_ifG (pt_pw (pw_or' (pt_cmp' (cr_ne hr.r.units) (px_sortI T.b_sorted (pxs_cons (px_var 9) pxs_nil)) (px_sortI T.b_sorted (pxs_cons (px_var 4) pxs_nil)) (by rfl)) (pw_or1' (pt_cmp' (cr_ne hr.r.units) (px_sortI T.b_sorted (pxs_cons (px_var 10) pxs_nil)) (px_sortI T.b_sorted (pxs_cons (px_var 3) pxs_nil)) (by rfl))))) (psts_one (ps_retG px_bl)) psts_nil))))) psts_nil) (psts_one (ps_retG (px_call1 ((ok_law_single T).mono (by omega)) hr (takes_of rfl rfl rfl rfl) (pxs_cons (px_var 0) (pxs_cons (px_var 1) (pxs_cons (px_var 3) (pxs_cons (px_var 4) pxs_nil)))))))))))))))), hm, F.kp, F.binds (fun _ _ _ _ _ _ us hl => match us, hl with | [_, _], _ => rfl), rfl⟩
theorem fn_law (T : Txt K mg base) {f : Addr} {fd : FuncData} (F : Fun K "law" "law" s_law f fd) : FnG P w K mg base 8 f fd ["script"] (spF ⟨K, mg⟩ F_law) := okD F sc_law (fun cdv A outer s H E hr => (psts_cons (ps_asgM 1 (px_call1 ((ok_law_open T).mono (by omega)) hr (takes_of rfl rfl rfl rfl) (pxs_cons (px_var 0) pxs_nil)) sc_law.nd) (psts_cons (ps_asgT (px_call1 ((ok_law_game T).mono (by omega)) hr (takes_of rfl rfl rfl rfl) (pxs_cons (px_var 1) (pxs_cons (px_add px_int (px_intOf T.b_int (pxs_cons (px_cmp (cr_eq hr.r.units) (px_call1 ((ok_law_next T).mono (by omega)) hr (takes_of rfl rfl rfl rfl) (pxs_cons (px_var 1) (pxs_cons px_int pxs_nil))) px_int (by rfl)) pxs_nil))) pxs_nil))) (pgt_tup 2 (pgts_cons (pgt_name 2 sc_law.nd) (pgts_cons (pgt_name 3 sc_law.nd) pgts_nil)))) (psts_cons (ps_asgI 4 (px_lstOf T.b_list (pxs_cons (px_var 2) pxs_nil)) sc_law.nd) (psts_cons (ps_ifG (pt_pw (pw_or' (pt_not' (pt_tru (px_call1 ((ok_law_right T).mono (by omega)) hr (takes_of rfl rfl rfl rfl) (pxs_cons (px_var 2) (pxs_cons (px_var 3) pxs_nil))))) (pw_or1' (pt_cmp' (cr_ne hr.r.units) (px_var 2) (px_var 4) (by rfl))))) (psts_one (ps_retG px_bl)) psts_nil) (psts_cons (ps_asgT (px_call1 ((ok_law_game T).mono (by omega)) hr (takes_of rfl rfl rfl rfl) (pxs_cons (px_var 1) (pxs_cons px_int pxs_nil))) (pgt_tup 2 (pgts_cons (pgt_name 5 sc_law.nd) (pgts_cons (pgt_name 6 sc_law.nd) pgts_nil)))) (psts_cons (ps_forG [7] (passes_of rfl) (pit_seq (px_tup (pxs_cons (px_var 6) (pxs_cons (px_add (px_fdiv (px_sum T.b_sum (pxs_cons (px_var 5) pxs_nil)) px_int) px_int) (pxs_cons (px_max2 T.b_max (pxs_cons px_int (pxs_cons (px_sum T.b_sum (pxs_cons (px_var 5) pxs_nil)) pxs_nil))) (pxs_cons (px_min2 T.b_min (pxs_cons px_int (pxs_cons (px_add (px_sum T.b_sum (pxs_cons (px_var 5) pxs_nil)) px_int) pxs_nil))) (pxs_cons px_int pxs_nil))))))) (pgt_name 7 sc_law.nd) (psts_one (ps_ifG (pt_not' (pt_tru (px_call1 ((ok_law_right T).mono (by omega)) hr (takes_of rfl rfl rfl rfl) (pxs_cons (px_var 5) (pxs_cons (px_var 7) pxs_nil))))) (psts_one (ps_retG px_bl)) psts_nil))) (psts_one (ps_retG (px_call1 ((ok_law_right T).mono (by omega)) hr (takes_of rfl rfl rfl rfl) (pxs_cons (px_var 4) (pxs_cons (px_var 3) pxs_nil))))))))))))
end
end K69
set_option Elab.async false
set_option linter.all false
set_option maxRecDepth 100000
set_option autoImplicit false
namespace K69
open PySem PySem.Spec PyProof.Rows L2 DL
abbrev I (n : Int) : Sl := .im (.int n)
theorem is_integer (n : Int) : F_is_integer [.im (.int n)] = .ret (.im (.bl true)) [] := by
  refine run_im (ds := [.int n]) ⟨[some (I n)], ?_⟩
  simp -implicitDefEqProofs [g_is_integer, isT]
theorem is_from_to_g (F : FD) (n a b : Int) (h : F [I n] = .ret (.im (.bl true)) []) : g_is_from_to F [some (I n), some (I a), some (I b)] = .ok (.rt (.im (.bl (decide (a ≤ n ∧ n ≤ b)))) [some (I n), some (I a), some (I b)]) := by
  unfold g_is_from_to
  by_cases hh : a ≤ n <;> simp -implicitDefEqProofs [h, hh]
theorem is_from_to (n a b : Int) : F_is_from_to [.im (.int n), .im (.int a), .im (.int b)] = .ret (.im (.bl (decide (a ≤ n ∧ n ≤ b)))) [] :=
  run_im (ds := [.int n, .int a, .int b]) ⟨_, is_from_to_g _ n a b (is_integer n)⟩
theorem is_seqL (ds : List D) : F_is_sequence [.im (.lst ds)] = .ret (.im (.bl true)) [] := by
  refine run_im (ds := [.lst ds]) ⟨[some (.im (.lst ds))], ?_⟩
  simp -implicitDefEqProofs [g_is_sequence, isAny, isT]
theorem is_seqT (ds : List D) : F_is_sequence [.im (.tup ds)] = .ret (.im (.bl true)) [] := by
  refine run_im (ds := [.tup ds]) ⟨[some (.im (.tup ds))], ?_⟩
  simp -implicitDefEqProofs [g_is_sequence, isAny, isT]
theorem is_in (p m : Nat) : F_is_in [I p, I m] = .ret (.im (.bl (m.testBit p))) [] := by
  have e : (m : Int) / 2 ^ p = ((m / 2 ^ p : Nat) : Int) := by simp
  have e2 : Builtin.bitAnd ((m / 2 ^ p : Nat) : Int) 1 = ((m / 2 ^ p % 2 : Nat) : Int) := by
    have := and_nat (m / 2 ^ p) 1
    rw [Nat.and_one_is_mod] at this
    exact this
  have e3 : decide (((m / 2 ^ p % 2 : Nat) : Int) = 1) = m.testBit p := by
    rw [Nat.testBit_eq_decide_div_mod_eq]
    apply decide_eq_decide.mpr
    omega
  refine run_im (ds := [.int p, .int m]) ⟨[some (I p), some (I m)], ?_⟩
  simp -implicitDefEqProofs [g_is_in, shrD, ii, shrI, andD, cmpG, eqD, eqS]
  rw [e, e2, e3]
def nD (l : List Nat) : List D := l.map fun k => .int (k : Nat)
@[simp] theorem nD_len (l : List Nat) : (nD l).length = l.length := by simp [nD]
def natOf : D → Nat
  | .int k => k.toNat
  | _ => 0
@[simp] theorem natOf_nat (k : Nat) : natOf (.int (k : Int)) = k := by simp [natOf]
theorem filter_nD (p : Nat → Bool) (l : List Nat) : (nD l).filter (fun d => p (natOf d)) = nD (l.filter p) := by
  unfold nD
  rw [List.filter_map]
  have e : ((fun d => p (natOf d)) ∘ fun k : Nat => D.int (k : Int)) = p := by
    funext k
    simp
  rw [e]
theorem lineB {n : Nat} (h : n ≤ 2000) : n ≤ sizeLine := by rw [sizeLine_eq]; omega
theorem lenB (l : List D) (h : l.length ≤ 2000) : ([] : List D).length + l.length ≤ sizeLine := by
  rw [List.length_nil, Nat.zero_add]; exact lineB h
def mem (m n : Nat) : List Nat := (List.range n).filter m.testBit
theorem members_of_g (F : FD) (m n : Nat) (hn : n ≤ 1000) (hF : ∀ p : Nat, F [I p, I m] = .ret (.im (.bl (m.testBit p))) []) : g_members_of F [some (I m), some (I n), none] = .ok (.rt (.nw (nD (mem m n))) [some (I m), some (I n), none]) := by
  have h1 := @rng1_nat n (by omega)
  unfold g_members_of
  have key := lc_loop (i := 2) (ft := truT (callG F (fCons (fVar 2) (fCons (fVar 0) fNil)))) (fe := fVar 2) (ρ := [some (I m), some (I n), none]) (fun d => m.testBit (natOf d)) id rfl (nD (List.range n)) [] (fun d hd => by
      obtain ⟨k, _, rfl⟩ := List.mem_map.mp hd
      simp -implicitDefEqProofs [hF]) (fun d hd _ => by simp -implicitDefEqProofs) (lenB _ (by rw [nD_len, List.length_range]; omega))
  rw [List.map_id, filter_nD, List.nil_append] at key
  have h2 : (List.range n).map (fun k : Nat => D.int (k : Int)) = nD (List.range n) := rfl
  simp -implicitDefEqProofs [h1, h2, key, mem]
theorem members_of (m n : Nat) (hn : n ≤ 1000) : F_members_of [I m, I n] = .ret (.nw (nD (mem m n))) [] :=
  run_im (ds := [.int m, .int n]) ⟨_, members_of_g _ m n hn fun p => is_in p m⟩
theorem lot_of_g (F : FD) (m n : Nat) (l : List D) (hF : F [I m, I n] = .ret (.nw l) []) : g_lot_of F [some (I m), some (I n)] = .ok (.rt (.im (.tup l)) [some (I m), some (I n)]) := by
  unfold g_lot_of
  simp -implicitDefEqProofs [hF]
theorem lot_of (m n : Nat) (hn : n ≤ 1000) : F_lot_of [I m, I n] = .ret (.im (.tup (nD (mem m n)))) [] :=
  run_im (ds := [.int m, .int n]) ⟨_, lot_of_g _ m n _ (members_of m n hn)⟩
/-! ### weights -/
def iD (l : List Int) : List D := l.map D.int
@[simp] theorem iD_len (l : List Int) : (iD l).length = l.length := by simp [iD]
theorem iD_app (a b : List Int) : iD (a ++ b) = iD a ++ iD b := by simp [iD]
def wl (s : List Int) : List Int := s.foldl (fun row x => row ++ row.map (· + x)) [0]
theorem wl_len (s : List Int) : (wl s).length = 2 ^ s.length := by
  have key : ∀ (s row : List Int), (s.foldl (fun row x => row ++ row.map (· + x)) row).length = row.length * 2 ^ s.length := by
    intro s
    induction s with
    | nil => intro row; simp
    | cons x s ih =>
      intro row
      rw [List.foldl_cons, ih, List.length_append, List.length_map, List.length_cons, Nat.pow_succ]
      rw [← Nat.two_mul, Nat.mul_comm 2, Nat.mul_assoc, Nat.mul_comm 2]
  have := key s [0]
  simpa [wl] using this
theorem seats_of_masks (sq : D) (s : List Int) (hs : seqOf sq = some (iD s)) (hl : s.length ≤ 10) : F_seats_of_masks [.im sq] = .ret (.im (.lst (iD (wl s)))) [] := by
  refine run_im (ds := [sq]) ⟨[some (.im sq), some (.im (.lst (iD (wl s)))), none, none], ?_⟩
  have key := loop_fold (tgt := tgN 2) (body := b_seats_of_masks1) (ws := [2, 3]) (fun row : List Int => [some (.im sq), some (.im (.lst (iD row))), none, none]) (fun row d => match d with | .int x => row ++ row.map (· + x) | _ => row) (fun k row => row.length = 2 ^ k) (iD s) [0] 0 rfl (fun i d row hd hr => by
    obtain ⟨x, hx, rfl⟩ : ∃ x : Int, s[i]? = some x ∧ d = .int x := by
      unfold iD at hd
      rw [List.getElem?_map] at hd
      cases z : s[i]? with
      | none => rw [z] at hd; cases hd
      | some x => rw [z] at hd; exact ⟨x, rfl, (Option.some.inj hd).symm⟩
    have hi : i < s.length := (List.getElem?_eq_some_iff.mp hx).1
    have hb : row.length ≤ 1000 := by
      rw [hr]
      have : 2 ^ (0 + i) ≤ 2 ^ 9 := Nat.pow_le_pow_right (by omega) (by omega)
      omega
    refine ⟨by simp [hr, Nat.pow_succ]; omega, [some (.im sq), some (.im (.lst (iD row))), some (I x), none], [some (.im sq), some (.im (.lst (iD (row ++ row.map (· + x))))), some (I x), none], rfl, .inl ?_, rfl⟩
    have k2 := lc_loop (i := 3) (ft := tyes) (fe := bin (fVar 3) (fVar 2) addD) (ρ := [some (.im sq), some (.im (.lst (iD row))), some (I x), none]) (fun _ => true) (fun d => match d with | .int y => .int (y + x) | d => d) rfl (iD row) [] (fun d _ => rfl) (fun d hd _ => by
      obtain ⟨y, _, rfl⟩ := List.mem_map.mp hd
      simp -implicitDefEqProofs) (lenB _ (by rw [iD_len]; omega))
    have e1 : (iD row).filter (fun _ => true) = iD row := List.filter_eq_self.mpr fun _ _ => rfl
    have e2 : (iD row).map (fun d => match d with | .int y => D.int (y + x) | d => d) = iD (row.map (· + x)) := by
      show (row.map D.int).map _ = (row.map (· + x)).map D.int
      rw [List.map_map, List.map_map]
      rfl
    rw [e1, e2, List.nil_append] at k2
    have e4 : addD (.lst (iD row)) (.lst (iD (row.map (· + x)))) = some (.new (iD (row ++ row.map (· + x)))) := by
      show (if (iD row).length + (iD (row.map (· + x))).length ≤ sizeLine then some (Pl.new (iD row ++ iD (row.map (· + x)))) else none).or _ = _
      rw [if_pos (lineB (by simp; omega)), ← iD_app]
      rfl
    unfold b_seats_of_masks1
    simp -implicitDefEqProofs [k2, e4])
  have key2 := key.1
  have e5 : (iD s).foldl (fun row d => match d with | .int x => row ++ row.map (· + x) | _ => row) [0] = wl s := by
    unfold iD
    rw [List.foldl_map]
    rfl
  have e6 : iD [0] = [D.int 0] := rfl
  rw [e5, e6] at key2
  unfold g_seats_of_masks
  simp -implicitDefEqProofs [hs] at key2 ⊢
  rw [key2]
  rfl
end K69
set_option Elab.async false
set_option linter.all false
set_option maxRecDepth 100000
set_option autoImplicit false
namespace K69
open PySem PySem.Spec PyProof.Rows L2 DL
/-! ### tables of truth values -/
def bD (l : List Bool) : List D := l.map D.bl
@[simp] theorem bD_len (l : List Bool) : (bD l).length = l.length := by simp [bD]
def tb (N : Nat) (w : Nat → Bool) : List D := bD ((List.range N).map w)
@[simp] theorem tb_len (N : Nat) (w : Nat → Bool) : (tb N w).length = N := by simp [tb]
theorem tb_at {N k : Nat} (w : Nat → Bool) (h : k < N) : atI (tb N w) (k : Int) = some (.bl (w k)) := by
  rw [at_nat (by rw [tb_len]; exact h)]
  simp [tb, bD]
theorem list_range {α : Type} (l : List α) (d : α) : l = (List.range l.length).map fun i => l.getD i d := by
  apply List.ext_getElem?
  intro i
  rw [List.getElem?_map]
  by_cases h : i < l.length
  · rw [List.getElem?_range h, List.getElem?_eq_getElem h]
    simp [List.getD, h]
  · rw [List.getElem?_eq_none (by omega), List.getElem?_eq_none (by rw [List.length_range]; omega)]
    rfl
def Wt (s : List Int) (m : Nat) : Int := (wl s).getD m 0
def win (s : List Int) (need : Int) (m : Nat) : Bool := decide (need ≤ Wt s m)
def p2 (k : Nat) : Nat := 2 ^ k
theorem v_shl {k : Nat} (h : k ≤ 1000) : shlD (.int 1) (.int k) = some (.val (.int ((p2 k : Nat) : Int))) := by
  have e : shlI 1 (k : Int) = some (.int ((p2 k : Nat) : Int)) := by
    unfold shlI
    rw [if_pos ⟨by omega, by omega, by decide⟩]
    simp [p2]
  show ((shlI 1 (k : Int)).map Pl.val) = _
  rw [e]
  rfl
/-- seats, as a list or a tuple -/
structure Sq (sq : D) (s : List Int) : Prop where
  q : seqOf sq = some (iD s)
  l : lenD [sq] = some (.int s.length)
  i : ∀ k : Int, ixD sq (.int k) = atI (iD s) k
  t : F_is_sequence [.im sq] = .ret (.im (.bl true)) []
theorem sq_lst (s : List Int) : Sq (.lst (iD s)) s := ⟨rfl, by simp, fun _ => rfl, is_seqL _⟩
theorem sq_tup (s : List Int) : Sq (.tup (iD s)) s := ⟨rfl, by simp, fun _ => rfl, is_seqT _⟩
theorem winning_masks_g (F : FD) (sq : D) (s : List Int) (need : Int) (hl : s.length ≤ 10) (hF : F [.im sq] = .ret (.im (.lst (iD (wl s)))) []) : g_winning_masks F [some (.im sq), some (I need), none] = .ok (.rt (.nw (tb (p2 s.length) (win s need))) [some (.im sq), some (I need), none]) := by
  unfold g_winning_masks
  have hb : (wl s).length ≤ 2000 := by
    rw [wl_len]
    have : 2 ^ s.length ≤ 2 ^ 10 := Nat.pow_le_pow_right (by omega) hl
    omega
  have key := lc_loop (i := 2) (ft := tyes) (fe := bin (fVar 2) (fVar 1) (cmpG geB)) (ρ := [some (.im sq), some (I need), none]) (fun _ => true) (fun d => match d with | .int y => .bl (decide (need ≤ y)) | d => d) rfl (iD (wl s)) [] (fun d _ => rfl) (fun d hd _ => by
      obtain ⟨y, _, rfl⟩ := List.mem_map.mp hd
      simp -implicitDefEqProofs) (lenB _ (by rw [iD_len]; exact hb))
  have e1 : (iD (wl s)).filter (fun _ => true) = iD (wl s) := List.filter_eq_self.mpr fun _ _ => rfl
  have e2 : (iD (wl s)).map (fun d => match d with | .int y => D.bl (decide (need ≤ y)) | d => d) = tb (p2 s.length) (win s need) := by
    unfold tb bD iD
    rw [List.map_map, List.map_map]
    conv => lhs; rw [list_range (wl s) 0, List.map_map]
    rw [wl_len]
    rfl
  rw [e1, e2, List.nil_append] at key
  simp -implicitDefEqProofs [hF, key]
theorem winning_masks {sq : D} {s : List Int} (S : Sq sq s) (need : Int) (hl : s.length ≤ 10) : F_winning_masks [.im sq, I need] = .ret (.nw (tb (p2 s.length) (win s need))) [] :=
  run_im (ds := [sq, .int need]) ⟨_, winning_masks_g _ sq s need hl (seats_of_masks sq s S.q hl)⟩
/-! ### what is checked -/
def Game (s : List Int) (need : Int) : Prop := 1 ≤ s.length ∧ s.length ≤ 10 ∧ (∀ x ∈ s, 0 ≤ x ∧ x ≤ 1000) ∧ 1 ≤ need ∧ need ≤ 10000
theorem check_seats_g (F G : FD) {sq : D} {s : List Int} (S : Sq sq s) (h1 : 1 ≤ s.length) (h2 : s.length ≤ 10) (h3 : ∀ x ∈ s, 0 ≤ x ∧ x ≤ 1000) (hF : ∀ n a b : Int, F [I n, I a, I b] = .ret (.im (.bl (decide (a ≤ n ∧ n ≤ b)))) []) (hG : G [.im sq] = .ret (.im (.bl true)) []) :
    g_check_seats F G [some (.im sq), none, none] = .ok (.nx [some (.im sq), none, none]) := by
  have key := loop_fold (tgt := tgT 2 (tgCons (tgN 1) (tgCons (tgN 2) (tgNil)))) (body := b_check_seats1 F G) (ws := [1, 2]) (fun _ : Unit => [some (.im sq), none, none]) (fun a _ => a) (fun _ _ => True) (enumD 0 (iD s)) () 0 trivial (fun i d _ hd _ => by
    rw [enumD_get] at hd
    unfold iD at hd
    rw [List.getElem?_map] at hd
    cases z : s[i]? with
    | none => rw [z] at hd; cases hd
    | some x =>
      rw [z] at hd; cases hd
      have hx := h3 x (List.mem_of_getElem? z)
      refine ⟨trivial, [some (.im sq), some (I ((0 + i : Nat) : Int)), some (I x)], [some (.im sq), some (I ((0 + i : Nat) : Int)), some (I x)], rfl, .inl ?_, rfl⟩
      unfold b_check_seats1
      simp -implicitDefEqProofs [hF, hx])
  have key2 := key.1
  unfold g_check_seats
  have h1' : (1 : Int) ≤ s.length := by omega
  have h2' : (s.length : Int) ≤ 10 := by omega
  simp -implicitDefEqProofs [hG, S.l, S.q, h1', h2'] at key2 ⊢
  exact key2
theorem check_seats {sq : D} {s : List Int} (S : Sq sq s) (h1 : 1 ≤ s.length) (h2 : s.length ≤ 10) (h3 : ∀ x ∈ s, 0 ≤ x ∧ x ≤ 1000) : F_check_seats [.im sq] = .ret (.im .non) [] :=
  run_nx (ds := [sq]) ⟨_, check_seats_g _ _ S h1 h2 h3 is_from_to S.t⟩
theorem check_game_g (F G : FD) {sq : D} {need : Int} (h1 : 1 ≤ need) (h2 : need ≤ 10000) (hG : ∀ n a b : Int, G [I n, I a, I b] = .ret (.im (.bl (decide (a ≤ n ∧ n ≤ b)))) []) (hF : F [.im sq] = .ret (.im .non) []) :
    g_check_game F G [some (.im sq), some (I need)] = .ok (.nx [some (.im sq), some (I need)]) := by
  unfold g_check_game
  simp -implicitDefEqProofs [hF, hG, h1, h2]
theorem check_game {sq : D} {s : List Int} {need : Int} (S : Sq sq s) (g : Game s need) : F_check_game [.im sq, I need] = .ret (.im .non) [] :=
  run_nx (ds := [sq, .int need]) ⟨_, check_game_g _ _ g.2.2.2.1 g.2.2.2.2 is_from_to (check_seats S g.1 g.2.1 g.2.2.1)⟩
end K69
set_option Elab.async false
set_option linter.all false
set_option maxRecDepth 100000
set_option autoImplicit false
namespace K69
open PySem PySem.Spec PyProof.Rows L2 DL
theorem mem_le {m n p : Nat} (h : p ∈ mem m n) : p < n ∧ m.testBit p = true := by
  unfold mem at h
  rw [List.mem_filter, List.mem_range] at h
  exact h
theorem bit_le {m p : Nat} (h : m.testBit p = true) : p2 p ≤ m := Nat.ge_two_pow_of_testBit h
/-- no party of the lot can go -/
def leastB (w : Nat → Bool) (n m : Nat) : Bool := w m && (mem m n).all fun p => !w (m - p2 p)
theorem is_least_g (F : FD) (w : Nat → Bool) (m n : Nat) (hn : n ≤ 10) (hm : m < p2 n) (hF : F [I m, I n] = .ret (.nw (nD (mem m n))) []) : ∃ ρ, g_is_least F [some (.im (.lst (tb (p2 n) w))), some (I m), some (I n), none] = .ok (.rt (.im (.bl (leastB w n m))) ρ) := by
  have e1 := tb_at w hm
  unfold g_is_least
  cases hw : w m with
  | false =>
    refine ⟨[some (.im (.lst (tb (p2 n) w))), some (I m), some (I n), none], ?_⟩
    simp -implicitDefEqProofs [e1, hw, leastB]
  | true =>
    have key := loop_find (tgt := tgN 3) (body := b_is_least1 F) (ws := [3]) (ρ := [some (.im (.lst (tb (p2 n) w))), some (I m), some (I n), none]) (r := .im (.bl false)) (fun d => w (m - p2 (natOf d))) (nD (mem m n)) (fun d hd => by
      obtain ⟨p, hp, rfl⟩ := List.mem_map.mp hd
      obtain ⟨h1, h2⟩ := mem_le hp
      have h3 := bit_le h2
      have e2 := v_shl (k := p) (by omega)
      have e3 : (m : Int) - ((p2 p : Nat) : Int) = ((m - p2 p : Nat) : Int) := by omega
      have e4 := tb_at w (N := p2 n) (k := m - p2 p) (by omega)
      refine ⟨[some (.im (.lst (tb (p2 n) w))), some (I m), some (I n), some (I p)], rfl, fun hp => ⟨[some (.im (.lst (tb (p2 n) w))), some (I m), some (I n), some (I p)], ?_⟩, fun hp => ⟨[some (.im (.lst (tb (p2 n) w))), some (I m), some (I n), some (I p)], .inl ?_, rfl⟩⟩
      · rw [natOf_nat] at hp
        unfold b_is_least1
        simp -implicitDefEqProofs [e2, e3, e4, hp]
      · rw [natOf_nat] at hp
        unfold b_is_least1
        simp -implicitDefEqProofs [e2, e3, e4, hp])
    have e5 : (nD (mem m n)).any (fun d => w (m - p2 (natOf d))) = !leastB w n m := by
      unfold leastB nD
      rw [hw, Bool.true_and, List.any_map]
      simp only [List.all_eq_not_any_not, Bool.not_not]
      congr 1
    rw [e5] at key
    cases hl : leastB w n m with
    | false =>
      obtain ⟨ρ2, k1⟩ := key.1 (by rw [hl]; rfl)
      refine ⟨ρ2, ?_⟩
      simp -implicitDefEqProofs [e1, hw, hF, k1]
    | true =>
      have k1 := key.2 (by rw [hl]; rfl)
      refine ⟨[some (.im (.lst (tb (p2 n) w))), some (I m), some (I n), none], ?_⟩
      simp -implicitDefEqProofs [e1, hw, hF, k1]
theorem is_least (w : Nat → Bool) (m n : Nat) (hn : n ≤ 10) (hm : m < p2 n) : F_is_least [.im (.lst (tb (p2 n) w)), I m, I n] = .ret (.im (.bl (leastB w n m))) [] :=
  run_im (ds := [.lst (tb (p2 n) w), .int m, .int n]) (is_least_g _ w m n hn hm (members_of m n (by omega)))
def leastL (w : Nat → Bool) (n : Nat) : List Nat := (List.range (p2 n)).filter (leastB w n)
theorem pow10 {n : Nat} (h : n ≤ 10) : p2 n ≤ 1024 := Nat.pow_le_pow_right (by omega) h
theorem least_masks_g (F : FD) (w : Nat → Bool) (n : Nat) (hn : n ≤ 10) (hF : ∀ m : Nat, m < p2 n → F [.im (.lst (tb (p2 n) w)), I m, I n] = .ret (.im (.bl (leastB w n m))) []) : g_least_masks F [some (.im (.lst (tb (p2 n) w))), some (I n), none] = .ok (.rt (.nw (nD (leastL w n))) [some (.im (.lst (tb (p2 n) w))), some (I n), none]) := by
  have hp := pow10 hn
  have h1 := @rng1_nat (p2 n) (by omega)
  have e2 := v_shl (k := n) (by omega)
  have h2 : (List.range (p2 n)).map (fun k : Nat => D.int (k : Int)) = nD (List.range (p2 n)) := rfl
  unfold g_least_masks
  have key := lc_loop (i := 2) (ft := truT (callG F (fCons (fVar 0) (fCons (fVar 2) (fCons (fVar 1) fNil))))) (fe := fVar 2) (ρ := [some (.im (.lst (tb (p2 n) w))), some (I n), none]) (fun d => leastB w n (natOf d)) id rfl (nD (List.range (p2 n))) [] (fun d hd => by
      obtain ⟨k, hk, rfl⟩ := List.mem_map.mp hd
      simp -implicitDefEqProofs [hF k (List.mem_range.mp hk)]) (fun d hd _ => by simp -implicitDefEqProofs) (lenB _ (by rw [nD_len, List.length_range]; omega))
  rw [List.map_id, filter_nD, List.nil_append] at key
  simp -implicitDefEqProofs [h1, h2, key, e2, leastL]
end K69
set_option Elab.async false
set_option linter.all false
set_option maxRecDepth 100000
set_option autoImplicit false
namespace K69
open PySem PySem.Spec PyProof.Rows L2 DL
/-! ### bars -/
/-- the parties in m can stop the others -/
def barw (w : Nat → Bool) (n m : Nat) : Bool := !w (p2 n - 1 - m)
theorem bars_s (w : Nat → Bool) (n m : Nat) (hm : m < p2 n) : F_bars [.im (.lst (tb (p2 n) w)), I m] = .ret (.im (.bl (barw w n m))) [] := by
  refine run_im (ds := [.lst (tb (p2 n) w), .int m]) ⟨[some (.im (.lst (tb (p2 n) w))), some (I m)], ?_⟩
  have e3 : ((p2 n : Nat) : Int) - 1 - (m : Int) = ((p2 n - 1 - m : Nat) : Int) := by omega
  have e4 := tb_at w (N := p2 n) (k := p2 n - 1 - m) (by omega)
  unfold g_bars
  simp -implicitDefEqProofs [e3, e4, barw]
theorem is_least_bar_g (F G : FD) (w : Nat → Bool) (m n : Nat) (hn : n ≤ 10) (hm : m < p2 n) (hF : F [I m, I n] = .ret (.nw (nD (mem m n))) []) (hG : ∀ m : Nat, m < p2 n → G [.im (.lst (tb (p2 n) w)), I m] = .ret (.im (.bl (barw w n m))) []) : ∃ ρ, g_is_least_bar G F [some (.im (.lst (tb (p2 n) w))), some (I m), some (I n), none] = .ok (.rt (.im (.bl (leastB (barw w n) n m))) ρ) := by
  have e1 := hG m hm
  unfold g_is_least_bar
  cases hw : barw w n m with
  | false =>
    refine ⟨[some (.im (.lst (tb (p2 n) w))), some (I m), some (I n), none], ?_⟩
    simp -implicitDefEqProofs [e1, hw, leastB]
  | true =>
    have key := loop_find (tgt := tgN 3) (body := b_is_least_bar1 G F) (ws := [3]) (ρ := [some (.im (.lst (tb (p2 n) w))), some (I m), some (I n), none]) (r := .im (.bl false)) (fun d => barw w n (m - p2 (natOf d))) (nD (mem m n)) (fun d hd => by
      obtain ⟨p, hp, rfl⟩ := List.mem_map.mp hd
      obtain ⟨h1, h2⟩ := mem_le hp
      have h3 := bit_le h2
      have e2 := v_shl (k := p) (by omega)
      have e3 : (m : Int) - ((p2 p : Nat) : Int) = ((m - p2 p : Nat) : Int) := by omega
      have e4 := hG (m - p2 p) (by omega)
      refine ⟨[some (.im (.lst (tb (p2 n) w))), some (I m), some (I n), some (I p)], rfl, fun hp => ⟨[some (.im (.lst (tb (p2 n) w))), some (I m), some (I n), some (I p)], ?_⟩, fun hp => ⟨[some (.im (.lst (tb (p2 n) w))), some (I m), some (I n), some (I p)], .inl ?_, rfl⟩⟩
      · rw [natOf_nat] at hp
        unfold b_is_least_bar1
        simp -implicitDefEqProofs [e2, e3, e4, hp]
      · rw [natOf_nat] at hp
        unfold b_is_least_bar1
        simp -implicitDefEqProofs [e2, e3, e4, hp])
    have e5 : (nD (mem m n)).any (fun d => barw w n (m - p2 (natOf d))) = !leastB (barw w n) n m := by
      unfold leastB nD
      rw [hw, Bool.true_and, List.any_map]
      simp only [List.all_eq_not_any_not, Bool.not_not]
      congr 1
    rw [e5] at key
    cases hl : leastB (barw w n) n m with
    | false =>
      obtain ⟨ρ2, k1⟩ := key.1 (by rw [hl]; rfl)
      refine ⟨ρ2, ?_⟩
      simp -implicitDefEqProofs [e1, hw, hF, k1]
    | true =>
      have k1 := key.2 (by rw [hl]; rfl)
      refine ⟨[some (.im (.lst (tb (p2 n) w))), some (I m), some (I n), none], ?_⟩
      simp -implicitDefEqProofs [e1, hw, hF, k1]
theorem is_least_bar (w : Nat → Bool) (m n : Nat) (hn : n ≤ 10) (hm : m < p2 n) : F_is_least_bar [.im (.lst (tb (p2 n) w)), I m, I n] = .ret (.im (.bl (leastB (barw w n) n m))) [] :=
  run_im (ds := [.lst (tb (p2 n) w), .int m, .int n]) (is_least_bar_g _ _ w m n hn hm (members_of m n (by omega)) (bars_s w n))
/-! ### the lots, told in order -/
def lotD (n m : Nat) : D := .tup (nD (mem m n))
def lots (n : Nat) (ms : List Nat) : List D := ms.map (lotD n)
open PySem.W (alike alikeAll) in
def nP (l : List Nat) : List PyData := l.map fun k => .int (k : Nat)
theorem toPyL_nD : ∀ l : List Nat, toPyL (nD l) = some (nP l)
  | [] => rfl
  | k :: l => by
    show (match toPy (.int (k : Nat)), toPyL (nD l) with | some p, some ps => some (p :: ps) | _, _ => none) = _
    rw [toPyL_nD l]
    rfl
def keyP (l : List Nat) : PyData := .tuple [.int l.length, .tuple (nP l)]
def keyD (l : List Nat) : D := .tup [.int l.length, .tup (nD l)]
theorem toPy_key (l : List Nat) : toPy (keyD l) = some (keyP l) := by
  have e : toPy (.tup (nD l)) = some (.tuple (nP l)) := by
    show (toPyL (nD l)).map PyData.tuple = _
    rw [toPyL_nD]
    rfl
  show (match some (PyData.int l.length), (match toPy (.tup (nD l)), some [] with | some p, some ps => some (p :: ps) | _, _ => none) with | some p, some ps => some (p :: ps) | _, _ => none : Option (List PyData)).map PyData.tuple = _
  rw [e]
  rfl
theorem toPyL_keys : ∀ ls : List (List Nat), toPyL (ls.map keyD) = some (ls.map keyP)
  | [] => rfl
  | l :: ls => by
    show (match toPy (keyD l), toPyL (ls.map keyD) with | some p, some ps => some (p :: ps) | _, _ => none) = _
    rw [toPyL_keys ls, toPy_key]
    rfl
theorem alike_nP : ∀ a b : List Nat, PySem.W.alikeAll (nP a) (nP b) = true
  | [], b => rfl
  | x :: a, [] => rfl
  | x :: a, y :: b => by
    show (true && PySem.W.alikeAll (nP a) (nP b)) = true
    rw [alike_nP a b]
    rfl
theorem depth_nP : ∀ a : List Nat, PyData.depthAll (nP a) ≤ 1
  | [] => by decide
  | x :: a => by
    have := depth_nP a
    show PyData.depthAll (PyData.int x :: nP a) ≤ 1
    simp only [PyData.depthAll, PyData.depth]
    omega
theorem okKeys_key (ls : List (List Nat)) : okKeys (ls.map keyP) = true := by
  unfold okKeys
  simp only [Bool.and_eq_true, List.all_eq_true, decide_eq_true_eq, List.mem_map, forall_exists_index, and_imp, forall_apply_eq_imp_iff₂]
  refine ⟨⟨fun a _ b _ => ?_, fun a _ => rfl⟩, fun a _ => ?_⟩
  · show (true && (PySem.W.alikeAll (nP a) (nP b) && true)) = true
    rw [alike_nP]
    rfl
  · have := depth_nP a
    simp only [keyP, PyData.depth, PyData.depthAll]
    omega
theorem sort_perm (ds : List D) (ks : List PyData) (h : ks.length = ds.length) : (sortD ds ks).Perm ds := by
  unfold sortD
  refine ((List.mergeSort_perm _ _).map _).trans ?_
  rw [List.map_fst_zip (by omega)]
theorem keys_lots (n : Nat) (ρ : En) : ∀ ms : List Nat, (∀ m ∈ ms, m < p2 n) → n ≤ 10 → keysOf (fTup (fCons (biG (fCons (fVar 0) (fNil)) (fun a => (lenD a).map Pl.val)) (fCons (fVar 0) (fNil)))) [] ρ (lots n ms) = .ok ((ms.map (mem · n)).map keyD)
  | [], _, _ => rfl
  | m :: ms, h, hn => by
    have ih := keys_lots n ρ ms (fun x hx => h x (List.mem_cons_of_mem _ hx)) hn
    have e : lots n (m :: ms) = .tup (nD (mem m n)) :: lots n ms := rfl
    rw [e, keysOf, ih]
    simp -implicitDefEqProofs [lamEn, noX, keyD]
theorem perm_unmap {α β : Type} (f : α → β) {a b : List β} (h : a.Perm b) : ∀ ms : List α, b = ms.map f → ∃ l : List α, List.Perm l ms ∧ a = l.map f := by
  induction h with
  | nil => intro ms e; cases ms with | nil => exact ⟨[], .nil, rfl⟩ | cons x xs => cases e
  | cons x h ih =>
    intro ms e
    cases ms with
    | nil => cases e
    | cons y ys =>
      rw [List.map_cons] at e
      injection e with e1 e2
      obtain ⟨l, h1, h2⟩ := ih ys e2
      exact ⟨y :: l, .cons y h1, by rw [List.map_cons, h2, e1]⟩
  | swap x y l =>
    intro ms e
    match ms, e with
    | [], e => cases e
    | [_], e => cases e
    | a :: b :: r, e =>
      rw [List.map_cons, List.map_cons] at e
      injection e with e1 e2
      injection e2 with e2 e3
      exact ⟨b :: a :: r, .swap a b r, by rw [List.map_cons, List.map_cons, e1, e2, e3]⟩
  | trans h1 h2 ih1 ih2 =>
    intro ms e
    obtain ⟨l, p1, q1⟩ := ih2 ms e
    obtain ⟨l', p2, q2⟩ := ih1 l q1
    exact ⟨l', p2.trans p1, q2⟩
theorem sorted_lots_g (F : FD) (n : Nat) (ms : List Nat) (hn : n ≤ 10) (hm : ∀ m ∈ ms, m < p2 n) (hl : ms.length ≤ 2000) (hF : ∀ m : Nat, F [I m, I n] = .ret (.im (lotD n m)) []) : ∃ ms', ms'.Perm ms ∧ g_sorted_lots F [some (.im (.lst (nD ms))), some (I n), none, none] = .ok (.rt (.im (.tup (lots n ms'))) [some (.im (.lst (nD ms))), some (I n), some (.im (.lst (lots n ms))), none]) := by
  have k0 := lc_loop (i := 3) (ft := tyes) (fe := callG F (fCons (fVar 3) (fCons (fVar 1) fNil))) (ρ := [some (.im (.lst (nD ms))), some (I n), none, none]) (fun _ => true) (fun d => lotD n (natOf d)) rfl (nD ms) [] (fun d _ => rfl) (fun d hd _ => by
      obtain ⟨k, hk, rfl⟩ := List.mem_map.mp hd
      simp -implicitDefEqProofs [hF k]) (lenB _ (by rw [nD_len]; exact hl))
  have e1 : (nD ms).filter (fun _ => true) = nD ms := List.filter_eq_self.mpr fun _ _ => rfl
  have e2 : (nD ms).map (fun d => lotD n (natOf d)) = lots n ms := by
    unfold nD lots
    rw [List.map_map]
    apply List.map_congr_left
    intro k _
    show lotD n (natOf (.int (k : Int))) = _
    rw [natOf_nat]
  rw [e1, e2, List.nil_append] at k0
  have hp : (sortD (lots n ms) ((ms.map (mem · n)).map keyP)).Perm (lots n ms) := sort_perm _ _ (by simp [lots])
  obtain ⟨ms', h1, h2⟩ := perm_unmap (lotD n) hp ms rfl
  refine ⟨ms', h1, ?_⟩
  have k1 := keys_lots n [some (.im (.lst (nD ms))), some (I n), some (.im (.lst (lots n ms))), none] ms hm hn
  have k2 := toPyL_keys (ms.map (mem · n))
  have k3 := okKeys_key (ms.map (mem · n))
  unfold g_sorted_lots
  have k4 : sortKG (fVar 2) [] (fTup (fCons (biG (fCons (fVar 0) (fNil)) (fun a => (lenD a).map Pl.val)) (fCons (fVar 0) (fNil)))) [some (.im (.lst (nD ms))), some (I n), some (.im (.lst (lots n ms))), none] = .ok (.new (lots n ms'), [some (.im (.lst (nD ms))), some (I n), some (.im (.lst (lots n ms))), none]) := by
    unfold sortKG
    simp -implicitDefEqProofs only [a_settle, a_var, List.getElem?_cons_succ, List.getElem?_cons_zero, R.ok_bind, a_viewS, a_oR, v_lsL, k1, k2, k3, if_true, h2]
    rfl
  simp -implicitDefEqProofs [k0, k4]
theorem sorted_lots (n : Nat) (ms : List Nat) (hn : n ≤ 10) (hm : ∀ m ∈ ms, m < p2 n) (hl : ms.length ≤ 2000) : ∃ ms', ms'.Perm ms ∧ F_sorted_lots [.im (.lst (nD ms)), I n] = .ret (.im (.tup (lots n ms'))) [] := by
  obtain ⟨ms', h1, h2⟩ := sorted_lots_g F_lot_of n ms hn hm hl fun m => lot_of m n (by omega)
  exact ⟨ms', h1, run_im (ds := [.lst (nD ms), .int n]) ⟨_, h2⟩⟩
end K69
set_option Elab.async false
set_option linter.all false
set_option maxRecDepth 100000
set_option autoImplicit false
namespace K69
open PySem PySem.Spec PyProof.Rows L2 DL
theorem leastL_lt {w : Nat → Bool} {n m : Nat} (h : m ∈ leastL w n) : m < p2 n ∧ leastB w n m = true := by
  unfold leastL at h
  rw [List.mem_filter, List.mem_range] at h
  exact h
theorem leastL_len (w : Nat → Bool) (n : Nat) (h : n ≤ 10) : (leastL w n).length ≤ 1024 := by
  unfold leastL
  have := List.length_filter_le (leastB w n) (List.range (p2 n))
  rw [List.length_range] at this
  have := pow10 h
  omega
theorem least_masks (w : Nat → Bool) (n : Nat) (hn : n ≤ 10) : F_least_masks [.im (.lst (tb (p2 n) w)), I n] = .ret (.nw (nD (leastL w n))) [] :=
  run_im (ds := [.lst (tb (p2 n) w), .int n]) ⟨_, least_masks_g _ w n hn fun m hm => is_least w m n hn hm⟩
theorem least_winning_g (F1 F2 F3 F4 : FD) {sq : D} {s : List Int} {need : Int} {T M L : List D} (hl : lenD [sq] = some (.int s.length)) (h1 : F1 [.im sq, I need] = .ret (.im .non) []) (h4 : F4 [.im sq, I need] = .ret (.nw T) [])
    (h2 : F2 [.im (.lst T), I s.length] = .ret (.nw M) []) (h3 : F3 [.im (.lst M), I s.length] = .ret (.im (.tup L)) []) :
    g_least_winning F1 F2 F3 F4 [some (.im sq), some (I need), none] = .ok (.rt (.im (.tup L)) [some (.im sq), some (I need), some (I s.length)]) := by
  unfold g_least_winning
  simp -implicitDefEqProofs [hl, h1, h2, h3, h4]
theorem least_winning {sq : D} {s : List Int} {need : Int} (S : Sq sq s) (g : Game s need) : ∃ ms, ms.Perm (leastL (win s need) s.length) ∧ F_least_winning [.im sq, I need] = .ret (.im (.tup (lots s.length ms))) [] := by
  have hn := g.2.1
  obtain ⟨ms, h1, h2⟩ := sorted_lots s.length (leastL (win s need) s.length) hn (fun m hm => (leastL_lt hm).1) (by have := leastL_len (win s need) s.length hn; omega)
  exact ⟨ms, h1, run_im (ds := [sq, .int need]) ⟨_, least_winning_g _ _ _ _ S.l (check_game S g) (winning_masks S need hn) (least_masks _ _ hn) h2⟩⟩
theorem barring_g (F1 F2 F3 F4 : FD) {sq : D} {s : List Int} {need : Int} {w : Nat → Bool} {L : List D} (hn : s.length ≤ 10) (hl : lenD [sq] = some (.int s.length)) (h1 : F1 [.im sq, I need] = .ret (.im .non) []) (h4 : F4 [.im sq, I need] = .ret (.nw (tb (p2 s.length) w)) [])
    (h2 : ∀ m : Nat, m < p2 s.length → F2 [.im (.lst (tb (p2 s.length) w)), I m, I s.length] = .ret (.im (.bl (leastB (barw w s.length) s.length m))) []) (h3 : F3 [.im (.lst (nD (leastL (barw w s.length) s.length))), I s.length] = .ret (.im (.tup L)) []) :
    g_barring F1 F2 F3 F4 [some (.im sq), some (I need), none, none, none, none] = .ok (.rt (.im (.tup L)) [some (.im sq), some (I need), some (I s.length), some (.im (.lst (tb (p2 s.length) w))), some (.im (.lst (nD (leastL (barw w s.length) s.length)))), none]) := by
  have hp := pow10 hn
  have r1 := @rng1_nat (p2 s.length) (by omega)
  have e2 := v_shl (k := s.length) (by omega)
  have r2 : (List.range (p2 s.length)).map (fun k : Nat => D.int (k : Int)) = nD (List.range (p2 s.length)) := rfl
  have key := lc_loop (i := 5) (ft := truT (callG F2 (fCons (fVar 3) (fCons (fVar 5) (fCons (fVar 2) fNil))))) (fe := fVar 5) (ρ := [some (.im sq), some (I need), some (I s.length), some (.im (.lst (tb (p2 s.length) w))), none, none]) (fun d => leastB (barw w s.length) s.length (natOf d)) id rfl (nD (List.range (p2 s.length))) [] (fun d hd => by
      obtain ⟨k, hk, rfl⟩ := List.mem_map.mp hd
      simp -implicitDefEqProofs [h2 k (List.mem_range.mp hk)]) (fun d hd _ => by simp -implicitDefEqProofs) (lenB _ (by rw [nD_len, List.length_range]; omega))
  rw [List.map_id, filter_nD, List.nil_append] at key
  have e6 : (List.range (p2 s.length)).filter (leastB (barw w s.length) s.length) = leastL (barw w s.length) s.length := rfl
  rw [e6] at key
  unfold g_barring
  simp -implicitDefEqProofs [hl, h1, h3, h4, r1, r2, key, e2]
theorem barring {sq : D} {s : List Int} {need : Int} (S : Sq sq s) (g : Game s need) : ∃ ms, ms.Perm (leastL (barw (win s need) s.length) s.length) ∧ F_barring [.im sq, I need] = .ret (.im (.tup (lots s.length ms))) [] := by
  have hn := g.2.1
  obtain ⟨ms, h1, h2⟩ := sorted_lots s.length (leastL (barw (win s need) s.length) s.length) hn (fun m hm => (leastL_lt hm).1) (by have := leastL_len (barw (win s need) s.length) s.length hn; omega)
  exact ⟨ms, h1, run_im (ds := [sq, .int need]) ⟨_, barring_g _ _ _ _ hn S.l (check_game S g) (winning_masks S need hn) (fun m hm => is_least_bar _ m _ hn hm) h2⟩⟩
/-! ### rising lots -/
theorem is_rising_g (F : FD) (l : List Nat) (n : Nat) (h1 : l.Pairwise (· < ·)) (h2 : ∀ k ∈ l, k < n) (hF : ∀ x a b : Int, F [I x, I a, I b] = .ret (.im (.bl (decide (a ≤ x ∧ x ≤ b)))) []) : ∃ ρ, g_is_rising F [some (.im (.tup (nD l))), some (I n), none, none] = .ok (.rt (.im (.bl true)) ρ) := by
  have key : ∀ (l : List Nat) (D0 : D) (a : Nat), l.Pairwise (· < ·) → (∀ k ∈ l, a ≤ k ∧ k < n) → ∃ b : Nat, loopG (tgN 3) (b_is_rising1 F) [3] (nD l) [some (.im D0), some (I n), some (I a), none] = .ok (.nx [some (.im D0), some (I n), some (I b), none]) := by
    intro l
    induction l with
    | nil => intro D0 a _ _; exact ⟨a, rfl⟩
    | cons k l ih =>
      intro D0 a hp hk
      rw [List.pairwise_cons] at hp
      obtain ⟨b, hb⟩ := ih D0 (k + 1) hp.2 fun j hj => ⟨hp.1 j hj, (hk j (List.mem_cons_of_mem _ hj)).2⟩
      refine ⟨b, ?_⟩
      have hk0 := hk k List.mem_cons_self
      have e1 : (a : Int) ≤ (k : Int) ∧ (k : Int) ≤ (n : Int) - 1 := by omega
      have e2 : nD (k :: l) = .int k :: nD l := rfl
      have e3 : b_is_rising1 F [some (.im D0), some (I n), some (I a), some (I k)] = .ok (.nx [some (.im D0), some (I n), some (I ((k + 1 : Nat) : Int)), some (I k)]) := by
        unfold b_is_rising1
        simp -implicitDefEqProofs [hF, e1]
      rw [e2, show loopG (tgN 3) (b_is_rising1 F) [3] (.int k :: nD l) [some (.im D0), some (I n), some (I a), none] = (b_is_rising1 F [some (.im D0), some (I n), some (I a), some (I k)]).bind fun f => match f with
          | .nx ρ2 => loopG (tgN 3) (b_is_rising1 F) [3] (nD l) (wipeMu ρ2 [3])
          | .ct ρ2 => loopG (tgN 3) (b_is_rising1 F) [3] (nD l) (wipeMu ρ2 [3])
          | .bk ρ2 => .ok (.nx (wipeMu ρ2 [3]))
          | .rt r ρ2 => .ok (.rt r ρ2) from rfl, e3, R.ok_bind]
      exact hb
  obtain ⟨b, hb⟩ := key l (.tup (nD l)) 0 h1 fun k hk => ⟨Nat.zero_le _, h2 k hk⟩
  refine ⟨[some (.im (.tup (nD l))), some (I n), some (I b), none], ?_⟩
  unfold g_is_rising
  simp -implicitDefEqProofs [isT] at hb ⊢
  rw [hb]
  rfl
theorem mem_pair (m n : Nat) : (mem m n).Pairwise (· < ·) := List.Pairwise.filter _ List.pairwise_lt_range
theorem is_rising (m n : Nat) : F_is_rising [.im (lotD n m), I n] = .ret (.im (.bl true)) [] :=
  run_im (ds := [.tup (nD (mem m n)), .int n]) (is_rising_g _ _ n (mem_pair m n) (fun k hk => (mem_le hk).1) is_from_to)
end K69
set_option Elab.async false
set_option linter.all false
set_option maxRecDepth 100000
set_option autoImplicit false
namespace K69
open PySem PySem.Spec PyProof.Rows L2 DL
theorem v_eqI (i j : Int) : cmpG eqD (.int i) (.int j) = some (.val (.bl (decide (i = j)))) := rfl
theorem v_neI (i j : Int) : cmpG neD (.int i) (.int j) = some (.val (.bl (!decide (i = j)))) := rfl
theorem v_eqBl (i j : Bool) : cmpG eqD (.bl i) (.bl j) = some (.val (.bl (decide (i = j)))) := rfl
theorem v_neBl (i j : Bool) : cmpG neD (.bl i) (.bl j) = some (.val (.bl (!decide (i = j)))) := rfl
theorem v_eqN (i j : Nat) : cmpG eqD (.int (i : Nat)) (.int (j : Nat)) = some (.val (.bl (i == j))) := by
  rw [v_eqI]
  have : decide ((i : Int) = j) = (i == j) := by
    rw [Bool.eq_iff_iff]
    simp
    omega
  rw [this]
theorem v_neN (i j : Nat) : cmpG neD (.int (i : Nat)) (.int (j : Nat)) = some (.val (.bl (!(i == j)))) := by
  rw [v_neI]
  have : decide ((i : Int) = j) = (i == j) := by
    rw [Bool.eq_iff_iff]
    simp
    omega
  rw [this]
theorem v_eq0 (i : Nat) : cmpG eqD (.int (i : Nat)) (.int 0) = some (.val (.bl (i == 0))) := v_eqN i 0
theorem v_andN (a b : Nat) : andD (.int (a : Nat)) (.int (b : Nat)) = some (.val (.int ((a &&& b : Nat) : Int))) := by
  show some (Pl.val (D.int (Builtin.bitAnd a b))) = _
  rw [and_nat]
def holdsB (ms : List Nat) (m : Nat) : Bool := ms.any fun o => (m &&& o) == o
def sharedB (ms : List Nat) (m : Nat) : Bool := ms.any fun o => !((m &&& o) == 0)
def meetsB (ms : List Nat) (m : Nat) : Bool := !ms.any fun o => (m &&& o) == 0
theorem any_nD (p : Nat → Bool) (l : List Nat) : (nD l).any (fun d => p (natOf d)) = l.any p := by
  unfold nD
  rw [List.any_map]
  congr 1
theorem law_holds (m : Nat) (ms : List Nat) : F_law_holds [I m, .im (.lst (nD ms))] = .ret (.im (.bl (holdsB ms m))) [] := by
  refine run_im (ds := [.int m, .lst (nD ms)]) ?_
  have key := loop_find (tgt := tgN 2) (body := b_law_holds1) (ws := [2]) (ρ := [some (I m), some (.im (.lst (nD ms))), none]) (r := .im (.bl true)) (fun d => (m &&& natOf d) == natOf d) (nD ms) (fun d hd => by
    obtain ⟨p, hp, rfl⟩ := List.mem_map.mp hd
    rw [natOf_nat]
    refine ⟨[some (I m), some (.im (.lst (nD ms))), some (I p)], rfl, fun h => ⟨[some (I m), some (.im (.lst (nD ms))), some (I p)], ?_⟩, fun h => ⟨[some (I m), some (.im (.lst (nD ms))), some (I p)], .inl ?_, rfl⟩⟩
    all_goals
      unfold b_law_holds1
      simp -implicitDefEqProofs only [a_if, a_toB, a_bin, a_var, List.getElem?_cons_zero, List.getElem?_cons_succ, R.ok_bind, a_viewS, a_viewV, a_oR, v_andN, v_eqN, h, a_ret, a_c, a_retV, a_nx, if_true]
      try rfl)
  rw [any_nD fun o => (m &&& o) == o] at key
  change (holdsB ms m = true → _) ∧ (holdsB ms m = false → _) at key
  unfold g_law_holds
  cases h : holdsB ms m with
  | true =>
    obtain ⟨ρ2, k⟩ := key.1 h
    refine ⟨ρ2, ?_⟩
    simp -implicitDefEqProofs [k]
  | false =>
    have k := key.2 h
    refine ⟨[some (I m), some (.im (.lst (nD ms))), none], ?_⟩
    simp -implicitDefEqProofs [k]
theorem law_meets (m : Nat) (ms : List Nat) : F_law_meets [I m, .im (.lst (nD ms))] = .ret (.im (.bl (meetsB ms m))) [] := by
  refine run_im (ds := [.int m, .lst (nD ms)]) ?_
  have key := loop_find (tgt := tgN 2) (body := b_law_meets1) (ws := [2]) (ρ := [some (I m), some (.im (.lst (nD ms))), none]) (r := .im (.bl false)) (fun d => (m &&& natOf d) == 0) (nD ms) (fun d hd => by
    obtain ⟨p, hp, rfl⟩ := List.mem_map.mp hd
    rw [natOf_nat]
    refine ⟨[some (I m), some (.im (.lst (nD ms))), some (I p)], rfl, fun h => ⟨[some (I m), some (.im (.lst (nD ms))), some (I p)], ?_⟩, fun h => ⟨[some (I m), some (.im (.lst (nD ms))), some (I p)], .inl ?_, rfl⟩⟩
    all_goals
      unfold b_law_meets1
      simp -implicitDefEqProofs only [a_if, a_toB, a_bin, a_var, List.getElem?_cons_zero, List.getElem?_cons_succ, R.ok_bind, a_viewS, a_viewV, a_oR, v_andN, v_eq0, h, a_ret, a_c, a_retV, a_nx, if_true]
      try rfl)
  rw [any_nD fun o => (m &&& o) == 0] at key
  unfold g_law_meets meetsB
  cases h : (ms.any fun o => (m &&& o) == 0) with
  | true =>
    obtain ⟨ρ2, k⟩ := key.1 h
    refine ⟨ρ2, ?_⟩
    simp -implicitDefEqProofs [k]
  | false =>
    have k := key.2 h
    refine ⟨[some (I m), some (.im (.lst (nD ms))), none], ?_⟩
    simp -implicitDefEqProofs [k]
theorem v_gt0 (i : Nat) : cmpG gtB (.int (i : Nat)) (.int 0) = some (.val (.bl (!(i == 0)))) := by
  rw [v_gt]
  have : decide ((0 : Int) < (i : Int)) = !(i == 0) := by
    rw [Bool.eq_iff_iff]
    simp
    omega
  rw [this]
theorem law_shared (m : Nat) (ms : List Nat) : F_law_shared [I m, .im (.lst (nD ms))] = .ret (.im (.bl (sharedB ms m))) [] := by
  refine run_im (ds := [.int m, .lst (nD ms)]) ?_
  have key := loop_find (tgt := tgN 2) (body := b_law_shared1) (ws := [2]) (ρ := [some (I m), some (.im (.lst (nD ms))), none]) (r := .im (.bl true)) (fun d => !((m &&& natOf d) == 0)) (nD ms) (fun d hd => by
    obtain ⟨p, hp, rfl⟩ := List.mem_map.mp hd
    rw [natOf_nat]
    refine ⟨[some (I m), some (.im (.lst (nD ms))), some (I p)], rfl, fun h => ⟨[some (I m), some (.im (.lst (nD ms))), some (I p)], ?_⟩, fun h => ⟨[some (I m), some (.im (.lst (nD ms))), some (I p)], .inl ?_, rfl⟩⟩
    all_goals
      unfold b_law_shared1
      simp -implicitDefEqProofs only [a_if, a_toB, a_bin, a_var, List.getElem?_cons_zero, List.getElem?_cons_succ, R.ok_bind, a_viewS, a_viewV, a_oR, v_andN, v_gt0, h, a_ret, a_c, a_retV, a_nx, if_true]
      try rfl)
  rw [any_nD fun o => !((m &&& o) == 0)] at key
  unfold g_law_shared sharedB
  cases h : (ms.any fun o => !((m &&& o) == 0)) with
  | true =>
    obtain ⟨ρ2, k⟩ := key.1 h
    refine ⟨ρ2, ?_⟩
    simp -implicitDefEqProofs [k]
  | false =>
    have k := key.2 h
    refine ⟨[some (I m), some (.im (.lst (nD ms))), none], ?_⟩
    simp -implicitDefEqProofs [k]
/-! ### lots of a mask -/
theorem law_lot_of (m n : Nat) (hn : n ≤ 1000) : F_law_lot_of [I m, I n] = .ret (.im (lotD n m)) [] := by
  refine run_im (ds := [.int m, .int n]) ⟨[some (I m), some (I n), none], ?_⟩
  have h1 := @rng1_nat n (by omega)
  have e0 : ∀ p : Nat, shrD (.int m) (.int p) = some (.val (.int ((m / 2 ^ p : Nat) : Int))) := by
    intro p
    show ((shrI (m : Int) (p : Int)).map Pl.val) = _
    unfold shrI
    rw [if_pos (Int.natCast_nonneg p), Int.toNat_natCast]
    simp
  have e1 : ∀ k : Nat, andD (.int (k : Nat)) (.int 1) = some (.val (.int ((k % 2 : Nat) : Int))) := by
    intro k
    have := v_andN k 1
    rw [Nat.and_one_is_mod] at this
    exact this
  have e2 : ∀ k : Nat, cmpG eqD (.int (k : Nat)) (.int 1) = some (.val (.bl (k == 1))) := fun k => v_eqN k 1
  have key := lc_loop (i := 2) (ft := toB (bin (bin (biG (fCons (bin (fVar 0) (fVar 2) shrD) (fNil)) (fun a => (intD a).map Pl.val)) (fC (.int 1)) andD) (fC (.int 1)) (cmpG eqD))) (fe := fVar 2) (ρ := [some (I m), some (I n), none]) (fun d => m.testBit (natOf d)) id rfl (nD (List.range n)) [] (fun d hd => by
      obtain ⟨k, _, rfl⟩ := List.mem_map.mp hd
      have e3 : (m / 2 ^ k % 2 == 1) = m.testBit k := by
        rw [Nat.testBit_eq_decide_div_mod_eq]
        rw [Bool.eq_iff_iff]
        simp
      rw [natOf_nat]
      simp -implicitDefEqProofs only [a_toB, a_bin, a_bi, a_cons, a_settle, a_nil, List.set_cons_succ, List.set_cons_zero, a_var, List.getElem?_cons_zero, List.getElem?_cons_succ, R.ok_bind, a_viewS, a_viewV, a_vw, a_vwNil, a_oR, e0, e1, e2, v_intI, Option.map_some, a_c, e3]
      ) (fun d hd _ => by simp -implicitDefEqProofs) (lenB _ (by rw [nD_len, List.length_range]; omega))
  rw [List.map_id, filter_nD, List.nil_append] at key
  have h2 : (List.range n).map (fun k : Nat => D.int (k : Int)) = nD (List.range n) := rfl
  unfold g_law_lot_of
  have e6 : (List.range n).filter (fun k => m.testBit k) = mem m n := rfl
  rw [e6] at key
  simp -implicitDefEqProofs [h1, h2, key, lotD]
theorem seats_of_masks_law (s : List Int) (hl : s.length ≤ 10) : F_law_weights [.im (.lst (iD s))] = .ret (.im (.lst (iD (wl s)))) [] :=
  seats_of_masks (.lst (iD s)) s rfl hl
end K69
set_option Elab.async false
set_option linter.all false
set_option maxRecDepth 100000
set_option autoImplicit false
namespace K69
open PySem PySem.Spec PyProof.Rows L2 DL
/-! ### masks, by their bits -/
def bits (l : List Nat) : Nat := l.foldl (fun m k => m + p2 k) 0
theorem testBit_lt {m n k : Nat} (h : m < p2 n) (hk : m.testBit k = true) : k < n := by
  apply Decidable.byContradiction
  intro h2
  have h3 := Nat.testBit_lt_two_pow (i := k) (Nat.lt_of_lt_of_le h (Nat.pow_le_pow_right (by omega) (by omega : n ≤ k)))
  rw [h3] at hk
  cases hk
/-- the part of m below 2^k -/
theorem mem_succ (m k : Nat) : mem m (k + 1) = mem m k ++ if m.testBit k = true then [k] else [] := by
  unfold mem
  rw [List.range_succ, List.filter_append]
  congr 1
  cases h : m.testBit k <;> simp [h]
theorem mod_succ (m k : Nat) : m % p2 (k + 1) = m % p2 k + if m.testBit k = true then p2 k else 0 := by
  have h1 : p2 (k + 1) = p2 k * 2 := by unfold p2; rw [Nat.pow_succ]
  have h2 : m % (p2 k * 2) = m % p2 k + p2 k * (m / p2 k % 2) := Nat.mod_mul
  have h3 : m.testBit k = decide (m / p2 k % 2 = 1) := Nat.testBit_eq_decide_div_mod_eq
  rw [h1, h2, h3]
  rcases Nat.mod_two_eq_zero_or_one (m / p2 k) with h | h <;> rw [h] <;> simp
theorem bits_mem (m : Nat) : ∀ k, bits (mem m k) = m % p2 k
  | 0 => by
    show 0 = m % 1
    omega
  | k + 1 => by
    have ih := bits_mem m k
    rw [mem_succ, mod_succ, ← ih]
    unfold bits
    rw [List.foldl_append]
    cases h : m.testBit k <;> simp
theorem bits_mem_lt {m n : Nat} (h : m < p2 n) : bits (mem m n) = m := by rw [bits_mem, Nat.mod_eq_of_lt h]
/-! ### what the law makes of the told lots -/
theorem v_inN (k : Nat) (ms : List Nat) : cmpG inFl (.int (k : Nat)) (.lst (nD ms)) = some (.val (.bl (ms.any fun z => z == k))) := by
  have h1 : (nD ms).all flatD = true := by
    rw [List.all_eq_true]
    intro d hd
    obtain ⟨x, _, rfl⟩ := List.mem_map.mp hd
    rfl
  have h2 : ((nD ms).any fun z => eqF z (.int (k : Nat))) = ms.any fun z => z == k := by
    unfold nD
    rw [List.any_map]
    congr 1
    funext x
    show ((x : Int) == (k : Int)) = (x == k)
    rw [Bool.eq_iff_iff]
    simp
    omega
  show ((inFl (.int (k : Nat)) (.lst (nD ms))).map D.bl).map Pl.val = _
  rw [v_inL, if_pos ⟨rfl, h1⟩, h2]
  rfl
theorem v_app (l : List Nat) (k : Nat) (h : l.length ≤ 2000) : appD (nD l) [.int (k : Nat)] = some (nD (l ++ [k]), .non) := by
  have : (nD l).length < sizeLine := by rw [nD_len, sizeLine_eq]; omega
  show (if (nD l).length < sizeLine then some (nD l ++ [.int (k : Nat)], D.non) else none) = _
  rw [if_pos this]
  simp [nD]
theorem law_lots1 (D0 D3 : D) (n : Nat) (hn : n ≤ 10) (ms : List Nat) : ∀ (l : List Nat) (last : Int) (b : Nat), l.Pairwise (· < ·) → (∀ k ∈ l, last < (k : Int) ∧ k < n) →
    ∃ last' : Int, loopG (tgN 6) b_law_lots1 [6] (nD l) [some (.im D0), some (I n), some (.mu true (nD ms)), some (.im D3), some (I last), some (I b), none] = .ok (.nx [some (.im D0), some (I n), some (.mu true (nD ms)), some (.im D3), some (I last'), some (I ((l.foldl (fun m k => m + p2 k) b : Nat) : Int)), none])
  | [], last, b, _, _ => ⟨last, rfl⟩
  | k :: l, last, b, hp, hk => by
    rw [List.pairwise_cons] at hp
    obtain ⟨last', hb⟩ := law_lots1 D0 D3 n hn ms l k (b + p2 k) hp.2 fun j hj => ⟨by have := hp.1 j hj; omega, (hk j (List.mem_cons_of_mem _ hj)).2⟩
    refine ⟨last', ?_⟩
    have hk0 := hk k List.mem_cons_self
    have e1 : ¬ ((k : Int) ≤ last) := by omega
    have e1' : ¬ ((n : Int) ≤ (k : Int)) := by omega
    have e4 := v_shl (k := k) (by omega)
    have e2 : nD (k :: l) = .int k :: nD l := rfl
    have e3 : b_law_lots1 [some (.im D0), some (I n), some (.mu true (nD ms)), some (.im D3), some (I last), some (I b), some (I k)] = .ok (.nx [some (.im D0), some (I n), some (.mu true (nD ms)), some (.im D3), some (I k), some (I ((b + p2 k : Nat) : Int)), some (I k)]) := by
      unfold b_law_lots1
      simp -implicitDefEqProofs [e1, e1', e4, isT]
    rw [e2, show loopG (tgN 6) b_law_lots1 [6] (.int k :: nD l) [some (.im D0), some (I n), some (.mu true (nD ms)), some (.im D3), some (I last), some (I b), none] = (b_law_lots1 [some (.im D0), some (I n), some (.mu true (nD ms)), some (.im D3), some (I last), some (I b), some (I k)]).bind fun f => match f with
        | .nx ρ2 => loopG (tgN 6) b_law_lots1 [6] (nD l) (wipeMu ρ2 [6])
        | .ct ρ2 => loopG (tgN 6) b_law_lots1 [6] (nD l) (wipeMu ρ2 [6])
        | .bk ρ2 => .ok (.nx (wipeMu ρ2 [6]))
        | .rt r ρ2 => .ok (.rt r ρ2) from rfl, e3, R.ok_bind]
    exact hb
theorem law_lots2 (D0 : D) (n : Nat) (hn : n ≤ 10) : ∀ (ms ns : List Nat), (∀ m ∈ ms, m < p2 n) → (ns ++ ms).Nodup → (ns ++ ms).length ≤ 1024 →
    loopG (tgN 3) b_law_lots2 [3, 4, 5, 6] (lots n ms) [some (.im D0), some (I n), some (.mu true (nD ns)), none, none, none, none] = .ok (.nx [some (.im D0), some (I n), some (.mu true (nD (ns ++ ms))), none, none, none, none])
  | [], ns, _, _, _ => by rw [List.append_nil]; rfl
  | m :: ms, ns, hm, hd, hl => by
    have ea : ns ++ m :: ms = (ns ++ [m]) ++ ms := by rw [List.append_assoc]; rfl
    have ih := law_lots2 D0 n hn ms (ns ++ [m]) (fun x hx => hm x (List.mem_cons_of_mem _ hx)) (by rw [← ea]; exact hd) (by rw [← ea]; exact hl)
    have hb := bits_mem_lt (hm m List.mem_cons_self)
    unfold bits at hb
    obtain ⟨last', k1⟩ := law_lots1 D0 (lotD n m) n hn ns (mem m n) (-1) 0 (mem_pair m n) fun k hk => ⟨by omega, (mem_le hk).1⟩
    rw [hb] at k1
    have e5 : (ns.any fun z => z == m) = false := by
      rw [List.any_eq_false]
      intro z hz h
      have : z = m := by simpa using h
      subst this
      rw [List.nodup_append] at hd
      exact hd.2.2 z hz z List.mem_cons_self rfl
    have e6 := v_inN m ns
    rw [e5] at e6
    have e7 := v_app ns m (by rw [List.length_append] at hl; omega)
    have e3 : b_law_lots2 [some (.im D0), some (I n), some (.mu true (nD ns)), some (.im (lotD n m)), none, none, none] = .ok (.nx [some (.im D0), some (I n), some (.mu true (nD (ns ++ [m]))), some (.im (lotD n m)), some (I last'), some (I m), none]) := by
      unfold b_law_lots2
      unfold lotD at k1 ⊢
      simp -implicitDefEqProofs [isT, negD] at k1 ⊢
      simp -implicitDefEqProofs [k1, e6, e7]
    have e2 : lots n (m :: ms) = lotD n m :: lots n ms := rfl
    rw [e2, show loopG (tgN 3) b_law_lots2 [3, 4, 5, 6] (lotD n m :: lots n ms) [some (.im D0), some (I n), some (.mu true (nD ns)), none, none, none, none] = (b_law_lots2 [some (.im D0), some (I n), some (.mu true (nD ns)), some (.im (lotD n m)), none, none, none]).bind fun f => match f with
        | .nx ρ2 => loopG (tgN 3) b_law_lots2 [3, 4, 5, 6] (lots n ms) (wipeMu ρ2 [3, 4, 5, 6])
        | .ct ρ2 => loopG (tgN 3) b_law_lots2 [3, 4, 5, 6] (lots n ms) (wipeMu ρ2 [3, 4, 5, 6])
        | .bk ρ2 => .ok (.nx (wipeMu ρ2 [3, 4, 5, 6]))
        | .rt r ρ2 => .ok (.rt r ρ2) from rfl, e3, R.ok_bind, ea]
    exact ih
theorem law_lots (n : Nat) (hn : n ≤ 10) (ms : List Nat) (hm : ∀ m ∈ ms, m < p2 n) (hd : ms.Nodup) (hl : ms.length ≤ 1024) : F_law_lots [.im (.tup (lots n ms)), I n] = .ret (.nw (nD ms)) [] := by
  refine run_im (ds := [.tup (lots n ms), .int n]) ⟨[some (.im (.tup (lots n ms))), some (I n), none, none, none, none, none], ?_⟩
  have key := law_lots2 (.tup (lots n ms)) n hn ms [] hm hd hl
  have e : nD [] = [] := rfl
  rw [e, List.nil_append] at key
  unfold g_law_lots
  simp -implicitDefEqProofs [isT] at key ⊢
  rw [key]
  simp -implicitDefEqProofs
end K69
set_option Elab.async false
set_option linter.all false
set_option maxRecDepth 100000
set_option autoImplicit false
namespace K69
open PySem PySem.Spec PyProof.Rows L2 DL
/-! ### parts of masks -/
def Sub (a b : Nat) : Prop := ∀ j, a.testBit j = true → b.testBit j = true
theorem Sub.rfl' (a : Nat) : Sub a a := fun _ h => h
theorem Sub.trans {a b c : Nat} (h : Sub a b) (g : Sub b c) : Sub a c := fun j z => g j (h j z)
theorem sub_and {a b : Nat} : Sub a b ↔ b &&& a = a := by
  constructor
  · intro h
    apply Nat.eq_of_testBit_eq
    intro i
    rw [Nat.testBit_and]
    cases z : a.testBit i with
    | false => rw [Bool.and_false]
    | true => rw [h i z, Bool.and_true]
  · intro h j hj
    rw [← h, Nat.testBit_and, Bool.and_eq_true] at hj
    exact hj.1
theorem Sub.le {a b : Nat} (h : Sub a b) : a ≤ b := by
  rw [← sub_and.mp h]
  exact Nat.and_le_left
theorem Sub.anti {a b : Nat} (h : Sub a b) (g : Sub b a) : a = b := Nat.le_antisymm h.le g.le
theorem Sub.half {a b : Nat} (h : Sub a b) : Sub (a / 2) (b / 2) := fun j z => by
  rw [← Nat.testBit_succ] at z ⊢
  exact h _ z
theorem sub_bits : ∀ (i a b : Nat), Sub a b → (b - a).testBit i = (b.testBit i && !a.testBit i)
  | 0, a, b, h => by
    have h0 := h 0
    have hl := h.le
    simp only [Nat.testBit_zero, decide_eq_true_eq] at h0 ⊢
    rcases Nat.mod_two_eq_zero_or_one a with ha | ha <;> rcases Nat.mod_two_eq_zero_or_one b with hb | hb
    · have : (b - a) % 2 = 0 := by omega
      rw [this, ha, hb]; rfl
    · have : (b - a) % 2 = 1 := by omega
      rw [this, ha, hb]; rfl
    · have := h0 ha
      omega
    · have : (b - a) % 2 = 0 := by omega
      rw [this, ha, hb]; rfl
  | i + 1, a, b, h => by
    have h0 := h 0
    have hl := h.le
    have hl2 := h.half.le
    simp only [Nat.testBit_zero, decide_eq_true_eq] at h0
    have e : (b - a) / 2 = b / 2 - a / 2 := by omega
    rw [Nat.testBit_succ, Nat.testBit_succ, Nat.testBit_succ, e]
    exact sub_bits i _ _ h.half
theorem p2_bit (p j : Nat) : (p2 p).testBit j = decide (p = j) := by unfold p2; rw [Nat.testBit_two_pow]
theorem p2_sub {m p : Nat} : Sub (p2 p) m ↔ m.testBit p = true := by
  constructor
  · intro h
    exact h p (by rw [p2_bit]; simp)
  · intro h j hj
    rw [p2_bit, decide_eq_true_eq] at hj
    rw [← hj]
    exact h
theorem p2_pos (n : Nat) : 0 < p2 n := Nat.two_pow_pos n
theorem full_bit (n i : Nat) : (p2 n - 1).testBit i = decide (i < n) := by unfold p2; rw [Nat.testBit_two_pow_sub_one]
theorem sub_full {m n : Nat} (h : m < p2 n) : Sub m (p2 n - 1) := fun j z => by
  rw [full_bit, decide_eq_true_eq]
  exact testBit_lt h z
theorem com_bit {m n : Nat} (h : m < p2 n) (i : Nat) : (p2 n - 1 - m).testBit i = (decide (i < n) && !m.testBit i) := by
  rw [sub_bits i m _ (sub_full h), full_bit]
theorem com_lt {m n : Nat} (h : m < p2 n) : p2 n - 1 - m < p2 n := by omega
theorem com_com {m n : Nat} (h : m < p2 n) : p2 n - 1 - (p2 n - 1 - m) = m := by omega
theorem com_sub {a b n : Nat} (ha : a < p2 n) (hb : b < p2 n) : Sub a b → Sub (p2 n - 1 - b) (p2 n - 1 - a) := fun h j z => by
  rw [com_bit hb, Bool.and_eq_true, decide_eq_true_eq] at z
  rw [com_bit ha, Bool.and_eq_true, decide_eq_true_eq]
  refine ⟨z.1, ?_⟩
  cases q : a.testBit j with
  | false => rfl
  | true => rw [h j q] at z; cases z.2
/-- nothing shared: the one lies in what the other leaves -/
theorem and_zero {m o n : Nat} (hm : m < p2 n) (ho : o < p2 n) : m &&& o = 0 ↔ Sub o (p2 n - 1 - m) := by
  constructor
  · intro h j z
    rw [com_bit hm, Bool.and_eq_true, decide_eq_true_eq]
    refine ⟨testBit_lt ho z, ?_⟩
    have := congrArg (fun x => Nat.testBit x j) h
    simp only [Nat.testBit_and, Nat.zero_testBit, z, Bool.and_true] at this
    rw [this]
    rfl
  · intro h
    apply Nat.eq_of_testBit_eq
    intro i
    rw [Nat.testBit_and, Nat.zero_testBit]
    cases z : o.testBit i with
    | false => rw [Bool.and_false]
    | true =>
      have := h i z
      rw [com_bit hm, Bool.and_eq_true] at this
      rw [Bool.and_true]
      cases q : m.testBit i with
      | false => rfl
      | true => rw [q] at this; cases this.2
/-! ### least sets -/
def Mono (w : Nat → Bool) (n : Nat) : Prop := ∀ a b, b < p2 n → Sub a b → w a = true → w b = true
theorem barw_mono {w : Nat → Bool} {n : Nat} (h : Mono w n) : Mono (barw w n) n := fun a b hb hs ha => by
  have ha' : a < p2 n := Nat.lt_of_le_of_lt hs.le hb
  unfold barw at ha ⊢
  cases z : w (p2 n - 1 - b) with
  | false => rfl
  | true =>
    rw [h _ _ (com_lt ha') (com_sub ha' hb hs) z] at ha
    cases ha
theorem least_spec {w : Nat → Bool} {n m : Nat} : m ∈ leastL w n ↔ m < p2 n ∧ w m = true ∧ ∀ p, m.testBit p = true → w (m - p2 p) = false := by
  unfold leastL
  rw [List.mem_filter, List.mem_range]
  unfold leastB
  rw [Bool.and_eq_true, List.all_eq_true]
  constructor
  · intro ⟨h1, h2, h3⟩
    refine ⟨h1, h2, fun p hp => ?_⟩
    have := h3 p (List.mem_filter.mpr ⟨List.mem_range.mpr (testBit_lt h1 hp), hp⟩)
    simpa using this
  · intro ⟨h1, h2, h3⟩
    refine ⟨h1, h2, fun p hp => ?_⟩
    have := h3 p (mem_le hp).2
    simpa using this
theorem sub_rem {m p : Nat} (h : m.testBit p = true) : Sub (m - p2 p) m := fun j z => by
  rw [sub_bits j _ _ (p2_sub.mpr h), Bool.and_eq_true] at z
  exact z.1
theorem exists_least {w : Nat → Bool} {n : Nat} (m : Nat) : m < p2 n → w m = true → ∃ o, o ∈ leastL w n ∧ Sub o m := by
  induction m using Nat.strongRecOn with
  | _ m ih =>
    intro hm hw
    by_cases h : ∀ p, m.testBit p = true → w (m - p2 p) = false
    · exact ⟨m, least_spec.mpr ⟨hm, hw, h⟩, Sub.rfl' m⟩
    · obtain ⟨p, hp⟩ := Classical.not_forall.mp h
      obtain ⟨hp, hw2⟩ := Classical.not_imp.mp hp
      have hw2 : w (m - p2 p) = true := by
        cases z : w (m - p2 p) with
        | true => rfl
        | false => exact (hw2 z).elim
      have := bit_le hp
      have := p2_pos p
      obtain ⟨o, h1, h2⟩ := ih (m - p2 p) (by omega) (by omega) hw2
      exact ⟨o, h1, h2.trans (sub_rem hp)⟩
theorem holds_eq {w : Nat → Bool} {n m : Nat} {ms : List Nat} (hM : Mono w n) (hs : ms.Perm (leastL w n)) (hm : m < p2 n) : holdsB ms m = w m := by
  rw [Bool.eq_iff_iff]
  unfold holdsB
  rw [List.any_eq_true]
  constructor
  · intro ⟨o, h1, h2⟩
    have h2 : m &&& o = o := by simpa using h2
    exact hM o m hm (sub_and.mpr h2) (least_spec.mp (hs.mem_iff.mp h1)).2.1
  · intro h
    obtain ⟨o, h1, h2⟩ := exists_least m hm h
    exact ⟨o, hs.mem_iff.mpr h1, by simpa using sub_and.mp h2⟩
theorem meets_eq {w : Nat → Bool} {n m : Nat} {ms : List Nat} (hM : Mono w n) (hs : ms.Perm (leastL (barw w n) n)) (hm : m < p2 n) : meetsB ms m = w m := by
  have h0 := holds_eq (barw_mono hM) hs (com_lt hm)
  have e : barw w n (p2 n - 1 - m) = !w m := by
    unfold barw
    rw [com_com hm]
  rw [e] at h0
  have e2 : (ms.any fun o => (m &&& o) == 0) = holdsB ms (p2 n - 1 - m) := by
    rw [Bool.eq_iff_iff]
    unfold holdsB
    rw [List.any_eq_true, List.any_eq_true]
    constructor
    · intro ⟨o, h1, h2⟩
      have ho := (least_spec.mp (hs.mem_iff.mp h1)).1
      have h2 : m &&& o = 0 := by simpa using h2
      exact ⟨o, h1, by simpa using sub_and.mp ((and_zero hm ho).mp h2)⟩
    · intro ⟨o, h1, h2⟩
      have ho := (least_spec.mp (hs.mem_iff.mp h1)).1
      have h2 : (p2 n - 1 - m) &&& o = o := by simpa using h2
      exact ⟨o, h1, by simpa using (and_zero hm ho).mpr (sub_and.mpr h2)⟩
  unfold meetsB
  rw [e2, h0, Bool.not_not]
theorem leastL_congr {w v : Nat → Bool} {n : Nat} (h : ∀ m, m < p2 n → w m = v m) : leastL w n = leastL v n := by
  unfold leastL
  apply List.filter_congr
  intro m hm
  have hm := List.mem_range.mp hm
  unfold leastB
  rw [h m hm]
  congr 1
  rw [Bool.eq_iff_iff, List.all_eq_true, List.all_eq_true]
  constructor
  · intro g p hp
    rw [← h _ (by omega)]
    exact g p hp
  · intro g p hp
    rw [h _ (by omega)]
    exact g p hp
theorem barw_barw {w : Nat → Bool} {n m : Nat} (hm : m < p2 n) : barw (barw w n) n m = w m := by
  unfold barw
  rw [com_com hm, Bool.not_not]
theorem meets_least {w : Nat → Bool} {n m : Nat} {ms : List Nat} (hM : Mono w n) (hs : ms.Perm (leastL w n)) (hm : m < p2 n) : meetsB ms m = barw w n m := by
  refine meets_eq (barw_mono hM) ?_ hm
  rw [leastL_congr (v := w) fun m hm => barw_barw hm]
  exact hs
theorem least_nodup (w : Nat → Bool) (n : Nat) : (leastL w n).Nodup := by
  unfold leastL
  exact List.Pairwise.filter _ List.nodup_range
theorem apart_of {w : Nat → Bool} {n : Nat} {ms : List Nat} (hM : Mono w n) (hs : ms.Perm (leastL w n)) : ∀ k j : Nat, ∀ hk : k < ms.length, ∀ hj : j < ms.length, j ≠ k → (ms[k] &&& ms[j]) ≠ ms[k] := by
  intro k j hk hj hne h
  have hd : ms.Nodup := hs.symm.nodup (least_nodup w n)
  have h1 := least_spec.mp (hs.mem_iff.mp (List.getElem_mem hk))
  have h2 := least_spec.mp (hs.mem_iff.mp (List.getElem_mem hj))
  have hsub : Sub ms[k] ms[j] := sub_and.mpr (by rw [Nat.and_comm]; exact h)
  have hne2 : ms[j] ≠ ms[k] := fun e => hne ((List.getElem_inj hd).mp e)
  have : ¬ Sub ms[j] ms[k] := fun g => hne2 (g.anti hsub)
  obtain ⟨p, hp⟩ := Classical.not_forall.mp this
  obtain ⟨hp, hq⟩ := Classical.not_imp.mp hp
  have h3 := h2.2.2 p hp
  have h4 : w (ms[j] - p2 p) = true := by
    refine hM ms[k] _ (by have := h2.1; omega) (fun i hi => ?_) h1.2.1
    rw [sub_bits i _ _ (p2_sub.mpr hp), hsub i hi, p2_bit, Bool.true_and]
    have : p ≠ i := fun e => hq (by rw [e]; exact hi)
    simp [this]
  rw [h4] at h3
  cases h3
end K69
set_option Elab.async false
set_option linter.all false
set_option maxRecDepth 100000
set_option autoImplicit false
namespace K69
open PySem PySem.Spec PyProof.Rows L2 DL
/-! ### told alike -/
theorem same_int (F : FD) (i : Int) : runF 3 2 (g_law_same F) [I i, I i] = .ret (.im (.bl true)) [] := by
  refine run_im (ds := [.int i, .int i]) ⟨[some (I i), some (I i), none], ?_⟩
  unfold g_law_same
  simp -implicitDefEqProofs [isT, cmpG, isB, isNonD, v_eqI, eqD, eqS]
theorem same_bl (F : FD) (b : Bool) : runF 3 2 (g_law_same F) [.im (.bl b), .im (.bl b)] = .ret (.im (.bl true)) [] := by
  refine run_im (ds := [.bl b, .bl b]) ⟨[some (.im (.bl b)), some (.im (.bl b)), none], ?_⟩
  unfold g_law_same
  cases b <;> simp -implicitDefEqProofs [isT, cmpG, isB, isNonD]
theorem nD_at (l : List Nat) (k : Nat) (h : k < l.length) : atI (nD l) (k : Int) = some (.int (l[k] : Nat)) := by
  rw [at_nat (by rw [nD_len]; exact h)]
  simp [nD]
theorem same_tup (F : FD) (l : List Nat) (hl : l.length ≤ 1000) (hF : ∀ k : Nat, F [I k, I k] = .ret (.im (.bl true)) []) : runF 3 2 (g_law_same F) [.im (.tup (nD l)), .im (.tup (nD l))] = .ret (.im (.bl true)) [] := by
  refine run_im (ds := [.tup (nD l), .tup (nD l)]) ⟨[some (.im (.tup (nD l))), some (.im (.tup (nD l))), none], ?_⟩
  have h1 := @rng1_nat l.length (by omega)
  have h2 : (List.range l.length).map (fun k : Nat => D.int (k : Int)) = nD (List.range l.length) := rfl
  have key := (loop_find (tgt := tgN 2) (body := b_law_same1 F) (ws := [2]) (ρ := [some (.im (.tup (nD l))), some (.im (.tup (nD l))), none]) (r := .im (.bl false)) (fun d => false) (nD (List.range l.length)) (fun d hd => by
    obtain ⟨k, hk, rfl⟩ := List.mem_map.mp hd
    have hk := List.mem_range.mp hk
    refine ⟨[some (.im (.tup (nD l))), some (.im (.tup (nD l))), some (I k)], rfl, fun h => (by cases h), fun h => ⟨[some (.im (.tup (nD l))), some (.im (.tup (nD l))), some (I k)], .inl ?_, rfl⟩⟩
    have e := nD_at l k hk
    unfold b_law_same1
    simp -implicitDefEqProofs [e, hF])).2 (by simp)
  have e1 : (neD (.int (l.length : Int)) (.int (l.length : Int))) = some false := by
    show some (!decide ((l.length : Int) = l.length)) = _
    simp
  unfold g_law_same
  simp -implicitDefEqProofs [isT, cmpG, isB, isNonD, e1, h1, h2] at key ⊢
  rw [key]
  rfl
theorem law_same_bl (b : Bool) : F_law_same 3 [.im (.bl b), .im (.bl b)] = .ret (.im (.bl true)) [] := same_bl _ b
theorem law_same_tup (l : List Nat) (hl : l.length ≤ 1000) : F_law_same 3 [.im (.tup (nD l)), .im (.tup (nD l))] = .ret (.im (.bl true)) [] := same_tup _ l hl fun k => same_int _ k
/-! ### no two nested -/
def Apart (ms : List Nat) : Prop := ∀ k j : Nat, ∀ hk : k < ms.length, ∀ hj : j < ms.length, j ≠ k → (ms[k] &&& ms[j]) ≠ ms[k]
theorem law_apart (ms : List Nat) (hl : ms.length ≤ 1024) (ha : Apart ms) : F_law_apart [.im (.lst (nD ms))] = .ret (.im (.bl true)) [] := by
  refine run_im (ds := [.lst (nD ms)]) ⟨[some (.im (.lst (nD ms))), none, none], ?_⟩
  have h1 := @rng1_nat ms.length (by omega)
  have h2 : (List.range ms.length).map (fun k : Nat => D.int (k : Int)) = nD (List.range ms.length) := rfl
  have inner : ∀ k : Nat, k < ms.length → loopG (tgN 2) b_law_apart1 [2] (nD (List.range ms.length)) [some (.im (.lst (nD ms))), some (I k), none] = .ok (.nx [some (.im (.lst (nD ms))), some (I k), none]) := fun k hk =>
    (loop_find (tgt := tgN 2) (body := b_law_apart1) (ws := [2]) (ρ := [some (.im (.lst (nD ms))), some (I k), none]) (r := .im (.bl false)) (fun d => false) (nD (List.range ms.length)) (fun d hd => by
      obtain ⟨j, hj, rfl⟩ := List.mem_map.mp hd
      have hj := List.mem_range.mp hj
      refine ⟨[some (.im (.lst (nD ms))), some (I k), some (I j)], rfl, fun h => (by cases h), fun h => ⟨[some (.im (.lst (nD ms))), some (I k), some (I j)], .inl ?_, rfl⟩⟩
      have e1 := nD_at ms k hk
      have e2 := nD_at ms j hj
      have e3 := v_neN j k
      unfold b_law_apart1
      by_cases z : j = k
      · subst z
        have e4 : (j == j) = true := by simp
        rw [e4] at e3
        simp -implicitDefEqProofs [e3]
      · have e4 : (j == k) = false := by simp [z]
        rw [e4] at e3
        have e5 := v_eqN (ms[k] &&& ms[j]) ms[k]
        have e6 : ((ms[k] &&& ms[j]) == ms[k]) = false := by simp [ha k j hk hj z]
        rw [e6] at e5
        simp -implicitDefEqProofs [e1, e2, e3, e5, v_andN])).2 (by simp)
  have key := (loop_find (tgt := tgN 1) (body := b_law_apart2) (ws := [1, 2]) (ρ := [some (.im (.lst (nD ms))), none, none]) (r := .im (.bl false)) (fun d => false) (nD (List.range ms.length)) (fun d hd => by
      obtain ⟨k, hk, rfl⟩ := List.mem_map.mp hd
      have hk := List.mem_range.mp hk
      refine ⟨[some (.im (.lst (nD ms))), some (I k), none], rfl, fun h => (by cases h), fun h => ⟨[some (.im (.lst (nD ms))), some (I k), none], .inl ?_, rfl⟩⟩
      have e := inner k hk
      unfold b_law_apart2
      simp -implicitDefEqProofs [h1, h2]
      exact e)).2 (by simp)
  unfold g_law_apart
  simp -implicitDefEqProofs [h1, h2] at key ⊢
  rw [key]
  rfl
/-! ### sums -/
theorem v_sum (s : List Int) : sumD [.lst (iD s)] = some (.val (.int s.sum)) := by
  show ((((intsOf (iD s)).bind fun ns => some (D.int ns.sum))).map Pl.val) = _
  unfold iD
  rw [intsOf_map]
  rfl
def at0 (s : List Int) (k : Nat) : Int := s.getD k 0
theorem iD_at (s : List Int) (k : Nat) (h : k < s.length) : atI (iD s) (k : Int) = some (.int (at0 s k)) := by
  rw [at_nat (by rw [iD_len]; exact h)]
  simp [iD, at0, List.getD, h]
def sumOf (s : List Int) (l : List Nat) : Int := (l.map fun k => at0 s k).sum
theorem wins_g (F1 F2 : FD) {sq : D} {s : List Int} (need : Int) (S : Sq sq s) (l : List Nat) (hl : l.length ≤ 10) (hk : ∀ k ∈ l, k < s.length) (h1 : F1 [.im sq, I need] = .ret (.im .non) []) (h2 : F2 [.im (.tup (nD l)), I s.length] = .ret (.im (.bl true)) []) :
    g_wins F1 F2 [some (.im sq), some (I need), some (.im (.tup (nD l))), none] = .ok (.rt (.im (.bl (decide (need ≤ sumOf s l)))) [some (.im sq), some (I need), some (.im (.tup (nD l))), none]) := by
  have key := lc_loop (i := 3) (ft := tyes) (fe := ixG (fVar 0) (fVar 3)) (ρ := [some (.im sq), some (I need), some (.im (.tup (nD l))), none]) (fun _ => true) (fun d => .int (at0 s (natOf d))) rfl (nD l) [] (fun d _ => rfl) (fun d hd _ => by
      obtain ⟨k, hk', rfl⟩ := List.mem_map.mp hd
      have e := iD_at s k (hk k hk')
      have e2 := S.i k
      rw [natOf_nat]
      simp -implicitDefEqProofs [e, e2]) (lenB _ (by rw [nD_len]; omega))
  have e1 : (nD l).filter (fun _ => true) = nD l := List.filter_eq_self.mpr fun _ _ => rfl
  have e2 : (nD l).map (fun d => D.int (at0 s (natOf d))) = iD (l.map fun k => at0 s k) := by
    unfold nD iD
    rw [List.map_map, List.map_map]
    apply List.map_congr_left
    intro k _
    show D.int (at0 s (natOf (.int (k : Int)))) = _
    rw [natOf_nat]
    rfl
  rw [e1, e2, List.nil_append] at key
  have e3 := v_sum (l.map fun k => at0 s k)
  unfold g_wins
  simp -implicitDefEqProofs [h1, h2, S.l, key, e3, sumOf]
  try rfl
end K69
set_option Elab.async false
set_option linter.all false
set_option maxRecDepth 100000
set_option autoImplicit false
namespace K69
open PySem PySem.Spec PyProof.Rows L2 DL
theorem sumOf_nil (s : List Int) : sumOf s [] = 0 := rfl
theorem sumOf_app (s : List Int) (a b : List Nat) : sumOf s (a ++ b) = sumOf s a + sumOf s b := by
  unfold sumOf
  rw [List.map_append, List.sum_append]
theorem sumOf_one (s : List Int) (k : Nat) : sumOf s [k] = at0 s k := by
  unfold sumOf
  simp
theorem sm_succ (s : List Int) (m k : Nat) : sumOf s (mem m (k + 1)) = sumOf s (mem m k) + if m.testBit k = true then at0 s k else 0 := by
  rw [mem_succ, sumOf_app]
  cases h : m.testBit k
  · rfl
  · rw [if_pos rfl, if_pos rfl, sumOf_one]
theorem pre_succ (s : List Int) (k : Nat) : sumOf s (List.range (k + 1)) = sumOf s (List.range k) + at0 s k := by
  rw [List.range_succ, sumOf_app, sumOf_one]
theorem p2_succ (k : Nat) : p2 (k + 1) = p2 k + p2 k := by unfold p2; rw [Nat.pow_succ]; omega
theorem top_bit {m k : Nat} (h : m < p2 (k + 1)) : m.testBit k = decide (p2 k ≤ m) := by
  have h1 := mod_succ m k
  rw [Nat.mod_eq_of_lt h] at h1
  have h2 := Nat.mod_lt m (p2_pos k)
  cases z : m.testBit k with
  | true =>
    have := bit_le z
    simp [this]
  | false =>
    rw [z] at h1
    simp at h1
    have : ¬ p2 k ≤ m := by omega
    simp [this]
theorem take_succ' (s : List Int) (k : Nat) (h : k < s.length) : s.take (k + 1) = s.take k ++ [at0 s k] := by
  rw [List.take_succ_eq_append_getElem h]
  simp [at0, List.getD, h]
theorem wl_snoc (s : List Int) (x : Int) : wl (s ++ [x]) = wl s ++ (wl s).map (· + x) := by
  unfold wl
  rw [List.foldl_append]
  rfl
theorem wt_take (s : List Int) : ∀ k, k ≤ s.length → ∀ m, m < p2 k → (wl (s.take k)).getD m 0 = sumOf s (mem m k)
  | 0, _, m, hm => by
    have : m = 0 := by have : p2 0 = 1 := rfl; omega
    subst this
    rfl
  | k + 1, hk, m, hm => by
    have ih := wt_take s k (by omega)
    have hl : (wl (s.take k)).length = p2 k := by
      rw [wl_len, List.length_take, Nat.min_eq_left (by omega)]
      rfl
    rw [take_succ' s k (by omega), wl_snoc, sm_succ, top_bit hm]
    by_cases h : p2 k ≤ m
    · have hb : m.testBit k = true := by rw [top_bit hm]; simp [h]
      have e : mem (m - p2 k) k = mem m k := by
        unfold mem
        apply List.filter_congr
        intro j hj
        have hj := List.mem_range.mp hj
        rw [sub_bits j _ _ (p2_sub.mpr hb), p2_bit]
        have : k ≠ j := by omega
        simp [this]
      have := p2_succ k
      have ih2 := ih (m - p2 k) (by omega)
      rw [e] at ih2
      rw [← ih2]
      simp only [h, decide_true, if_true]
      rw [List.getD_eq_getElem?_getD, List.getD_eq_getElem?_getD, List.getElem?_append_right (by omega), List.getElem?_map, hl]
      have : m - p2 k < (wl (s.take k)).length := by omega
      rw [List.getElem?_eq_getElem this]
      rfl
    · have ih2 := ih m (by omega)
      rw [← ih2]
      simp only [h, decide_false]
      rw [List.getD_eq_getElem?_getD, List.getD_eq_getElem?_getD, List.getElem?_append_left (by omega)]
      simp
theorem wt_eq (s : List Int) {m : Nat} (hm : m < p2 s.length) : Wt s m = sumOf s (mem m s.length) := by
  have := wt_take s s.length (Nat.le_refl _) m hm
  rw [List.take_length] at this
  exact this
theorem pre_all (s : List Int) : sumOf s (List.range s.length) = s.sum := by
  have e : (List.range s.length).map (fun k => at0 s k) = s := (list_range s 0).symm
  unfold sumOf
  rw [e]
theorem at0_nn {s : List Int} (h : ∀ x ∈ s, 0 ≤ x) (k : Nat) : 0 ≤ at0 s k := by
  unfold at0
  rw [List.getD_eq_getElem?_getD]
  cases z : s[k]? with
  | none => exact Int.le_refl 0
  | some x => exact h x (List.mem_of_getElem? z)
theorem sm_mono {s : List Int} (h : ∀ x ∈ s, 0 ≤ x) {a b : Nat} (hs : Sub a b) : ∀ k, sumOf s (mem a k) ≤ sumOf s (mem b k)
  | 0 => Int.le_refl 0
  | k + 1 => by
    have ih := sm_mono h hs k
    have h0 := at0_nn h k
    rw [sm_succ, sm_succ]
    cases z : a.testBit k with
    | true =>
      rw [hs k z]
      simp
      omega
    | false =>
      cases b.testBit k <;> simp <;> omega
theorem sm_com (s : List Int) {m n : Nat} (hm : m < p2 n) : ∀ k, k ≤ n → sumOf s (mem (p2 n - 1 - m) k) + sumOf s (mem m k) = sumOf s (List.range k)
  | 0, _ => rfl
  | k + 1, hk => by
    have ih := sm_com s hm k (by omega)
    rw [sm_succ, sm_succ, pre_succ, com_bit hm]
    have : k < n := by omega
    cases m.testBit k <;> simp [this] <;> omega
theorem sm_one (s : List Int) (j : Nat) : ∀ k, sumOf s (mem (p2 j) k) = if j < k then at0 s j else 0
  | 0 => rfl
  | k + 1 => by
    rw [sm_succ, sm_one s j k, p2_bit]
    by_cases h : j = k
    · subst h
      simp
    · by_cases h2 : j < k
      · have : j < k + 1 := by omega
        simp [h, h2, this]
      · have : ¬ j < k + 1 := by omega
        simp [h, h2, this]
theorem wt_com (s : List Int) {m : Nat} (hm : m < p2 s.length) : Wt s (p2 s.length - 1 - m) = s.sum - Wt s m := by
  have h1 := sm_com s hm s.length (Nat.le_refl _)
  rw [← wt_eq s hm, ← wt_eq s (com_lt hm), pre_all] at h1
  omega
theorem win_mono {s : List Int} (need : Int) (h : ∀ x ∈ s, 0 ≤ x) : Mono (win s need) s.length := fun a b hb hs ha => by
  have ha' : a < p2 s.length := Nat.lt_of_le_of_lt hs.le hb
  unfold win at ha ⊢
  rw [decide_eq_true_eq] at ha ⊢
  rw [wt_eq s ha'] at ha
  rw [wt_eq s hb]
  have := sm_mono h hs s.length
  omega
theorem bar_win (s : List Int) (need : Int) {m : Nat} (hm : m < p2 s.length) : barw (win s need) s.length m = win s (s.sum + 1 - need) m := by
  unfold barw win
  rw [wt_com s hm, Bool.eq_iff_iff]
  simp
  omega
theorem win_full (s : List Int) (need : Int) : win s need (p2 s.length - 1) = decide (need ≤ s.sum) := by
  have h := wt_com s (m := 0) (p2_pos _)
  have h0 : Wt s 0 = 0 := by
    rw [wt_eq s (p2_pos _)]
    have : mem 0 s.length = [] := by
      unfold mem
      rw [List.filter_eq_nil_iff]
      intro j _
      simp
    rw [this]
    rfl
  rw [h0, Nat.sub_zero] at h
  unfold win
  rw [h, Int.sub_zero]
theorem bar_one (s : List Int) (need : Int) {k : Nat} (hk : k < s.length) : barw (win s need) s.length (p2 k) = decide (s.sum - at0 s k < need) := by
  have hlt : p2 k < p2 s.length := Nat.pow_lt_pow_right (by omega) hk
  unfold barw win
  rw [wt_com s hlt, wt_eq s hlt, sm_one]
  rw [if_pos hk, Bool.eq_iff_iff]
  simp
end K69
set_option Elab.async false
set_option linter.all false
set_option maxRecDepth 100000
set_option autoImplicit false
namespace K69
open PySem PySem.Spec PyProof.Rows L2 DL
theorem v_bls (f : List Bool → Bool) (l : List Bool) : ofBls f [.lst (bD l)] = some (.bl (f l)) := by
  show ((blsOf (bD l)).map fun bs => D.bl (f bs)) = _
  unfold bD
  rw [blsOf_map]
  rfl
theorem foldl_filter (p : Nat → Bool) : ∀ (l acc : List Nat), l.foldl (fun a k => if p k = true then a ++ [k] else a) acc = acc ++ l.filter p
  | [], acc => by simp
  | k :: l, acc => by
    rw [List.foldl_cons, foldl_filter p l]
    cases h : p k with
    | true => rw [if_pos rfl, List.filter_cons_of_pos h, List.append_assoc]; rfl
    | false => rw [if_neg Bool.false_ne_true, List.filter_cons_of_neg (by rw [h]; exact Bool.false_ne_true)]
theorem in_masks (F : FD) (hF : ∀ p m : Nat, F [I p, I m] = .ret (.im (.bl (m.testBit p))) []) (d0 d1 : D) (n p : Nat) (ms found : List Nat) (hl : ms.length ≤ 1024) :
    lcLoop (tgN 6) tyes (toI (callG F (fCons (fVar 5) (fCons (fVar 6) fNil)))) [6] (nD ms) [] [some (.im d0), some (.im d1), some (I n), some (.im (.lst (nD ms))), some (.mu true (nD found)), some (I p), none] = .ok (bD (ms.map (·.testBit p)), [some (.im d0), some (.im d1), some (I n), some (.im (.lst (nD ms))), some (.mu true (nD found)), some (I p), none]) := by
  have key := lc_loop (i := 6) (ft := tyes) (fe := callG F (fCons (fVar 5) (fCons (fVar 6) fNil))) (ρ := [some (.im d0), some (.im d1), some (I n), some (.im (.lst (nD ms))), some (.mu true (nD found)), some (I p), none]) (fun _ => true) (fun d => .bl ((natOf d).testBit p)) rfl (nD ms) [] (fun d _ => rfl) (fun d hd _ => by
      obtain ⟨k, hk', rfl⟩ := List.mem_map.mp hd
      rw [natOf_nat]
      simp -implicitDefEqProofs [hF]) (lenB _ (by rw [nD_len]; omega))
  have e1 : (nD ms).filter (fun _ => true) = nD ms := List.filter_eq_self.mpr fun _ _ => rfl
  have e2 : (nD ms).map (fun d => D.bl ((natOf d).testBit p)) = bD (ms.map (·.testBit p)) := by
    unfold nD bD
    rw [List.map_map, List.map_map]
    apply List.map_congr_left
    intro k _
    show D.bl ((natOf (.int (k : Int))).testBit p) = _
    rw [natOf_nat]
    rfl
  rw [e1, e2, List.nil_append] at key
  exact key
theorem needless_g (F1 F2 F3 F4 : FD) {sq : D} {s : List Int} {need : Int} {T : List D} {ms : List Nat} (hn : s.length ≤ 10) (hl : ms.length ≤ 1024) (hq : lenD [sq] = some (.int s.length)) (h1 : F1 [.im sq, I need] = .ret (.im .non) [])
    (hF : ∀ p m : Nat, F2 [I p, I m] = .ret (.im (.bl (m.testBit p))) []) (h4 : F4 [.im sq, I need] = .ret (.nw T) []) (h3 : F3 [.im (.lst T), I s.length] = .ret (.nw (nD ms)) []) :
    ∃ ρ, g_needless F1 F2 F3 F4 [some (.im sq), some (I need), none, none, none, none, none] = .ok (.rt (.im (.tup (nD ((List.range s.length).filter fun p => !ms.any (·.testBit p))))) ρ) := by
  refine ⟨[some (.im sq), some (I need), some (I s.length), some (.im (.lst (nD ms))), some (.mu true (nD ((List.range s.length).filter fun p => !ms.any (·.testBit p)))), none, none], ?_⟩
  have r1 := @rng1_nat s.length (by omega)
  have r2 : (List.range s.length).map (fun k : Nat => D.int (k : Int)) = nD (List.range s.length) := rfl
  have key := (loop_fold (tgt := tgN 5) (body := b_needless1 F1 F2 F3 F4) (ws := [5, 6]) (fun found : List Nat => [some (.im sq), some (I need), some (I s.length), some (.im (.lst (nD ms))), some (.mu true (nD found)), none, none]) (fun found d => if (!ms.any (·.testBit (natOf d))) = true then found ++ [natOf d] else found) (fun k found => found.length ≤ k) (nD (List.range s.length)) [] 0 (Nat.le_refl 0) (fun i d found hd hP => by
    have hd' := List.mem_of_getElem? hd
    obtain ⟨p, hp, rfl⟩ := List.mem_map.mp hd'
    rw [natOf_nat]
    have hi : i < s.length := by
      have := (List.getElem?_eq_some_iff.mp hd).1
      rw [nD_len, List.length_range] at this
      exact this
    have k1 := in_masks F2 hF sq (.int need) s.length p ms found hl
    have k2 := v_bls (·.any id) (ms.map (·.testBit p))
    have k3 : (ms.map (·.testBit p)).any id = ms.any (·.testBit p) := by rw [List.any_map]; rfl
    rw [k3] at k2
    have k4 := v_app found p (by omega)
    cases z : ms.any (·.testBit p) with
    | true =>
      rw [z] at k2
      rw [if_neg (by simp)]
      refine ⟨by omega, [some (.im sq), some (I need), some (I s.length), some (.im (.lst (nD ms))), some (.mu true (nD found)), some (I p), none], [some (.im sq), some (I need), some (I s.length), some (.im (.lst (nD ms))), some (.mu true (nD found)), some (I p), none], rfl, .inl ?_, rfl⟩
      unfold b_needless1
      simp -implicitDefEqProofs [k1, k2]
    | false =>
      rw [z] at k2
      rw [if_pos (by simp)]
      refine ⟨by simp; omega, [some (.im sq), some (I need), some (I s.length), some (.im (.lst (nD ms))), some (.mu true (nD found)), some (I p), none], [some (.im sq), some (I need), some (I s.length), some (.im (.lst (nD ms))), some (.mu true (nD (found ++ [p]))), some (I p), none], rfl, .inl ?_, rfl⟩
      unfold b_needless1
      simp -implicitDefEqProofs [k1, k2, k4])).1
  have e : (nD (List.range s.length)).foldl (fun found d => if (!ms.any (·.testBit (natOf d))) = true then found ++ [natOf d] else found) [] = (List.range s.length).filter fun p => !ms.any (·.testBit p) := by
    have := foldl_filter (fun p => !ms.any (·.testBit p)) (List.range s.length) []
    rw [List.nil_append] at this
    rw [← this]
    unfold nD
    rw [List.foldl_map]
    simp only [natOf_nat]
  rw [e] at key
  have e0 : nD [] = [] := rfl
  rw [e0] at key
  unfold g_needless
  simp -implicitDefEqProofs [hq, h1, h3, h4, r1, r2]
  rw [key]
  simp -implicitDefEqProofs
theorem needless {sq : D} {s : List Int} {need : Int} (S : Sq sq s) (g : Game s need) : F_needless [.im sq, I need] = .ret (.im (.tup (nD ((List.range s.length).filter fun p => !(leastL (win s need) s.length).any (·.testBit p))))) [] :=
  run_im (ds := [sq, .int need]) (needless_g _ _ _ _ g.2.1 (leastL_len _ _ g.2.1) S.l (check_game S g) is_in (winning_masks S need g.2.1) (least_masks _ _ g.2.1))
theorem must_be_in_g (F1 F2 F3 F4 : FD) {sq : D} {s : List Int} {need : Int} {T : List D} {ms : List Nat} (hn : s.length ≤ 10) (hl : ms.length ≤ 1024) (hq : lenD [sq] = some (.int s.length)) (h1 : F1 [.im sq, I need] = .ret (.im .non) [])
    (hF : ∀ p m : Nat, F2 [I p, I m] = .ret (.im (.bl (m.testBit p))) []) (h4 : F4 [.im sq, I need] = .ret (.nw T) []) (h3 : F3 [.im (.lst T), I s.length] = .ret (.nw (nD ms)) []) :
    ∃ ρ, g_must_be_in F1 F2 F3 F4 [some (.im sq), some (I need), none, none, none, none, none] = .ok (.rt (.im (.tup (nD ((List.range s.length).filter fun p => !ms.isEmpty && ms.all (·.testBit p))))) ρ) := by
  cases hms : ms with
  | nil =>
    refine ⟨[some (.im sq), some (I need), some (I s.length), some (.im (.lst (nD ms))), none, none, none], ?_⟩
    subst hms
    have e : (List.range s.length).filter (fun p => !([] : List Nat).isEmpty && ([] : List Nat).all (·.testBit p)) = [] := by
      rw [List.filter_eq_nil_iff]
      intro j _
      simp
    rw [e]
    unfold g_must_be_in
    simp -implicitDefEqProofs [hq, h1, h3, h4, show nD [] = [] from rfl]
  | cons m0 ms0 =>
  rw [← hms]
  have hne : ms.isEmpty = false := by rw [hms]; rfl
  have hne2 : (nD ms).isEmpty = false := by rw [hms]; rfl
  rw [hne]
  simp only [Bool.not_false, Bool.true_and]
  refine ⟨[some (.im sq), some (I need), some (I s.length), some (.im (.lst (nD ms))), some (.mu true (nD ((List.range s.length).filter fun p => ms.all (·.testBit p)))), none, none], ?_⟩
  have r1 := @rng1_nat s.length (by omega)
  have r2 : (List.range s.length).map (fun k : Nat => D.int (k : Int)) = nD (List.range s.length) := rfl
  have key := (loop_fold (tgt := tgN 5) (body := b_must_be_in1 F1 F2 F3 F4) (ws := [5, 6]) (fun found : List Nat => [some (.im sq), some (I need), some (I s.length), some (.im (.lst (nD ms))), some (.mu true (nD found)), none, none]) (fun found d => if (ms.all (·.testBit (natOf d))) = true then found ++ [natOf d] else found) (fun k found => found.length ≤ k) (nD (List.range s.length)) [] 0 (Nat.le_refl 0) (fun i d found hd hP => by
    have hd' := List.mem_of_getElem? hd
    obtain ⟨p, hp, rfl⟩ := List.mem_map.mp hd'
    rw [natOf_nat]
    have hi : i < s.length := by
      have := (List.getElem?_eq_some_iff.mp hd).1
      rw [nD_len, List.length_range] at this
      exact this
    have k1 := in_masks F2 hF sq (.int need) s.length p ms found hl
    have k2 := v_bls (·.all id) (ms.map (·.testBit p))
    have k3 : (ms.map (·.testBit p)).all id = ms.all (·.testBit p) := by rw [List.all_map]; rfl
    rw [k3] at k2
    have k4 := v_app found p (by omega)
    cases z : ms.all (·.testBit p) with
    | false =>
      rw [z] at k2
      rw [if_neg (by simp)]
      refine ⟨by omega, [some (.im sq), some (I need), some (I s.length), some (.im (.lst (nD ms))), some (.mu true (nD found)), some (I p), none], [some (.im sq), some (I need), some (I s.length), some (.im (.lst (nD ms))), some (.mu true (nD found)), some (I p), none], rfl, .inl ?_, rfl⟩
      unfold b_must_be_in1
      simp -implicitDefEqProofs [k1, k2]
    | true =>
      rw [z] at k2
      rw [if_pos rfl]
      refine ⟨by simp; omega, [some (.im sq), some (I need), some (I s.length), some (.im (.lst (nD ms))), some (.mu true (nD found)), some (I p), none], [some (.im sq), some (I need), some (I s.length), some (.im (.lst (nD ms))), some (.mu true (nD (found ++ [p]))), some (I p), none], rfl, .inl ?_, rfl⟩
      unfold b_must_be_in1
      simp -implicitDefEqProofs [k1, k2, k4])).1
  have e : (nD (List.range s.length)).foldl (fun found d => if (ms.all (·.testBit (natOf d))) = true then found ++ [natOf d] else found) [] = (List.range s.length).filter fun p => ms.all (·.testBit p) := by
    have := foldl_filter (fun p => ms.all (·.testBit p)) (List.range s.length) []
    rw [List.nil_append] at this
    rw [← this]
    unfold nD
    rw [List.foldl_map]
    simp only [natOf_nat]
  rw [e] at key
  have e0 : nD [] = [] := rfl
  rw [e0] at key
  unfold g_must_be_in
  simp -implicitDefEqProofs [hq, h1, h3, h4, r1, r2, hne2]
  rw [key]
  simp -implicitDefEqProofs
theorem must_be_in {sq : D} {s : List Int} {need : Int} (S : Sq sq s) (g : Game s need) : F_must_be_in [.im sq, I need] = .ret (.im (.tup (nD ((List.range s.length).filter fun p => !(leastL (win s need) s.length).isEmpty && (leastL (win s need) s.length).all (·.testBit p))))) [] :=
  run_im (ds := [sq, .int need]) (must_be_in_g _ _ _ _ g.2.1 (leastL_len _ _ g.2.1) S.l (check_game S g) is_in (winning_masks S need g.2.1) (least_masks _ _ g.2.1))
end K69
set_option Elab.async false
set_option linter.all false
set_option maxRecDepth 100000
set_option autoImplicit false
namespace K69
open PySem PySem.Spec PyProof.Rows L2 DL
theorem log_le {n : Nat} (h : n < 2 ^ 64) : n.log2 ≤ 64 := by
  by_cases z : n = 0
  · subst z; decide
  · exact Nat.le_of_lt ((Nat.log2_lt z).mpr h)
theorem v_mul {a b : Int} (ha : a.natAbs < 2 ^ 64) (hb : b.natAbs < 2 ^ 64) : mulD (.int a) (.int b) = some (.val (.int (a * b))) := by
  have h1 := log_le ha
  have h2 := log_le hb
  show ((mulI a b).map Pl.val).or (repL (.int a) (.int b)) = _
  unfold mulI
  rw [if_pos (by omega)]
  rfl
theorem v_mod {a b : Int} (h : 0 < b) : modD (.int a) (.int b) = some (.val (.int (a % b))) := by
  show (modI a b).map Pl.val = _
  unfold modI
  rw [if_pos h]
  rfl
theorem v_div {a b : Int} (h : 0 < b) (h2 : b < 2 ^ 64) : divD (.int a) (.int b) = some (.val (.int (a / b))) := by
  have := log_le (n := b.natAbs) (by omega)
  show (divI a b).map Pl.val = _
  unfold divI
  rw [if_pos ⟨h, by omega⟩]
  rfl
theorem law_mix (a : Int) : ∃ b, F_law_mix [I a] = .ret (.im (.int b)) [] := by
  have e1 := v_mod (a := a) (b := 2305843009213693951) (by decide)
  have l1 := Int.emod_nonneg a (b := 2305843009213693951) (by decide)
  have l2 := Int.emod_lt_of_pos a (b := 2305843009213693951) (by decide)
  generalize a % 2305843009213693951 = x at e1 l1 l2
  have e2 := v_mul (a := x) (b := x) (by omega) (by omega)
  have e3 := v_mod (a := x * x + 1442695040888963407) (b := 2305843009213693951) (by decide)
  have l3 := Int.emod_nonneg (x * x + 1442695040888963407) (b := 2305843009213693951) (by decide)
  have l4 := Int.emod_lt_of_pos (x * x + 1442695040888963407) (b := 2305843009213693951) (by decide)
  generalize (x * x + 1442695040888963407) % 2305843009213693951 = y at e3 l3 l4
  have e4 := v_mul (a := y) (b := y) (by omega) (by omega)
  have e5 := v_mod (a := y * y + 88172645463325252) (b := 2305843009213693951) (by decide)
  refine ⟨(y * y + 88172645463325252) % 2305843009213693951, ?_⟩
  refine run_im (ds := [.int a]) ⟨[some (I y), some (I 2305843009213693951)], ?_⟩
  unfold g_law_mix
  simp -implicitDefEqProofs [e1, e2, e3, e4, e5]
def NextOk (F : FD) : Prop := ∀ (st : List Int) (many : Int), 1 ≤ st.length → 1 ≤ many → many < 2 ^ 60 → ∃ t st', F [.mu false (iD st), I many] = .ret (.im (.int t)) [iD st'] ∧ 0 ≤ t ∧ t < many ∧ 1 ≤ st'.length
/-- a def with one list that it may change, then a plain value -/
theorem run_mu {n : Nat} {g : En → R Fl} {es es' : List D} {d : D} {r : Rv} (h : ∃ ρ', g (startEn n [.mu false es, .im d]) = .ok (.rt r (some (.mu false es') :: ρ'))) : runF n 2 g [.mu false es, .im d] = .ret r [es'] := by
  obtain ⟨ρ', h⟩ := h
  unfold runF
  rw [if_pos (show [Sl.mu false es, Sl.im d].length = 2 from rfl), h]
  rfl
theorem law_next_g (F : FD) (hF : ∀ a : Int, ∃ b, F [I a] = .ret (.im (.int b)) []) (st : List Int) (many : Int) (hl : 1 ≤ st.length) (hm : 1 ≤ many) (hm2 : many < 2 ^ 60) :
    ∃ t st' ρ, g_law_next F [some (.mu false (iD st)), some (I many), none] = .ok (.rt (.im (.int t)) (some (.mu false (iD st')) :: ρ)) ∧ 0 ≤ t ∧ t < many ∧ 1 ≤ st'.length := by
  match st, hl with
  | [a], _ =>
    obtain ⟨b, hb⟩ := hF a
    have e0 : iD [a] = [.int a] := rfl
    have e1 : atI [D.int a] 0 = some (.int a) := rfl
    have e1' : atI [D.int b] 0 = some (.int b) := rfl
    have e2 : ixN 1 0 = some 0 := rfl
    have e3 := v_div (a := b) (b := 1009) (by decide) (by decide)
    have e4 := v_mod (a := b / 1009) (b := many) (by omega)
    refine ⟨b / 1009 % many, [b], [some (I many), none], ?_, Int.emod_nonneg _ (by omega), Int.emod_lt_of_pos _ (by omega), by simp⟩
    unfold g_law_next
    rw [e0]
    simp -implicitDefEqProofs [hb, e1, e1', e2, e3, e4, iD]
  | a :: b :: r, _ =>
    have e0 : iD (a :: b :: r) = .int a :: .int b :: iD r := rfl
    have e0' : iD (a :: b / many :: r) = .int a :: .int (b / many) :: iD r := rfl
    have e0'' : iD (a :: r) = .int a :: iD r := rfl
    have c1 : (1 : Int) < (r.length : Int) + 1 + 1 := by omega
    have e1 : atI (D.int a :: D.int b :: iD r) 1 = some (.int b) := at_nat (k := 1) (by simp)
    have e1' : atI (D.int a :: D.int (b / many) :: iD r) 1 = some (.int (b / many)) := at_nat (k := 1) (by simp)
    have e2 : ixN (r.length + 1 + 1) 1 = some 1 := by
      unfold ixN
      rw [if_pos (by omega), if_pos (by omega)]
      rfl
    have e3 := v_div (a := b) (b := many) (by omega) (by omega)
    have e4 := v_mod (a := b) (b := many) (by omega)
    have e5 := v_eqI (b / many) 0
    have e6 : popAtD (.int a :: .int (b / many) :: iD r) [.int 1] = some (.int a :: iD r, .int (b / many)) := by
      have hh : -(2 ^ 63) ≤ (1 : Int) ∧ (1 : Int) < 2 ^ 63 := by decide
      unfold popAtD
      dsimp only
      rw [if_pos hh]
      have : seqIndex? 1 (D.int a :: D.int (b / many) :: iD r).length = some 1 := by
        unfold seqIndex?
        simp
        omega
      rw [this]
      rfl
    by_cases z : b / many = 0
    · refine ⟨b % many, a :: r, [some (I many), some (I (b % many))], ?_, Int.emod_nonneg _ (by omega), Int.emod_lt_of_pos _ (by omega), by simp⟩
      have z' : decide (b / many = 0) = true := by simp [z]
      rw [z'] at e5
      unfold g_law_next
      rw [e0, e0'']
      simp -implicitDefEqProofs only [a_seq, a_if, a_toB, a_bin, a_bi, a_cons, a_settle, a_nil, a_var, a_c, a_viewS, a_viewV, a_vw, a_vwNil, a_oR, R.ok_bind, List.getElem?_cons_zero, List.getElem?_cons_succ, v_lenL, List.length_cons, iD_len, Option.map_some]
      simp -implicitDefEqProofs [c1, e1, e1', e2, e3, e4, e5, e6]
    · refine ⟨b % many, a :: (b / many) :: r, [some (I many), some (I (b % many))], ?_, Int.emod_nonneg _ (by omega), Int.emod_lt_of_pos _ (by omega), by simp⟩
      have z' : decide (b / many = 0) = false := by simp [z]
      rw [z'] at e5
      unfold g_law_next
      rw [e0, e0']
      simp -implicitDefEqProofs [c1, e1, e1', e2, e3, e4, e5, e6]
theorem law_next : NextOk F_law_next := fun st many h1 h2 h3 => by
  obtain ⟨t, st', ρ, h, r⟩ := law_next_g F_law_mix law_mix st many h1 h2 h3
  exact ⟨t, st', run_mu ⟨ρ, h⟩, r⟩
end K69
set_option Elab.async false
set_option linter.all false
set_option maxRecDepth 100000
set_option maxHeartbeats 0
set_option autoImplicit false
namespace K69
open PySem PySem.Spec PyProof.Rows L2 DL
theorem v_eqT {i j : Int} (h : i = j) : cmpG eqD (.int i) (.int j) = some (.val (.bl true)) := by rw [v_eqI]; simp [h]
theorem v_eqF {i j : Int} (h : i ≠ j) : cmpG eqD (.int i) (.int j) = some (.val (.bl false)) := by rw [v_eqI]; simp [h]
theorem v_appI (l : List Int) (k : Int) (h : l.length ≤ 2000) : appD (iD l) [.int k] = some (iD (l ++ [k]), .non) := by
  have : (iD l).length < sizeLine := by rw [iD_len, sizeLine_eq]; omega
  show (if (iD l).length < sizeLine then some (iD l ++ [.int k], D.non) else none) = _
  rw [if_pos this]
  simp [iD]
/-! ### the opening -/
theorem law_open1 (F : FD) (hF : ∀ a : Int, ∃ b, F [I a] = .ret (.im (.int b)) []) (D0 : D) : ∀ (ns st : List Int) (seed : Int), st.length + ns.length ≤ 1000 → 1 ≤ st.length →
    ∃ st' seed', loopG (tgN 3) (b_law_open1 F) [3] (iD ns) [some (.im D0), some (I seed), some (.mu true (iD st)), none] = .ok (.nx [some (.im D0), some (I seed'), some (.mu true (iD st')), none]) ∧ 1 ≤ st'.length
  | [], st, seed, _, h => ⟨st, seed, rfl, h⟩
  | x :: ns, st, seed, hl, h => by
    obtain ⟨b, hb⟩ := hF (seed + 1 + x)
    have e0 : powD (.int 10) (.int 18) = some (.val (.int 1000000000000000000)) := by
      have hh : 0 ≤ (18 : Int) ∧ (18 : Int) ≤ 1000000 ∧ (10 : Int).natAbs < 2 ^ 64 := by decide
      show (powI 10 18).map Pl.val = _
      unfold powI
      rw [if_pos hh]
      rfl
    rw [List.length_cons] at hl
    have e1 := v_appI st x (by omega)
    have key : ∃ st2 : List Int, b_law_open1 F [some (.im D0), some (I seed), some (.mu true (iD st)), some (I x)] = .ok (.nx [some (.im D0), some (I b), some (.mu true (iD st2)), some (I x)]) ∧ 1 ≤ st2.length ∧ st2.length ≤ st.length + 1 := by
      by_cases z : (1000000000000000000 : Int) ≤ x
      · refine ⟨st ++ [x], ?_, by simp, by simp⟩
        unfold b_law_open1
        simp -implicitDefEqProofs [hb, e0, e1, z]
      · refine ⟨st, ?_, h, by omega⟩
        unfold b_law_open1
        simp -implicitDefEqProofs [hb, e0, e1, z]
    obtain ⟨st2, k1, k2, k3⟩ := key
    obtain ⟨st', seed', h1, h2⟩ := law_open1 F hF D0 ns st2 b (by omega) k2
    refine ⟨st', seed', ?_, h2⟩
    have e2 : iD (x :: ns) = .int x :: iD ns := rfl
    rw [e2, show loopG (tgN 3) (b_law_open1 F) [3] (.int x :: iD ns) [some (.im D0), some (I seed), some (.mu true (iD st)), none] = (b_law_open1 F [some (.im D0), some (I seed), some (.mu true (iD st)), some (I x)]).bind fun f => match f with
        | .nx ρ2 => loopG (tgN 3) (b_law_open1 F) [3] (iD ns) (wipeMu ρ2 [3])
        | .ct ρ2 => loopG (tgN 3) (b_law_open1 F) [3] (iD ns) (wipeMu ρ2 [3])
        | .bk ρ2 => .ok (.nx (wipeMu ρ2 [3]))
        | .rt r ρ2 => .ok (.rt r ρ2) from rfl, k1, R.ok_bind]
    exact h1
theorem law_open_g (F : FD) (hF : ∀ a : Int, ∃ b, F [I a] = .ret (.im (.int b)) []) (ns : List Int) (hl : ns.length ≤ 63) : ∃ st ρ, g_law_open F [some (.im (.frz (iD ns))), none, none, none] = .ok (.rt (.nw (iD st)) ρ) ∧ 1 ≤ st.length := by
  obtain ⟨st, seed, h1, h2⟩ := law_open1 F hF (.frz (iD ns)) ns [0] 20261119 (by simp; omega) (by simp)
  have e0 : iD [0] = [D.int 0] := rfl
  rw [e0] at h1
  have e1 : ixN st.length 0 = some 0 := by
    unfold ixN
    rw [if_pos (by omega), if_pos (by omega)]
    rfl
  have e2 : (iD st).set 0 (.int seed) = iD (st.set 0 seed) := by
    unfold iD
    rw [List.map_set]
  refine ⟨st.set 0 seed, [some (.im (.frz (iD ns))), some (I seed), none, none], ?_, by simp; omega⟩
  unfold g_law_open
  simp -implicitDefEqProofs [h1, e1, e2]
theorem law_open (ns : List Int) (hl : ns.length ≤ 63) : ∃ st, F_law_open [.im (.frz (iD ns))] = .ret (.nw (iD st)) [] ∧ 1 ≤ st.length := by
  obtain ⟨st, ρ, h1, h2⟩ := law_open_g F_law_mix law_mix ns hl
  exact ⟨st, run_im (ds := [.frz (iD ns)]) ⟨ρ, h1⟩, h2⟩
/-! ### a game -/
theorem mul_bd {a b : Int} (h1 : 0 ≤ a) (h2 : a ≤ 100) (h3 : 0 ≤ b) (h4 : b ≤ 10) : 0 ≤ a * b ∧ a * b ≤ 1000 := by
  have := Int.mul_le_mul h2 h4 h3 (by decide : (0 : Int) ≤ 100)
  exact ⟨Int.mul_nonneg h1 h3, this⟩
theorem law_game1 (F : FD) (hF : NextOk F) (st seats : List Int) (most base spread k : Int) (hs : 1 ≤ st.length) (hl : seats.length ≤ 100) (b1 : 0 ≤ base) (b2 : base ≤ 100) (s1 : 2 ≤ spread) (s2 : spread ≤ 11) :
    ∃ st' x kind, b_law_game1 F [some (.mu false (iD st)), some (I most), some (I base), some (I spread), some (.mu true (iD seats)), some (I k), none, none, none, none] = .ok (.nx [some (.mu false (iD st')), some (I most), some (I base), some (I spread), some (.mu true (iD (seats ++ [x]))), some (I k), some (I kind), some (I x), none, none]) ∧ 1 ≤ st'.length ∧ 0 ≤ x ∧ x ≤ 1000 := by
  obtain ⟨t1, st1, f1, p1, q1, l1⟩ := hF st 8 hs (by decide) (by decide)
  obtain ⟨t2, st2, f2, p2', q2, l2⟩ := hF st1 spread l1 (by omega) (by omega)
  obtain ⟨t3, st3, f3, p3, q3, l3⟩ := hF st2 1001 l2 (by decide) (by decide)
  have m1 := mul_bd b1 b2 p2' (by omega)
  have m2 := mul_bd b1 b2 (by omega : 0 ≤ spread - 1) (by omega)
  have v1 := v_mul (a := base) (b := t2) (by omega) (by omega)
  have v2 := v_mul (a := base) (b := spread - 1) (by omega) (by omega)
  by_cases z0 : t1 = 0
  · refine ⟨st2, 0, t1, ?_, l2, by decide, by decide⟩
    have c0 := v_eqT z0
    have c1 := v_eqF (i := t1) (j := 1) (by omega)
    have c2 := v_eqF (i := t1) (j := 2) (by omega)
    have a1 := v_appI seats 0 (by omega)
    unfold b_law_game1
    simp -implicitDefEqProofs [f1, f2, v1, v2, c0, c1, c2, a1]
  by_cases z1 : t1 = 1
  · refine ⟨st3, t3, t1, ?_, l3, p3, by omega⟩
    have c0 := v_eqF (i := t1) (j := 0) (by omega)
    have c1 := v_eqT z1
    have c2 := v_eqF (i := t1) (j := 2) (by omega)
    have a1 := v_appI seats t3 (by omega)
    unfold b_law_game1
    simp -implicitDefEqProofs [f1, f2, f3, v1, v2, c0, c1, c2, a1]
  have c0 := v_eqF z0
  have c1 := v_eqF z1
  by_cases z2 : t1 = 2
  · refine ⟨st2, base * (spread - 1), t1, ?_, l2, m2.1, m2.2⟩
    have c2 := v_eqT z2
    have a1 := v_appI seats (base * (spread - 1)) (by omega)
    unfold b_law_game1
    simp -implicitDefEqProofs [f1, f2, v1, v2, c0, c1, c2, a1]
  · refine ⟨st2, base * t2, t1, ?_, l2, m1.1, m1.2⟩
    have c2 := v_eqF z2
    have a1 := v_appI seats (base * t2) (by omega)
    unfold b_law_game1
    simp -implicitDefEqProofs [f1, f2, v1, v2, c0, c1, c2, a1]
theorem law_game_loop (F : FD) (hF : NextOk F) (most base spread : Int) (b1 : 0 ≤ base) (b2 : base ≤ 100) (s1 : 2 ≤ spread) (s2 : spread ≤ 11) : ∀ (l : List Nat) (st seats : List Int), 1 ≤ st.length → seats.length + l.length ≤ 100 → (∀ x ∈ seats, 0 ≤ x ∧ x ≤ 1000) →
    ∃ st' seats', loopG (tgN 5) (b_law_game1 F) [5, 6, 7] (nD l) [some (.mu false (iD st)), some (I most), some (I base), some (I spread), some (.mu true (iD seats)), none, none, none, none, none] = .ok (.nx [some (.mu false (iD st')), some (I most), some (I base), some (I spread), some (.mu true (iD seats')), none, none, none, none, none]) ∧ 1 ≤ st'.length ∧ seats'.length = seats.length + l.length ∧ ∀ x ∈ seats', 0 ≤ x ∧ x ≤ 1000
  | [], st, seats, h1, h2, h3 => ⟨st, seats, rfl, h1, rfl, h3⟩
  | k :: l, st, seats, h1, h2, h3 => by
    rw [List.length_cons] at h2
    obtain ⟨st1, x, kind, k1, k2, k3, k4⟩ := law_game1 F hF st seats most base spread k h1 (by omega) b1 b2 s1 s2
    obtain ⟨st', seats', g1, g2, g3, g4⟩ := law_game_loop F hF most base spread b1 b2 s1 s2 l st1 (seats ++ [x]) k2 (by simp; omega) (fun y hy => by
      rw [List.mem_append, List.mem_singleton] at hy
      rcases hy with hy | rfl
      · exact h3 y hy
      · exact ⟨k3, k4⟩)
    refine ⟨st', seats', ?_, g2, by rw [g3]; simp; omega, g4⟩
    have e2 : nD (k :: l) = .int k :: nD l := rfl
    rw [e2, show loopG (tgN 5) (b_law_game1 F) [5, 6, 7] (.int k :: nD l) [some (.mu false (iD st)), some (I most), some (I base), some (I spread), some (.mu true (iD seats)), none, none, none, none, none] = (b_law_game1 F [some (.mu false (iD st)), some (I most), some (I base), some (I spread), some (.mu true (iD seats)), some (I k), none, none, none, none]).bind fun f => match f with
        | .nx ρ2 => loopG (tgN 5) (b_law_game1 F) [5, 6, 7] (nD l) (wipeMu ρ2 [5, 6, 7])
        | .ct ρ2 => loopG (tgN 5) (b_law_game1 F) [5, 6, 7] (nD l) (wipeMu ρ2 [5, 6, 7])
        | .bk ρ2 => .ok (.nx (wipeMu ρ2 [5, 6, 7]))
        | .rt r ρ2 => .ok (.rt r ρ2) from rfl, k1, R.ok_bind]
    exact g1
end K69
set_option Elab.async false
set_option linter.all false
set_option maxRecDepth 100000
set_option maxHeartbeats 0
set_option autoImplicit false
namespace K69
open PySem PySem.Spec PyProof.Rows L2 DL
theorem pick5 {t : Int} (h1 : 0 ≤ t) (h2 : t < 5) : ∃ b, atI [D.int 1, D.int 2, D.int 10, D.int 50, D.int 100] t = some (.int b) ∧ 0 ≤ b ∧ b ≤ 100 := by
  have : t = 0 ∨ t = 1 ∨ t = 2 ∨ t = 3 ∨ t = 4 := by omega
  rcases this with rfl | rfl | rfl | rfl | rfl
  · exact ⟨1, rfl, by decide, by decide⟩
  · exact ⟨2, rfl, by decide, by decide⟩
  · exact ⟨10, rfl, by decide, by decide⟩
  · exact ⟨50, rfl, by decide, by decide⟩
  · exact ⟨100, rfl, by decide, by decide⟩
theorem pick3 {t : Int} (h1 : 0 ≤ t) (h2 : t < 3) : ∃ b, atI [D.int 2, D.int 4, D.int 11] t = some (.int b) ∧ 2 ≤ b ∧ b ≤ 11 := by
  have : t = 0 ∨ t = 1 ∨ t = 2 := by omega
  rcases this with rfl | rfl | rfl
  · exact ⟨2, rfl, by decide, by decide⟩
  · exact ⟨4, rfl, by decide, by decide⟩
  · exact ⟨11, rfl, by decide, by decide⟩
theorem pick2 {t : Int} (h1 : 0 ≤ t) (h2 : t < 2) : ∃ b, atI [D.int 1, D.int 10000] t = some (.int b) ∧ 1 ≤ b ∧ b ≤ 10000 := by
  have : t = 0 ∨ t = 1 := by omega
  rcases this with rfl | rfl
  · exact ⟨1, rfl, by decide, by decide⟩
  · exact ⟨10000, rfl, by decide, by decide⟩
theorem sum_bd : ∀ s : List Int, (∀ x ∈ s, 0 ≤ x ∧ x ≤ 1000) → 0 ≤ s.sum ∧ s.sum ≤ 1000 * s.length
  | [], _ => by simp
  | x :: s, h => by
    have ih := sum_bd s fun y hy => h y (List.mem_cons_of_mem _ hy)
    have hx := h x List.mem_cons_self
    rw [List.sum_cons, List.length_cons]
    omega
theorem max_ge (a b : Int) : a ≤ maxI a b := by unfold maxI; split <;> omega
theorem min_bd (a : Int) (h : 1 ≤ a) : 1 ≤ minI a 10000 ∧ minI a 10000 ≤ 10000 := by unfold minI; split <;> omega
theorem law_game_g (F : FD) (hF : NextOk F) (st : List Int) (most : Int) (hs : 1 ≤ st.length) (m1 : 1 ≤ most) (m2 : most ≤ 10) :
    ∃ s need st' ρ, g_law_game F [some (.mu false (iD st)), some (I most), none, none, none, none, none, none, none, none] = .ok (.rt (.im (.tup [.lst (iD s), .int need])) (some (.mu false (iD st')) :: ρ)) ∧ Game s need ∧ 1 ≤ st'.length := by
  obtain ⟨t1, st1, f1, p1, q1, l1⟩ := hF st 5 hs (by decide) (by decide)
  obtain ⟨base, e1, b1, b2⟩ := pick5 p1 q1
  obtain ⟨t2, st2, f2, p2', q2, l2⟩ := hF st1 3 l1 (by decide) (by decide)
  obtain ⟨spread, e2, s1, s2⟩ := pick3 p2' q2
  obtain ⟨t3, st3, f3, p3, q3, l3⟩ := hF st2 most l2 (by omega) (by omega)
  obtain ⟨k, rfl⟩ := Int.eq_ofNat_of_zero_le p3
  obtain ⟨st4, s, g1, g2, g3, g4⟩ := law_game_loop F hF most base spread b1 b2 s1 s2 (List.range (k + 1)) st3 [] l3 (by simp; omega) (fun x hx => by cases hx)
  rw [List.length_range, List.length_nil, Nat.zero_add] at g3
  have hsum := sum_bd s g4
  rw [g3] at hsum
  obtain ⟨t5, st5, f5, p5, q5, l5⟩ := hF st4 9 g2 (by decide) (by decide)
  obtain ⟨t6, st6, f6, p6, q6, l6⟩ := hF st5 (s.sum + 1) l5 (by omega) (by omega)
  have h1 : ∀ ρ, rng1 (1 + (k : Int)) ρ = .ok (nD (List.range (k + 1)), ρ) := by
    intro ρ
    have := @rng1_nat (k + 1) (by omega) ρ
    rw [show ((k + 1 : Nat) : Int) = 1 + (k : Int) by omega] at this
    exact this
  have e0 : iD [] = [] := rfl
  rw [e0] at g1
  have v1 := v_sum s
  have v2 := v_div (a := s.sum) (b := 2) (by decide) (by decide)
  have v3 := v_mul (a := s.sum) (b := 2) (by omega) (by decide)
  have v4 := v_div (a := s.sum * 2) (b := 3) (by decide) (by decide)
  have game : ∀ need : Int, 1 ≤ need → Game s (minI need 10000) := fun need h => ⟨by omega, by omega, g4, (min_bd need h).1, (min_bd need h).2⟩
  by_cases z : t5 < 3
  · have c3 := v_eqF (i := t5) (j := 3) (by omega)
    have c4 := v_eqF (i := t5) (j := 4) (by omega)
    have c5 := v_eqF (i := t5) (j := 5) (by omega)
    have c6 := v_eqF (i := t5) (j := 6) (by omega)
    refine ⟨s, minI (s.sum / 2 + 1) 10000, st6, [some (I most), some (I base), some (I spread), some (.im (.lst (iD s))), none, some (I t5), none, some (I s.sum), some (I (s.sum / 2 + 1))], ?_, game _ (by omega), l6⟩
    unfold g_law_game
    simp -implicitDefEqProofs [f1, e1, f2, e2, f3, h1, g1, v1, f5, f6, z, v2, v3, v4, c3, c4, c5, c6]
  by_cases z3 : t5 = 3
  · have c3 := v_eqT z3
    have c4 := v_eqF (i := t5) (j := 4) (by omega)
    have c5 := v_eqF (i := t5) (j := 5) (by omega)
    have c6 := v_eqF (i := t5) (j := 6) (by omega)
    refine ⟨s, minI (maxI 1 s.sum) 10000, st6, [some (I most), some (I base), some (I spread), some (.im (.lst (iD s))), none, some (I t5), none, some (I s.sum), some (I (maxI 1 s.sum))], ?_, game _ (max_ge _ _), l6⟩
    unfold g_law_game
    simp -implicitDefEqProofs [f1, e1, f2, e2, f3, h1, g1, v1, f5, f6, z, v2, v3, v4, c3, c4, c5, c6]
  have c3 := v_eqF z3
  by_cases z4 : t5 = 4
  · have c4 := v_eqT z4
    have c5 := v_eqF (i := t5) (j := 5) (by omega)
    have c6 := v_eqF (i := t5) (j := 6) (by omega)
    refine ⟨s, minI (minI (s.sum + 1) 10000) 10000, st6, [some (I most), some (I base), some (I spread), some (.im (.lst (iD s))), none, some (I t5), none, some (I s.sum), some (I (minI (s.sum + 1) 10000))], ?_, game _ (min_bd _ (by omega)).1, l6⟩
    unfold g_law_game
    simp -implicitDefEqProofs [f1, e1, f2, e2, f3, h1, g1, v1, f5, f6, z, v2, v3, v4, c3, c4, c5, c6]
  have c4 := v_eqF z4
  by_cases z5 : t5 = 5
  · obtain ⟨t7, st7, f7, p7, q7, l7⟩ := hF st6 2 l6 (by decide) (by decide)
    obtain ⟨nd, e7, n1, n2⟩ := pick2 p7 q7
    have c5 := v_eqT z5
    have c6 := v_eqF (i := t5) (j := 6) (by omega)
    refine ⟨s, minI nd 10000, st7, [some (I most), some (I base), some (I spread), some (.im (.lst (iD s))), none, some (I t5), none, some (I s.sum), some (I nd)], ?_, game _ n1, l7⟩
    unfold g_law_game
    simp -implicitDefEqProofs [f1, e1, f2, e2, f3, h1, g1, v1, f5, f6, f7, e7, z, v2, v3, v4, c3, c4, c5, c6]
  have c5 := v_eqF z5
  by_cases z6 : t5 = 6
  · have c6 := v_eqT z6
    refine ⟨s, minI (maxI 1 (s.sum * 2 / 3)) 10000, st6, [some (I most), some (I base), some (I spread), some (.im (.lst (iD s))), none, some (I t5), none, some (I s.sum), some (I (maxI 1 (s.sum * 2 / 3)))], ?_, game _ (max_ge _ _), l6⟩
    unfold g_law_game
    simp -implicitDefEqProofs [f1, e1, f2, e2, f3, h1, g1, v1, f5, f6, z, v2, v3, v4, c3, c4, c5, c6]
  · have c6 := v_eqF z6
    refine ⟨s, minI (1 + t6) 10000, st6, [some (I most), some (I base), some (I spread), some (.im (.lst (iD s))), none, some (I t5), none, some (I s.sum), some (I (1 + t6))], ?_, game _ (by omega), l6⟩
    unfold g_law_game
    simp -implicitDefEqProofs [f1, e1, f2, e2, f3, h1, g1, v1, f5, f6, z, v2, v3, v4, c3, c4, c5, c6]
theorem law_game (st : List Int) (most : Int) (hs : 1 ≤ st.length) (m1 : 1 ≤ most) (m2 : most ≤ 10) : ∃ s need st', F_law_game [.mu false (iD st), I most] = .ret (.im (.tup [.lst (iD s), .int need])) [iD st'] ∧ Game s need ∧ 1 ≤ st'.length := by
  obtain ⟨s, need, st', ρ, h, g⟩ := law_game_g F_law_next law_next st most hs m1 m2
  exact ⟨s, need, st', run_mu ⟨ρ, h⟩, g⟩
end K69
set_option Elab.async false
set_option linter.all false
set_option maxRecDepth 100000
set_option maxHeartbeats 0
set_option autoImplicit false
namespace K69
open PySem PySem.Spec PyProof.Rows L2 DL
/-! ### lists of numbers, compared -/
def iP (l : List Int) : List PyData := l.map PyData.int
theorem toPyL_iD : ∀ l : List Int, toPyL (iD l) = some (iP l)
  | [] => rfl
  | k :: l => by
    show (match toPy (.int k), toPyL (iD l) with | some p, some ps => some (p :: ps) | _, _ => none) = _
    rw [toPyL_iD l]
    rfl
theorem eqvAll_iP : ∀ l : List Int, PyData.eqvAll (iP l) (iP l) = true
  | [] => by simp [iP, PyData.eqvAll]
  | k :: l => by
    show PyData.eqvAll (PyData.int k :: iP l) (PyData.int k :: iP l) = true
    rw [PyData.eqvAll, eqvAll_iP l]
    simp [PyData.eqv]
theorem depth_iP : ∀ a : List Int, PyData.depthAll (iP a) ≤ 1
  | [] => by simp [iP, PyData.depthAll]
  | x :: a => by
    have := depth_iP a
    show PyData.depthAll (PyData.int x :: iP a) ≤ 1
    simp only [PyData.depthAll, PyData.depth]
    omega
theorem can_iP : ∀ a : List Int, PyData.canLayAll0 (iP a) = true
  | [] => by simp [iP, PyData.canLayAll0]
  | x :: a => by
    show PyData.canLayAll0 (PyData.int x :: iP a) = true
    rw [PyData.canLayAll0, can_iP a]
    simp [PyData.canLay0]
theorem eq_tup (l : List Int) : eqD (.tup (iD l)) (.tup (iD l)) = some true := by
  have e : toPy (.tup (iD l)) = some (.tuple (iP l)) := by
    show (toPyL (iD l)).map PyData.tuple = _
    rw [toPyL_iD]; rfl
  have hs : SeqAt.shaped (.tuple (iP l)) = true := by
    have := depth_iP l
    unfold SeqAt.shaped
    simp [PyData.canLay0, can_iP, PyData.depth]
    omega
  have he : PyData.eqv (.tuple (iP l)) (.tuple (iP l)) = true := by simp [PyData.eqv, eqvAll_iP]
  show (eqS _ _).or (eqDeep _ _) = _
  unfold eqDeep
  rw [e]
  dsimp only
  rw [if_pos ⟨hs, hs⟩, he]
  rfl
theorem eq_lst (l : List Int) : eqD (.lst (iD l)) (.lst (iD l)) = some true := by
  have e : toPy (.lst (iD l)) = some (.list (iP l)) := by
    show (toPyL (iD l)).map PyData.list = _
    rw [toPyL_iD]; rfl
  have hs : SeqAt.shaped (.list (iP l)) = true := by
    have := depth_iP l
    unfold SeqAt.shaped
    simp [PyData.canLay0, can_iP, PyData.depth]
    omega
  have he : PyData.eqv (.list (iP l)) (.list (iP l)) = true := by simp [PyData.eqv, eqvAll_iP]
  show (eqS _ _).or (eqDeep _ _) = _
  unfold eqDeep
  rw [e]
  dsimp only
  rw [if_pos ⟨hs, hs⟩, he]
  rfl
theorem nD_iD (l : List Nat) : nD l = iD (l.map fun k : Nat => (k : Int)) := by
  unfold nD iD
  rw [List.map_map]
  rfl
theorem v_eqTup (l : List Nat) : cmpG eqD (.tup (nD l)) (.tup (nD l)) = some (.val (.bl true)) := by
  show ((eqD (.tup (nD l)) (.tup (nD l))).map D.bl).map Pl.val = _
  rw [nD_iD, eq_tup]
  rfl
theorem v_neLst (l : List Int) : cmpG neD (.lst (iD l)) (.lst (iD l)) = some (.val (.bl false)) := by
  show (((eqD (.lst (iD l)) (.lst (iD l))).map (!·)).map D.bl).map Pl.val = _
  rw [eq_lst]
  rfl
def srt (l : List Nat) : List Int := (l.map fun k : Nat => (k : Int)).mergeSort fun a b => decide (a ≤ b)
theorem v_sort (l : List Nat) : sortI [.lst (nD l)] = some (.new (iD (srt l))) := by
  show (((intsOf (nD l))).map fun ns => Pl.new ((ns.mergeSort fun a b => decide (a ≤ b)).map D.int)) = _
  rw [nD_iD]
  unfold iD
  rw [intsOf_map]
  rfl
theorem srt_pair (l : List Nat) : (srt l).Pairwise (· ≤ ·) := sorted_ms _
theorem srt_eq {a b : List Nat} (h : a.Perm b) : srt a = srt b :=
  sorted_one (((List.mergeSort_perm _ _).trans (h.map _)).trans (List.mergeSort_perm _ _).symm) (srt_pair a) (srt_pair b)
/-! ### who is idle, who must be in -/
theorem law_single_g (F1 F2 F3 F4 F5 : FD) (s : List Int) (need : Int) (L B idle must : List Nat) (hn : s.length ≤ 10) (hL : L.length ≤ 1024) (hid : idle.length ≤ 1000) (hmu0 : must.length ≤ 1000)
    (h1 : ∀ m : Nat, F1 [I m, .im (.lst (nD L))] = .ret (.im (.bl (meetsB L m))) []) (h2 : ∀ l : List Nat, l.length ≤ 1000 → F2 [.im (.tup (nD l)), .im (.tup (nD l))] = .ret (.im (.bl true)) [])
    (h3 : ∀ m : Nat, F3 [I m, .im (.lst (nD L))] = .ret (.im (.bl (sharedB L m))) []) (h4 : F4 [.im (.lst (iD s)), I need] = .ret (.im (.tup (nD must))) []) (h5 : F5 [.im (.lst (iD s)), I need] = .ret (.im (.tup (nD idle))) [])
    (i1 : (List.range s.length).filter (fun k => !sharedB L (p2 k)) = idle)
    (i2 : (List.range s.length).filter (fun k => decide (need ≤ s.sum) && decide (s.sum - at0 s k < need)) = must)
    (i3 : (List.range s.length).filter (fun k => decide (0 < L.length) && meetsB L (p2 k)) = must)
    (i4 : (List.range s.length).filter (fun k => B.any fun z => z == p2 k) = must) :
    ∃ ρ, g_law_single F1 F2 F3 F4 F5 [some (.im (.lst (iD s))), some (I need), some (.im (.lst (nD L))), some (.im (.lst (nD B))), none, none, none, none, none] = .ok (.rt (.im (.bl true)) ρ) := by
  have r1 := @rng1_nat s.length (by omega)
  have r2 : (List.range s.length).map (fun k : Nat => D.int (k : Int)) = nD (List.range s.length) := rfl
  have hb : (nD (List.range s.length)).length ≤ 2000 := by rw [nD_len, List.length_range]; omega
  have k1 := lc_loop (i := 6) (ft := notT (truT (callG F3 (fCons (bin (fC (.int 1)) (fVar 6) shlD) (fCons (fVar 2) fNil))))) (fe := fVar 6) (ρ := [some (.im (.lst (iD s))), some (I need), some (.im (.lst (nD L))), some (.im (.lst (nD B))), some (I s.length), none, none, none, none]) (fun d => !sharedB L (p2 (natOf d))) id rfl (nD (List.range s.length)) [] (fun d hd => by
      obtain ⟨k, hk, rfl⟩ := List.mem_map.mp hd
      have hk := List.mem_range.mp hk
      have e2 := v_shl (k := k) (by omega)
      rw [natOf_nat]
      simp -implicitDefEqProofs [e2, h3]) (fun d hd _ => by simp -implicitDefEqProofs) (lenB _ hb)
  rw [List.map_id, filter_nD (fun k => !sharedB L (p2 k)), i1, List.nil_append] at k1
  have k2 := lc_loop (i := 6) (ft := toB (chn (biG (fCons (fVar 0) (fNil)) sumD) (fVar 1) (bin (biG (fCons (fVar 0) (fNil)) sumD) (ixG (fVar 0) (fVar 6)) subD) geB gtB)) (fe := fVar 6) (ρ := [some (.im (.lst (iD s))), some (I need), some (.im (.lst (nD L))), some (.im (.lst (nD B))), some (I s.length), some (.im (.tup (nD idle))), none, none, none]) (fun d => decide (need ≤ s.sum) && decide (s.sum - at0 s (natOf d) < need)) id rfl (nD (List.range s.length)) [] (fun d hd => by
      obtain ⟨k, hk, rfl⟩ := List.mem_map.mp hd
      have hk := List.mem_range.mp hk
      have e1 := v_sum s
      have e2 := iD_at s k hk
      rw [natOf_nat]
      by_cases z : need ≤ s.sum
      · simp -implicitDefEqProofs [e1, e2, z]
      · simp -implicitDefEqProofs [e1, e2, z]) (fun d hd _ => by simp -implicitDefEqProofs) (lenB _ hb)
  rw [List.map_id, filter_nD (fun k => decide (need ≤ s.sum) && decide (s.sum - at0 s k < need)), i2, List.nil_append] at k2
  have k3 := lc_loop (i := 6) (ft := andT (toB (bin (biG (fCons (fVar 2) (fNil)) (fun a => (lenD a).map Pl.val)) (fC (.int 0)) (cmpG gtB))) (truT (callG F1 (fCons (bin (fC (.int 1)) (fVar 6) shlD) (fCons (fVar 2) (fNil)))))) (fe := fVar 6) (ρ := [some (.im (.lst (iD s))), some (I need), some (.im (.lst (nD L))), some (.im (.lst (nD B))), some (I s.length), some (.im (.tup (nD idle))), none, some (.im (.tup (nD must))), none]) (fun d => decide (0 < L.length) && meetsB L (p2 (natOf d))) id rfl (nD (List.range s.length)) [] (fun d hd => by
      obtain ⟨k, hk, rfl⟩ := List.mem_map.mp hd
      have hk := List.mem_range.mp hk
      have e2 := v_shl (k := k) (by omega)
      rw [natOf_nat]
      by_cases z : 0 < L.length
      · have z2 : (0 : Int) < (L.length : Int) := by omega
        simp -implicitDefEqProofs [e2, h1, z, z2]
      · have z2 : ¬ (0 : Int) < (L.length : Int) := by omega
        have z3 : L.length = 0 := by omega
        simp -implicitDefEqProofs only [a_andT, a_toB, a_bin, a_bi, a_cons, a_settle, a_nil, a_var, a_c, a_viewS, a_viewV, a_vw, a_vwNil, a_oR, R.ok_bind, List.set_cons_succ, List.set_cons_zero, List.getElem?_cons_zero, List.getElem?_cons_succ, v_lenL, nD_len, Option.map_some, v_gt, z2, z, decide_false, Bool.false_and]
        rfl) (fun d hd _ => by simp -implicitDefEqProofs) (lenB _ hb)
  rw [List.map_id, filter_nD (fun k => decide (0 < L.length) && meetsB L (p2 k)), i3, List.nil_append] at k3
  have k4 := lc_loop (i := 6) (ft := toB (bin (bin (fC (.int 1)) (fVar 6) shlD) (fVar 3) (cmpG inFl))) (fe := fVar 6) (ρ := [some (.im (.lst (iD s))), some (I need), some (.im (.lst (nD L))), some (.im (.lst (nD B))), some (I s.length), some (.im (.tup (nD idle))), none, some (.im (.tup (nD must))), some (.im (.lst (nD must)))]) (fun d => B.any fun z => z == p2 (natOf d)) id rfl (nD (List.range s.length)) [] (fun d hd => by
      obtain ⟨k, hk, rfl⟩ := List.mem_map.mp hd
      have hk := List.mem_range.mp hk
      have e2 := v_shl (k := k) (by omega)
      have e3 := v_inN (p2 k) B
      rw [natOf_nat]
      simp -implicitDefEqProofs only [a_toB, a_bin, a_var, a_c, a_viewS, a_viewV, a_oR, R.ok_bind, List.set_cons_succ, List.set_cons_zero, List.getElem?_cons_zero, List.getElem?_cons_succ, e2, e3]) (fun d hd _ => by simp -implicitDefEqProofs) (lenB _ hb)
  rw [List.map_id, filter_nD (fun k => B.any fun z => z == p2 k), i4, List.nil_append] at k4
  have e1 := h2 idle hid
  have e2 := h2 must hmu0
  have e3 := v_eqTup must
  refine ⟨[some (.im (.lst (iD s))), some (I need), some (.im (.lst (nD L))), some (.im (.lst (nD B))), some (I s.length), some (.im (.tup (nD idle))), none, some (.im (.tup (nD must))), some (.im (.lst (nD must)))], ?_⟩
  unfold g_law_single
  simp -implicitDefEqProofs [r1, r2, k1, h5, e1, k2, h4, e2, k3, e3, k4]
end K69
set_option Elab.async false
set_option linter.all false
set_option maxRecDepth 100000
set_option maxHeartbeats 0
set_option autoImplicit false
namespace K69
open PySem PySem.Spec PyProof.Rows L2 DL
theorem p2_lt {k n : Nat} (h : k < n) : p2 k < p2 n := Nat.pow_lt_pow_right (by omega) h
theorem full_lt (n : Nat) : p2 n - 1 < p2 n := by have := p2_pos n; omega
theorem shared_one (ms : List Nat) (k : Nat) : sharedB ms (p2 k) = ms.any (·.testBit k) := by
  unfold sharedB
  congr 1
  funext o
  rw [Bool.eq_iff_iff]
  simp only [Bool.not_eq_true', beq_eq_false_iff_ne, ne_eq]
  constructor
  · intro h
    cases z : o.testBit k with
    | true => rfl
    | false =>
      refine (h ?_).elim
      apply Nat.eq_of_testBit_eq
      intro i
      rw [Nat.testBit_and, p2_bit, Nat.zero_testBit]
      by_cases q : k = i
      · subst q; rw [z, Bool.and_false]
      · simp [q]
  · intro h g
    have := congrArg (fun x => Nat.testBit x k) g
    simp only [Nat.testBit_and, p2_bit, Nat.zero_testBit, h] at this
    simp at this
theorem any_perm {a b : List Nat} (h : a.Perm b) (p : Nat → Bool) : a.any p = b.any p := by
  rw [Bool.eq_iff_iff, List.any_eq_true, List.any_eq_true]
  constructor
  · intro ⟨x, h1, h2⟩; exact ⟨x, h.mem_iff.mp h1, h2⟩
  · intro ⟨x, h1, h2⟩; exact ⟨x, h.mem_iff.mpr h1, h2⟩
theorem all_shared (ms : List Nat) (k : Nat) : ms.all (·.testBit k) = meetsB ms (p2 k) := by
  unfold meetsB
  rw [List.all_eq_not_any_not]
  congr 2
  funext o
  rw [Bool.eq_iff_iff]
  simp only [Bool.not_eq_true', beq_iff_eq]
  constructor
  · intro z
    apply Nat.eq_of_testBit_eq
    intro i
    rw [Nat.testBit_and, p2_bit, Nat.zero_testBit]
    by_cases q : k = i
    · subst q; rw [z, Bool.and_false]
    · simp [q]
  · intro g
    have := congrArg (fun x => Nat.testBit x k) g
    simp only [Nat.testBit_and, p2_bit, Nat.zero_testBit] at this
    simpa using this
theorem least_any {s : List Int} {need : Int} (hs : ∀ x ∈ s, 0 ≤ x) : (leastL (win s need) s.length).isEmpty = !decide (need ≤ s.sum) := by
  rw [← win_full]
  cases z : win s need (p2 s.length - 1) with
  | true =>
    obtain ⟨o, h, _⟩ := exists_least (w := win s need) (n := s.length) _ (full_lt _) z
    cases q : leastL (win s need) s.length with
    | nil => rw [q] at h; cases h
    | cons x l => rfl
  | false =>
    cases q : leastL (win s need) s.length with
    | nil => rfl
    | cons x l =>
      have hx : x ∈ leastL (win s need) s.length := by rw [q]; exact List.mem_cons_self
      have h1 := least_spec.mp hx
      have := win_mono need hs x _ (full_lt s.length) (sub_full h1.1) h1.2.1
      rw [z] at this
      cases this
def mustL (s : List Int) (need : Int) : List Nat := (List.range s.length).filter fun k => decide (need ≤ s.sum) && decide (s.sum - at0 s k < need)
theorem must_a {s : List Int} {need : Int} (hs : ∀ x ∈ s, 0 ≤ x) : (List.range s.length).filter (fun p => !(leastL (win s need) s.length).isEmpty && (leastL (win s need) s.length).all (·.testBit p)) = mustL s need := by
  apply List.filter_congr
  intro k hk
  have hk := List.mem_range.mp hk
  rw [least_any hs, Bool.not_not, all_shared, meets_least (win_mono need hs) (List.Perm.refl _) (p2_lt hk), bar_one s need hk]
theorem must_b {s : List Int} {need : Int} (hs : ∀ x ∈ s, 0 ≤ x) {L : List Nat} (hL : L.Perm (leastL (win s need) s.length)) : (List.range s.length).filter (fun k => decide (0 < L.length) && meetsB L (p2 k)) = mustL s need := by
  apply List.filter_congr
  intro k hk
  have hk := List.mem_range.mp hk
  have e : decide (0 < L.length) = decide (need ≤ s.sum) := by
    have h := least_any (s := s) (need := need) hs
    rw [hL.length_eq]
    cases q : leastL (win s need) s.length with
    | nil => rw [q] at h; simp at h; simp; omega
    | cons x l => rw [q] at h; simp at h; simp [h]
  rw [e, meets_least (win_mono need hs) hL (p2_lt hk), bar_one s need hk]
theorem must_c {s : List Int} {need : Int} (hs : ∀ x ∈ s, 0 ≤ x) {B : List Nat} (hB : B.Perm (leastL (barw (win s need) s.length) s.length)) : (List.range s.length).filter (fun k => B.any fun z => z == p2 k) = mustL s need := by
  apply List.filter_congr
  intro k hk
  have hk := List.mem_range.mp hk
  have hlt := p2_lt hk
  rw [Bool.eq_iff_iff, List.any_eq_true, Bool.and_eq_true]
  have hb0 : barw (win s need) s.length 0 = !decide (need ≤ s.sum) := by
    unfold barw
    rw [Nat.sub_zero, win_full]
  have key : p2 k ∈ B ↔ barw (win s need) s.length (p2 k) = true ∧ barw (win s need) s.length 0 = false := by
    rw [hB.mem_iff, least_spec]
    constructor
    · intro ⟨_, h2, h3⟩
      have := h3 k (by rw [p2_bit]; simp)
      rw [Nat.sub_self] at this
      exact ⟨h2, this⟩
    · intro ⟨h2, h3⟩
      refine ⟨hlt, h2, fun p hp => ?_⟩
      rw [p2_bit, decide_eq_true_eq] at hp
      subst hp
      rw [Nat.sub_self]
      exact h3
  rw [bar_one s need hk, hb0] at key
  constructor
  · intro ⟨x, h1, h2⟩
    have h2 : x = p2 k := by simpa using h2
    subst h2
    have := key.mp h1
    exact ⟨by simpa using this.2, this.1⟩
  · intro ⟨h1, h2⟩
    exact ⟨p2 k, key.mpr ⟨h2, by simpa using h1⟩, by simp⟩
theorem filter_len (p : Nat → Bool) (n : Nat) : ((List.range n).filter p).length ≤ n := by
  have := List.length_filter_le p (List.range n)
  rw [List.length_range] at this
  exact this
theorem law_single {s : List Int} {need : Int} (g : Game s need) {L B : List Nat} (hL : L.Perm (leastL (win s need) s.length)) (hB : B.Perm (leastL (barw (win s need) s.length) s.length)) :
    F_law_single [.im (.lst (iD s)), I need, .im (.lst (nD L)), .im (.lst (nD B))] = .ret (.im (.bl true)) [] := by
  have hs : ∀ x ∈ s, 0 ≤ x := fun x hx => (g.2.2.1 x hx).1
  have hn := g.2.1
  have h5 := needless (sq_lst s) g
  have h4 := must_be_in (sq_lst s) g
  rw [must_a hs] at h4
  have e : (List.range s.length).filter (fun k => !sharedB L (p2 k)) = (List.range s.length).filter (fun p => !(leastL (win s need) s.length).any (·.testBit p)) := by
    apply List.filter_congr
    intro k _
    rw [shared_one, any_perm hL]
  refine run_im (ds := [.lst (iD s), .int need, .lst (nD L), .lst (nD B)]) (law_single_g _ _ _ _ _ s need L B _ (mustL s need) hn ?_ ?_ ?_ (fun m => law_meets m L) law_same_tup (fun m => law_shared m L) h4 h5 e rfl (must_b hs hL) (must_c hs hB))
  · rw [hL.length_eq]; exact leastL_len _ _ hn
  · have := filter_len (fun p => !(leastL (win s need) s.length).any (·.testBit p)) s.length; omega
  · have := filter_len (fun k => decide (need ≤ s.sum) && decide (s.sum - at0 s k < need)) s.length; unfold mustL; omega
end K69
set_option Elab.async false
set_option linter.all false
set_option maxRecDepth 100000
set_option maxHeartbeats 0
set_option autoImplicit false
namespace K69
open PySem PySem.Spec PyProof.Rows L2 DL
/-- what the law asks for at one mask -/
theorem law_right1 (A1 A2 A3 A4 A5 A6 A7 A8 A9 A10 A11 : FD) (s : List Int) (need : Int) (L B : List Nat) (m : Nat) (h : Bool)
    (w1 : atI (iD (wl s)) (m : Int) = some (.int (Wt s m))) (w2 : h = decide (need ≤ Wt s m))
    (h2 : A2 [I m, .im (.lst (nD L))] = .ret (.im (.bl h)) []) (h5 : A5 [I m, .im (.lst (nD B))] = .ret (.im (.bl h)) [])
    (c : Bool) (h5' : A5 [I m, .im (.lst (nD L))] = .ret (.im (.bl c)) []) (h2' : A2 [I m, .im (.lst (nD B))] = .ret (.im (.bl c)) [])
    (h3 : A3 [I m, I s.length] = .ret (.im (lotD s.length m)) []) (h11 : A11 [.im (.lst (iD s)), I need, .im (lotD s.length m)] = .ret (.im (.bl h)) []) (h6 : A6 [.im (.bl h), .im (.bl h)] = .ret (.im (.bl true)) []) :
    b_law_right1 A1 A2 A3 A4 A5 A6 A7 A8 A9 A10 A11 [some (.im (.lst (iD s))), some (I need), some (I s.length), some (.im (.lst (nD L))), some (.im (.lst (nD B))), some (.im (.lst (iD (wl s)))), some (I m), none, none, none, none]
      = .ok (.nx [some (.im (.lst (iD s))), some (I need), some (I s.length), some (.im (.lst (nD L))), some (.im (.lst (nD B))), some (.im (.lst (iD (wl s)))), some (I m), some (.im (.bl h)), none, none, none]) := by
  have e1 := v_neBl h h
  have e2 := v_neBl c c
  have z1 : decide (h = h) = true := by simp
  have z2 : decide (c = c) = true := by simp
  rw [z1] at e1
  rw [z2] at e2
  unfold b_law_right1
  simp -implicitDefEqProofs [w1, ← w2, h2, h5, h5', h2', h3, h11, h6, e1, e2]
theorem law_right_g (A1 A2 A3 A4 A5 A6 A7 A8 A9 A10 A11 : FD) (s : List Int) (need : Int) (L B L2 B2 : List Nat) (dl db dl2 db2 : D) (hn : s.length ≤ 10)
    (hlw : A10 [.im (.lst (iD s)), I need] = .ret (.im dl) []) (hll : A4 [.im dl, I s.length] = .ret (.nw (nD L)) [])
    (hbw : A9 [.im (.tup (iD s)), I need] = .ret (.im db) []) (hbl : A4 [.im db, I s.length] = .ret (.nw (nD B)) [])
    (ha : A1 [.im (.lst (nD L))] = .ret (.im (.bl true)) []) (hb : A1 [.im (.lst (nD B))] = .ret (.im (.bl true)) [])
    (hw : A8 [.im (.lst (iD s))] = .ret (.im (.lst (iD (wl s)))) [])
    (h6 : ∀ h, A6 [.im (.bl h), .im (.bl h)] = .ret (.im (.bl true)) [])
    (hm : ∀ m : Nat, m < p2 s.length → ∃ c : Bool, A2 [I m, .im (.lst (nD L))] = .ret (.im (.bl (win s need m))) [] ∧ A5 [I m, .im (.lst (nD B))] = .ret (.im (.bl (win s need m))) [] ∧ A5 [I m, .im (.lst (nD L))] = .ret (.im (.bl c)) [] ∧ A2 [I m, .im (.lst (nD B))] = .ret (.im (.bl c)) [] ∧ A3 [I m, I s.length] = .ret (.im (lotD s.length m)) [] ∧ A11 [.im (.lst (iD s)), I need, .im (lotD s.length m)] = .ret (.im (.bl (win s need m))) [])
    (hlw2 : (1 ≤ s.sum + 1 - need ∧ s.sum + 1 - need ≤ 10000) → A10 [.im (.lst (iD s)), I (s.sum + 1 - need)] = .ret (.im dl2) [] ∧ A4 [.im dl2, I s.length] = .ret (.nw (nD L2)) [] ∧ A9 [.im (.lst (iD s)), I (s.sum + 1 - need)] = .ret (.im db2) [] ∧ A4 [.im db2, I s.length] = .ret (.nw (nD B2)) [] ∧ srt L2 = srt B ∧ srt B2 = srt L)
    (h7 : A7 [.im (.lst (iD s)), I need, .im (.lst (nD L)), .im (.lst (nD B))] = .ret (.im (.bl true)) []) :
    ∃ ρ, g_law_right A1 A2 A3 A4 A5 A6 A7 A8 A9 A10 A11 [some (.im (.lst (iD s))), some (I need), none, none, none, none, none, none, none, none, none] = .ok (.rt (.im (.bl true)) ρ) := by
  have hp := pow10 hn
  have hwl : (wl s).length = p2 s.length := wl_len s
  have r1 := @rng1_nat (wl s).length (by omega)
  have r2 : (List.range (wl s).length).map (fun k : Nat => D.int (k : Int)) = nD (List.range (wl s).length) := rfl
  have key := (loop_find (tgt := tgN 6) (body := b_law_right1 A1 A2 A3 A4 A5 A6 A7 A8 A9 A10 A11) (ws := [6, 7]) (ρ := [some (.im (.lst (iD s))), some (I need), some (I s.length), some (.im (.lst (nD L))), some (.im (.lst (nD B))), some (.im (.lst (iD (wl s)))), none, none, none, none, none]) (r := .im (.bl false)) (fun d => false) (nD (List.range (wl s).length)) (fun d hd => by
    obtain ⟨m, hk, rfl⟩ := List.mem_map.mp hd
    have hk := List.mem_range.mp hk
    obtain ⟨c, g1, g2, g3, g4, g5, g6⟩ := hm m (by omega)
    have w1 := iD_at (wl s) m hk
    exact ⟨_, rfl, fun h => (by cases h), fun _ => ⟨_, .inl (law_right1 A1 A2 A3 A4 A5 A6 A7 A8 A9 A10 A11 s need L B m (win s need m) w1 rfl g1 g2 c g3 g4 g5 g6 (h6 _)), rfl⟩⟩)).2 (by simp)
  have e1 := v_sum s
  have i1 : isB (.lst (nD L)) .non = some false := rfl
  have i2 : isB (.lst (nD B)) .non = some false := rfl
  have i3 : isB (.lst (nD L2)) .non = some false := rfl
  have i4 : isB (.lst (nD B2)) .non = some false := rfl
  have j1 : cmpG isB (.lst (nD L)) .non = some (.val (.bl false)) := rfl
  have j2 : cmpG isB (.lst (nD B)) .non = some (.val (.bl false)) := rfl
  have j3 : cmpG isB (.lst (nD L2)) .non = some (.val (.bl false)) := rfl
  have j4 : cmpG isB (.lst (nD B2)) .non = some (.val (.bl false)) := rfl
  by_cases z : 1 ≤ s.sum + 1 - need ∧ s.sum + 1 - need ≤ 10000
  · obtain ⟨g1, g2, g3, g4, g5, g6⟩ := hlw2 z
    have s1 := v_sort L2
    have s2 := v_sort B
    have s3 := v_sort B2
    have s4 := v_sort L
    rw [g5] at s1
    rw [g6] at s3
    have n1 := v_neLst (srt B)
    have n2 := v_neLst (srt L)
    have z1 := z.1
    have z2 := z.2
    refine ⟨[some (.im (.lst (iD s))), some (I need), some (I s.length), some (.im (.lst (nD L))), some (.im (.lst (nD B))), some (.im (.lst (iD (wl s)))), none, none, some (I (s.sum + 1 - need)), some (.im (.lst (nD L2))), some (.im (.lst (nD B2)))], ?_⟩
    unfold g_law_right
    simp -implicitDefEqProofs [hlw, hll, hbw, hbl, ha, hb, hw, r1, r2, key, e1, j1, j2, j3, j4, z1, z2, g1, g2, g3, g4, s1, s2, s3, s4, n1, n2, h7]
  · refine ⟨[some (.im (.lst (iD s))), some (I need), some (I s.length), some (.im (.lst (nD L))), some (.im (.lst (nD B))), some (.im (.lst (iD (wl s)))), none, none, some (I (s.sum + 1 - need)), none, none], ?_⟩
    unfold g_law_right
    by_cases z1 : 1 ≤ s.sum + 1 - need
    · have z2 : ¬ s.sum + 1 - need ≤ 10000 := fun h => z ⟨z1, h⟩
      simp -implicitDefEqProofs [hlw, hll, hbw, hbl, ha, hb, hw, r1, r2, key, e1, j1, j2, z1, z2, h7]
    · simp -implicitDefEqProofs [hlw, hll, hbw, hbl, ha, hb, hw, r1, r2, key, e1, j1, j2, z1, h7]
theorem perm_ok {w : Nat → Bool} {n : Nat} (hn : n ≤ 10) {ms : List Nat} (h : ms.Perm (leastL w n)) : F_law_lots [.im (.tup (lots n ms)), I n] = .ret (.nw (nD ms)) [] :=
  law_lots n hn ms (fun m hm => (leastL_lt (h.mem_iff.mp hm)).1) (h.symm.nodup (least_nodup w n)) (by rw [h.length_eq]; exact leastL_len w n hn)
theorem law_right {s : List Int} {need : Int} (g : Game s need) : F_law_right [.im (.lst (iD s)), I need] = .ret (.im (.bl true)) [] := by
  have hs : ∀ x ∈ s, 0 ≤ x := fun x hx => (g.2.2.1 x hx).1
  have hn := g.2.1
  have hM := win_mono need hs
  obtain ⟨L, hL, f1⟩ := least_winning (sq_lst s) g
  obtain ⟨B, hB, f2⟩ := barring (sq_tup s) g
  have lL : L.length ≤ 1024 := by rw [hL.length_eq]; exact leastL_len _ _ hn
  have lB : B.length ≤ 1024 := by rw [hB.length_eq]; exact leastL_len _ _ hn
  have hm : ∀ m : Nat, m < p2 s.length → ∃ c : Bool, F_law_holds [I m, .im (.lst (nD L))] = .ret (.im (.bl (win s need m))) [] ∧ F_law_meets [I m, .im (.lst (nD B))] = .ret (.im (.bl (win s need m))) [] ∧ F_law_meets [I m, .im (.lst (nD L))] = .ret (.im (.bl c)) [] ∧ F_law_holds [I m, .im (.lst (nD B))] = .ret (.im (.bl c)) [] ∧ F_law_lot_of [I m, I s.length] = .ret (.im (lotD s.length m)) [] ∧ F_wins [.im (.lst (iD s)), I need, .im (lotD s.length m)] = .ret (.im (.bl (win s need m))) [] := by
    intro m hlt
    refine ⟨barw (win s need) s.length m, ?_, ?_, ?_, ?_, law_lot_of m s.length (by omega), ?_⟩
    · rw [law_holds, holds_eq hM hL hlt]
    · rw [law_meets, meets_eq hM hB hlt]
    · rw [law_meets, meets_least hM hL hlt]
    · rw [law_holds, holds_eq (barw_mono hM) hB hlt]
    · have e : win s need m = decide (need ≤ sumOf s (mem m s.length)) := by
        unfold win
        rw [wt_eq s hlt]
      rw [e]
      exact run_im (ds := [.lst (iD s), .int need, .tup (nD (mem m s.length))]) ⟨_, wins_g _ _ need (sq_lst s) (mem m s.length) (by have := filter_len m.testBit s.length; unfold mem; omega) (fun k hk => (mem_le hk).1) (check_game (sq_lst s) g) (is_rising m s.length)⟩
  by_cases z : 1 ≤ s.sum + 1 - need ∧ s.sum + 1 - need ≤ 10000
  · have g2 : Game s (s.sum + 1 - need) := ⟨g.1, g.2.1, g.2.2.1, z.1, z.2⟩
    obtain ⟨L2, hL2, f3⟩ := least_winning (sq_lst s) g2
    obtain ⟨B2, hB2, f4⟩ := barring (sq_lst s) g2
    have e1 : leastL (win s (s.sum + 1 - need)) s.length = leastL (barw (win s need) s.length) s.length := (leastL_congr fun m hm => bar_win s need hm).symm
    have e2 : leastL (barw (win s (s.sum + 1 - need)) s.length) s.length = leastL (win s need) s.length := by
      refine leastL_congr fun m hm => ?_
      rw [bar_win s _ hm]
      rw [show s.sum + 1 - (s.sum + 1 - need) = need by omega]
    exact run_im (ds := [.lst (iD s), .int need]) (law_right_g _ _ _ _ _ _ _ _ _ _ _ s need L B L2 B2 _ _ _ _ hn f1 (perm_ok hn hL) f2 (perm_ok hn hB) (law_apart L lL (apart_of hM hL)) (law_apart B lB (apart_of (barw_mono hM) hB)) (seats_of_masks_law s hn) law_same_bl hm
      (fun _ => ⟨f3, perm_ok hn hL2, f4, perm_ok hn hB2, srt_eq ((hL2.trans (by rw [e1])).trans hB.symm), srt_eq ((hB2.trans (by rw [e2])).trans hL.symm)⟩) (law_single g hL hB))
  · exact run_im (ds := [.lst (iD s), .int need]) (law_right_g _ _ _ _ _ _ _ _ _ _ _ s need L B [] [] _ _ .non .non hn f1 (perm_ok hn hL) f2 (perm_ok hn hB) (law_apart L lL (apart_of hM hL)) (law_apart B lB (apart_of (barw_mono hM) hB)) (seats_of_masks_law s hn) law_same_bl hm
      (fun h => (z h).elim) (law_single g hL hB))
theorem law_g (G N O Rt : FD) (ns : List Int) (hO : ∃ st, O [.im (.frz (iD ns))] = .ret (.nw (iD st)) [] ∧ 1 ≤ st.length) (hN : NextOk N)
    (hG : ∀ (st : List Int) (most : Int), 1 ≤ st.length → 1 ≤ most → most ≤ 10 → ∃ s need st', G [.mu false (iD st), I most] = .ret (.im (.tup [.lst (iD s), .int need])) [iD st'] ∧ Game s need ∧ 1 ≤ st'.length)
    (hR : ∀ (s : List Int) (need : Int), Game s need → Rt [.im (.lst (iD s)), I need] = .ret (.im (.bl true)) []) :
    ∃ ρ, g_law G N O Rt [some (.im (.frz (iD ns))), none, none, none, none, none, none, none] = .ok (.rt (.im (.bl true)) ρ) := by
  obtain ⟨st, o1, o2⟩ := hO
  obtain ⟨t, st1, n1, n2, n3, n4⟩ := hN st 6 o2 (by decide) (by decide)
  obtain ⟨most, hmost, m1, m2⟩ : ∃ most : Int, (∃ b : Bool, cmpG eqD (.int t) (.int 0) = some (.val (.bl b)) ∧ (6 : Int) + (if b then 1 else 0) = most) ∧ 1 ≤ most ∧ most ≤ 10 := by
    rw [v_eqI]
    cases decide (t = 0)
    · exact ⟨6, ⟨false, rfl, rfl⟩, by decide, by decide⟩
    · exact ⟨7, ⟨true, rfl, rfl⟩, by decide, by decide⟩
  obtain ⟨b, q1, q2⟩ := hmost
  obtain ⟨s, need, st2, g1, g2, g3⟩ := hG st1 most n4 m1 m2
  obtain ⟨s', much, st3, g4, g5, g6⟩ := hG st2 5 g3 (by decide) (by decide)
  have e1 := v_neLst s
  have r1 := hR s need g2
  have e2 := v_sum s'
  have hb := sum_bd s' g5.2.2.1
  have hl := g5.2.1
  have game : ∀ x : Int, 1 ≤ x → x ≤ 10000 → Rt [.im (.lst (iD s')), I x] = .ret (.im (.bl true)) [] := fun x h1 h2 => hR s' x ⟨g5.1, g5.2.1, g5.2.2.1, h1, h2⟩
  have e3 := v_div (a := s'.sum) (b := 2) (by decide) (by decide)
  have x1 := hR s' much g5
  have x2 := game (s'.sum / 2 + 1) (by omega) (by omega)
  have x3 := game (maxI 1 s'.sum) (max_ge _ _) (by unfold maxI; split <;> omega)
  have x4 := game (minI 10000 (s'.sum + 1)) (by unfold minI; split <;> omega) (by unfold minI; split <;> omega)
  have x5 := game 1 (by decide) (by decide)
  have key := (loop_find (tgt := tgN 7) (body := b_law1 G N O Rt) (ws := [7]) (ρ := [some (.im (.frz (iD ns))), some (.mu true (iD st3)), some (.im (.lst (iD s))), some (I need), some (.im (.lst (iD s))), some (.im (.lst (iD s'))), some (I much), none]) (r := .im (.bl false)) (fun d => false) [.int much, .int (s'.sum / 2 + 1), .int (maxI 1 s'.sum), .int (minI 10000 (s'.sum + 1)), .int 1] (fun d hd => by
    have hx : ∃ x : Int, d = .int x ∧ Rt [.im (.lst (iD s')), I x] = .ret (.im (.bl true)) [] := by
      simp only [List.mem_cons, List.not_mem_nil, or_false] at hd
      rcases hd with rfl | rfl | rfl | rfl | rfl
      · exact ⟨_, rfl, x1⟩
      · exact ⟨_, rfl, x2⟩
      · exact ⟨_, rfl, x3⟩
      · exact ⟨_, rfl, x4⟩
      · exact ⟨_, rfl, x5⟩
    obtain ⟨x, rfl, hx⟩ := hx
    refine ⟨[some (.im (.frz (iD ns))), some (.mu true (iD st3)), some (.im (.lst (iD s))), some (I need), some (.im (.lst (iD s))), some (.im (.lst (iD s'))), some (I much), some (I x)], rfl, fun h => (by cases h), fun _ => ⟨[some (.im (.frz (iD ns))), some (.mu true (iD st3)), some (.im (.lst (iD s))), some (I need), some (.im (.lst (iD s))), some (.im (.lst (iD s'))), some (I much), some (I x)], .inl ?_, rfl⟩⟩
    unfold b_law1
    simp -implicitDefEqProofs [hx])).2 (by simp)
  refine ⟨[some (.im (.frz (iD ns))), some (.mu true (iD st3)), some (.im (.lst (iD s))), some (I need), some (.im (.lst (iD s))), some (.im (.lst (iD s'))), some (I much), none], ?_⟩
  unfold g_law
  simp -implicitDefEqProofs [o1, n1, q1, q2, g1, r1, e1, g4, e2, e3, key]
theorem plain : ∀ ns : List Int, ns.length ≤ 63 → (∀ z ∈ ns, Builtin.Int.intBits z ≤ 1048576) → F_law [.im (.frz (ns.map D.int))] = .ret (.im (.bl true)) [] := fun ns h _ =>
  run_im (ds := [.frz (iD ns)]) (law_g _ _ _ _ ns (law_open ns h) law_next law_game fun s need g => law_right g)
end K69
set_option Elab.async false
set_option linter.all false
set_option maxRecDepth 100000
set_option maxHeartbeats 0
set_option autoImplicit false
namespace K69
open PySem PySem.Spec PyProof.Rows L2 DL
/-! ### the head: facts by names -/
def hfn : List He.DefD := [⟨("is_integer", none), "is_integer", "is_integer", defArgs s_is_integer, defBody s_is_integer, defScope s_is_integer, [], []⟩,
  ⟨("is_from_to", none), "is_from_to", "is_from_to", defArgs s_is_from_to, defBody s_is_from_to, defScope s_is_from_to, [], []⟩,
  ⟨("is_sequence", none), "is_sequence", "is_sequence", defArgs s_is_sequence, defBody s_is_sequence, defScope s_is_sequence, [], []⟩,
  ⟨("is_rising", none), "is_rising", "is_rising", defArgs s_is_rising, defBody s_is_rising, defScope s_is_rising, [], []⟩,
  ⟨("is_in", none), "is_in", "is_in", defArgs s_is_in, defBody s_is_in, defScope s_is_in, [], []⟩,
  ⟨("members_of", none), "members_of", "members_of", defArgs s_members_of, defBody s_members_of, defScope s_members_of, [], []⟩,
  ⟨("lot_of", none), "lot_of", "lot_of", defArgs s_lot_of, defBody s_lot_of, defScope s_lot_of, [], []⟩,
  ⟨("sorted_lots", none), "sorted_lots", "sorted_lots", defArgs s_sorted_lots, defBody s_sorted_lots, defScope s_sorted_lots, [], []⟩,
  ⟨("seats_of_masks", none), "seats_of_masks", "seats_of_masks", defArgs s_seats_of_masks, defBody s_seats_of_masks, defScope s_seats_of_masks, [], []⟩,
  ⟨("winning_masks", none), "winning_masks", "winning_masks", defArgs s_winning_masks, defBody s_winning_masks, defScope s_winning_masks, [], []⟩,
  ⟨("check_seats", none), "check_seats", "check_seats", defArgs s_check_seats, defBody s_check_seats, defScope s_check_seats, [], []⟩,
  ⟨("check_game", none), "check_game", "check_game", defArgs s_check_game, defBody s_check_game, defScope s_check_game, [], []⟩,
  ⟨("wins", none), "wins", "wins", defArgs s_wins, defBody s_wins, defScope s_wins, [], []⟩,
  ⟨("is_least", none), "is_least", "is_least", defArgs s_is_least, defBody s_is_least, defScope s_is_least, [], []⟩,
  ⟨("least_masks", none), "least_masks", "least_masks", defArgs s_least_masks, defBody s_least_masks, defScope s_least_masks, [], []⟩,
  ⟨("least_winning", none), "least_winning", "least_winning", defArgs s_least_winning, defBody s_least_winning, defScope s_least_winning, [], []⟩,
  ⟨("bars", none), "bars", "bars", defArgs s_bars, defBody s_bars, defScope s_bars, [], []⟩,
  ⟨("is_least_bar", none), "is_least_bar", "is_least_bar", defArgs s_is_least_bar, defBody s_is_least_bar, defScope s_is_least_bar, [], []⟩,
  ⟨("barring", none), "barring", "barring", defArgs s_barring, defBody s_barring, defScope s_barring, [], []⟩,
  ⟨("needless", none), "needless", "needless", defArgs s_needless, defBody s_needless, defScope s_needless, [], []⟩,
  ⟨("must_be_in", none), "must_be_in", "must_be_in", defArgs s_must_be_in, defBody s_must_be_in, defScope s_must_be_in, [], []⟩,
  ⟨("_law_mix", none), "_law_mix", "_law_mix", defArgs s_law_mix, defBody s_law_mix, defScope s_law_mix, [], []⟩,
  ⟨("_law_open", none), "_law_open", "_law_open", defArgs s_law_open, defBody s_law_open, defScope s_law_open, [], []⟩,
  ⟨("_law_next", none), "_law_next", "_law_next", defArgs s_law_next, defBody s_law_next, defScope s_law_next, [], []⟩,
  ⟨("_law_same", none), "_law_same", "_law_same", defArgs s_law_same, defBody s_law_same, defScope s_law_same, [], []⟩,
  ⟨("_law_game", none), "_law_game", "_law_game", defArgs s_law_game, defBody s_law_game, defScope s_law_game, [], []⟩,
  ⟨("_law_weights", none), "_law_weights", "_law_weights", defArgs s_law_weights, defBody s_law_weights, defScope s_law_weights, [], []⟩,
  ⟨("_law_lot_of", none), "_law_lot_of", "_law_lot_of", defArgs s_law_lot_of, defBody s_law_lot_of, defScope s_law_lot_of, [], []⟩,
  ⟨("_law_lots", none), "_law_lots", "_law_lots", defArgs s_law_lots, defBody s_law_lots, defScope s_law_lots, [], []⟩,
  ⟨("_law_apart", none), "_law_apart", "_law_apart", defArgs s_law_apart, defBody s_law_apart, defScope s_law_apart, [], []⟩,
  ⟨("_law_holds", none), "_law_holds", "_law_holds", defArgs s_law_holds, defBody s_law_holds, defScope s_law_holds, [], []⟩,
  ⟨("_law_meets", none), "_law_meets", "_law_meets", defArgs s_law_meets, defBody s_law_meets, defScope s_law_meets, [], []⟩,
  ⟨("_law_shared", none), "_law_shared", "_law_shared", defArgs s_law_shared, defBody s_law_shared, defScope s_law_shared, [], []⟩,
  ⟨("_law_single", none), "_law_single", "_law_single", defArgs s_law_single, defBody s_law_single, defScope s_law_single, [], []⟩,
  ⟨("_law_right", none), "_law_right", "_law_right", defArgs s_law_right, defBody s_law_right, defScope s_law_right, [], []⟩,
  ⟨("law", none), "law", "law", defArgs s_law, defBody s_law, defScope s_law, [], []⟩]
def hfa : List He.Fa := [.glo "is_integer", .glo "is_from_to", .glo "is_sequence", .glo "is_rising", .glo "is_in", .glo "members_of", .glo "lot_of", .glo "sorted_lots", .glo "seats_of_masks", .glo "winning_masks", .glo "check_seats", .glo "check_game", .glo "wins", .glo "is_least", .glo "least_masks", .glo "least_winning", .glo "bars", .glo "is_least_bar", .glo "barring", .glo "needless", .glo "must_be_in", .glo "_law_mix", .glo "_law_open", .glo "_law_next", .glo "_law_same", .glo "_law_game", .glo "_law_weights", .glo "_law_lot_of", .glo "_law_lots", .glo "_law_apart", .glo "_law_holds", .glo "_law_meets", .glo "_law_shared", .glo "_law_single", .glo "_law_right", .glo "law", .free "all", .free "any", .free "bool", .free "enumerate", .free "int", .free "isinstance", .free "len", .free "list", .free "max", .free "min", .free "range", .free "sorted", .free "str", .free "sum", .free "tuple", .int "MOST_NEED" 10000, .int "MOST_PARTIES" 10, .int "MOST_SEATS" 1000]
def htf : List He.Defn := [("sorted_lots", none)]
abbrev Rw : PySem.W.OpenRow := PySem.W.OpenLaw.row PySem.Challenge.rw_seatsbothways_k69_whole_lots_meet_bars
abbrev hk : PySem.W.Hook := He.hookX 6 hfa hfn [] htf fun _ => true
def hob (s : PySem.W.SharedT) : He.AlX := He.obsX 6 hfa hfn [] htf (fun _ => true) (HandSHeadRun.getT s)
theorem hob_eq (s : PySem.W.SharedT) : hob s = hk.obs s.abs := He.obsX_eq (HandSHeadRun.getT_eq s)
def lo0 : List PySem.Str := ["SeatError", "InvalidNumber", "InvalidRow", "InvalidLot", "is_integer", "is_from_to", "is_sequence", "is_rising", "is_in", "members_of", "lot_of", "sorted_lots", "seats_of_masks", "winning_masks", "MOST_PARTIES", "MOST_SEATS", "MOST_NEED", "check_seats", "check_game", "wins", "is_least", "least_masks", "least_winning", "bars", "is_least_bar", "barring", "needless", "must_be_in", "_law_mix", "_law_open"]
def lo1 : List PySem.Str := ["_law_next", "_law_same", "_law_game", "_law_weights", "_law_lot_of", "_law_lots", "_law_apart", "_law_holds", "_law_meets", "_law_shared", "_law_single", "_law_right"]
def hlo : List PySem.Str := lo0 ++ lo1
theorem hrun (w : World) : HandSHeadRun.RunEq Rw (PySem.W.view Rw.prog [47]) hk hob 6000 hlo w := by
  intro os
  kernel_rfl
/-! ### what the law needs -/
@[reducible] def tbOf (K : PySem.W.Frag) : Tb := ⟨[((He.cT K ("sorted_lots", none)).2, ("sorted_lots.<locals>.<lambda>" : Str))], False⟩
theorem txt_of {K : PySem.W.Frag} {w : World} {h base : Heap} {mg : Str → Option Value} (KX : K.In h) (G : h.Ns mainGlobals mg) (c : He.SaysX hfa hfn [] htf (fun _ => true) w h K) (hT : ∀ p ∈ htf.map (He.cT K), LamX.TabB base mg p.1 p.2) : @Txt (tbOf K) K mg base := by
  letI : Tb := tbOf K
  have d := c.t.d
  exact ⟨He.free_ok KX G (d.fact 36 (f := .free "all") rfl),
    He.free_ok KX G (d.fact 37 (f := .free "any") rfl),
    He.free_ok KX G (d.fact 38 (f := .free "bool") rfl),
    He.free_ok KX G (d.fact 39 (f := .free "enumerate") rfl),
    He.free_ok KX G (d.fact 40 (f := .free "int") rfl),
    He.free_ok KX G (d.fact 41 (f := .free "isinstance") rfl),
    He.free_ok KX G (d.fact 42 (f := .free "len") rfl),
    He.free_ok KX G (d.fact 43 (f := .free "list") rfl),
    He.free_ok KX G (d.fact 44 (f := .free "max") rfl),
    He.free_ok KX G (d.fact 45 (f := .free "min") rfl),
    He.free_ok KX G (d.fact 46 (f := .free "range") rfl),
    He.free_ok KX G (d.fact 47 (f := .free "sorted") rfl),
    He.free_ok KX G (d.fact 48 (f := .free "str") rfl),
    He.free_ok KX G (d.fact 49 (f := .free "sum") rfl),
    He.free_ok KX G (d.fact 50 (f := .free "tuple") rfl),
    (let ⟨t, e⟩ := He.int_ok KX G (d.fact 51 (f := .int "MOST_NEED" 10000) rfl); ⟨_, e, ⟨t, rfl⟩⟩),
    (let ⟨t, e⟩ := He.int_ok KX G (d.fact 52 (f := .int "MOST_PARTIES" 10) rfl); ⟨_, e, ⟨t, rfl⟩⟩),
    (let ⟨t, e⟩ := He.int_ok KX G (d.fact 53 (f := .int "MOST_SEATS" 1000) rfl); ⟨_, e, ⟨t, rfl⟩⟩),
    (let ⟨fd, F⟩ := d.def_ 0 rfl; ⟨_, fd, fun_of F, He.glo_ok KX G (d.fact 0 (f := .glo "is_integer") rfl)⟩),
    (let ⟨fd, F⟩ := d.def_ 1 rfl; ⟨_, fd, fun_of F, He.glo_ok KX G (d.fact 1 (f := .glo "is_from_to") rfl)⟩),
    (let ⟨fd, F⟩ := d.def_ 2 rfl; ⟨_, fd, fun_of F, He.glo_ok KX G (d.fact 2 (f := .glo "is_sequence") rfl)⟩),
    (let ⟨fd, F⟩ := d.def_ 3 rfl; ⟨_, fd, fun_of F, He.glo_ok KX G (d.fact 3 (f := .glo "is_rising") rfl)⟩),
    (let ⟨fd, F⟩ := d.def_ 4 rfl; ⟨_, fd, fun_of F, He.glo_ok KX G (d.fact 4 (f := .glo "is_in") rfl)⟩),
    (let ⟨fd, F⟩ := d.def_ 5 rfl; ⟨_, fd, fun_of F, He.glo_ok KX G (d.fact 5 (f := .glo "members_of") rfl)⟩),
    (let ⟨fd, F⟩ := d.def_ 6 rfl; ⟨_, fd, fun_of F, He.glo_ok KX G (d.fact 6 (f := .glo "lot_of") rfl)⟩),
    (let ⟨fd, F⟩ := d.def_ 7 rfl; ⟨_, fd, He.codeOf K ("sorted_lots", none), (He.cT K ("sorted_lots", none)).2, funC_of F, He.glo_ok KX G (d.fact 7 (f := .glo "sorted_lots") rfl), hT _ (List.mem_map.mpr ⟨("sorted_lots", none), by simp [htf], rfl⟩), List.mem_cons_self, fun p hp _ => by rw [List.mem_singleton.mp hp]⟩),
    (let ⟨fd, F⟩ := d.def_ 8 rfl; ⟨_, fd, fun_of F, He.glo_ok KX G (d.fact 8 (f := .glo "seats_of_masks") rfl)⟩),
    (let ⟨fd, F⟩ := d.def_ 9 rfl; ⟨_, fd, fun_of F, He.glo_ok KX G (d.fact 9 (f := .glo "winning_masks") rfl)⟩),
    (let ⟨fd, F⟩ := d.def_ 10 rfl; ⟨_, fd, fun_of F, He.glo_ok KX G (d.fact 10 (f := .glo "check_seats") rfl)⟩),
    (let ⟨fd, F⟩ := d.def_ 11 rfl; ⟨_, fd, fun_of F, He.glo_ok KX G (d.fact 11 (f := .glo "check_game") rfl)⟩),
    (let ⟨fd, F⟩ := d.def_ 12 rfl; ⟨_, fd, fun_of F, He.glo_ok KX G (d.fact 12 (f := .glo "wins") rfl)⟩),
    (let ⟨fd, F⟩ := d.def_ 13 rfl; ⟨_, fd, fun_of F, He.glo_ok KX G (d.fact 13 (f := .glo "is_least") rfl)⟩),
    (let ⟨fd, F⟩ := d.def_ 14 rfl; ⟨_, fd, fun_of F, He.glo_ok KX G (d.fact 14 (f := .glo "least_masks") rfl)⟩),
    (let ⟨fd, F⟩ := d.def_ 15 rfl; ⟨_, fd, fun_of F, He.glo_ok KX G (d.fact 15 (f := .glo "least_winning") rfl)⟩),
    (let ⟨fd, F⟩ := d.def_ 16 rfl; ⟨_, fd, fun_of F, He.glo_ok KX G (d.fact 16 (f := .glo "bars") rfl)⟩),
    (let ⟨fd, F⟩ := d.def_ 17 rfl; ⟨_, fd, fun_of F, He.glo_ok KX G (d.fact 17 (f := .glo "is_least_bar") rfl)⟩),
    (let ⟨fd, F⟩ := d.def_ 18 rfl; ⟨_, fd, fun_of F, He.glo_ok KX G (d.fact 18 (f := .glo "barring") rfl)⟩),
    (let ⟨fd, F⟩ := d.def_ 19 rfl; ⟨_, fd, fun_of F, He.glo_ok KX G (d.fact 19 (f := .glo "needless") rfl)⟩),
    (let ⟨fd, F⟩ := d.def_ 20 rfl; ⟨_, fd, fun_of F, He.glo_ok KX G (d.fact 20 (f := .glo "must_be_in") rfl)⟩),
    (let ⟨fd, F⟩ := d.def_ 21 rfl; ⟨_, fd, fun_of F, He.glo_ok KX G (d.fact 21 (f := .glo "_law_mix") rfl)⟩),
    (let ⟨fd, F⟩ := d.def_ 22 rfl; ⟨_, fd, fun_of F, He.glo_ok KX G (d.fact 22 (f := .glo "_law_open") rfl)⟩),
    (let ⟨fd, F⟩ := d.def_ 23 rfl; ⟨_, fd, fun_of F, He.glo_ok KX G (d.fact 23 (f := .glo "_law_next") rfl)⟩),
    (let ⟨fd, F⟩ := d.def_ 24 rfl; ⟨_, fd, fun_of F, He.glo_ok KX G (d.fact 24 (f := .glo "_law_same") rfl)⟩),
    (let ⟨fd, F⟩ := d.def_ 25 rfl; ⟨_, fd, fun_of F, He.glo_ok KX G (d.fact 25 (f := .glo "_law_game") rfl)⟩),
    (let ⟨fd, F⟩ := d.def_ 26 rfl; ⟨_, fd, fun_of F, He.glo_ok KX G (d.fact 26 (f := .glo "_law_weights") rfl)⟩),
    (let ⟨fd, F⟩ := d.def_ 27 rfl; ⟨_, fd, fun_of F, He.glo_ok KX G (d.fact 27 (f := .glo "_law_lot_of") rfl)⟩),
    (let ⟨fd, F⟩ := d.def_ 28 rfl; ⟨_, fd, fun_of F, He.glo_ok KX G (d.fact 28 (f := .glo "_law_lots") rfl)⟩),
    (let ⟨fd, F⟩ := d.def_ 29 rfl; ⟨_, fd, fun_of F, He.glo_ok KX G (d.fact 29 (f := .glo "_law_apart") rfl)⟩),
    (let ⟨fd, F⟩ := d.def_ 30 rfl; ⟨_, fd, fun_of F, He.glo_ok KX G (d.fact 30 (f := .glo "_law_holds") rfl)⟩),
    (let ⟨fd, F⟩ := d.def_ 31 rfl; ⟨_, fd, fun_of F, He.glo_ok KX G (d.fact 31 (f := .glo "_law_meets") rfl)⟩),
    (let ⟨fd, F⟩ := d.def_ 32 rfl; ⟨_, fd, fun_of F, He.glo_ok KX G (d.fact 32 (f := .glo "_law_shared") rfl)⟩),
    (let ⟨fd, F⟩ := d.def_ 33 rfl; ⟨_, fd, fun_of F, He.glo_ok KX G (d.fact 33 (f := .glo "_law_single") rfl)⟩),
    (let ⟨fd, F⟩ := d.def_ 34 rfl; ⟨_, fd, fun_of F, He.glo_ok KX G (d.fact 34 (f := .glo "_law_right") rfl)⟩),
    (let ⟨fd, F⟩ := d.def_ 35 rfl; ⟨_, fd, fun_of F, He.glo_ok KX G (d.fact 35 (f := .glo "law") rfl)⟩)⟩
theorem law_at (w : World) (mg : Str → Option Value) (fa : Addr) (h : Heap) (G : h.Ns mainGlobals mg) (hmg : mg ("law" : Str) = some (.ref fa)) (Y : hk.says w h)
    (plain : ∀ ns : List Int, ns.length ≤ 63 → (∀ z ∈ ns, Builtin.Int.intBits z ≤ 1048576) → F_law [.im (.frz (ns.map D.int))] = .ret (.im (.bl true)) []) :
    ∃ K : PySem.W.Frag, K.In h ∧ LamX.LawAtS PySem.Challenge.rw_seatsbothways_k69_whole_lots_meet_bars w K (L2.CX PySem.Challenge.pw_seatsbothways_k69_whole_lots_meet_bars w) 8 63 "script" mg fa h := by
  obtain ⟨K, KX, c⟩ := Y
  letI : Tb := tbOf K
  obtain ⟨fd, FD0⟩ := c.t.d.def_ 35 rfl
  have F : Fun K "law" "law" s_law _ fd := fun_of FD0
  have e := hmg.symm.trans (He.glo_ok KX G (c.t.d.fact 35 (f := .glo "law") rfl))
  cases e
  have b := F.binds (ps := ["script"]) fun _ _ _ _ _ _ us hl => match us, hl with | [_], _ => rfl
  refine ⟨K, KX, fd, htf.map (He.cT K), spF ⟨K, mg⟩ F_law, fun p hp => ?_, fun p hp => ?_, fun p hp => ?_, fun s u => ?_, fun H a ns hl hb hH hS => ?_, fun base hK hN hT => ?_⟩
  · obtain ⟨q, hq, rfl⟩ := List.mem_map.mp hp; exact c.empty q hq
  · obtain ⟨q, hq, rfl⟩ := List.mem_map.mp hp; exact c.out q hq
  · obtain ⟨q, hq, rfl⟩ := List.mem_map.mp hp; exact PySem.W.codeHd_of_K KX (c.hd q hq)
  · obtain ⟨oc, od, kV, doc, pm, an, cdv, ct, osl, rfl, lk, hcd⟩ := F.ex
    exact .of_eq rfl
  · refine law_sp hS (fun p hp => ?_) (plain ns hl hb)
    have z : p.1 ∈ (htf.map (He.cT K)).map (·.2) := by
      rw [List.mem_singleton.mp hp]
      exact List.mem_map.mpr ⟨_, List.mem_map.mpr ⟨("sorted_lots", none), List.mem_cons_self, rfl⟩, rfl⟩
    obtain ⟨q, hq, e⟩ := List.mem_map.mp z
    exact LamX.TabS.nil (by rw [← e]; exact hH q hq)
  · have T := txt_of (base := base) KX G c hT
    exact (fn_law (P := PySem.Challenge.pw_seatsbothways_k69_whole_lots_meet_bars) (w := w) T F).ok (fun z => z)

end K69
open PySem PySem.W PySem.Calls PyProof.Rows
theorem PySem.Challenge.cw_seatsbothways_k69_whole_lots_meet_bars_holds : PySem.Challenge.rw_seatsbothways_k69_whole_lots_meet_bars.Holds := by
  w_on; o_law
  refine HandSHeadRun.head_any (r := OpenLaw.row PySem.Challenge.rw_seatsbothways_k69_whole_lots_meet_bars) (q := view (OpenLaw.row PySem.Challenge.rw_seatsbothways_k69_whole_lots_meet_bars).prog [47]) (H := K69.hk) (ob := K69.hob) (M := 6000) (loose := K69.hlo) (d := HandSHeadRun.topDef (OpenLaw.row PySem.Challenge.rw_seatsbothways_k69_whole_lots_meet_bars).prog 47) (kwd := []) K69.hob_eq
    (by kernel_rfl) (fun s => by kernel_rfl) K69.hrun (by kernel_rfl) (by kernel_rfl) (by kernel_rfl) (by rfl) (by first | assumption | decide +kernel) (by decide +kernel) ⟨rfl, rfl, rfl, rfl, rfl, by decide +kernel⟩ ?hw ?hc
  case hw => w_witness2
  case hc =>
    refine LamX.walk_ofTsE (l := PySem.Challenge.rw_seatsbothways_k69_whole_lots_meet_bars) (n := 63) (k := 8) (x := "script") (CX := fun w => L2.CX PySem.Challenge.pw_seatsbothways_k69_whole_lots_meet_bars w) rfl (by decide) (by kernel_rfl) ⟨rfl, by decide, by decide⟩ ?F (fun w H s e s' z => by obtain ⟨_, _, _, _, _, _, _, _, _, _, _, _, z⟩ := z; exact z)
    intro w mg fa h Y G hmg0
    have hmg : mg ("law" : PySem.Str) = some (.ref fa) := by
      have e : (HandSHeadRun.topDef (OpenLaw.row PySem.Challenge.rw_seatsbothways_k69_whole_lots_meet_bars).prog 47).name = ("law" : PySem.Str) := by kernel_rfl
      rw [← e]
      exact hmg0
    exact K69.law_at w mg fa h G hmg Y K69.plain

