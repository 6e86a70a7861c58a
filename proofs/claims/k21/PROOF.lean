import PyProof.Rows.All
import Wide.All
import OpenK.AllK
import Wide.FinOn
import HandS.ForMost
import HandS.EndBits
import HandS.Style
import HandS.Wide
import HandS.TupAny
import HandS.TupMul
import HandS.Deep
import HandS.IsInst
import HandS.Dict
import HandS.SortInts
import HandS.SetFor
import HandS.StrMore
import HandS.Walk
import KE.GoesNew
import KE.GoesMore
import KE.KRevSl
import HandS.Zip
import KE.DataMinMax
import KE.DatumOrd
import KE.KTupSum
import PyProof.Rows.TupReads
import HandS.ExcValue
import HandS.Text
import HandS.Strs
import PyProof.StrBlock2
import HandS.Conv
import HandS.Iter
import KE.KIndexOf
import HandS.Codes
import HandS.CallRecv
import HandS.Words
import PySem.Challenge.RW_railssorted_k21_whole_counts_by_dead_end
set_option Elab.async false
set_option linter.all false
set_option maxRecDepth 100000
set_option maxHeartbeats 4000000
namespace My
open PySem PySem.Spec PyProof.Rows L2
inductive D where
  | non | bl (b : Bool) | int (i : Int) | str (x : Str) | lst (xs : List D) | tup (xs : List D) | scr (ns : List Int) | dic (ks vs : List D)
abbrev Fg := PySem.W.Frag
abbrev St := L2.St
mutual
inductive Dq (K : Fg) (S : Hp) : V → D → Prop
  | non : Dq K S .non .non
  | bl (b : Bool) : Dq K S (.bl b) (.bl b)
  | int (i : Int) : Dq K S (.int i) (.int i)
  | str (x : Str) : Dq K S (.str x) (.str x)
  | lst {a : Addr} {xs : List V} {ds : List D} : S a = some (.lst xs) → DqAll K S xs ds → Dq K S (.ref a) (.lst ds)
  | tup {a : Addr} {xs : List V} {ds : List D} : S a = some (.tup xs) → DqAll K S xs ds → Dq K S (.ref a) (.tup ds)
  | scr {a : Addr} {ns : List Int} : SqL K S a (ns.map V.int) → Dq K S (.ref a) (.scr ns)
  | dic {a : Addr} {kvs : List (Key × V)} {ks vs : List D} : S a = some (.dK kvs) → DqAll K S (kvs.map fun p => kV p.1) ks → DqAll K S (kvs.map fun p => p.2) vs → Dq K S (.ref a) (.dic ks vs)
inductive DqAll (K : Fg) (S : Hp) : List V → List D → Prop
  | nil : DqAll K S [] []
  | cons {v : V} {vs : List V} {d : D} {ds : List D} : Dq K S v d → DqAll K S vs ds → DqAll K S (v :: vs) (d :: ds)
end
theorem sqT_mono {K : Fg} {S S' : Hp} {a : Addr} {xs : List V} (h : Same S S') (q : SqT K S a xs) : SqT K S' a xs := by
  rcases q with (q | ⟨o, q⟩) | q
  · exact .inl (.inl (h _ _ q))
  · exact .inl (.inr ⟨o, h _ _ q⟩)
  · exact .inr q
/-! data over a growing heap -/
mutual
theorem dp_mono {K : Fg} {S S' : Hp} (h : Same S S') : ∀ (d : D) (v : V), Dq K S v d → Dq K S' v d
  | .non, _, q => by cases q; exact .non
  | .bl b, _, q => by cases q; exact .bl b
  | .int i, _, q => by cases q; exact .int i
  | .str x, _, q => by cases q; exact .str x
  | .lst ds, _, q => by
    cases q with
    | lst a b => exact .lst (h _ _ a) (dpAll_mono h ds _ b)
  | .tup ds, _, q => by
    cases q with
    | tup a b => exact .tup (h _ _ a) (dpAll_mono h ds _ b)
  | .scr ns, _, q => by
    cases q with
    | scr a => exact .scr (h.seq a)
  | .dic ks vs, _, q => by
    cases q with
    | dic a b c => exact .dic (h _ _ a) (dpAll_mono h ks _ b) (dpAll_mono h vs _ c)
theorem dpAll_mono {K : Fg} {S S' : Hp} (h : Same S S') : ∀ (ds : List D) (vs : List V), DqAll K S vs ds → DqAll K S' vs ds
  | [], _, q => by cases q; exact .nil
  | d :: ds, _, q => by
    cases q with
    | cons a b => exact .cons (dp_mono h d _ a) (dpAll_mono h ds _ b)
end
theorem DqAll.length {K : Fg} {S : Hp} : ∀ {vs : List V} {ds : List D}, DqAll K S vs ds → vs.length = ds.length
  | [], [], _ => rfl
  | _ :: _, _ :: _, .cons _ t => by simp [DqAll.length t]
  | [], _ :: _, q => by cases q
  | _ :: _, [], q => by cases q
theorem DqAll.get {K : Fg} {S : Hp} : ∀ {vs : List V} {ds : List D} {i : Nat} {d : D}, DqAll K S vs ds → ds[i]? = some d → ∃ v, vs[i]? = some v ∧ Dq K S v d
  | _, _, 0, d, .cons a _, e => by
    have e' := Option.some.inj e
    subst e'
    exact ⟨_, rfl, a⟩
  | _, _, i + 1, d, .cons _ t, e => by
    obtain ⟨v, h1, h2⟩ := DqAll.get (i := i) (d := d) t (by simpa using e)
    exact ⟨v, by simpa using h1, h2⟩
  | _, _, 0, _, .nil, e => by simp at e
  | _, _, _ + 1, _, .nil, e => by simp at e
theorem DqAll.getV {K : Fg} {S : Hp} : ∀ {vs : List V} {ds : List D} {i : Nat} {v : V}, DqAll K S vs ds → vs[i]? = some v → ∃ d, ds[i]? = some d ∧ Dq K S v d
  | _, _, 0, v, .cons a _, e => by
    have e' := Option.some.inj e
    subst e'
    exact ⟨_, rfl, a⟩
  | _, _, i + 1, v, .cons _ t, e => by
    obtain ⟨d, h1, h2⟩ := DqAll.getV (i := i) (v := v) t (by simpa using e)
    exact ⟨d, by simpa using h1, h2⟩
  | _, _, 0, _, .nil, e => by simp at e
  | _, _, _ + 1, _, .nil, e => by simp at e
theorem DqAll.append {K : Fg} {S : Hp} : ∀ {vs ws : List V} {ds es : List D}, DqAll K S vs ds → DqAll K S ws es → DqAll K S (vs ++ ws) (ds ++ es)
  | _, _, _, _, .nil, q => q
  | _, _, _, _, .cons a t, q => .cons a (DqAll.append t q)
theorem DqAll.take {K : Fg} {S : Hp} : ∀ {vs : List V} {ds : List D} (n : Nat), DqAll K S vs ds → DqAll K S (vs.take n) (ds.take n)
  | _, _, 0, _ => by simpa using DqAll.nil
  | _, _, _ + 1, .nil => by simpa using DqAll.nil
  | _, _, n + 1, .cons a t => by simpa using DqAll.cons a (DqAll.take n t)
theorem DqAll.drop {K : Fg} {S : Hp} : ∀ {vs : List V} {ds : List D} (n : Nat), DqAll K S vs ds → DqAll K S (vs.drop n) (ds.drop n)
  | _, _, 0, q => by simpa using q
  | _, _, _ + 1, .nil => by simpa using DqAll.nil
  | _, _, n + 1, .cons a t => by simpa using DqAll.drop n t
theorem DqAll.set {K : Fg} {S : Hp} : ∀ {vs : List V} {ds : List D} {v : V} {d : D} (n : Nat), DqAll K S vs ds → Dq K S v d → DqAll K S (vs.set n v) (ds.set n d)
  | _, _, _, _, 0, .cons _ t, q => by simpa using DqAll.cons q t
  | _, _, _, _, _, .nil, q => by simpa using DqAll.nil
  | _, _, _, _, n + 1, .cons a t, q => by simpa using DqAll.cons a (DqAll.set n t q)
theorem DqAll.eraseIdx {K : Fg} {S : Hp} : ∀ {vs : List V} {ds : List D} (n : Nat), DqAll K S vs ds → DqAll K S (vs.eraseIdx n) (ds.eraseIdx n)
  | _, _, 0, .cons _ t => by simpa using t
  | _, _, _, .nil => by simpa using DqAll.nil
  | _, _, n + 1, .cons a t => by simpa using DqAll.cons a (DqAll.eraseIdx n t)
theorem DqAll.reverse {K : Fg} {S : Hp} : ∀ {vs : List V} {ds : List D}, DqAll K S vs ds → DqAll K S vs.reverse ds.reverse
  | _, _, .nil => by simpa using DqAll.nil
  | _, _, .cons a t => by
    simp only [List.reverse_cons]
    exact DqAll.append (DqAll.reverse t) (.cons a .nil)
theorem DqAll.dropLast {K : Fg} {S : Hp} {vs : List V} {ds : List D} (q : DqAll K S vs ds) : DqAll K S vs.dropLast ds.dropLast := by
  rw [List.dropLast_eq_take, List.dropLast_eq_take, q.length]
  exact q.take _

/-! the values of the small language -/
inductive RV where
  | val (d : D) | new (ds : List D)
def RV.d : RV → D
  | .val d => d
  | .new ds => .lst ds
inductive Ent where
  | no | val (d : D) | own (ds : List D) | io (ds : List D)
abbrev En := List Ent
def Ent.d? : Ent → Option D
  | .no => none
  | .val d => some d
  | .own ds => some (.lst ds)
  | .io ds => some (.lst ds)

structure Bs where
  Hb : Hp
  Sb : Hp
  io : Option Addr
def EntOk (K : Fg) (B : Bs) (H S : Hp) (x : Option (Option V)) : Ent → Prop
  | .no => True
  | .val d => ∃ v, x = some (some v) ∧ Dq K S v d
  | .own ds => ∃ a xs, x = some (some (.ref a)) ∧ H a = some (.lst xs) ∧ S a = none ∧ B.Hb a = none ∧ DqAll K S xs ds
  | .io ds => ∃ a xs, x = some (some (.ref a)) ∧ H a = some (.lst xs) ∧ S a = none ∧ B.io = some a ∧ DqAll K S xs ds
def isRoot : Ent → Bool
  | .own _ => true
  | .io _ => true
  | _ => false
def Root (σ : St) (ρ : En) (i : Nat) (a : Addr) : Prop := (∃ e, ρ[i]? = some e ∧ isRoot e = true) ∧ σ[i]? = some (some (.ref a))
structure Rel (K : Fg) (B : Bs) (σ : St) (ρ : En) (H S : Hp) : Prop where
  len : ρ.length = σ.length
  sub : Same S H
  ent : ∀ (i : Nat) (e : Ent), ρ[i]? = some e → EntOk K B H S σ[i]? e
  inj : ∀ i j a, Root σ ρ i a → Root σ ρ j a → i = j
  old : ∀ b o, B.Hb b = some o → B.io ≠ some b → H b = some o
  sst : Same B.Sb S
  sold : ∀ b, B.Hb b ≠ none → S b = B.Sb b
  iok : ∀ a, B.io = some a → H a ≠ none
theorem Rel.root {K : Fg} {B : Bs} {σ : St} {ρ : En} {H S : Hp} (R : Rel K B σ ρ H S) {i : Nat} {a : Addr} (h : Root σ ρ i a) : ∃ xs, H a = some (.lst xs) ∧ S a = none := by
  obtain ⟨⟨e, he, hr⟩, hs⟩ := h
  have q := R.ent i e he
  cases e with
  | no => cases hr
  | val d => cases hr
  | own ds =>
    obtain ⟨b, xs, h1, h2, h3, _⟩ := q
    rw [hs] at h1
    cases h1
    exact ⟨xs, h2, h3⟩
  | io ds =>
    obtain ⟨b, xs, h1, h2, h3, _⟩ := q
    rw [hs] at h1
    cases h1
    exact ⟨xs, h2, h3⟩
/-- new objects alone -/
structure Grow (H S H' S' : Hp) : Prop where
  ss : Same S S'
  sub : Same S' H'
  hh : Same H H'
  dm : ∀ b, H b ≠ none → S' b = S b
theorem Grow.refl {H S : Hp} (h : Same S H) : Grow H S H S := ⟨.refl _, h, .refl _, fun _ _ => rfl⟩
theorem Grow.trans {H S H1 S1 H2 S2 : Hp} (a : Grow H S H1 S1) (b : Grow H1 S1 H2 S2) : Grow H S H2 S2 :=
  ⟨a.ss.trans b.ss, b.sub, a.hh.trans b.hh, fun x hx => by
    have h1 : H1 x ≠ none := by
      cases q : H x with
      | none => exact absurd q hx
      | some o => rw [a.hh x o q]; exact fun z => by cases z
    rw [b.dm x h1, a.dm x hx]⟩
theorem Rel.grow {K : Fg} {B : Bs} {σ : St} {ρ : En} {H S H' S' : Hp} (R : Rel K B σ ρ H S) (g : Grow H S H' S') : Rel K B σ ρ H' S' := by
  refine ⟨R.len, g.sub, fun i e h => ?_, R.inj, fun b o h hb => g.hh _ _ (R.old b o h hb), R.sst.trans g.ss, fun b hb => ?_, fun a ha => ?_⟩
  · have q := R.ent i e h
    cases e with
    | no => trivial
    | val d => obtain ⟨v, h1, h2⟩ := q; exact ⟨v, h1, dp_mono g.ss _ _ h2⟩
    | own ds =>
      obtain ⟨a, xs, h1, h2, h3, h4, h5⟩ := q
      exact ⟨a, xs, h1, g.hh _ _ h2, by rw [g.dm a (by rw [h2]; exact fun z => by cases z)]; exact h3, h4, dpAll_mono g.ss _ _ h5⟩
    | io ds =>
      obtain ⟨a, xs, h1, h2, h3, h4, h5⟩ := q
      exact ⟨a, xs, h1, g.hh _ _ h2, by rw [g.dm a (by rw [h2]; exact fun z => by cases z)]; exact h3, h4, dpAll_mono g.ss _ _ h5⟩
  · by_cases hi : B.io = some b
    · rw [g.dm b (R.iok b hi)]; exact R.sold b hb
    · cases q : B.Hb b with
      | none => exact absurd q hb
      | some o => rw [g.dm b (by rw [R.old b o q hi]; exact fun z => by cases z)]; exact R.sold b hb
  · cases q : H a with
    | none => exact absurd q (R.iok a ha)
    | some o => rw [g.hh a o q]; exact fun z => by cases z

structure Ext (σ : St) (ρ ρ' : En) (H S H' S' : Hp) : Prop where
  ss : Same S S'
  kp : ∀ b o, H b = some o → (∀ i, ¬ Root σ ρ i b) → H' b = some o ∧ S' b = S b
  rt : ∀ i a, Root σ ρ' i a → Root σ ρ i a
  dm : ∀ b, H b ≠ none → H' b ≠ none
theorem Ext.refl {σ : St} {ρ : En} {H S : Hp} : Ext σ ρ ρ H S H S := ⟨.refl _, fun _ _ h _ => ⟨h, rfl⟩, fun _ _ h => h, fun _ h => h⟩
theorem Ext.trans {σ : St} {ρ ρ1 ρ2 : En} {H S H1 S1 H2 S2 : Hp} (a : Ext σ ρ ρ1 H S H1 S1) (b : Ext σ ρ1 ρ2 H1 S1 H2 S2) : Ext σ ρ ρ2 H S H2 S2 :=
  ⟨a.ss.trans b.ss, fun x o hx hr => by
    obtain ⟨h1, h2⟩ := a.kp x o hx hr
    obtain ⟨h3, h4⟩ := b.kp x o h1 fun i hi => hr i (a.rt i x hi)
    exact ⟨h3, h4.trans h2⟩, fun i x h => a.rt i x (b.rt i x h), fun x h => b.dm x (a.dm x h)⟩
theorem Ext.grow {σ : St} {ρ : En} {H S H' S' : Hp} (g : Grow H S H' S') : Ext σ ρ ρ H S H' S' :=
  ⟨g.ss, fun b o h _ => ⟨g.hh b o h, g.dm b (by rw [h]; exact fun z => by cases z)⟩, fun _ _ h => h, fun b h => by
    cases q : H b with
    | none => exact absurd q h
    | some o => rw [g.hh b o q]; exact fun z => by cases z⟩

def RvOk (K : Fg) (H H' S' : Hp) (v : V) : RV → Prop
  | .val d => Dq K S' v d
  | .new ds => ∃ a xs, v = .ref a ∧ H a = none ∧ H' a = some (.lst xs) ∧ S' a = none ∧ DqAll K S' xs ds
/-- a list of ours becomes data -/
theorem grow_frz {H S : Hp} {a : Addr} {o : HO} (hs : Same S H) (h : H a = some o) (n : S a = none) : Same S (upd S a o) ∧ Same (upd S a o) H := by
  refine ⟨fun b u e => ?_, fun b u e => ?_⟩
  · rw [upd_ne (ne_of_none e n)]; exact e
  · by_cases hb : b = a
    · subst hb; rw [upd_same] at e; cases e; exact h
    · rw [upd_ne hb] at e; exact hs b u e
/-- the stable part takes in an object that is no root and no old one -/
theorem Rel.take {K : Fg} {B : Bs} {σ : St} {ρ : En} {H S : Hp} (R : Rel K B σ ρ H S) {a : Addr} {o : HO} (h : H a = some o) (n : S a = none) (hb : B.Hb a = none) (hr : ∀ i, ¬ Root σ ρ i a) : Rel K B σ ρ H (upd S a o) := by
  obtain ⟨s1, s2⟩ := grow_frz R.sub h n
  refine ⟨R.len, s2, fun i e he => ?_, R.inj, R.old, R.sst.trans s1, fun b q => ?_, R.iok⟩
  · have q := R.ent i e he
    cases e with
    | no => trivial
    | val d => obtain ⟨v, h1, h2⟩ := q; exact ⟨v, h1, dp_mono s1 _ _ h2⟩
    | own ds =>
      obtain ⟨b, xs, h1, h2, h3, h4, h5⟩ := q
      have hn : b ≠ a := fun z => hr i ⟨⟨_, he, rfl⟩, by rw [h1, z]⟩
      exact ⟨b, xs, h1, h2, by rw [upd_ne hn]; exact h3, h4, dpAll_mono s1 _ _ h5⟩
    | io ds =>
      obtain ⟨b, xs, h1, h2, h3, h4, h5⟩ := q
      have hn : b ≠ a := fun z => hr i ⟨⟨_, he, rfl⟩, by rw [h1, z]⟩
      exact ⟨b, xs, h1, h2, by rw [upd_ne hn]; exact h3, h4, dpAll_mono s1 _ _ h5⟩
  · have hn : b ≠ a := fun z => by rw [z] at q; exact q hb
    rw [upd_ne hn]; exact R.sold b q
/-- weaker entries -/
theorem Rel.weak {K : Fg} {B : Bs} {σ : St} {ρ ρ' : En} {H S : Hp} (R : Rel K B σ ρ H S) (hl : ρ'.length = ρ.length) (w : ∀ (i : Nat) (e : Ent), ρ'[i]? = some e → ρ[i]? = some e ∨ e = .no) : Rel K B σ ρ' H S := by
  have hr : ∀ i a, Root σ ρ' i a → Root σ ρ i a := fun i a ⟨⟨e, he, hr⟩, hs⟩ => by
    rcases w i e he with h | h
    · exact ⟨⟨e, h, hr⟩, hs⟩
    · subst h; cases hr
  refine ⟨hl.trans R.len, R.sub, fun i e he => ?_, fun i j a h1 h2 => R.inj i j a (hr i a h1) (hr j a h2), R.old, R.sst, R.sold, R.iok⟩
  rcases w i e he with h | h
  · exact R.ent i e h
  · subst h; trivial
/-- an owned entry becomes data -/
theorem Rel.freeze {K : Fg} {B : Bs} {σ : St} {ρ : En} {H S : Hp} (R : Rel K B σ ρ H S) {i : Nat} {ds : List D} (hi : ρ[i]? = some (.own ds)) :
    ∃ a xs, σ[i]? = some (some (.ref a)) ∧ H a = some (.lst xs) ∧ Rel K B σ (ρ.set i (.val (.lst ds))) H (upd S a (.lst xs)) ∧ Dq K (upd S a (.lst xs)) (.ref a) (.lst ds) ∧ Ext σ ρ (ρ.set i (.val (.lst ds))) H S H (upd S a (.lst xs)) := by
  obtain ⟨a, xs, h1, h2, h3, h4, h5⟩ := R.ent i _ hi
  obtain ⟨s1, s2⟩ := grow_frz R.sub h2 h3
  have hlt : i < ρ.length := (List.getElem?_eq_some_iff.mp hi).1
  have hd : Dq K (upd S a (.lst xs)) (.ref a) (.lst ds) := .lst upd_same (dpAll_mono s1 _ _ h5)
  have hroot : Root σ ρ i a := ⟨⟨_, hi, rfl⟩, h1⟩
  have hrt : ∀ j b, Root σ (ρ.set i (.val (.lst ds))) j b → Root σ ρ j b ∧ j ≠ i := fun j b ⟨⟨e, he, hr⟩, hs⟩ => by
    by_cases hj : j = i
    · subst hj
      rw [List.getElem?_set_self hlt] at he
      cases he; cases hr
    · rw [List.getElem?_set_ne (Ne.symm hj)] at he
      exact ⟨⟨⟨e, he, hr⟩, hs⟩, hj⟩
  refine ⟨a, xs, h1, h2, ⟨by simpa using R.len, s2, fun j e he => ?_, fun j k b q1 q2 => R.inj j k b (hrt j b q1).1 (hrt k b q2).1, R.old, R.sst.trans s1, fun b q => ?_, R.iok⟩, hd, ⟨s1, fun b o hb hr => ⟨hb, ?_⟩, fun j b q => (hrt j b q).1, fun _ h => h⟩⟩
  · by_cases hj : j = i
    · subst hj
      rw [List.getElem?_set_self hlt] at he
      cases he
      exact ⟨_, h1, hd⟩
    · rw [List.getElem?_set_ne (Ne.symm hj)] at he
      have q := R.ent j e he
      have ne : ∀ b, σ[j]? = some (some (.ref b)) → isRoot e = true → b ≠ a := fun b q1 q2 z => hj (R.inj j i a ⟨⟨e, he, q2⟩, by rw [q1, z]⟩ hroot)
      cases e with
      | no => trivial
      | val d => obtain ⟨v, g1, g2⟩ := q; exact ⟨v, g1, dp_mono s1 _ _ g2⟩
      | own ds' =>
        obtain ⟨b, ys, g1, g2, g3, g4, g5⟩ := q
        exact ⟨b, ys, g1, g2, by rw [upd_ne (ne b g1 rfl)]; exact g3, g4, dpAll_mono s1 _ _ g5⟩
      | io ds' =>
        obtain ⟨b, ys, g1, g2, g3, g4, g5⟩ := q
        exact ⟨b, ys, g1, g2, by rw [upd_ne (ne b g1 rfl)]; exact g3, g4, dpAll_mono s1 _ _ g5⟩
  · have hn : b ≠ a := fun z => by rw [z] at q; exact q h4
    rw [upd_ne hn]; exact R.sold b q
  · have hn : b ≠ a := fun z => hr i (by rw [z]; exact hroot)
    rw [upd_ne hn]
end My

namespace My
open PySem PySem.Spec PyProof.Rows L2
theorem pe_imp {X : Cx} {e : Expr} {t t' : TE} (h : PE X e t) (w : ∀ σ H Q, t' σ H Q → t σ H Q) : PE X e t' := ⟨fun pins s σ H Q I q => h.run pins s σ H Q I (w σ H Q q)⟩
theorem pt_imp {X : Cx} {e : Expr} {t t' : TT} (h : PT X e t) (w : ∀ σ H Q, t' σ H Q → t σ H Q) : PT X e t' := ⟨fun pins s σ H Q I q => h.run pins s σ H Q I (w σ H Q q)⟩
theorem pw_imp {X : Cx} {e : Expr} {t t' : TT} (h : PW X e t) (w : ∀ σ H Q, t' σ H Q → t σ H Q) : PW X e t' := ⟨fun wh pins s σ H Q I q => h.run wh pins s σ H Q I (w σ H Q q)⟩
theorem pa_imp {X : Cx} {es : List Expr} {t t' : TA} (h : PA X es t) (w : ∀ σ H Q, t' σ H Q → t σ H Q) : PA X es t' := ⟨fun pos pins s σ H Q I q => h.run pos pins s σ H Q I (w σ H Q q)⟩
theorem ps_imp {X : Cx} {e : Stmt} {t t' : TS} (h : PS X e t) (w : ∀ D σ H, t' D σ H → t D σ H) : PS X e t' := ⟨fun pins s σ H D I q => h.run pins s σ H D I (w D σ H q)⟩
theorem pss_imp {X : Cx} {e : List Stmt} {t t' : TS} (h : PSs X e t) (w : ∀ D σ H, t' D σ H → t D σ H) : PSs X e t' := ⟨fun pins s σ H D I q => h.run pins s σ H D I (w D σ H q)⟩

/-! ### evaluations -/
abbrev EvV := En → Option (RV × En)
abbrev EvT := En → Option (Bool × En)
def tV (K : Fg) (f : EvV) : TE := fun σ H Q => ∃ B ρ S r ρ', Rel K B σ ρ H S ∧ f ρ = some (r, ρ') ∧
  ∀ v H' S', Rel K B σ ρ' H' S' → Ext σ ρ ρ' H S H' S' → RvOk K H H' S' v r → Q v H'
def tT (K : Fg) (f : EvT) : TT := fun σ H Q => ∃ B ρ S b ρ', Rel K B σ ρ H S ∧ f ρ = some (b, ρ') ∧
  ∀ H' S', Rel K B σ ρ' H' S' → Ext σ ρ ρ' H S H' S' → Q b H'
inductive Ar where
  | var (i : Nat) | fz (i : Nat) | ex (f : EvV)
inductive Hd where
  | slot (i : Nat) | dat (d : D)
def froz (i : Nat) (ρ : En) : Option (D × En) :=
  match ρ[i]? with
  | some (.val d) => some (d, ρ)
  | some (.own ds) => some (.lst ds, ρ.set i (.val (.lst ds)))
  | _ => none
def evAr : Ar → En → Option (Hd × En)
  | .var i, ρ => ((ρ[i]?).bind Ent.d?).bind fun _ => some (.slot i, ρ)
  | .fz i, ρ => (froz i ρ).bind fun p => some (.dat p.1, p.2)
  | .ex f, ρ => (f ρ).bind fun p => some (.dat p.1.d, p.2)
def Hd.get : Hd → En → Option D
  | .slot i, ρ => (ρ[i]?).bind Ent.d?
  | .dat d, _ => some d
def ArgOk (K : Fg) (S : Hp) (σ : St) (v : V) : Hd → Prop
  | .slot i => σ[i]? = some (some v)
  | .dat d => Dq K S v d
theorem ArgOk.mono {K : Fg} {S S' : Hp} {σ : St} {v : V} {h : Hd} (a : ArgOk K S σ v h) (s : Same S S') : ArgOk K S' σ v h := by
  cases h with
  | slot i => exact a
  | dat d => exact dp_mono s _ _ a
def tA (K : Fg) (a : Ar) : TE := fun σ H Q => ∃ B ρ S h ρ', Rel K B σ ρ H S ∧ evAr a ρ = some (h, ρ') ∧
  ∀ v H' S', Rel K B σ ρ' H' S' → Ext σ ρ ρ' H S H' S' → ArgOk K S' σ v h → Q v H'
@[simp] def evArs : List Ar → En → Option (List Hd × En)
  | [], ρ => some ([], ρ)
  | a :: as, ρ => (evAr a ρ).bind fun p => (evArs as p.2).bind fun q => some (p.1 :: q.1, q.2)
@[simp] def getAll : List Hd → En → Option (List D)
  | [], _ => some []
  | h :: hs, ρ => (h.get ρ).bind fun d => (getAll hs ρ).bind fun ds => some (d :: ds)
inductive ArgsOk (K : Fg) (S : Hp) (σ : St) : List V → List Hd → Prop
  | nil : ArgsOk K S σ [] []
  | cons {v h vs hs} : ArgOk K S σ v h → ArgsOk K S σ vs hs → ArgsOk K S σ (v :: vs) (h :: hs)
def tAs (K : Fg) (as : List Ar) : TA := fun σ H Q => ∃ B ρ S hs ρ', Rel K B σ ρ H S ∧ evArs as ρ = some (hs, ρ') ∧
  ∀ vs H' S', Rel K B σ ρ' H' S' → Ext σ ρ ρ' H S H' S' → ArgsOk K S' σ vs hs → Q vs H'
/-- what is read: data, or a list of ours -/
def Rdb (K : Fg) (S H : Hp) (v : V) (d : D) : Prop := Dq K S v d ∨ ∃ a xs ds, v = .ref a ∧ d = .lst ds ∧ H a = some (.lst xs) ∧ DqAll K S xs ds
inductive Rdbs (K : Fg) (S H : Hp) : List V → List D → Prop
  | nil : Rdbs K S H [] []
  | cons {v d vs ds} : Rdb K S H v d → Rdbs K S H vs ds → Rdbs K S H (v :: vs) (d :: ds)
theorem rdb_of {K : Fg} {B : Bs} {σ : St} {ρ : En} {H S : Hp} {v : V} {h : Hd} {d : D} (R : Rel K B σ ρ H S) (a : ArgOk K S σ v h) (g : h.get ρ = some d) : Rdb K S H v d := by
  cases h with
  | dat d' =>
    have e : d' = d := Option.some.inj g
    subst e
    exact .inl a
  | slot i =>
    have g' : (ρ[i]?).bind Ent.d? = some d := g
    cases q : ρ[i]? with
    | none => rw [q] at g'; cases g'
    | some e =>
      rw [q] at g'
      have r := R.ent i e q
      have a' : σ[i]? = some (some v) := a
      cases e with
      | no => cases g'
      | val d' =>
        have e : d' = d := Option.some.inj g'
        subst e
        obtain ⟨w, h1, h2⟩ := r
        rw [a'] at h1; cases h1
        exact .inl h2
      | own ds =>
        have e : D.lst ds = d := Option.some.inj g'
        subst e
        obtain ⟨b, xs, h1, h2, _, _, h5⟩ := r
        rw [a'] at h1; cases h1
        exact .inr ⟨b, xs, ds, rfl, rfl, h2, h5⟩
      | io ds =>
        have e : D.lst ds = d := Option.some.inj g'
        subst e
        obtain ⟨b, xs, h1, h2, _, _, h5⟩ := r
        rw [a'] at h1; cases h1
        exact .inr ⟨b, xs, ds, rfl, rfl, h2, h5⟩
theorem rdbs_of {K : Fg} {B : Bs} {σ : St} {ρ : En} {H S : Hp} (R : Rel K B σ ρ H S) : ∀ {vs : List V} {hs : List Hd} {ds : List D}, ArgsOk K S σ vs hs → getAll hs ρ = some ds → Rdbs K S H vs ds
  | _, _, _, .nil, g => by cases g; exact .nil
  | _, _, ds, .cons a t, g => by
    obtain ⟨d, g1, g2⟩ := Option.bind_eq_some_iff.mp g
    obtain ⟨es, g3, g4⟩ := Option.bind_eq_some_iff.mp g2
    cases g4
    exact .cons (rdb_of R a g1) (rdbs_of R t g3)
theorem ArgsOk.mono {K : Fg} {S S' : Hp} {σ : St} (s : Same S S') : ∀ {vs : List V} {hs : List Hd}, ArgsOk K S σ vs hs → ArgsOk K S' σ vs hs
  | _, _, .nil => .nil
  | _, _, .cons a t => .cons (a.mono s) (ArgsOk.mono s t)

/-! ### freezing what has come -/
theorem frz_new {K : Fg} {B : Bs} {σ : St} {ρ ρ0 : En} {H0 S0 H S : Hp} {v : V} {r : RV} (R0 : Rel K B σ ρ0 H0 S0) (R : Rel K B σ ρ H S) (E : Ext σ ρ0 ρ H0 S0 H S) (q : RvOk K H0 H S v r) :
    ∃ S', Rel K B σ ρ H S' ∧ Ext σ ρ0 ρ H0 S0 H S' ∧ Dq K S' v r.d := by
  cases r with
  | val d => exact ⟨S, R, E, q⟩
  | new ds =>
    obtain ⟨a, xs, rfl, h1, h2, h3, h4⟩ := q
    have hb : B.Hb a = none := by
      cases z : B.Hb a with
      | none => rfl
      | some o =>
        by_cases hi : B.io = some a
        · exact absurd h1 (R0.iok a hi)
        · rw [R0.old a o z hi] at h1; cases h1
    have hr : ∀ i, ¬ Root σ ρ i a := fun i h => by
      obtain ⟨ys, g1, _⟩ := R0.root (E.rt i a h)
      rw [g1] at h1; cases h1
    obtain ⟨s1, _⟩ := grow_frz R.sub h2 h3
    refine ⟨upd S a (.lst xs), R.take h2 h3 hb hr, ⟨E.ss.trans s1, fun b o g1 g2 => ?_, E.rt, E.dm⟩, .lst upd_same (dpAll_mono s1 _ _ h4)⟩
    obtain ⟨g3, g4⟩ := E.kp b o g1 g2
    refine ⟨g3, ?_⟩
    rw [upd_ne (ne_of_none g1 h1)]
    exact g4
theorem ent_some {K : Fg} {B : Bs} {σ : St} {ρ : En} {H S : Hp} {i : Nat} {d : D} (R : Rel K B σ ρ H S) (h : (ρ[i]?).bind Ent.d? = some d) : ∃ v, σ[i]? = some (some v) := by
  cases q : ρ[i]? with
  | none => rw [q] at h; cases h
  | some e =>
    rw [q] at h
    have r := R.ent i e q
    cases e with
    | no => cases h
    | val d' => exact ⟨_, r.choose_spec.1⟩
    | own ds => exact ⟨_, r.choose_spec.choose_spec.1⟩
    | io ds => exact ⟨_, r.choose_spec.choose_spec.1⟩
section
variable {X : Cx} {e : Expr} {es : List Expr} {i : Nat} {x : Str} {pos : Pos} {f : EvV} {a : Ar} {as : List Ar}
theorem pa_slot (h : PE X e (tVar i)) : PE X e (tA X.K (.var i)) := by
  refine pe_imp h fun σ H Q q => ?_
  obtain ⟨B, ρ, S, h, ρ', R, e, q⟩ := q
  obtain ⟨d, e1, e2⟩ := Option.bind_eq_some_iff.mp e
  cases e2
  obtain ⟨v, hv⟩ := ent_some R e1
  exact ⟨v, hv, q v H S R .refl hv⟩
theorem pa_fz (h : PE X e (tVar i)) : PE X e (tA X.K (.fz i)) := by
  refine pe_imp h fun σ H Q q => ?_
  obtain ⟨B, ρ, S, h, ρ', R, e, q⟩ := q
  obtain ⟨⟨d, ρ1⟩, e1, e2⟩ := Option.bind_eq_some_iff.mp e
  cases e2
  unfold froz at e1
  split at e1
  · rename_i d' hd
    cases e1
    obtain ⟨v, h1, h2⟩ := R.ent i _ hd
    exact ⟨v, h1, q v H S R .refl h2⟩
  · rename_i ds hd
    cases e1
    obtain ⟨b, xs, h1, h2, h3, h4, h5⟩ := R.freeze hd
    exact ⟨_, h1, q _ H _ h3 h5 h4⟩
  · cases e1
theorem pa_ex (h : PE X e (tV X.K f)) : PE X e (tA X.K (.ex f)) := by
  refine pe_imp h fun σ H Q q => ?_
  obtain ⟨B, ρ, S, h, ρ', R, e, q⟩ := q
  obtain ⟨⟨r, ρ1⟩, e1, e2⟩ := Option.bind_eq_some_iff.mp e
  cases e2
  refine ⟨B, ρ, S, r, ρ1, R, e1, fun v H' S' R' E' k => ?_⟩
  obtain ⟨S2, R2, E2, k2⟩ := frz_new R R' E' k
  exact q v H' S2 R2 E2 k2
theorem pas_nil : PA X [] (tAs X.K []) := by
  refine pa_imp pa_nil fun σ H Q q => ?_
  obtain ⟨B, ρ, S, hs, ρ', R, e, q⟩ := q
  cases e
  exact q [] H S R .refl .nil
theorem pas_cons (ha : PE X e (tA X.K a)) (hr : PA X es (tAs X.K as)) (hs : starEach (e :: es) X.env = (false, eval e X.env) :: starEach es X.env) : PA X (e :: es) (tAs X.K (a :: as)) := by
  refine pa_imp (pa_cons ha hr hs) fun σ H Q q => ?_
  obtain ⟨B, ρ, S, hs, ρ', R, e, q⟩ := q
  obtain ⟨⟨h1, ρ1⟩, e1, e2⟩ := Option.bind_eq_some_iff.mp e
  obtain ⟨⟨hs2, ρ2⟩, e3, e4⟩ := Option.bind_eq_some_iff.mp e2
  cases e4
  exact ⟨B, ρ, S, h1, ρ1, R, e1, fun v H1 S1 R1 X1 A1 => ⟨B, ρ1, S1, hs2, ρ2, R1, e3, fun vs H2 S2 R2 X2 A2 => q _ H2 S2 R2 (X1.trans X2) (.cons (A1.mono X2.ss) A2)⟩⟩
end
/-! ### operations on what is read -/
@[simp] def opC (o : List D → Option RV) (as : List Ar) : EvV := fun ρ => (evArs as ρ).bind fun p => (getAll p.1 p.2).bind fun ds => (o ds).bind fun r => some (r, p.2)
/-- what an operation on values is to do -/
def rOp (K : Fg) (o : List D → Option RV) : List V → Hp → VK → Prop := fun vs H Q => ∃ S ds r, Same S H ∧ Rdbs K S H vs ds ∧ o ds = some r ∧
  ∀ v H' S', Grow H S H' S' → RvOk K H H' S' v r → Q v H'
theorem rvOk_back {K : Fg} {σ : St} {ρ ρ' : En} {H0 S0 H H' S S' : Hp} {v : V} {r : RV} (E : Ext σ ρ ρ' H0 S0 H S) (q : RvOk K H H' S' v r) : RvOk K H0 H' S' v r := by
  cases r with
  | val d => exact q
  | new ds =>
    obtain ⟨a, xs, h1, h2, h3, h4, h5⟩ := q
    refine ⟨a, xs, h1, ?_, h3, h4, h5⟩
    cases z : H0 a with
    | none => rfl
    | some o => exact absurd h2 (E.dm a (by rw [z]; exact fun z => by cases z))
theorem opC_end {K : Fg} {o : List D → Option RV} {B : Bs} {σ : St} {ρ ρ' : En} {H0 S0 H S : Hp} {Q : VK} {r : RV} {vs : List V} {hs : List Hd} {ds : List D} (R : Rel K B σ ρ' H S) (E : Ext σ ρ ρ' H0 S0 H S) (A : ArgsOk K S σ vs hs)
    (g : getAll hs ρ' = some ds) (ho : o ds = some r) (q : ∀ v H' S', Rel K B σ ρ' H' S' → Ext σ ρ ρ' H0 S0 H' S' → RvOk K H0 H' S' v r → Q v H') : rOp K o vs H Q :=
  ⟨S, ds, r, R.sub, rdbs_of R A g, ho, fun v H' S' gr k => q v H' S' (R.grow gr) (E.trans (.grow gr)) (rvOk_back E k)⟩
section
variable {X : Cx} {K : Fg} {e a b c : Expr} {es : List Expr} {i : Nat} {pos : Pos} {o : List D → Option RV} {f : EvV} {a1 b1 c1 : Ar} {as : List Ar} {σ : St} {H : Hp} {Q : VK}
theorem op_as (q : tV K (opC o as) σ H Q) : tCB (rOp K o) (tAs K as) σ H Q := by
  obtain ⟨B, ρ, S, r, ρ', R, e, q⟩ := q
  obtain ⟨⟨hs, ρ1⟩, e1, e2⟩ := Option.bind_eq_some_iff.mp e
  obtain ⟨ds, e3, e4⟩ := Option.bind_eq_some_iff.mp e2
  obtain ⟨r', e5, e6⟩ := Option.bind_eq_some_iff.mp e4
  cases e6
  exact ⟨B, ρ, S, hs, ρ1, R, e1, fun vs H1 S1 R1 X1 A1 => opC_end R1 X1 A1 e3 e5 q⟩
theorem op_1 (q : tV K (opC o [a1]) σ H Q) : tA K a1 σ H fun x H1 => rOp K o [x] H1 Q := by
  obtain ⟨B, ρ, S, r, ρ', R, e, q⟩ := q
  obtain ⟨⟨hs, ρ1⟩, e1, e2⟩ := Option.bind_eq_some_iff.mp e
  obtain ⟨ds, e3, e4⟩ := Option.bind_eq_some_iff.mp e2
  obtain ⟨r', e5, e6⟩ := Option.bind_eq_some_iff.mp e4
  cases e6
  obtain ⟨⟨h1, ρ2⟩, g1, g2⟩ := Option.bind_eq_some_iff.mp e1
  cases g2
  exact ⟨B, ρ, S, h1, ρ2, R, g1, fun v H1 S1 R1 X1 A1 => opC_end R1 X1 (.cons A1 .nil) e3 e5 q⟩
theorem op_2 (q : tV K (opC o [a1, b1]) σ H Q) : tA K a1 σ H fun x H1 => tA K b1 σ H1 fun y H2 => rOp K o [x, y] H2 Q := by
  obtain ⟨B, ρ, S, r, ρ', R, e, q⟩ := q
  obtain ⟨⟨hs, ρ1⟩, e1, e2⟩ := Option.bind_eq_some_iff.mp e
  obtain ⟨ds, e3, e4⟩ := Option.bind_eq_some_iff.mp e2
  obtain ⟨r', e5, e6⟩ := Option.bind_eq_some_iff.mp e4
  cases e6
  obtain ⟨⟨h1, ρ2⟩, g1, g2⟩ := Option.bind_eq_some_iff.mp e1
  obtain ⟨⟨hs2, ρ3⟩, g3, g4⟩ := Option.bind_eq_some_iff.mp g2
  cases g4
  obtain ⟨⟨h2, ρ4⟩, g5, g6⟩ := Option.bind_eq_some_iff.mp g3
  cases g6
  exact ⟨B, ρ, S, h1, ρ2, R, g1, fun v H1 S1 R1 X1 A1 => ⟨B, ρ2, S1, h2, ρ4, R1, g5, fun u H2 S2 R2 X2 A2 => opC_end R2 (X1.trans X2) (.cons (A1.mono X2.ss) (.cons A2 .nil)) e3 e5 q⟩⟩
end
end My

namespace My
open PySem PySem.Spec PyProof.Rows L2

mutual
def toPy : D → PyData
  | .non => .none
  | .bl b => .bool b
  | .int i => .int i
  | .str x => .str x
  | .lst xs => .list (toPys xs)
  | .tup xs => .tuple (toPys xs)
  | .scr _ => .dict []
  | .dic _ _ => .dict []
def toPys : List D → List PyData
  | [] => []
  | x :: xs => toPy x :: toPys xs
end
mutual
def eqD : D → D → Bool
  | .non, .non => true
  | .bl a, .bl b => a == b
  | .bl a, .int j => (if a then 1 else 0) == j
  | .int i, .bl b => i == (if b then 1 else 0)
  | .int i, .int j => i == j
  | .str x, .str y => x == y
  | .lst xs, .lst ys => eqDs xs ys
  | .tup xs, .tup ys => eqDs xs ys
  | _, _ => false
def eqDs : List D → List D → Bool
  | [], [] => true
  | x :: xs, y :: ys => eqD x y && eqDs xs ys
  | _, _ => false
end
mutual
/-- plain data: nothing but the usual kinds, texts of true signs -/
def plnD : D → Bool
  | .non => true
  | .bl _ => true
  | .int _ => true
  | .str x => PyData.strOk x
  | .lst xs => plnDs xs
  | .tup xs => plnDs xs
  | .scr _ => false
  | .dic _ _ => false
def plnDs : List D → Bool
  | [] => true
  | x :: xs => plnD x && plnDs xs
end
mutual
def depD : D → Nat
  | .lst xs => depDs xs + 1
  | .tup xs => depDs xs + 1
  | _ => 0
def depDs : List D → Nat
  | [] => 0
  | x :: xs => max (depD x) (depDs xs)
end
def shpD (d : D) : Bool := plnD d && decide (depD d ≤ 60)
mutual
theorem eqv_toPy : ∀ (d e : D), plnD d = true → plnD e = true → PyData.eqv (toPy d) (toPy e) = eqD d e
  | .non, e, _, he => by cases e <;> first | rfl | cases he
  | .bl a, e, _, he => by cases e <;> first | rfl | cases he
  | .int a, e, _, he => by cases e <;> first | rfl | cases he
  | .str a, e, _, he => by cases e <;> first | rfl | cases he
  | .lst xs, e, h, he => by
    cases e with
    | lst ys => exact eqvs_toPy xs ys h he
    | scr _ => cases he
    | dic _ _ => cases he
    | _ => rfl
  | .tup xs, e, h, he => by
    cases e with
    | tup ys => exact eqvs_toPy xs ys h he
    | scr _ => cases he
    | dic _ _ => cases he
    | _ => rfl
  | .scr _, _, h, _ => by cases h
  | .dic _ _, _, h, _ => by cases h
theorem eqvs_toPy : ∀ (ds es : List D), plnDs ds = true → plnDs es = true → PyData.eqvAll (toPys ds) (toPys es) = eqDs ds es
  | [], [], _, _ => rfl
  | [], _ :: _, _, _ => rfl
  | _ :: _, [], _, _ => rfl
  | d :: ds, e :: es, h1, h2 => by
    have a1 := Bool.and_eq_true_iff.mp (show (plnD d && plnDs ds) = true from h1)
    have a2 := Bool.and_eq_true_iff.mp (show (plnD e && plnDs es) = true from h2)
    show (PyData.eqv (toPy d) (toPy e) && PyData.eqvAll (toPys ds) (toPys es)) = (eqD d e && eqDs ds es)
    rw [eqv_toPy d e a1.1 a2.1, eqvs_toPy ds es a1.2 a2.2]
end
mutual
theorem lay_toPy : ∀ d : D, plnD d = true → PyData.canLay0 (toPy d) = true
  | .non, _ => rfl
  | .bl _, _ => rfl
  | .int _, _ => rfl
  | .str _, h => h
  | .lst xs, h => lays_toPy xs h
  | .tup xs, h => lays_toPy xs h
  | .scr _, h => by cases h
  | .dic _ _, h => by cases h
theorem lays_toPy : ∀ ds : List D, plnDs ds = true → PyData.canLayAll0 (toPys ds) = true
  | [], _ => rfl
  | d :: ds, h => by
    have a := Bool.and_eq_true_iff.mp (show (plnD d && plnDs ds) = true from h)
    show (PyData.canLay0 (toPy d) && PyData.canLayAll0 (toPys ds)) = true
    rw [lay_toPy d a.1, lays_toPy ds a.2]; rfl
end
mutual
theorem dep_toPy : ∀ d : D, plnD d = true → PyData.depth (toPy d) = depD d
  | .non, _ => rfl
  | .bl _, _ => rfl
  | .int _, _ => rfl
  | .str _, _ => rfl
  | .lst xs, h => congrArg (· + 1) (deps_toPy xs h)
  | .tup xs, h => congrArg (· + 1) (deps_toPy xs h)
  | .scr _, h => by cases h
  | .dic _ _, h => by cases h
theorem deps_toPy : ∀ ds : List D, plnDs ds = true → PyData.depthAll (toPys ds) = depDs ds
  | [], _ => rfl
  | d :: ds, h => by
    have a := Bool.and_eq_true_iff.mp (show (plnD d && plnDs ds) = true from h)
    show max (PyData.depth (toPy d)) (PyData.depthAll (toPys ds)) = max (depD d) (depDs ds)
    rw [dep_toPy d a.1, deps_toPy ds a.2]
end
theorem shp_shaped {d : D} (h : shpD d = true) : SeqAt.shaped (toPy d) = true := by
  have a := Bool.and_eq_true_iff.mp h
  have h2 : depD d ≤ 60 := of_decide_eq_true a.2
  unfold SeqAt.shaped
  rw [lay_toPy d a.1, dep_toPy d a.1, decide_eq_true (by omega)]; rfl
mutual
theorem dp_of {K : Fg} {S : Hp} : ∀ (d : D) (v : V), plnD d = true → Dq K S v d → L2.Dp K S v (toPy d)
  | .non, _, _, q => by cases q; exact .non
  | .bl _, _, _, q => by cases q; exact .bl _
  | .int _, _, _, q => by cases q; exact .int _
  | .str _, _, _, q => by cases q; exact .str _
  | .lst xs, _, h, q => by
    cases q with
    | lst a b => exact .lst (.inl (.inl a)) (dps_of xs _ h b)
  | .tup xs, _, h, q => by
    cases q with
    | tup a b => exact .tup (.inl (.inl a)) (dps_of xs _ h b)
  | .scr _, _, h, _ => by cases h
  | .dic _ _, _, h, _ => by cases h
theorem dps_of {K : Fg} {S : Hp} : ∀ (ds : List D) (vs : List V), plnDs ds = true → DqAll K S vs ds → L2.DpAll K S vs (toPys ds)
  | [], _, _, q => by cases q; exact .nil
  | d :: ds, _, h, q => by
    have a := Bool.and_eq_true_iff.mp (show (plnD d && plnDs ds) = true from h)
    cases q with
    | cons b c => exact .cons (dp_of d _ a.1 b) (dps_of ds _ a.2 c)
end

/-! ### what is read, by its kind -/
section
variable {K : Fg} {S H : Hp} {v : V}
theorem Rdb.up {d : D} (h : Rdb K S H v d) (hs : Same S H) : Dq K H v d := by
  rcases h with h | ⟨a, xs, ds, rfl, rfl, h1, h2⟩
  · exact dp_mono hs _ _ h
  · exact .lst h1 (dpAll_mono hs _ _ h2)
theorem Rdb.int' {i : Int} (h : Rdb K S H v (.int i)) : v = .int i := by
  rcases h with h | ⟨a, xs, ds, _, h, _⟩
  · cases h; rfl
  · cases h
theorem Rdb.bl' {i : Bool} (h : Rdb K S H v (.bl i)) : v = .bl i := by
  rcases h with h | ⟨a, xs, ds, _, h, _⟩
  · cases h; rfl
  · cases h
theorem Rdb.str' {i : Str} (h : Rdb K S H v (.str i)) : v = .str i := by
  rcases h with h | ⟨a, xs, ds, _, h, _⟩
  · cases h; rfl
  · cases h
theorem Rdb.non' (h : Rdb K S H v .non) : v = .non := by
  rcases h with h | ⟨a, xs, ds, _, h, _⟩
  · cases h; rfl
  · cases h
theorem Rdb.lst' {ds : List D} (h : Rdb K S H v (.lst ds)) (hs : Same S H) : ∃ a xs, v = .ref a ∧ H a = some (.lst xs) ∧ DqAll K S xs ds := by
  rcases h with h | ⟨a, xs, es, rfl, h, h1, h2⟩
  · cases h with
    | lst a b => exact ⟨_, _, rfl, hs _ _ a, b⟩
  · cases h; exact ⟨a, xs, rfl, h1, h2⟩
theorem Rdb.tup' {ds : List D} (h : Rdb K S H v (.tup ds)) (hs : Same S H) : ∃ a xs, v = .ref a ∧ SqT K H a xs ∧ DqAll K S xs ds ∧ Dq K S v (.tup ds) := by
  rcases h with h | ⟨a, xs, es, rfl, h, h1, h2⟩
  · cases h with
    | tup a b => exact ⟨_, _, rfl, .inl (.inl (hs _ _ a)), b, .tup a b⟩
  · cases h
theorem Rdb.scr' {ns : List Int} (h : Rdb K S H v (.scr ns)) (hs : Same S H) : ∃ a, v = .ref a ∧ SqL K H a (ns.map V.int) := by
  rcases h with h | ⟨a, xs, es, rfl, h, h1, h2⟩
  · cases h with
    | scr a => exact ⟨_, rfl, hs.seq a⟩
  · cases h
theorem Rdbs.one {vs : List V} {d : D} (h : Rdbs K S H vs [d]) : ∃ v, vs = [v] ∧ Rdb K S H v d := by
  cases h with
  | cons a t => cases t; exact ⟨_, rfl, a⟩
theorem rd1 {ds : List D} (h : Rdbs K S H [v] ds) : ∃ d, ds = [d] ∧ Rdb K S H v d := by
  cases h with
  | cons a t => cases t; exact ⟨_, rfl, a⟩
theorem rd2 {u : V} {ds : List D} (h : Rdbs K S H [v, u] ds) : ∃ d e, ds = [d, e] ∧ Rdb K S H v d ∧ Rdb K S H u e := by
  cases h with
  | cons a t =>
    cases t with
    | cons b t => cases t; exact ⟨_, _, rfl, a, b⟩
/-! the three ends of an operation -/
theorem end_val {Q : VK} {d : D} {r : RV} (hs : Same S H) (q : ∀ v H' S', Grow H S H' S' → RvOk K H H' S' v r → Q v H') (e : r = .val d) (h : Dq K S v d) : Q v H := by
  subst e
  exact q v H S (.refl hs) h
theorem end_tup {Q : VK} {ds : List D} {xs : List V} {r : RV} (hs : Same S H) (q : ∀ v H' S', Grow H S H' S' → RvOk K H H' S' v r → Q v H') (e : r = .val (.tup ds)) (h : DqAll K S xs ds) : ∀ p, H p = none → Q (.ref p) (upd H p (.tup xs)) := by
  subst e
  intro p hp
  have hS : S p = none := hs.free hp
  have s1 : Same S (upd S p (.tup xs)) := fun b o e => by rw [upd_ne (ne_of_none e hS)]; exact e
  refine q _ _ (upd S p (.tup xs)) ⟨s1, fun b o e => ?_, fun b o e => by rw [upd_ne (ne_of_none e hp)]; exact e, fun b hb => ?_⟩ ?_
  · by_cases hb : b = p
    · subst hb; rw [upd_same] at e ⊢; exact e
    · rw [upd_ne hb] at e ⊢; exact hs _ _ e
  · have hn : b ≠ p := fun z => hb (by rw [z]; exact hp)
    rw [upd_ne hn]
  · exact .tup upd_same (dpAll_mono s1 _ _ h)
theorem end_lst {Q : VK} {ds : List D} {xs : List V} {r : RV} (hs : Same S H) (q : ∀ v H' S', Grow H S H' S' → RvOk K H H' S' v r → Q v H') (e : r = .new ds) (h : DqAll K S xs ds) : ∀ p, H p = none → Q (.ref p) (upd H p (.lst xs)) := by
  subst e
  intro p hp
  have hS : S p = none := hs.free hp
  refine q _ _ S ⟨.refl _, fun b o e => ?_, fun b o e => by rw [upd_ne (ne_of_none e hp)]; exact e, fun b hb => rfl⟩ ⟨p, xs, rfl, hp, upd_same, hS, h⟩
  have hn : b ≠ p := ne_of_none e hS
  rw [upd_ne hn]; exact hs _ _ e
end

/-! ### operators -/
@[simp] def sz (n : Nat) : Bool := decide (n ≤ sizeLine)
def oAdd : List D → Option RV
  | [.int i, .int j] => some (.val (.int (i + j)))
  | [.str x, .str y] => if sz (x.length + y.length) then some (.val (.str (x ++ y))) else none
  | [.lst xs, .lst ys] => if sz (xs.length + ys.length) then some (.new (xs ++ ys)) else none
  | [.tup xs, .tup ys] => if sz (xs.length + ys.length) then some (.val (.tup (xs ++ ys))) else none
  | _ => none
def oSub : List D → Option RV
  | [.int i, .int j] => some (.val (.int (i - j)))
  | _ => none
@[simp] def smallI (i : Int) : Bool := decide (i.natAbs < 2 ^ 64)
def oMul : List D → Option RV
  | [.int i, .int j] => if smallI i || smallI j then some (.val (.int (i * j))) else none
  | [.lst xs, .int k] => if decide (-(2 ^ 63) ≤ k) && decide (k < 2 ^ 63) && sz (xs.length * k.toNat) then some (.new (List.replicate k.toNat xs).flatten) else none
  | [.tup xs, .int k] => if k = 1 then some (.val (.tup xs)) else if decide (xs ≠ []) && decide (2 ≤ k) && decide (k ≤ 1000) && decide (xs.length ≤ 1000) then some (.val (.tup (List.replicate k.toNat xs).flatten)) else none
  | _ => none
def oFdiv : List D → Option RV
  | [.int i, .int j] => if decide (0 < j) && decide (j.natAbs < 2 ^ 64) then some (.val (.int (i / j))) else none
  | _ => none
def oMod : List D → Option RV
  | [.int i, .int j] => if decide (0 < j) then some (.val (.int (i % j))) else none
  | _ => none
def oPow : List D → Option RV
  | [.int i, .int j] => if decide (0 ≤ j) && decide (j ≤ 1000000) && decide (i.natAbs < 2 ^ 64) then some (.val (.int (i ^ j.toNat))) else none
  | _ => none
def oNeg : List D → Option RV
  | [.int i] => some (.val (.int (-i)))
  | _ => none
theorem sz_le {n : Nat} (h : sz n = true) : n ≤ sizeLine := of_decide_eq_true h
theorem smallI_of {i : Int} (h : smallI i = true) : -(2 ^ 64) < i ∧ i < 2 ^ 64 := by
  have a : i.natAbs < 2 ^ 64 := of_decide_eq_true h
  omega
section
variable {X : Cx}
theorem or_add : OpR X (binaryOp .Add) (fun x y H Q => rOp X.K oAdd [x, y] H Q) := by
  intro pins s σ H x y v u Q I rx ry ⟨S, ds, r, hs, hr, ho, q⟩
  obtain ⟨d, e, rfl, hd, he⟩ := rd2 hr
  unfold oAdd at ho
  split at ho
  · rename_i i j h
    cases h
    cases ho
    have e1 := hd.int'
    have e2 := he.int'
    exact op_add pins s σ H x y v u Q I rx ry ⟨i, j, e1, e2, end_val hs q rfl (.int _)⟩
  · rename_i i j h
    cases h
    split at ho
    · rename_i hz
      cases ho
      exact op_add_str pins s σ H x y v u Q I rx ry ⟨i, j, hd.str', he.str', sz_le hz, end_val hs q rfl (.str _)⟩
    · cases ho
  · rename_i xs ys h
    cases h
    split at ho
    · rename_i hz
      cases ho
      obtain ⟨a, vs, e1, h1, g1⟩ := hd.lst' hs
      obtain ⟨b, ws, e2, h2, g2⟩ := he.lst' hs
      exact op_cat pins s σ H x y v u Q I rx ry ⟨a, b, vs, ws, e1, e2, h1, h2, by rw [g1.length, g2.length]; exact sz_le hz, end_lst hs q rfl (g1.append g2)⟩
    · cases ho
  · rename_i xs ys h
    cases h
    split at ho
    · rename_i hz
      cases ho
      obtain ⟨a, vs, e1, h1, g1, k1⟩ := hd.tup' hs
      obtain ⟨b, ws, e2, h2, g2, k2⟩ := he.tup' hs
      refine op_catA pins s σ H x y v u Q I rx ry ⟨a, b, vs, ws, e1, e2, h1, h2, by rw [g1.length, g2.length]; exact sz_le hz, fun z => ?_, fun _ z => ?_, fun _ _ => end_tup hs q rfl (g1.append g2)⟩
      · subst z
        cases g1
        rw [e2] at k2
        exact end_val hs q rfl k2
      · subst z
        cases g2
        rw [e1] at k1
        exact end_val hs q (by rw [List.append_nil]) k1
    · cases ho
  · cases ho
theorem or_sub : OpR X (binaryOp .Sub) (fun x y H Q => rOp X.K oSub [x, y] H Q) := by
  intro pins s σ H x y v u Q I rx ry ⟨S, ds, r, hs, hr, ho, q⟩
  obtain ⟨d, e, rfl, hd, he⟩ := rd2 hr
  unfold oSub at ho
  split at ho
  · rename_i i j h
    cases h
    cases ho
    exact op_sub pins s σ H x y v u Q I rx ry ⟨i, j, hd.int', he.int', end_val hs q rfl (.int _)⟩
  · cases ho
theorem flat_rep {K : Fg} {S : Hp} {vs : List V} {ds : List D} (g : DqAll K S vs ds) : ∀ n : Nat, DqAll K S (List.replicate n vs).flatten (List.replicate n ds).flatten
  | 0 => .nil
  | n + 1 => by
    simp only [List.replicate_succ, List.flatten_cons]
    exact g.append (flat_rep g n)
theorem tup_one (l : Addr) (items : Array Value) (n : Nat) (dd : Option Addr) (sl : Array (Option Value)) (u : Tok) :
    Meets (Builtin.«tuple.__mul__» ⟨[.ref l, .int 1 u], []⟩) (fun _ R s => s.heap.get? l = some { cls := .type "tuple", dict := dd, data := .seq items n, slots := sl } ∧ R (.ok (.ret (Value.ref l))) s) :=
  .of_wp fun prog w A R s h => by
    obtain ⟨hp, g, d, tk, os⟩ := s
    obtain ⟨hl, h⟩ := h
    have fi := AutoSeq1.idx_int
    wp_walk using wpAny_loadPart' hl
    exact ⟨_, rfl, h⟩
theorem or_tup1 {X : Cx} {pins : List (Addr × Obj)} {s : Shared} {σ : L2.St} {H : Hp} {a : Addr} {u : Value} {xs : List V} {Q : VK} (I : Inv X pins σ H s) (ru : RelV (.int 1) u) (ht : SqT X.K H a xs) (q : Q (.ref a) H) :
    wpAny (model X.prog X.w) X.A (binaryOp .Mult (.ref a) u) (EP X pins σ Q) X.xe s := by
  obtain ⟨t1, rfl⟩ := ru
  obtain ⟨its, rv, ⟨⟨c0, d0, b0, s0⟩, g0, g1, n0, g2⟩, gs⟩ := I.tuple ht
  simp only at g1 g2
  subst g1 g2
  have k1 : s.TypeIs (.ref a) "tuple" := ⟨_, g0, rfl⟩
  have m1 := tup_one a its.toArray n0 d0 s0 t1
  have m2 := int_rmul_tuple 1 t1 a its.toArray n0 d0 s0
  refine wpAny_binaryOp_repeat_ref (T := "tuple") (U := "int") (by decide) k1 (fun s' => typeIs_int s' 1 t1) noFill_tuple_mul PySem.F.fills_int_mul PySem.F.slot_int_rmul repeat_tuple PySem.F.slot_int_index.lookup ?_
  refine call_meets PySem.F.slot_int_rmul (typeIs_int s 1 t1) PySem.F.entry_int_rmul (PySem.F.args_int_rmul_2 _ _) m2 ⟨g0, rfl, k1, ?_⟩
  exact call_meets PySem.F.slot_tuple_mul k1 PySem.F.entry_tuple_mul (PySem.F.args_tuple_mul_2 _ _) m1 ⟨g0, .ref a, H, I, rfl, q⟩
theorem or_mul : OpR X (binaryOp .Mult) (fun x y H Q => rOp X.K oMul [x, y] H Q) := by
  intro pins s σ H x y v u Q I rx ry ⟨S, ds, r, hs, hr, ho, q⟩
  obtain ⟨d, e, rfl, hd, he⟩ := rd2 hr
  unfold oMul at ho
  split at ho
  · rename_i i j h
    cases h
    split at ho
    · rename_i hz
      cases ho
      refine op_mul pins s σ H x y v u Q I rx ry ⟨i, j, hd.int', he.int', ?_, end_val hs q rfl (.int _)⟩
      rcases Bool.or_eq_true_iff.mp hz with z | z
      · exact .inl (smallI_of z)
      · exact .inr (smallI_of z)
    · cases ho
  · rename_i xs k h
    cases h
    split at ho
    · rename_i hz
      cases ho
      obtain ⟨a, vs, e1, h1, g1⟩ := hd.lst' hs
      have z := Bool.and_eq_true_iff.mp hz
      have z1 := Bool.and_eq_true_iff.mp z.1
      exact op_rep pins s σ H x y v u Q I rx ry ⟨a, k, vs, e1, he.int', h1, of_decide_eq_true z1.1, of_decide_eq_true z1.2, by rw [g1.length]; exact sz_le z.2, end_lst hs q rfl (flat_rep g1 _)⟩
    · cases ho
  · rename_i xs k h
    cases h
    split at ho
    · rename_i hk
      subst hk
      cases ho
      obtain ⟨a, vs, e1, h1, g1, k1⟩ := hd.tup' hs
      subst e1
      cases rx
      rw [he.int'] at ry
      exact or_tup1 I ry h1 (end_val hs q rfl k1)
    split at ho
    · rename_i hz
      cases ho
      obtain ⟨a, vs, e1, h1, g1, k1⟩ := hd.tup' hs
      simp only [Bool.and_eq_true, decide_eq_true_eq] at hz
      obtain ⟨⟨⟨z1, z2⟩, z3⟩, z4⟩ := hz
      refine op_repT pins s σ H x y v u Q I rx ry ⟨a, k, vs, e1, he.int', h1, fun z => ?_, z2, z3, by rw [g1.length]; exact z4, end_tup hs q rfl (flat_rep g1 _)⟩
      subst z
      cases g1
      exact z1 rfl
    · cases ho
  · cases ho
theorem or_fdiv : OpR X (binaryOp .FloorDiv) (fun x y H Q => rOp X.K oFdiv [x, y] H Q) := by
  intro pins s σ H x y v u Q I rx ry ⟨S, ds, r, hs, hr, ho, q⟩
  obtain ⟨d, e, rfl, hd, he⟩ := rd2 hr
  unfold oFdiv at ho
  split at ho
  · rename_i i j h
    cases h
    split at ho
    · rename_i hz
      cases ho
      simp only [Bool.and_eq_true, decide_eq_true_eq] at hz
      exact op_fdivW pins s σ H x y v u Q I rx ry ⟨i, j, hd.int', he.int', wide_div (b := 64) hz.1 (by omega) (by decide) (by decide), end_val hs q rfl (.int _)⟩
    · cases ho
  · cases ho
theorem or_mod : OpR X (binaryOp .Mod) (fun x y H Q => rOp X.K oMod [x, y] H Q) := by
  intro pins s σ H x y v u Q I rx ry ⟨S, ds, r, hs, hr, ho, q⟩
  obtain ⟨d, e, rfl, hd, he⟩ := rd2 hr
  unfold oMod at ho
  split at ho
  · rename_i i j h
    cases h
    split at ho
    · rename_i hz
      cases ho
      exact op_mod pins s σ H x y v u Q I rx ry ⟨i, j, hd.int', he.int', of_decide_eq_true hz, end_val hs q rfl (.int _)⟩
    · cases ho
  · cases ho
theorem or_pow : OpR X (binaryOp .Pow) (fun x y H Q => rOp X.K oPow [x, y] H Q) := by
  intro pins s σ H x y v u Q I rx ry ⟨S, ds, r, hs, hr, ho, q⟩
  obtain ⟨d, e, rfl, hd, he⟩ := rd2 hr
  unfold oPow at ho
  split at ho
  · rename_i i j h
    cases h
    split at ho
    · rename_i hz
      cases ho
      simp only [Bool.and_eq_true, decide_eq_true_eq] at hz
      exact op_pow pins s σ H x y v u Q I rx ry ⟨i, j, hd.int', he.int', ⟨hz.1.1, hz.1.2, hz.2⟩, end_val hs q rfl (.int _)⟩
    · cases ho
  · cases ho
theorem ur_neg : UnR X (unaryOp .USub) (fun x H Q => rOp X.K oNeg [x] H Q) := by
  intro pins s σ H x v Q I rx ⟨S, ds, r, hs, hr, ho, q⟩
  obtain ⟨d, rfl, hd⟩ := rd1 hr
  unfold oNeg at ho
  split at ho
  · rename_i i h
    cases h
    cases ho
    exact un_neg pins s σ H x v Q I rx ⟨i, hd.int', end_val hs q rfl (.int _)⟩
  · cases ho
end
end My

namespace My
open PySem PySem.Spec PyProof.Rows L2

/-- the pairs of kinds whose == needs no walk -/
def scalD : D → D → Bool
  | .non, .non => true | .non, .int _ => true | .int _, .non => true | .non, .bl _ => true | .bl _, .non => true | .non, .str _ => true | .str _, .non => true
  | .int _, .int _ => true | .bl _, .bl _ => true | .str _, .str _ => true
  | .int _, .str _ => true | .str _, .int _ => true | .bl _, .str _ => true | .str _, .bl _ => true
  | _, _ => false
def oEq : List D → Option RV
  | [d, e] => if scalD d e || (shpD d && shpD e) then some (.val (.bl (eqD d e))) else none
  | _ => none
def oNe : List D → Option RV
  | [d, e] => if scalD d e || (shpD d && shpD e) then some (.val (.bl (!eqD d e))) else none
  | _ => none
def strLt (x y : Str) : Bool := decide (x.cps.toList < y.cps.toList)
def oLt : List D → Option RV
  | [.int i, .int j] => some (.val (.bl (decide (i < j))))
  | [.str i, .str j] => some (.val (.bl (strLt i j)))
  | _ => none
def oLe : List D → Option RV
  | [.int i, .int j] => some (.val (.bl (decide (i ≤ j))))
  | [.str i, .str j] => some (.val (.bl (!strLt j i)))
  | _ => none
def oGt : List D → Option RV
  | [.int i, .int j] => some (.val (.bl (decide (j < i))))
  | [.str i, .str j] => some (.val (.bl (strLt j i)))
  | _ => none
def oGe : List D → Option RV
  | [.int i, .int j] => some (.val (.bl (decide (j ≤ i))))
  | [.str i, .str j] => some (.val (.bl (!strLt i j)))
  | _ => none
def oIs : List D → Option RV
  | [.non, .non] => some (.val (.bl true))
  | [_, .non] => some (.val (.bl false))
  | [.bl a, .bl b] => some (.val (.bl (decide (a = b))))
  | _ => none
def oIsNot : List D → Option RV
  | [.non, .non] => some (.val (.bl false))
  | [_, .non] => some (.val (.bl true))
  | [.bl a, .bl b] => some (.val (.bl (!decide (a = b))))
  | _ => none
/-- values that are compared at sight -/
def flatD : D → Bool
  | .non => true
  | .bl _ => true
  | .int _ => true
  | .str _ => true
  | _ => false
def subS (x y : Str) : Bool := if x.cps.size = 1 then decide (x.cps.getD 0 0 ∈ y.cps.toList) else !(Builtin.Str.occurrences y x 0 y.length 1).isEmpty
def oIn : List D → Option RV
  | [.str x, .str y] => some (.val (.bl (subS x y)))
  | [d, .lst ds] => if (flatD d && ds.all flatD) || (shpD d && shpD (.lst ds)) then some (.val (.bl (ds.any fun z => eqD z d))) else none
  | [d, .tup ds] => if flatD d && ds.all flatD then some (.val (.bl (ds.any fun z => eqD z d))) else none
  | _ => none
def oNotIn : List D → Option RV
  | [.str x, .str y] => some (.val (.bl (!subS x y)))
  | [d, .lst ds] => if (flatD d && ds.all flatD) || (shpD d && shpD (.lst ds)) then some (.val (.bl (!ds.any fun z => eqD z d))) else none
  | [d, .tup ds] => if flatD d && ds.all flatD then some (.val (.bl (!ds.any fun z => eqD z d))) else none
  | _ => none
theorem eqD_scal {K : Fg} {S H : Hp} {x y : V} {d e : D} (hd : Rdb K S H x d) (he : Rdb K S H y e) (h : scalD d e = true) : scal x y = true ∧ decide (x = y) = eqD d e := by
  cases d <;> cases e <;> first | (cases h; done) | skip
  all_goals first
    | (rw [hd.int', he.int']; exact ⟨rfl, dec_int⟩)
    | (rw [hd.bl', he.bl']; exact ⟨rfl, dec_bl⟩)
    | (rw [hd.str', he.str']; exact ⟨rfl, dec_str⟩)
    | (rw [hd.non', he.non']; exact ⟨rfl, rfl⟩)
    | (rw [hd.non', he.int']; exact ⟨rfl, decide_eq_false fun q => nomatch q⟩)
    | (rw [hd.int', he.non']; exact ⟨rfl, decide_eq_false fun q => nomatch q⟩)
    | (rw [hd.non', he.bl']; exact ⟨rfl, decide_eq_false fun q => nomatch q⟩)
    | (rw [hd.bl', he.non']; exact ⟨rfl, decide_eq_false fun q => nomatch q⟩)
    | (rw [hd.non', he.str']; exact ⟨rfl, decide_eq_false fun q => nomatch q⟩)
    | (rw [hd.str', he.non']; exact ⟨rfl, decide_eq_false fun q => nomatch q⟩)
    | (rw [hd.int', he.str']; exact ⟨rfl, decide_eq_false fun q => nomatch q⟩)
    | (rw [hd.str', he.int']; exact ⟨rfl, decide_eq_false fun q => nomatch q⟩)
    | (rw [hd.bl', he.str']; exact ⟨rfl, decide_eq_false fun q => nomatch q⟩)
    | (rw [hd.str', he.bl']; exact ⟨rfl, decide_eq_false fun q => nomatch q⟩)
theorem flat_dq {K : Fg} {S H : Hp} {x : V} {d : D} (h : Dq K S x d) (f : flatD d = true) : flatV x = true := by
  cases h <;> first | rfl | cases f
theorem flat_rd {K : Fg} {S H : Hp} {x : V} {d : D} (h : Rdb K S H x d) (f : flatD d = true) : flatV x = true ∧ Dq K S x d := by
  rcases h with h | ⟨_, _, _, _, rfl, _⟩
  · exact ⟨flat_dq (H := H) h f, h⟩
  · cases f
theorem eqV_dq {K : Fg} {S S' : Hp} {x y : V} {d e : D} (hx : Dq K S x d) (hy : Dq K S' y e) (fx : flatD d = true) (fy : flatD e = true) : eqV x y = eqD d e := by
  cases hx <;> first | (cases fx; done) | skip
  all_goals (cases hy <;> first | (cases fy; done) | rfl)
theorem inV_dq {K : Fg} {S S' : Hp} {x : V} {d : D} (hx : Dq K S x d) (fx : flatD d = true) : ∀ {xs : List V} {ds : List D}, DqAll K S' xs ds → ds.all flatD = true → xs.all flatV = true ∧ inV x xs = ds.any fun z => eqD z d
  | _, _, .nil, _ => ⟨rfl, rfl⟩
  | _, _, .cons (v := v) (vs := vs) (d := e) (ds := es) a t, f => by
    have f2 := Bool.and_eq_true_iff.mp (show (flatD e && es.all flatD) = true from f)
    obtain ⟨h1, h2⟩ := inV_dq hx fx t f2.2
    refine ⟨?_, ?_⟩
    · show (flatV v && vs.all flatV) = true
      rw [flat_dq (H := S) a f2.1, h1]; rfl
    · show (eqV v x || inV x vs) = (eqD e d || es.any fun z => eqD z d)
      rw [eqV_dq a hx f2.1 fx, h2]
theorem any_toPy (d : D) (hd : plnD d = true) : ∀ ds : List D, plnDs ds = true → ((toPys ds).any fun z => PyData.eqv z (toPy d)) = ds.any fun z => eqD z d
  | [], _ => rfl
  | e :: es, h => by
    have a := Bool.and_eq_true_iff.mp (show (plnD e && plnDs es) = true from h)
    show (PyData.eqv (toPy e) (toPy d) || (toPys es).any fun z => PyData.eqv z (toPy d)) = (eqD e d || es.any fun z => eqD z d)
    rw [eqv_toPy e d a.1 hd, any_toPy d hd es a.2]
theorem shp_pln {d : D} (h : shpD d = true) : plnD d = true := (Bool.and_eq_true_iff.mp h).1
section
variable {X : Cx}
theorem or_eq (hu : X.A.units + 65 < cLine) : OpR X (compareOp .Eq) (fun x y H Q => rOp X.K oEq [x, y] H Q) := by
  intro pins s σ H x y v u Q I rx ry ⟨S, ds, r, hs, hr, ho, q⟩
  obtain ⟨d, e, rfl, hd, he⟩ := rd2 hr
  dsimp only [oEq] at ho
  split at ho
  · rename_i hz
    cases ho
    cases hsc : scalD d e with
    | true =>
      obtain ⟨h1, h2⟩ := eqD_scal hd he hsc
      refine op_eq pins s σ H x y v u Q I rx ry ⟨h1, ?_⟩
      rw [h2]
      exact end_val hs q rfl (.bl _)
    | false =>
      rw [hsc, Bool.false_or] at hz
      have z := Bool.and_eq_true_iff.mp hz
      refine op_eqD (by omega) pins s σ H x y v u Q I rx ry ⟨toPy d, toPy e, dp_of d x (shp_pln z.1) (hd.up hs), dp_of e y (shp_pln z.2) (he.up hs), shp_shaped z.1, shp_shaped z.2, ?_⟩
      rw [eqv_toPy d e (shp_pln z.1) (shp_pln z.2)]
      exact end_val hs q rfl (.bl _)
  · cases ho
theorem or_ne (hu : X.A.units + 65 < cLine) : OpR X (compareOp .NotEq) (fun x y H Q => rOp X.K oNe [x, y] H Q) := by
  intro pins s σ H x y v u Q I rx ry ⟨S, ds, r, hs, hr, ho, q⟩
  obtain ⟨d, e, rfl, hd, he⟩ := rd2 hr
  dsimp only [oNe] at ho
  split at ho
  · rename_i hz
    cases ho
    cases hsc : scalD d e with
    | true =>
      obtain ⟨h1, h2⟩ := eqD_scal hd he hsc
      refine op_ne pins s σ H x y v u Q I rx ry ⟨h1, ?_⟩
      rw [h2]
      exact end_val hs q rfl (.bl _)
    | false =>
      rw [hsc, Bool.false_or] at hz
      have z := Bool.and_eq_true_iff.mp hz
      refine op_neD (by omega) pins s σ H x y v u Q I rx ry ⟨toPy d, toPy e, dp_of d x (shp_pln z.1) (hd.up hs), dp_of e y (shp_pln z.2) (he.up hs), shp_shaped z.1, shp_shaped z.2, ?_⟩
      rw [eqv_toPy d e (shp_pln z.1) (shp_pln z.2)]
      exact end_val hs q rfl (.bl _)
  · cases ho
theorem or_lt : OpR X (compareOp .Lt) (fun x y H Q => rOp X.K oLt [x, y] H Q) := by
  intro pins s σ H x y v u Q I rx ry ⟨S, ds, r, hs, hr, ho, q⟩
  obtain ⟨d, e, rfl, hd, he⟩ := rd2 hr
  unfold oLt at ho
  split at ho
  · rename_i i j h
    cases h; cases ho
    exact op_lt pins s σ H x y v u Q I rx ry ⟨i, j, hd.int', he.int', end_val hs q rfl (.bl _)⟩
  · rename_i i j h
    cases h; cases ho
    exact op_lt_str pins s σ H x y v u Q I rx ry ⟨i, j, hd.str', he.str', end_val hs q rfl (.bl _)⟩
  · cases ho
theorem or_le : OpR X (compareOp .LtE) (fun x y H Q => rOp X.K oLe [x, y] H Q) := by
  intro pins s σ H x y v u Q I rx ry ⟨S, ds, r, hs, hr, ho, q⟩
  obtain ⟨d, e, rfl, hd, he⟩ := rd2 hr
  unfold oLe at ho
  split at ho
  · rename_i i j h
    cases h; cases ho
    exact op_le pins s σ H x y v u Q I rx ry ⟨i, j, hd.int', he.int', end_val hs q rfl (.bl _)⟩
  · rename_i i j h
    cases h; cases ho
    exact op_le_str pins s σ H x y v u Q I rx ry ⟨i, j, hd.str', he.str', end_val hs q rfl (.bl _)⟩
  · cases ho
theorem or_gt : OpR X (compareOp .Gt) (fun x y H Q => rOp X.K oGt [x, y] H Q) := by
  intro pins s σ H x y v u Q I rx ry ⟨S, ds, r, hs, hr, ho, q⟩
  obtain ⟨d, e, rfl, hd, he⟩ := rd2 hr
  unfold oGt at ho
  split at ho
  · rename_i i j h
    cases h; cases ho
    exact op_gt pins s σ H x y v u Q I rx ry ⟨i, j, hd.int', he.int', end_val hs q rfl (.bl _)⟩
  · rename_i i j h
    cases h; cases ho
    exact op_gt_str pins s σ H x y v u Q I rx ry ⟨i, j, hd.str', he.str', end_val hs q rfl (.bl _)⟩
  · cases ho
theorem or_ge : OpR X (compareOp .GtE) (fun x y H Q => rOp X.K oGe [x, y] H Q) := by
  intro pins s σ H x y v u Q I rx ry ⟨S, ds, r, hs, hr, ho, q⟩
  obtain ⟨d, e, rfl, hd, he⟩ := rd2 hr
  unfold oGe at ho
  split at ho
  · rename_i i j h
    cases h; cases ho
    exact op_ge pins s σ H x y v u Q I rx ry ⟨i, j, hd.int', he.int', end_val hs q rfl (.bl _)⟩
  · rename_i i j h
    cases h; cases ho
    exact op_ge_str pins s σ H x y v u Q I rx ry ⟨i, j, hd.str', he.str', end_val hs q rfl (.bl _)⟩
  · cases ho
theorem not_non {K : Fg} {S H : Hp} {x : V} {d : D} (hd : Rdb K S H x d) (n : d ≠ .non) : x ≠ .non := by
  rintro rfl
  rcases hd with h | ⟨_, _, _, h, _⟩
  · cases h; exact n rfl
  · cases h
theorem or_is : OpR X (compareOp .Is) (fun x y H Q => rOp X.K oIs [x, y] H Q) := by
  intro pins s σ H x y v u Q I rx ry ⟨S, ds, r, hs, hr, ho, q⟩
  obtain ⟨d, e, rfl, hd, he⟩ := rd2 hr
  unfold oIs at ho
  split at ho
  · rename_i h
    cases h; cases ho
    refine op_isN pins s σ H x y v u Q I rx ry ⟨he.non', ?_⟩
    rw [hd.non']
    exact end_val hs q rfl (.bl _)
  · rename_i d' hn h
    cases h; cases ho
    refine op_isN pins s σ H x y v u Q I rx ry ⟨he.non', ?_⟩
    rw [decide_eq_false (not_non hd fun z => hn (by rw [z]))]
    exact end_val hs q rfl (.bl _)
  · rename_i a b h
    cases h; cases ho
    exact op_isBl pins s σ H x y v u Q I rx ry ⟨a, b, hd.bl', he.bl', end_val hs q rfl (.bl _)⟩
  · cases ho
theorem or_isNot : OpR X (compareOp .IsNot) (fun x y H Q => rOp X.K oIsNot [x, y] H Q) := by
  intro pins s σ H x y v u Q I rx ry ⟨S, ds, r, hs, hr, ho, q⟩
  obtain ⟨d, e, rfl, hd, he⟩ := rd2 hr
  unfold oIsNot at ho
  split at ho
  · rename_i h
    cases h; cases ho
    refine op_notN pins s σ H x y v u Q I rx ry ⟨he.non', ?_⟩
    rw [hd.non']
    exact end_val hs q rfl (.bl _)
  · rename_i d' hn h
    cases h; cases ho
    refine op_notN pins s σ H x y v u Q I rx ry ⟨he.non', ?_⟩
    rw [decide_eq_false (not_non hd fun z => hn (by rw [z]))]
    exact end_val hs q rfl (.bl _)
  · rename_i a b h
    cases h; cases ho
    exact op_notBl pins s σ H x y v u Q I rx ry ⟨a, b, hd.bl', he.bl', end_val hs q rfl (.bl _)⟩
  · cases ho
theorem one_sign {x : Str} (h : x.cps.size = 1) : x = ⟨#[x.cps.getD 0 0]⟩ := by
  cases x with
  | mk cs =>
    obtain ⟨l⟩ := cs
    match l, h with
    | [c], _ => rfl
theorem or_in (hu : X.A.units + 65 < cLine) : OpR X (compareOp .In) (fun x y H Q => rOp X.K oIn [x, y] H Q) := by
  intro pins s σ H x y v u Q I rx ry ⟨S, ds, r, hs, hr, ho, q⟩
  obtain ⟨d, e, rfl, hd, he⟩ := rd2 hr
  unfold oIn at ho
  split at ho
  · rename_i i j h
    cases h; cases ho
    by_cases h1 : i.cps.size = 1
    · refine op_in_sign pins s σ H x y v u Q I rx ry ⟨i.cps.getD 0 0, j, by rw [← one_sign h1]; exact hd.str', he.str', ?_⟩
      exact end_val hs q (by unfold subS; rw [if_pos h1]) (.bl _)
    · refine op_in_str pins s σ H x y v u Q I rx ry ⟨i, j, hd.str', he.str', ?_⟩
      exact end_val hs q (by unfold subS; rw [if_neg h1]) (.bl _)
  · rename_i d' es h
    cases h
    split at ho
    · rename_i hz
      cases ho
      cases hf : (flatD d && es.all flatD) with
      | true =>
        have f := Bool.and_eq_true_iff.mp hf
        obtain ⟨a, vs, e1, h1, g1⟩ := he.lst' hs
        obtain ⟨k1, k2⟩ := flat_rd hd f.1
        obtain ⟨k3, k4⟩ := inV_dq k2 f.1 g1 f.2
        refine op_in_seq pins s σ H x y v u Q I rx ry ⟨a, vs, e1, .inl (.inl (.inl h1)), k1, k3, ?_⟩
        rw [k4]
        exact end_val hs q rfl (.bl _)
      | false =>
        rw [hf, Bool.false_or] at hz
        have z := Bool.and_eq_true_iff.mp hz
        refine op_inD hu pins s σ H x y v u Q I rx ry ⟨toPy d, toPys es, dp_of d x (shp_pln z.1) (hd.up hs), dp_of (.lst es) y (shp_pln z.2) (he.up hs), shp_shaped z.1, shp_shaped z.2, ?_⟩
        rw [any_toPy d (shp_pln z.1) es (shp_pln z.2)]
        exact end_val hs q rfl (.bl _)
    · cases ho
  · rename_i d' es h
    cases h
    split at ho
    · rename_i hz
      cases ho
      have f := Bool.and_eq_true_iff.mp hz
      obtain ⟨a, vs, e1, h1, g1, _⟩ := he.tup' hs
      obtain ⟨k1, k2⟩ := flat_rd hd f.1
      obtain ⟨k3, k4⟩ := inV_dq k2 f.1 g1 f.2
      refine op_in_seq pins s σ H x y v u Q I rx ry ⟨a, vs, e1, .inr h1, k1, k3, ?_⟩
      rw [k4]
      exact end_val hs q rfl (.bl _)
    · cases ho
  · cases ho
theorem or_notIn (hu : X.A.units + 65 < cLine) : OpR X (compareOp .NotIn) (fun x y H Q => rOp X.K oNotIn [x, y] H Q) := by
  intro pins s σ H x y v u Q I rx ry ⟨S, ds, r, hs, hr, ho, q⟩
  obtain ⟨d, e, rfl, hd, he⟩ := rd2 hr
  unfold oNotIn at ho
  split at ho
  · rename_i i j h
    cases h; cases ho
    by_cases h1 : i.cps.size = 1
    · refine op_notIn_sign pins s σ H x y v u Q I rx ry ⟨i.cps.getD 0 0, j, by rw [← one_sign h1]; exact hd.str', he.str', ?_⟩
      exact end_val hs q (by unfold subS; rw [if_pos h1]) (.bl _)
    · refine op_notin_str pins s σ H x y v u Q I rx ry ⟨i, j, hd.str', he.str', ?_⟩
      exact end_val hs q (by unfold subS; rw [if_neg h1]) (.bl _)
  · rename_i d' es h
    cases h
    split at ho
    · rename_i hz
      cases ho
      cases hf : (flatD d && es.all flatD) with
      | true =>
        have f := Bool.and_eq_true_iff.mp hf
        obtain ⟨a, vs, e1, h1, g1⟩ := he.lst' hs
        obtain ⟨k1, k2⟩ := flat_rd hd f.1
        obtain ⟨k3, k4⟩ := inV_dq k2 f.1 g1 f.2
        refine op_notIn_seq pins s σ H x y v u Q I rx ry ⟨a, vs, e1, .inl (.inl (.inl h1)), k1, k3, ?_⟩
        rw [k4]
        exact end_val hs q rfl (.bl _)
      | false =>
        rw [hf, Bool.false_or] at hz
        have z := Bool.and_eq_true_iff.mp hz
        refine op_notInD hu pins s σ H x y v u Q I rx ry ⟨toPy d, toPys es, dp_of d x (shp_pln z.1) (hd.up hs), dp_of (.lst es) y (shp_pln z.2) (he.up hs), shp_shaped z.1, shp_shaped z.2, ?_⟩
        rw [any_toPy d (shp_pln z.1) es (shp_pln z.2)]
        exact end_val hs q rfl (.bl _)
    · cases ho
  · rename_i d' es h
    cases h
    split at ho
    · rename_i hz
      cases ho
      have f := Bool.and_eq_true_iff.mp hz
      obtain ⟨a, vs, e1, h1, g1, _⟩ := he.tup' hs
      obtain ⟨k1, k2⟩ := flat_rd hd f.1
      obtain ⟨k3, k4⟩ := inV_dq k2 f.1 g1 f.2
      refine op_notIn_seq pins s σ H x y v u Q I rx ry ⟨a, vs, e1, .inr h1, k1, k3, ?_⟩
      rw [k4]
      exact end_val hs q rfl (.bl _)
    · cases ho
  · cases ho

/-! ### places, lengths, the built-in calls -/
/-! ### dicts that stand still -/
def keyD : D → Option Key
  | .int i => some (.inl i)
  | .str x => some (.inr x)
  | _ => none
def lookD : List D → List D → Key → Option D
  | k0 :: ks, v :: vs, k => if keyD k0 = some k then some v else lookD ks vs k
  | _, _, _ => none
theorem keyD_of {K : Fg} {S : Hp} {k : Key} {d : D} (h : Dq K S (kV k) d) : keyD d = some k := by
  cases k with
  | inl i => cases h; rfl
  | inr x => cases h; rfl
theorem lookD_ok {K : Fg} {S : Hp} : ∀ {kvs : List (Key × V)} {ks vs : List D} {k : Key} {d : D}, DqAll K S (kvs.map fun p => kV p.1) ks → DqAll K S (kvs.map fun p => p.2) vs → lookD ks vs k = some d → ∃ v, valV kvs k = some v ∧ Dq K S v d
  | [], ks, vs, k, d, h1, h2, e => by
    cases h1
    cases e
  | p :: kvs, ks, vs, k, d, h1, h2, e => by
    cases h1 with
    | cons a1 t1 =>
      cases h2 with
      | cons a2 t2 =>
        have hk := keyD_of a1
        unfold lookD at e
        rw [hk] at e
        by_cases c : p.1 = k
        · rw [if_pos (by rw [c])] at e
          cases e
          exact ⟨p.2, valV_pos c, a2⟩
        · rw [if_neg (fun z => c (Option.some.inj z))] at e
          obtain ⟨v, g1, g2⟩ := lookD_ok t1 t2 e
          exact ⟨v, by rw [valV_neg c]; exact g1, g2⟩
theorem ix_dic {X : Cx} : IxR X (fun x y H Q => ∃ a kvs k v, x = .ref a ∧ H a = some (.dK kvs) ∧ y = kV k ∧ valV kvs k = some v ∧ Q v H) := by
  intro value slice pins s σ H x y v u Q I rx ry ⟨a, kvs, k, z, e1, e2, e3, e4, q⟩ hsub
  subst e1; subst e3
  cases rx
  obtain ⟨z1, z2, vs1, rl, dd1⟩ := dk_rd I.hok (.inl e2)
  obtain ⟨w1, g1, g2⟩ := RelO.some_of (v := z) (o := valueAt vs1 k) (by rw [← e4]; exact rl.val k)
  exact subscriptTail_builtinR (x := w1) dd1.typeIs PySem.F.slot_dict_getitem.lookup (wpAny_getItem_of (Q := fun r s' => r = w1 ∧ EP X pins σ Q r s') (kV_is ry) dd1.mapOf g1 ⟨rfl, z, H, I.tok _, g2, q⟩) hsub
def oIdx : List D → Option RV
  | [.lst ds, .int i] => (atI ds i).bind fun d => some (.val d)
  | [.tup ds, .int i] => (atI ds i).bind fun d => some (.val d)
  | [.str z, .int i] => if sz z.length then (atI z.cps.toList i).bind fun c => some (.val (.str ⟨#[c]⟩)) else none
  | [.dic ks vs, d] => (keyD d).bind fun k => (lookD ks vs k).bind fun e => some (.val e)
  | _ => none
theorem atI_dq {K : Fg} {S : Hp} {xs : List V} {ds : List D} {i : Int} {d : D} (g : DqAll K S xs ds) (h : atI ds i = some d) : ∃ v, atI xs i = some v ∧ Dq K S v d := by
  unfold atI at h ⊢
  rw [g.length]
  obtain ⟨j, h1, h2⟩ := Option.bind_eq_some_iff.mp h
  obtain ⟨v, h3, h4⟩ := g.get h2
  exact ⟨v, by rw [h1]; exact h3, h4⟩
theorem Rdb.dic' {K : Fg} {S H : Hp} {v : V} {ks vs : List D} (h : Rdb K S H v (.dic ks vs)) (hs : Same S H) : ∃ a kvs, v = .ref a ∧ H a = some (.dK kvs) ∧ DqAll K S (kvs.map fun p => kV p.1) ks ∧ DqAll K S (kvs.map fun p => p.2) vs := by
  rcases h with h | ⟨a, xs, es, rfl, h, h1, h2⟩
  · cases h with
    | dic a b c => exact ⟨_, _, rfl, hs _ _ a, b, c⟩
  · cases h
theorem Rdb.key' {K : Fg} {S H : Hp} {v : V} {d : D} {k : Key} (h : Rdb K S H v d) (e : keyD d = some k) : v = kV k := by
  cases d <;> first | (cases e; done) | skip
  · cases e; rw [h.int']; rfl
  · cases e; rw [h.str']; rfl
theorem ir_idx : IxR X (fun x y H Q => rOp X.K oIdx [x, y] H Q) := by
  intro value slice pins s σ H x y v u Q I rx ry ⟨S, ds, r, hs, hr, ho, q⟩ hsub
  obtain ⟨d, e, rfl, hd, he⟩ := rd2 hr
  unfold oIdx at ho
  split at ho
  · rename_i es i h
    cases h
    obtain ⟨d, h1, h2⟩ := Option.bind_eq_some_iff.mp ho
    cases h2
    obtain ⟨a, vs, e1, g1, g2⟩ := hd.lst' hs
    obtain ⟨w, k1, k2⟩ := atI_dq g2 h1
    exact ix_list value slice pins s σ H x y v u Q I rx ry ⟨a, vs, i, w, e1, he.int', .inl (.inl g1), k1, end_val hs q rfl k2⟩ hsub
  · rename_i es i h
    cases h
    obtain ⟨d, h1, h2⟩ := Option.bind_eq_some_iff.mp ho
    cases h2
    obtain ⟨a, vs, e1, g1, g2, _⟩ := hd.tup' hs
    obtain ⟨w, k1, k2⟩ := atI_dq g2 h1
    exact ix_tup value slice pins s σ H x y v u Q I rx ry ⟨a, vs, i, w, e1, he.int', g1, k1, end_val hs q rfl k2⟩ hsub
  · rename_i z i h
    cases h
    split at ho
    · rename_i hz
      obtain ⟨c, h1, h2⟩ := Option.bind_eq_some_iff.mp ho
      cases h2
      exact ix_str value slice pins s σ H x y v u Q I rx ry ⟨z, i, c, hd.str', he.int', sz_le hz, h1, end_val hs q rfl (.str _)⟩ hsub
    · cases ho
  · rename_i ks vs d h
    cases h
    obtain ⟨k, h1, h2⟩ := Option.bind_eq_some_iff.mp ho
    obtain ⟨e, h3, h4⟩ := Option.bind_eq_some_iff.mp h2
    cases h4
    obtain ⟨a, kvs, e1, g1, g2, g3⟩ := hd.dic' hs
    obtain ⟨w, k1, k2⟩ := lookD_ok g2 g3 h3
    exact ix_dic value slice pins s σ H x y v u Q I rx ry ⟨a, kvs, k, w, e1, g1, he.key' h1, k1, end_val hs q rfl k2⟩ hsub
  · cases ho
def oLen : List D → Option RV
  | [.lst ds] => some (.val (.int (ds.length : Nat)))
  | [.tup ds] => some (.val (.int (ds.length : Nat)))
  | [.str z] => if sz z.length then some (.val (.int (z.length : Nat))) else none
  | _ => none
theorem cr_len : CallR X (.builtin "len") (rOp X.K oLen) := by
  intro pins s σ H xs us Q I rv ⟨S, ds, r, hs, hr, ho, q⟩
  unfold oLen at ho
  split at ho
  · rename_i es
    cases ho
    obtain ⟨x, rfl, hd⟩ := hr.one
    obtain ⟨a, vs, e1, g1, g2⟩ := hd.lst' hs
    refine call_len_seq pins s σ H _ us Q I rv ⟨a, vs, by rw [e1], .inl (.inl (.inl g1)), ?_⟩
    exact end_val hs q (by rw [g2.length]) (.int _)
  · rename_i es
    cases ho
    obtain ⟨x, rfl, hd⟩ := hr.one
    obtain ⟨a, vs, e1, g1, g2, _⟩ := hd.tup' hs
    refine call_len_seq pins s σ H _ us Q I rv ⟨a, vs, by rw [e1], .inr g1, ?_⟩
    exact end_val hs q (by rw [g2.length]) (.int _)
  · rename_i z
    split at ho
    · rename_i hz
      cases ho
      obtain ⟨x, rfl, hd⟩ := hr.one
      exact call_len_str pins s σ H _ us Q I rv ⟨z, by rw [hd.str'], sz_le hz, end_val hs q rfl (.int _)⟩
    · cases ho
  · cases ho
def oTuple : List D → Option RV
  | [.lst ds] => some (.val (.tup ds))
  | [.tup ds] => some (.val (.tup ds))
  | _ => none
theorem cr_tuple : CallR X (.type "tuple") (rOp X.K oTuple) := by
  intro pins s σ H xs us Q I rv ⟨S, ds, r, hs, hr, ho, q⟩
  unfold oTuple at ho
  split at ho
  · rename_i es
    cases ho
    obtain ⟨x, rfl, hd⟩ := hr.one
    obtain ⟨a, vs, e1, g1, g2⟩ := hd.lst' hs
    exact call_tuple_of pins s σ H _ us Q I rv ⟨a, vs, by rw [e1], .inl ⟨.inl (.inl g1), end_tup hs q rfl g2⟩⟩
  · rename_i es
    cases ho
    obtain ⟨x, rfl, hd⟩ := hr.one
    obtain ⟨a, vs, rfl, g1, g2, k⟩ := hd.tup' hs
    exact call_tuple_of pins s σ H _ us Q I rv ⟨a, vs, rfl, .inr ⟨g1, end_val hs q rfl k⟩⟩
  · cases ho
def oList : List D → Option RV
  | [.lst ds] => some (.new ds)
  | [.tup ds] => some (.new ds)
  | [.scr ns] => some (.new (ns.map D.int))
  | _ => none
theorem dqInts {K : Fg} {S : Hp} : ∀ ns : List Int, DqAll K S (ns.map V.int) (ns.map D.int)
  | [] => .nil
  | n :: ns => .cons (.int n) (dqInts ns)
theorem cr_list : CallR X (.type "list") (rOp X.K oList) := by
  intro pins s σ H xs us Q I rv ⟨S, ds, r, hs, hr, ho, q⟩
  unfold oList at ho
  split at ho
  · rename_i es
    cases ho
    obtain ⟨x, rfl, hd⟩ := hr.one
    obtain ⟨a, vs, e1, g1, g2⟩ := hd.lst' hs
    exact call_list_of pins s σ H _ us Q I rv ⟨a, vs, by rw [e1], .inl (.inl (.inl g1)), end_lst hs q rfl g2⟩
  · rename_i es
    cases ho
    obtain ⟨x, rfl, hd⟩ := hr.one
    obtain ⟨a, vs, e1, g1, g2, _⟩ := hd.tup' hs
    exact call_list_of pins s σ H _ us Q I rv ⟨a, vs, by rw [e1], .inr g1, end_lst hs q rfl g2⟩
  · rename_i ns
    cases ho
    obtain ⟨x, rfl, hd⟩ := hr.one
    obtain ⟨a, e1, g1⟩ := hd.scr' hs
    exact call_list_of pins s σ H _ us Q I rv ⟨a, _, by rw [e1], .inl g1, end_lst hs q rfl (dqInts ns)⟩
  · cases ho
def oAbs : List D → Option RV
  | [.int i] => some (.val (.int (if i < 0 then -i else i)))
  | _ => none
theorem cr_abs : CallR X (.builtin "abs") (rOp X.K oAbs) := by
  intro pins s σ H xs us Q I rv ⟨S, ds, r, hs, hr, ho, q⟩
  unfold oAbs at ho
  split at ho
  · cases ho
    obtain ⟨x, rfl, hd⟩ := hr.one
    exact call_abs pins s σ H _ us Q I rv ⟨_, by rw [hd.int'], end_val hs q rfl (.int _)⟩
  · cases ho
def oInt : List D → Option RV
  | [.int i] => some (.val (.int i))
  | [.bl b] => some (.val (.int (if b then 1 else 0)))
  | _ => none
theorem cr_int : CallR X (.type "int") (rOp X.K oInt) := by
  intro pins s σ H xs us Q I rv ⟨S, ds, r, hs, hr, ho, q⟩
  unfold oInt at ho
  split at ho
  · cases ho
    obtain ⟨x, rfl, hd⟩ := hr.one
    exact call_int1 pins s σ H _ us Q I rv (.inl ⟨_, by rw [hd.int'], end_val hs q rfl (.int _)⟩)
  · cases ho
    obtain ⟨x, rfl, hd⟩ := hr.one
    exact call_int1 pins s σ H _ us Q I rv (.inr ⟨_, by rw [hd.bl'], end_val hs q rfl (.int _)⟩)
  · cases ho
def oStr : List D → Option RV
  | [.int i] => if decide (i.natAbs < 2 ^ 64) then some (.val (.str (toString i))) else none
  | _ => none
theorem cr_str : CallR X (.type "str") (rOp X.K oStr) := by
  intro pins s σ H xs us Q I rv ⟨S, ds, r, hs, hr, ho, q⟩
  unfold oStr at ho
  split at ho
  · rename_i i
    split at ho
    · rename_i hz
      cases ho
      obtain ⟨x, rfl, hd⟩ := hr.one
      refine call_str_int pins s σ H _ us Q I rv ⟨_, by rw [hd.int'], ?_, end_val hs q rfl (.str _)⟩
      have hz' : i.natAbs < 2 ^ 64 := of_decide_eq_true hz
      by_cases h0 : i.natAbs = 0
      · rw [h0]; decide
      · have := (Nat.log2_lt h0).mpr hz'
        omega
    · cases ho
  · cases ho
end
end My

namespace My
open PySem PySem.Spec PyProof.Rows L2

/-! ### the small language -/
inductive Bi | add | sub | mul | fdiv | mod | pow
  deriving DecidableEq
inductive Cm | eq | ne | lt | le | gt | ge | is | isNot | isIn | notIn
  deriving DecidableEq
def Bi.op : Bi → Operator
  | .add => .Add | .sub => .Sub | .mul => .Mult | .fdiv => .FloorDiv | .mod => .Mod | .pow => .Pow
def Cm.op : Cm → CmpOp
  | .eq => .Eq | .ne => .NotEq | .lt => .Lt | .le => .LtE | .gt => .Gt | .ge => .GtE | .is => .Is | .isNot => .IsNot | .isIn => .In | .notIn => .NotIn
@[simp] def Cm.f : Cm → List D → Option RV
  | .eq => oEq | .ne => oNe | .lt => oLt | .le => oLe | .gt => oGt | .ge => oGe | .is => oIs | .isNot => oIsNot | .isIn => oIn | .notIn => oNotIn
structure FI where
  name : Str
  n : Nat
  io : Bool
  F : List D → Option (RV × List D)

inductive Tg where
  | nm (i : Nat) | tup (l : List Nat)
structure Sm where
  v : EvV
  t : EvT
def truD : D → Option Bool
  | .non => some false
  | .bl b => some b
  | .int i => some (i != 0)
  | .str y => if sz y.length then some ((y.length : Int) != 0) else none
  | .lst xs => some (!xs.isEmpty)
  | .tup xs => some (!xs.isEmpty)
  | _ => none
@[simp] def testA (a : Ar) : EvT := fun ρ => (evAr a ρ).bind fun p => (p.1.get p.2).bind fun d => (truD d).bind fun b => some (b, p.2)
@[simp] def plain (v : EvV) : Sm := ⟨v, testA (.ex v)⟩
def blT (v : EvV) : EvT := fun ρ => (v ρ).bind fun p => match p.1 with
  | .val (.bl b) => some (b, p.2)
  | _ => none
@[simp] def blS (v : EvV) : Sm := ⟨v, blT v⟩
@[simp] def constV (d : D) : EvV := fun ρ => some (.val d, ρ)
@[simp] def slotV (i : Nat) : EvV := fun ρ => (froz i ρ).bind fun p => some (.val p.1, p.2)
def oNot : List D → Option RV
  | [d] => (truD d).bind fun b => some (.val (.bl (!b)))
  | _ => none
@[simp] def notT (a : EvT) : EvT := fun ρ => (a ρ).bind fun p => some (!p.1, p.2)
@[simp] def iteV (c : EvT) (a b : EvV) : EvV := fun ρ => (c ρ).bind fun p => if p.1 = true then a p.2 else b p.2
@[simp] def boT (isAnd : Bool) : List EvT → EvT
  | [] => fun _ => none
  | [a] => a
  | a :: b :: r => fun ρ => (a ρ).bind fun p => if p.1 = isAnd then boT isAnd (b :: r) p.2 else some (p.1, p.2)
/-- and, or as values: the items ahead are bools -/
def boV (isAnd : Bool) : List EvV → EvV
  | [] => fun _ => none
  | [a] => a
  | a :: b :: r => fun ρ => (a ρ).bind fun p => match p.1 with
    | .val (.bl c) => if c = isAnd then boV isAnd (b :: r) p.2 else some (.val (.bl c), p.2)
    | _ => none
def chV (o p : List D → Option RV) (a b c : Ar) : EvV := fun ρ => (evAr a ρ).bind fun x => (evAr b x.2).bind fun y => (x.1.get y.2).bind fun d => (y.1.get y.2).bind fun e => (o [d, e]).bind fun r => match r with
  | .val (.bl true) => (evAr c y.2).bind fun z => (y.1.get z.2).bind fun e => (z.1.get z.2).bind fun f => (p [e, f]).bind fun r => some (r, z.2)
  | .val (.bl false) => some (.val (.bl false), y.2)
  | _ => none
def datAll : List Hd → Option (List D)
  | [] => some []
  | .dat d :: hs => (datAll hs).bind fun ds => some (d :: ds)
  | _ :: _ => none
@[simp] def seqV (mk : List D → RV) (as : List Ar) : EvV := fun ρ => (evArs as ρ).bind fun p => (datAll p.1).bind fun ds => if sz ds.length then some (mk ds, p.2) else none
/-! ### what is said of an expression of the text -/
/-- a head that the small language speaks of -/
def okHd : Expr → Bool
  | .Starred .. => false
  | .Slice .. => false
  | .Set .. => false
  | .NamedExpr .. => false
  | .Call f [] [] _ => match f with
    | .Name x _ => !decide (x = ("super" : Str))
    | _ => true
  | _ => true
theorem star_cons {e : Expr} {es : List Expr} {env : Env} (h : okHd e = true) : starEach (e :: es) env = (false, eval e env) :: starEach es env := by
  cases e <;> first | rfl | cases h
theorem noStar {pos : Pos} {env : Env} : ∀ {es : List Expr}, es.all okHd = true → (backTo pos (starEach es env)).any (·.1) = false
  | [], _ => rfl
  | e :: es, h => by
    have a := Bool.and_eq_true_iff.mp (show (okHd e && es.all okHd) = true from h)
    rw [star_cons a.1]
    show (false || (backTo pos (starEach es env)).any (·.1)) = false
    rw [noStar a.2]; rfl
theorem noMark {op : CmpOp} {b : Expr} (h : okHd b = true) : behindInMarks op b = false := by
  cases b <;> first | rfl | cases h
theorem noLast {op op' : CmpOp} {b c : Expr} (h : okHd c = true) : lastMarks [op, op'] [b, c] = false := by
  show lastMarks [op'] [c] = false
  exact noMark h
theorem plainIx {b : Expr} (h : okHd b = true) : PlainIx b := by
  intro o i
  cases b <;> first | rfl | cases h
/-- a test that is its value's truth -/
def plainT : Expr → Bool
  | .UnaryOp .Not .. => false
  | .BoolOp .. => false
  | .IfExp .. => false
  | .Compare .. => false
  | _ => true
theorem isTrue_plain' {e : Expr} {env : Env} (h : plainT e = true) (whole : Sem Value) : isTrue e env whole = (do let v ← whole; standAt e.pos; holding [v] (truthy v)) := by
  cases e with
  | UnaryOp op x p => cases op <;> first | rfl | cases h
  | BoolOp _ _ _ => cases h
  | IfExp _ _ _ _ => cases h
  | Compare _ _ _ _ => cases h
  | _ => rfl
section
variable {X : Cx} {K : Fg} {pe : Expr} {a : Ar} {f : EvV} {σ : St} {H : Hp}
theorem tru_rd {S : Hp} {v : V} {d : D} {b : Bool} (h : Rdb K S H v d) (hs : Same S H) (ht : truD d = some b) : TruV K v H b := by
  cases d with
  | non => rw [h.non']; exact (Option.some.inj ht).symm
  | bl c => rw [h.bl']; exact (Option.some.inj ht).symm
  | int i => rw [h.int']; exact (Option.some.inj ht).symm
  | str y =>
    rw [h.str']
    have ht' : (if sz y.length then some ((y.length : Int) != 0) else none) = some b := ht
    split at ht'
    · rename_i hz
      exact ⟨sz_le hz, (Option.some.inj ht').symm⟩
    · cases ht'
  | lst ds =>
    obtain ⟨p, xs, rfl, h1, h2⟩ := h.lst' hs
    refine .inl ⟨xs, .inl (.inl h1), ?_⟩
    rw [← Option.some.inj ht]
    cases h2 <;> rfl
  | tup ds =>
    obtain ⟨p, xs, rfl, h1, h2, _⟩ := h.tup' hs
    refine .inr (.inl ⟨xs, h1, ?_⟩)
    rw [← Option.some.inj ht]
    cases h2 <;> rfl
  | scr _ => cases ht
  | dic _ _ => cases ht
theorem pt_test (h : PE X pe (tA X.K a)) (hp : plainT pe = true) : PT X pe (tT X.K (testA a)) := by
  refine pt_imp (pt_truth h (isTrue_plain' hp)) fun σ H Q q => ?_
  obtain ⟨B, ρ, S, b, ρ', R, e, q⟩ := q
  obtain ⟨⟨h1, ρ1⟩, e1, e2⟩ := Option.bind_eq_some_iff.mp e
  obtain ⟨d, e3, e4⟩ := Option.bind_eq_some_iff.mp e2
  obtain ⟨c, e5, e6⟩ := Option.bind_eq_some_iff.mp e4
  cases e6
  exact ⟨B, ρ, S, h1, ρ1, R, e1, fun v H1 S1 R1 X1 A1 => ⟨_, tru_rd (rdb_of R1 A1 e3) R1.sub e5, q H1 S1 R1 X1⟩⟩
/-- a constant -/
theorem const_ok {d : D} {v : V} (h : PE X pe (tC v)) (hd : ∀ S, Dq X.K S v d) : PE X pe (tV X.K (constV d)) := by
  refine pe_imp h fun σ H Q q => ?_
  obtain ⟨B, ρ, S, r, ρ', R, e, q⟩ := q
  cases e
  exact q v H S R .refl (hd S)
end
theorem dat_args {K : Fg} {S : Hp} {σ : St} : ∀ {vs : List V} {hs : List Hd} {ds : List D}, ArgsOk K S σ vs hs → datAll hs = some ds → DqAll K S vs ds
  | _, _, _, .nil, g => by cases g; exact .nil
  | _, _, _, .cons (h := h) a t, g => by
    cases h with
    | slot i => cases g
    | dat d =>
      obtain ⟨es, g1, g2⟩ := Option.bind_eq_some_iff.mp (show ((datAll _).bind fun ds => some (d :: ds)) = some _ from g)
      cases g2
      exact .cons a (dat_args t g1)
end My

namespace My
open PySem PySem.Spec PyProof.Rows L2

/-! ### entries written -/
def reroot : Ent → List D → Option Ent
  | .own _, ds => some (.own ds)
  | .io _, ds => some (.io ds)
  | _, _ => none
def rootDs : Ent → Option (List D)
  | .own ds => some ds
  | .io ds => some ds
  | _ => none
section
variable {K : Fg} {B : Bs} {σ : St} {ρ : En} {H S H' S' : Hp} {i : Nat} {a : Addr} {e e' : Ent} {ds : List D} {xs : List V}
theorem Rel.rootAt (R : Rel K B σ ρ H S) (he : ρ[i]? = some e) (hr : rootDs e = some ds) : ∃ a xs, σ[i]? = some (some (.ref a)) ∧ H a = some (.lst xs) ∧ S a = none ∧ DqAll K S xs ds ∧ Root σ ρ i a := by
  have q := R.ent i e he
  cases e with
  | no => cases hr
  | val d => cases hr
  | own es =>
    cases hr
    obtain ⟨a, xs, h1, h2, h3, h4, h5⟩ := q
    exact ⟨a, xs, h1, h2, h3, h5, ⟨_, he, rfl⟩, h1⟩
  | io es =>
    cases hr
    obtain ⟨a, xs, h1, h2, h3, h4, h5⟩ := q
    exact ⟨a, xs, h1, h2, h3, h5, ⟨_, he, rfl⟩, h1⟩
/-- a root's list is written -/
theorem Rel.upd (R : Rel K B σ ρ H S) (he : ρ[i]? = some e) (hr : reroot e ds = some e') (ha : σ[i]? = some (some (.ref a))) (ss : Same S S') (sub : Same S' H') (hk : ∀ b o, H b = some o → b ≠ a → H' b = some o) (dm : ∀ b, H b ≠ none → S' b = S b)
    (hn : H' a = some (.lst xs)) (g : DqAll K S' xs ds) : Rel K B σ (ρ.set i e') H' S' ∧ Ext σ ρ (ρ.set i e') H S H' S' := by
  have hroot : Root σ ρ i a := by
    refine ⟨⟨e, he, ?_⟩, ha⟩
    cases e <;> first | rfl | cases hr
  obtain ⟨ys, g1, g2⟩ := R.root hroot
  have hlt : i < ρ.length := (List.getElem?_eq_some_iff.mp he).1
  have hrt : ∀ j b, Root σ (ρ.set i e') j b → Root σ ρ j b := fun j b ⟨⟨u, hu, hr⟩, hs⟩ => by
    by_cases hj : j = i
    · subst hj
      rw [ha] at hs
      cases hs
      exact hroot
    · rw [List.getElem?_set_ne (Ne.symm hj)] at hu
      exact ⟨⟨u, hu, hr⟩, hs⟩
  have some_ne : ∀ b o, H b = some o → H b ≠ none := fun b o h z => by rw [h] at z; cases z
  refine ⟨⟨by simpa using R.len, sub, fun j u hu => ?_, fun j k b q1 q2 => R.inj j k b (hrt j b q1) (hrt k b q2), fun b o q hb => ?_, R.sst.trans ss, fun b hb => ?_, fun b hb => ?_⟩, ⟨ss, fun b o h1 h2 => ?_, hrt, fun b hb => ?_⟩⟩
  · by_cases hj : j = i
    · subst hj
      rw [List.getElem?_set_self hlt] at hu
      cases hu
      have q := R.ent j e he
      cases e with
      | no => cases hr
      | val d => cases hr
      | own es =>
        cases hr
        obtain ⟨b, zs, h1, h2, h3, h4, h5⟩ := q
        rw [ha] at h1; cases h1
        exact ⟨a, xs, ha, hn, by rw [dm a (some_ne _ _ h2)]; exact h3, h4, g⟩
      | io es =>
        cases hr
        obtain ⟨b, zs, h1, h2, h3, h4, h5⟩ := q
        rw [ha] at h1; cases h1
        exact ⟨a, xs, ha, hn, by rw [dm a (some_ne _ _ h2)]; exact h3, h4, g⟩
    · rw [List.getElem?_set_ne (Ne.symm hj)] at hu
      have q := R.ent j u hu
      have ne : ∀ b, σ[j]? = some (some (.ref b)) → isRoot u = true → b ≠ a := fun b q1 q2 z => hj (R.inj j i a ⟨⟨u, hu, q2⟩, by rw [q1, z]⟩ hroot)
      cases u with
      | no => trivial
      | val d => obtain ⟨v, h1, h2⟩ := q; exact ⟨v, h1, dp_mono ss _ _ h2⟩
      | own es =>
        obtain ⟨b, zs, h1, h2, h3, h4, h5⟩ := q
        exact ⟨b, zs, h1, hk _ _ h2 (ne b h1 rfl), by rw [dm b (some_ne _ _ h2)]; exact h3, h4, dpAll_mono ss _ _ h5⟩
      | io es =>
        obtain ⟨b, zs, h1, h2, h3, h4, h5⟩ := q
        exact ⟨b, zs, h1, hk _ _ h2 (ne b h1 rfl), by rw [dm b (some_ne _ _ h2)]; exact h3, h4, dpAll_mono ss _ _ h5⟩
  · refine hk b o (R.old b o q hb) ?_
    rintro rfl
    -- an old object that is no io root is not our root
    have q := R.ent i e he
    cases e with
    | no => cases hr
    | val d => cases hr
    | own es =>
      obtain ⟨b', zs, h1, h2, h3, h4, h5⟩ := q
      rw [ha] at h1; cases h1
      rw [h4] at q; cases q
    | io es =>
      obtain ⟨b', zs, h1, h2, h3, h4, h5⟩ := q
      rw [ha] at h1; cases h1
      exact hb h4
  · by_cases hi : B.io = some b
    · rw [dm b (R.iok b hi)]; exact R.sold b hb
    · cases q : B.Hb b with
      | none => exact absurd q hb
      | some o => rw [dm b (some_ne _ _ (R.old b o q hi))]; exact R.sold b hb
  · by_cases hba : b = a
    · rw [hba, hn]; exact fun z => by cases z
    · cases q : H b with
      | none => exact absurd q (R.iok b hb)
      | some o => rw [hk b o q hba]; exact fun z => by cases z
  · have hba : b ≠ a := fun z => h2 i (by rw [z]; exact hroot)
    exact ⟨hk b o h1 hba, dm b (some_ne _ _ h1)⟩
  · by_cases hba : b = a
    · rw [hba, hn]; exact fun z => by cases z
    · cases q : H b with
      | none => exact absurd q hb
      | some o => rw [hk b o q hba]; exact fun z => by cases z
end

/-! ### lists of ours lent to a call -/
mutual
/-- no list within -/
@[simp] def ndl : D → Bool
  | .non => true
  | .bl _ => true
  | .int _ => true
  | .str _ => true
  | .tup xs => ndls xs
  | .lst _ => false
  | .scr _ => false
  | .dic _ _ => false
@[simp] def ndls : List D → Bool
  | [] => true
  | x :: xs => ndl x && ndls xs
end
def RV.flat : RV → Bool
  | .val d => ndl d
  | .new ds => ndls ds
mutual
theorem dq_ndl {K : Fg} {S S' : Hp} (h : ∀ b o, S b = some o → (∀ xs, o ≠ .lst xs) → S' b = some o) : ∀ (d : D) (v : V), ndl d = true → Dq K S v d → Dq K S' v d
  | .non, _, _, q => by cases q; exact .non
  | .bl _, _, _, q => by cases q; exact .bl _
  | .int _, _, _, q => by cases q; exact .int _
  | .str _, _, _, q => by cases q; exact .str _
  | .tup ds, _, f, q => by
    cases q with
    | tup a b =>
      exact .tup (h _ _ a fun xs z => by cases z) (dqs_ndl h ds _ f b)
  | .lst _, _, f, _ => by cases f
  | .scr _, _, f, _ => by cases f
  | .dic _ _, _, f, _ => by cases f
theorem dqs_ndl {K : Fg} {S S' : Hp} (h : ∀ b o, S b = some o → (∀ xs, o ≠ .lst xs) → S' b = some o) : ∀ (ds : List D) (vs : List V), ndls ds = true → DqAll K S vs ds → DqAll K S' vs ds
  | [], _, _, q => by cases q; exact .nil
  | d :: ds, _, f, q => by
    have f2 := Bool.and_eq_true_iff.mp (show (ndl d && ndls ds) = true from f)
    cases q with
    | cons a b => exact .cons (dq_ndl h d _ f2.1 a) (dqs_ndl h ds _ f2.2 b)
end
open Classical in
/-- the roots but the one at x taken in -/
noncomputable def lend (σ : St) (ρ : En) (x : Option Addr) (H S : Hp) : Hp := fun b => if (∃ i, Root σ ρ i b) ∧ x ≠ some b then H b else S b
open Classical in
noncomputable def unlend (σ : St) (ρ : En) (x : Option Addr) (S : Hp) : Hp := fun b => if (∃ i, Root σ ρ i b) ∧ x ≠ some b then none else S b
section
variable {K : Fg} {B : Bs} {σ : St} {ρ : En} {H S H' S' : Hp} {x : Option Addr}
theorem lend_same (R : Rel K B σ ρ H S) : Same S (lend σ ρ x H S) ∧ Same (lend σ ρ x H S) H := by
  refine ⟨fun b o h => ?_, fun b o h => ?_⟩
  · unfold lend
    split
    · rename_i hr
      obtain ⟨⟨i, hr⟩, _⟩ := hr
      obtain ⟨xs, _, g⟩ := R.root hr
      rw [g] at h; cases h
    · exact h
  · unfold lend at h
    split at h
    · exact h
    · exact R.sub b o h
theorem lend_root (R : Rel K B σ ρ H S) {b : Addr} (hr : (∃ i, Root σ ρ i b) ∧ x ≠ some b) : ∃ xs, lend σ ρ x H S b = some (.lst xs) := by
  obtain ⟨xs, g, _⟩ := R.root hr.1.choose_spec
  refine ⟨xs, ?_⟩
  unfold lend
  rw [if_pos hr]; exact g
/-- behind: what the callee made stays, the lent ones come back -/
theorem unlend_ok (R : Rel K B σ ρ H S) (ss : Same (lend σ ρ x H S) S') (sub : Same S' H') (dm : ∀ b, H b ≠ none → S' b = lend σ ρ x H S b) :
    Same S (unlend σ ρ x S') ∧ Same (unlend σ ρ x S') H' ∧ (∀ b, H b ≠ none → unlend σ ρ x S' b = S b) ∧ (∀ b o, S' b = some o → (∀ xs, o ≠ .lst xs) → unlend σ ρ x S' b = some o) ∧ ∀ b, H b = none → unlend σ ρ x S' b = S' b := by
  refine ⟨fun b o h => ?_, fun b o h => ?_, fun b hb => ?_, fun b o h hn => ?_, fun b hb => ?_⟩
  · have h1 := ss b o ((lend_same R).1 b o h)
    unfold unlend
    split
    · rename_i hr
      obtain ⟨xs, _, g⟩ := R.root hr.1.choose_spec
      rw [g] at h; cases h
    · exact h1
  · unfold unlend at h
    split at h
    · cases h
    · exact sub b o h
  · unfold unlend
    split
    · rename_i hr
      obtain ⟨xs, _, g⟩ := R.root hr.1.choose_spec
      exact g.symm
    · rename_i hr
      rw [dm b hb]
      unfold lend
      rw [if_neg hr]
  · unfold unlend
    split
    · rename_i hr
      obtain ⟨xs, g⟩ := lend_root (S := S) R hr
      rw [ss b _ g] at h
      exact absurd (Option.some.inj h).symm (hn xs)
    · exact h
  · unfold unlend
    rw [if_neg]
    rintro ⟨⟨i, hr⟩, _⟩
    obtain ⟨xs, g, _⟩ := R.root hr
    rw [g] at hb; cases hb
/-- what is read, as the callee sees it -/
theorem lend_rd (R : Rel K B σ ρ H S) {v : V} {h : Hd} {d : D} (hx : ∀ j b, h = .slot j → Root σ ρ j b → x ≠ some b) (a : ArgOk K S σ v h) (g : h.get ρ = some d) : Dq K (lend σ ρ x H S) v d := by
  have s1 := (lend_same (x := x) R).1
  cases h with
  | dat d' =>
    have e : d' = d := Option.some.inj g
    subst e
    exact dp_mono s1 _ _ a
  | slot i =>
    have g' : (ρ[i]?).bind Ent.d? = some d := g
    cases q : ρ[i]? with
    | none => rw [q] at g'; cases g'
    | some e =>
      rw [q] at g'
      have a' : σ[i]? = some (some v) := a
      cases hr : rootDs e with
      | some ds =>
        obtain ⟨b, xs, h1, h2, h3, h4, h5⟩ := R.rootAt q hr
        rw [a'] at h1; cases h1
        have hd : d = .lst ds := by
          cases e <;> first | (cases hr; done) | skip
          · cases hr; exact (Option.some.inj g').symm
          · cases hr; exact (Option.some.inj g').symm
        subst hd
        refine .lst (xs := xs) ?_ (dpAll_mono s1 _ _ h4)
        unfold lend
        rw [if_pos ⟨⟨i, h5⟩, hx i b rfl h5⟩]; exact h2
      | none =>
        have r := R.ent i e q
        cases e with
        | no => cases g'
        | val d' =>
          have e : d' = d := Option.some.inj g'
          subst e
          obtain ⟨w, h1, h2⟩ := r
          rw [a'] at h1; cases h1
          exact dp_mono s1 _ _ h2
        | own _ => cases hr
        | io _ => cases hr
theorem lend_rds (R : Rel K B σ ρ H S) : ∀ {vs : List V} {hs : List Hd} {ds : List D}, (∀ j b, .slot j ∈ hs → Root σ ρ j b → x ≠ some b) → ArgsOk K S σ vs hs → getAll hs ρ = some ds → DqAll K (lend σ ρ x H S) vs ds
  | _, _, _, _, .nil, g => by cases g; exact .nil
  | _, _, ds, hx, .cons a t, g => by
    obtain ⟨d, g1, g2⟩ := Option.bind_eq_some_iff.mp g
    obtain ⟨es, g3, g4⟩ := Option.bind_eq_some_iff.mp g2
    cases g4
    exact .cons (lend_rd R (fun j b e r => hx j b (by rw [e]; exact List.mem_cons_self) r) a g1) (lend_rds R (fun j b m r => hx j b (List.mem_cons_of_mem _ m) r) t g3)
end

/-! ### the promise of a def of the small language -/
def spF (K : Fg) (n : Nat) (io : Bool) (F : List D → Option (RV × List D)) : Sp := fun vs H Q _ => vs.length = n ∧ ∃ S ds r ds', Same S H ∧ F ds = some (r, ds') ∧
  if io = true then ∃ a xs cs vs' rest, vs = .ref a :: vs' ∧ ds = .lst cs :: rest ∧ H a = some (.lst xs) ∧ S a = none ∧ DqAll K S xs cs ∧ DqAll K S vs' rest ∧
      ∀ v H' S' xs', Same S S' → Same S' H' → (∀ b o, H b = some o → b ≠ a → H' b = some o) → (∀ b, H b ≠ none → S' b = S b) → H' a = some (.lst xs') → DqAll K S' xs' ds' → RvOk K H H' S' v r → Q v H'
  else DqAll K S vs ds ∧ ∀ v H' S', Grow H S H' S' → RvOk K H H' S' v r → Q v H'
@[simp] def callV (F : List D → Option (RV × List D)) (as : List Ar) : EvV := fun ρ => (evArs as ρ).bind fun p => (getAll p.1 p.2).bind fun ds => (F ds).bind fun r =>
  if r.1.flat || (datAll p.1).isSome then some (r.1, p.2) else none
/-- the head is a list of ours, handed back -/
def callIo (F : List D → Option (RV × List D)) (as : List Ar) : EvV := fun ρ => (evArs as ρ).bind fun p => (getAll p.1 p.2).bind fun ds => match p.1, ds with
  | .slot i :: hs, .lst _ :: _ => if hs.all (fun h => match h with | .slot j => decide (j ≠ i) | _ => true) then
      (F ds).bind fun r => if (r.1.flat && ndls r.2) || (datAll hs).isSome then (p.2[i]?).bind fun e => (reroot e r.2).bind fun e' => some (r.1, p.2.set i e') else none
    else none
  | _, _ => none
section
variable {K : Fg} {σ : St} {H : Hp} {Q : VK} {F : List D → Option (RV × List D)} {as : List Ar} {E : XK} {n : Nat}
theorem rv_unlend {B : Bs} {ρ : En} {S H' S' : Hp} {x : Option Addr} (R : Rel K B σ ρ H S) (h4 : ∀ b o, S' b = some o → (∀ xs, o ≠ .lst xs) → unlend σ ρ x S' b = some o) (h5 : ∀ b, H b = none → unlend σ ρ x S' b = S' b) {v : V} {r : RV} (f : r.flat = true) (q : RvOk K H H' S' v r) : RvOk K H H' (unlend σ ρ x S') v r := by
  cases r with
  | val d => exact dq_ndl h4 d v f q
  | new ds =>
    obtain ⟨a, xs, h1, h2, h3, h6, h7⟩ := q
    exact ⟨a, xs, h1, h2, h3, by rw [h5 a h2]; exact h6, dqs_ndl h4 ds xs f h7⟩
theorem argsOk_len {S : Hp} : ∀ {vs : List V} {hs : List Hd}, ArgsOk K S σ vs hs → vs.length = hs.length
  | _, _, .nil => rfl
  | _, _, .cons _ t => by simp [argsOk_len t]
theorem evArs_len : ∀ {as : List Ar} {ρ ρ' : En} {hs : List Hd}, evArs as ρ = some (hs, ρ') → hs.length = as.length
  | [], _, _, _, e => by cases e; rfl
  | a :: as, ρ, ρ', hs, e => by
    obtain ⟨p, e1, e2⟩ := Option.bind_eq_some_iff.mp e
    obtain ⟨q, e3, e4⟩ := Option.bind_eq_some_iff.mp e2
    cases e4
    simp [evArs_len e3]
theorem call_q (hn : as.length = n) (q : tV K (callV F as) σ H Q) : tAs K as σ H fun vs H1 => spF K n false F (vs ++ []) H1 Q E := by
  obtain ⟨B, ρ, S, r, ρ', R, e, q⟩ := q
  obtain ⟨⟨hs, ρ1⟩, e1, e⟩ := Option.bind_eq_some_iff.mp e
  obtain ⟨ds, e2, e⟩ := Option.bind_eq_some_iff.mp e
  obtain ⟨⟨r1, ds'⟩, e3, e⟩ := Option.bind_eq_some_iff.mp e
  refine ⟨B, ρ, S, hs, ρ1, R, e1, fun vs H1 S1 R1 X1 A1 => ?_⟩
  show spF K n _ F (vs ++ []) H1 Q E
  rw [List.append_nil]
  refine ⟨by rw [argsOk_len A1, evArs_len e1]; exact hn, ?_⟩
  split at e
  · rename_i hz
    cases e
    cases hf : r1.flat with
    | true =>
      refine ⟨lend σ ρ1 none H1 S1, ds, r1, ds', (lend_same R1).2, e3, ?_⟩
      rw [if_neg Bool.false_ne_true]
      refine ⟨lend_rds R1 (fun _ _ _ _ z => by cases z) A1 e2, fun v H' S' g k => ?_⟩
      obtain ⟨g1, g2, g3, g4, g5⟩ := unlend_ok R1 g.ss g.sub g.dm
      have gg : Grow H1 S1 H' (unlend σ ρ1 none S') := ⟨g1, g2, g.hh, g3⟩
      exact q v H' _ (R1.grow gg) (X1.trans (.grow gg)) (rvOk_back X1 (rv_unlend R1 g4 g5 hf k))
    | false =>
      have hz' : (datAll hs).isSome = true := by
        have hz2 : (r1.flat || (datAll hs).isSome) = true := hz
        rw [hf, Bool.false_or] at hz2; exact hz2
      obtain ⟨es, he⟩ := Option.isSome_iff_exists.mp hz'
      have hes : es = ds := by
        have : ∀ (hs : List Hd) (es ds : List D), datAll hs = some es → getAll hs ρ1 = some ds → es = ds := by
          intro hs
          induction hs with
          | nil => intro es ds h1 h2; cases h1; cases h2; rfl
          | cons h hs ih =>
            intro es ds h1 h2
            cases h with
            | slot i => cases h1
            | dat d =>
              obtain ⟨es', g1, g2⟩ := Option.bind_eq_some_iff.mp (show ((datAll hs).bind fun ds => some (d :: ds)) = some es from h1)
              cases g2
              obtain ⟨d', g3, g4⟩ := Option.bind_eq_some_iff.mp h2
              obtain ⟨ds', g5, g6⟩ := Option.bind_eq_some_iff.mp g4
              cases g6
              cases g3
              rw [ih es' ds' g1 g5]
        exact this hs es ds he e2
      subst hes
      refine ⟨S1, es, r1, ds', R1.sub, e3, ?_⟩
      rw [if_neg Bool.false_ne_true]
      exact ⟨dat_args A1 he, fun v H' S' g k => q v H' S' (R1.grow g) (X1.trans (.grow g)) (rvOk_back X1 k)⟩
  · cases e
theorem dat_get {ρ : En} : ∀ (hs : List Hd) (es ds : List D), datAll hs = some es → getAll hs ρ = some ds → es = ds := by
  intro hs
  induction hs with
  | nil => intro es ds h1 h2; cases h1; cases h2; rfl
  | cons h hs ih =>
    intro es ds h1 h2
    cases h with
    | slot i => cases h1
    | dat d =>
      obtain ⟨es', g1, g2⟩ := Option.bind_eq_some_iff.mp (show ((datAll hs).bind fun ds => some (d :: ds)) = some es from h1)
      cases g2
      obtain ⟨d', g3, g4⟩ := Option.bind_eq_some_iff.mp h2
      obtain ⟨ds', g5, g6⟩ := Option.bind_eq_some_iff.mp g4
      cases g6
      cases g3
      rw [ih es' ds' g1 g5]
theorem callIo_q (hn : as.length = n) (q : tV K (callIo F as) σ H Q) : tAs K as σ H fun vs H1 => spF K n true F (vs ++ []) H1 Q E := by
  obtain ⟨B, ρ, S, r, ρ', R, e, q⟩ := q
  obtain ⟨⟨hs, ρ1⟩, e1, e⟩ := Option.bind_eq_some_iff.mp e
  obtain ⟨ds, e2, e⟩ := Option.bind_eq_some_iff.mp e
  refine ⟨B, ρ, S, hs, ρ1, R, e1, fun vs H1 S1 R1 X1 A1 => ?_⟩
  show spF K n _ F (vs ++ []) H1 Q E
  rw [List.append_nil]
  refine ⟨by rw [argsOk_len A1, evArs_len e1]; exact hn, ?_⟩
  dsimp only at e e2
  split at e
  · rename_i i hs' cs rest _
    split at e
    · rename_i hall
      obtain ⟨⟨r1, ds'⟩, e3, e⟩ := Option.bind_eq_some_iff.mp e
      split at e
      · rename_i hfl
        obtain ⟨en, e4, e⟩ := Option.bind_eq_some_iff.mp e
        obtain ⟨en', e5, e⟩ := Option.bind_eq_some_iff.mp e
        cases e
        cases A1 with
        | cons a1 at1 =>
          rename_i v1 vs1
          obtain ⟨d1, g1, g2⟩ := Option.bind_eq_some_iff.mp e2
          obtain ⟨ds2, g3, g4⟩ := Option.bind_eq_some_iff.mp g2
          cases g4
          -- the root
          have hrd : rootDs en = some cs := by
            have g1' : (ρ1[i]?).bind Ent.d? = some (.lst cs) := g1
            rw [e4] at g1'
            cases en with
            | no => cases e5
            | val d => cases e5
            | own es => cases g1'; rfl
            | io es => cases g1'; rfl
          obtain ⟨a, xs, k1, k2, k3, k4, k5⟩ := R1.rootAt e4 hrd
          have a1' : σ[i]? = some (some v1) := a1
          rw [a1'] at k1; cases k1
          cases hdd : (datAll hs').isSome with
          | true =>
            obtain ⟨es, he⟩ := Option.isSome_iff_exists.mp hdd
            have hes := dat_get hs' es _ he g3
            refine ⟨S1, .lst cs :: es, r1, ds', R1.sub, by rw [hes]; exact e3, ?_⟩
            rw [if_pos rfl]
            refine ⟨a, xs, cs, vs1, es, rfl, rfl, k2, k3, k4, dat_args at1 he, fun v H' S' xs' t1 t2 t3 t4 t5 t6 t7 => ?_⟩
            obtain ⟨R2, X2⟩ := R1.upd e4 e5 a1' t1 t2 t3 t4 t5 t6
            exact q v H' _ R2 (X1.trans X2) (rvOk_back X1 t7)
          | false =>
          rw [hdd, Bool.or_false] at hfl
          have hfl := Bool.and_eq_true_iff.mp hfl
          obtain ⟨s1, s2⟩ := lend_same (x := some a) R1
          refine ⟨lend σ ρ1 (some a) H1 S1, .lst cs :: rest, r1, ds', s2, e3, ?_⟩
          rw [if_pos rfl]
          refine ⟨a, xs, cs, vs1, rest, rfl, rfl, k2, ?_, dpAll_mono s1 _ _ k4, lend_rds R1 (fun j b m hr z => ?_) at1 g3, fun v H' S' xs' t1 t2 t3 t4 t5 t6 t7 => ?_⟩
          · unfold lend
            rw [if_neg fun z => z.2 rfl]; exact k3
          · have hj := List.all_eq_true.mp hall _ m
            cases z
            exact of_decide_eq_true hj (R1.inj j i a hr k5)
          · obtain ⟨g1, g2, g3, g4, g5⟩ := unlend_ok R1 t1 t2 t4
            obtain ⟨R2, X2⟩ := R1.upd e4 e5 a1' g1 g2 t3 g3 t5 (dqs_ndl g4 ds' xs' hfl.2 t6)
            exact q v H' _ R2 (X1.trans X2) (rvOk_back X1 (rv_unlend R1 g4 g5 hfl.1 t7))
      · cases e
    · cases e
  · cases e
end
end My

namespace My
open PySem PySem.Spec PyProof.Rows L2

/-! ### what is gone through -/
abbrev EvI := En → Option (List D × En)
/-- it gives these items, whatever is laid meanwhile -/
def WalkD (K : Fg) (J : L2.It) (items : List D) (S : Hp) : Prop := ∃ G Y, L2.Walk J items.length G Y ∧ (∀ S1 H1, Same S S1 → Same S1 H1 → G H1) ∧
  ∀ i S1 H1 x H2, i < items.length → Same S S1 → Same S1 H1 → Y i H1 x H2 → ∃ S2 d, Grow H1 S1 H2 S2 ∧ items[i]? = some d ∧ Dq K S2 x d
def tI (K : Fg) (f : EvI) : TI := fun σ H R => ∃ B ρ S items ρ', Rel K B σ ρ H S ∧ f ρ = some (items, ρ') ∧
  ∀ J H' S', Rel K B σ ρ' H' S' → Ext σ ρ ρ' H S H' S' → WalkD K J items S' → R J H'
/-- it gives these items as long as Kp holds of the heap -/
def WalkF (K : Fg) (J : L2.It) (items : List D) (S : Hp) (Kp : Hp → Prop) : Prop := ∃ G Y, L2.Walk J items.length G Y ∧ (∀ S1 H1, Same S S1 → Same S1 H1 → Kp H1 → G H1) ∧
  ∀ i S1 H1 x H2, i < items.length → Same S S1 → Same S1 H1 → Kp H1 → Y i H1 x H2 → ∃ S2 d, Grow H1 S1 H2 S2 ∧ items[i]? = some d ∧ Dq K S2 x d
theorem WalkD.f {K : Fg} {J : L2.It} {items : List D} {S : Hp} (w : WalkD K J items S) (Kp : Hp → Prop) : WalkF K J items S Kp := by
  obtain ⟨G, Y, wk, hG, hY⟩ := w
  exact ⟨G, Y, wk, fun S1 H1 a b _ => hG S1 H1 a b, fun i S1 H1 x H2 hi a b _ y => hY i S1 H1 x H2 hi a b y⟩
def KpB (σ : St) (ρ : En) (H : Hp) : Hp → Prop := fun H1 => ∀ b o, H b = some o → (∀ i, ¬ Root σ ρ i b) → H1 b = some o
def tF (K : Fg) (f : EvI) : TI := fun σ H R => ∃ B ρ S items ρ', Rel K B σ ρ H S ∧ f ρ = some (items, ρ') ∧
  ∀ J H' S', Rel K B σ ρ' H' S' → Ext σ ρ ρ' H S H' S' → WalkF K J items S' (KpB σ ρ' H') → R J H'
theorem tF_tI {K : Fg} {f : EvI} {σ : St} {H : Hp} {R : L2.It → Hp → Prop} (q : tF K f σ H R) : tI K f σ H R := by
  obtain ⟨B, ρ, S, items, ρ', R1, e, q⟩ := q
  exact ⟨B, ρ, S, items, ρ', R1, e, fun J H' S' R2 X2 w => q J H' S' R2 X2 (w.f _)⟩
theorem pi_imp {X : Cx} {tg e : Expr} {t t' : TI} (h : PI X tg e t) (w : ∀ σ H R, t' σ H R → t σ H R) : PI X tg e t' := ⟨fun pins s σ H R I q => h.run pins s σ H R I (w σ H R q)⟩
def signs (z : Str) : List D := z.cps.toList.map fun c => .str ⟨#[c]⟩
def itemsD : D → Option (List D)
  | .lst ds => some ds
  | .tup ds => some ds
  | .str z => some (signs z)
  | _ => none
section
variable {K : Fg} {S : Hp} {a : Addr} {xs : List V} {ds : List D}
theorem wd_list (h : S a = some (.lst xs)) (g : DqAll K S xs ds) : WalkD K (Itl K a) ds S := by
  refine ⟨fun H => SqL K H a xs, YAt xs, by rw [← g.length]; exact walk_list (xs := xs), fun S1 H1 s1 s2 => .inl (.inl (s2 _ _ (s1 _ _ h))), fun i S1 H1 x H2 hi s1 s2 y => ?_⟩
  obtain ⟨e, y⟩ := y
  subst e
  obtain ⟨d, h1, h2⟩ := g.getV y
  exact ⟨S1, d, .refl s2, h1, dp_mono s1 _ _ h2⟩
theorem wd_tup (h : S a = some (.tup xs)) (g : DqAll K S xs ds) : WalkD K (Itt K a) ds S := by
  refine ⟨fun H => SqT K H a xs, YAt xs, by rw [← g.length]; exact walk_tup (xs := xs), fun S1 H1 s1 s2 => .inl (.inl (s2 _ _ (s1 _ _ h))), fun i S1 H1 x H2 hi s1 s2 y => ?_⟩
  obtain ⟨e, y⟩ := y
  subst e
  obtain ⟨d, h1, h2⟩ := g.getV y
  exact ⟨S1, d, .refl s2, h1, dp_mono s1 _ _ h2⟩
theorem wd_str {z : Str} : WalkD K (Its z) (signs z) S := by
  have hl : (signs z).length = z.cps.size := by simp [signs]
  refine ⟨_, _, by rw [hl]; exact walk_str (z := z), fun _ _ _ _ => trivial, fun i S1 H1 x H2 hi s1 s2 y => ?_⟩
  obtain ⟨e, c, hc, rfl⟩ := y
  subst e
  refine ⟨S1, .str ⟨#[c]⟩, .refl s2, ?_, .str _⟩
  unfold signs
  rw [List.getElem?_map, Array.getElem?_toList, hc]; rfl
theorem wd_range {lo : Int} {n : Nat} : WalkD K (Itr lo n) ((List.range n).map fun (i : Nat) => D.int (lo + i)) S := by
  refine ⟨_, _, by rw [List.length_map, List.length_range]; exact walk_range, fun _ _ _ _ => trivial, fun i S1 H1 x H2 hi s1 s2 y => ?_⟩
  obtain ⟨e, rfl⟩ := y
  subst e
  rw [List.length_map, List.length_range] at hi
  refine ⟨S1, .int (lo + i), .refl s2, ?_, .int _⟩
  rw [List.getElem?_map, List.getElem?_range hi]; rfl
theorem wd_rangeC {lo c : Int} {n : Nat} : WalkD K (Itc lo c n) ((List.range n).map fun (i : Nat) => D.int (lo + i * c)) S := by
  refine ⟨_, _, by rw [List.length_map, List.length_range]; exact walk_rangeC, fun _ _ _ _ => trivial, fun i S1 H1 x H2 hi s1 s2 y => ?_⟩
  obtain ⟨e, rfl⟩ := y
  subst e
  rw [List.length_map, List.length_range] at hi
  refine ⟨S1, .int (lo + i * c), .refl s2, ?_, .int _⟩
  rw [List.getElem?_map, List.getElem?_range hi]; rfl
end
section
variable {X : Cx} {tg e : Expr} {pins : List (Addr × Obj)} {σ : St} {H S : Hp} {s : Shared} {x : V} {v : Value} {d : D} {items : List D} {R : L2.It → Hp → Prop}
/-- a value of one of the three kinds begins to be gone through -/
theorem iter_rd (I : Inv X pins σ H s) (r : RelV x v) (hs : Same S H) (hq : Dq X.K S x d) (hd : itemsD d = some items) (q : ∀ J, WalkD X.K J items S → R J H) :
    wpAny (model X.prog X.w) X.A (pyIter v) (PIE X pins σ tg R) X.xe s := by
  -- the three rules, at a name that holds the value
  cases hq with
  | lst h g =>
    cases hd
    cases r
    obtain ⟨its, rv, p, hz⟩ := I.list (.inl (.inl (hs _ _ h)))
    refine wpAny_pyIter_list p.isList ?_
    exact pi_one (tk := s.toks) I _ (turn_list _ _) ⟨_, Heap.get?_push_size _ rfl, rfl, rfl⟩ (q _ (wd_list h g))
  | tup h g =>
    cases hd
    cases r
    obtain ⟨its, rv, p, hz⟩ := I.tuple (.inl (.inl (hs _ _ h)))
    refine wpAny_pyIter_tuple (show s.heap.IsTuple _ its.toArray from p) ?_
    exact pi_one (tk := s.toks) I _ (turn_tuple _ _) ⟨_, Heap.get?_push_size _ rfl, rfl, rfl⟩ (q _ (wd_tup h g))
  | str z =>
    cases hd
    obtain ⟨t, rfl⟩ := r
    refine wpAny_pyIter_strU ?_
    have hty : strIterType z = "str_ascii_iterator" ∨ strIterType z = "str_iterator" := by
      unfold strIterType
      split
      · exact .inl rfl
      · exact .inr rfl
    exact pi_one (tk := s.toks) I _ (turn_str _ z t (strIterType z) hty) ⟨_, Heap.get?_push_size _ rfl, rfl, rfl⟩ (q _ wd_str)
  | non => cases hd
  | bl _ => cases hd
  | int _ => cases hd
  | scr _ => cases hd
  | dic _ _ _ => cases hd
end
def seqI (a : Ar) : EvI := fun ρ => (evAr a ρ).bind fun p => match p.1 with
  | .dat d => (itemsD d).bind fun ds => some (ds, p.2)
  | _ => none
@[simp] def in62 (i : Int) : Bool := decide (i.natAbs < 2 ^ 62)
def rsz (i j c : Int) : Nat := if 0 < c then ((j - i + (c - 1)) / c).toNat else ((i - j + (-c - 1)) / (-c)).toNat
theorem rsz_eq (i j c : Int) (h : c ≠ 0) : Builtin.Range.rangeSize i j c = (rsz i j c : Int) := by
  unfold Builtin.Range.rangeSize rsz
  by_cases hc : 0 < c
  · rw [if_pos hc, if_pos hc]
    by_cases hl : i < j
    · rw [if_pos hl]
      have e : (j - i + (c - 1)) / c = (j - i - 1) / c + 1 := by
        rw [show j - i + (c - 1) = (j - i - 1) + c by omega, Int.add_ediv_of_dvd_right (Int.dvd_refl c), Int.ediv_self h]
      have : 0 ≤ (j - i - 1) / c := Int.ediv_nonneg (by omega) (by omega)
      rw [e]; omega
    · rw [if_neg hl]
      have : (j - i + (c - 1)) / c ≤ 0 := by
        have : (j - i + (c - 1)) / c < 1 := Int.ediv_lt_of_lt_mul hc (by omega)
        omega
      omega
  · rw [if_neg hc, if_neg hc]
    by_cases hl : i > j
    · rw [if_pos hl]
      have e : (i - j + (-c - 1)) / (-c) = (i - j - 1) / (-c) + 1 := by
        rw [show i - j + (-c - 1) = (i - j - 1) + (-c) by omega, Int.add_ediv_of_dvd_right (Int.dvd_refl (-c)), Int.ediv_self (by omega)]
      have : 0 ≤ (i - j - 1) / (-c) := Int.ediv_nonneg (by omega) (by omega)
      rw [e]; omega
    · rw [if_neg hl]
      have : (i - j + (-c - 1)) / (-c) ≤ 0 := by
        have : (i - j + (-c - 1)) / (-c) < 1 := Int.ediv_lt_of_lt_mul (by omega) (by omega)
        omega
      omega
theorem rsz_small (i j c : Int) (h1 : c.natAbs < 1073741824) (h2 : i.natAbs < 1099511627776) (h3 : j.natAbs < 1099511627776) : Builtin.Range.small i j c = true := by
  have hb : 0 ≤ Builtin.Range.rangeSize i j c ∧ Builtin.Range.rangeSize i j c ≤ 2199023255553 := by
    unfold Builtin.Range.rangeSize
    by_cases hc : 0 < c
    · rw [if_pos hc]
      by_cases hl : i < j
      · rw [if_pos hl]
        have h4 : 0 ≤ (j - i - 1) / c := Int.ediv_nonneg (by omega) (by omega)
        have h5 : (j - i - 1) / c ≤ j - i - 1 := Int.ediv_le_self _ (by omega)
        omega
      · rw [if_neg hl]; omega
    · rw [if_neg hc]
      by_cases hl : i > j
      · rw [if_pos hl]
        have h4 : 0 ≤ (i - j - 1) / (-c) := Int.ediv_nonneg (by omega) (by omega)
        have h5 : (i - j - 1) / (-c) ≤ i - j - 1 := Int.ediv_le_self _ (by omega)
        omega
      · rw [if_neg hl]; omega
  have f : ∀ x : Int, x.natAbs < 4611686018427387904 → Builtin.Range.rangeFitsLong x = true := fun x hx => by
    unfold Builtin.Range.rangeFitsLong
    rw [Bool.and_eq_true]
    exact ⟨decide_eq_true (by omega), decide_eq_true (by omega)⟩
  unfold Builtin.Range.small
  rw [f i (by omega), f j (by omega), f c (by omega), f _ (by omega : (Builtin.Range.rangeSize i j c).natAbs < 4611686018427387904)]
  by_cases hc : c > 0
  · rw [if_pos hc, f _ (by omega)]; simp
  · rw [if_neg hc, f _ (by omega)]; simp
def rngD : List D → Option (List D)
  | [.int j] => if in62 j then some ((List.range j.toNat).map fun (i : Nat) => D.int (0 + i)) else none
  | [.int i, .int j] => if in62 i && in62 j then some ((List.range (j - i).toNat).map fun (n : Nat) => D.int (i + n)) else none
  | [.int i, .int j, .int c] => if decide (c ≠ 0) && decide (c.natAbs < 1073741824) && decide (i.natAbs < 1099511627776) && decide (j.natAbs < 1099511627776) then
      some ((List.range (rsz i j c)).map fun (n : Nat) => D.int (i + n * c)) else none
  | _ => none
@[simp] def rngI (as : List Ar) : EvI := fun ρ => (evArs as ρ).bind fun p => (getAll p.1 p.2).bind fun ds => (rngD ds).bind fun r => some (r, p.2)
theorem in62_of {i : Int} (h : in62 i = true) : -(2 ^ 62) ≤ i ∧ i < 2 ^ 62 := by
  have a : i.natAbs < 2 ^ 62 := of_decide_eq_true h
  omega
section
variable {X : Cx} {tg e a b c : Expr} {pos p : Pos} {ar : Ar} {as : List Ar}
theorem pi_seq (h : PE X e (tA X.K ar)) : PI X tg e (tI X.K (seqI ar)) := by
  refine ⟨fun pins s σ H R I q => ?_⟩
  obtain ⟨B, ρ, S, items, ρ', Rl, e1, q⟩ := q
  obtain ⟨⟨h1, ρ1⟩, e2, e3⟩ := Option.bind_eq_some_iff.mp e1
  cases h1 with
  | slot i => cases e3
  | dat d =>
    obtain ⟨ds, e4, e5⟩ := Option.bind_eq_some_iff.mp e3
    cases e5
    refine thn (h.run pins s σ H (fun x H1 => ∃ S1, Rel X.K B σ ρ1 H1 S1 ∧ Ext σ ρ ρ1 H S H1 S1 ∧ Dq X.K S1 x d) I ⟨B, ρ, S, _, ρ1, Rl, e2, fun v H1 S1 R1 X1 A1 => ⟨S1, R1, X1, A1⟩⟩) fun v s1 ⟨x, H1, I1, r1, S1, R1, X1, A1⟩ => ?_
    exact iter_rd I1 r1 R1.sub A1 e4 fun J w => q J H1 S1 R1 X1 w
theorem rng_q {K : Fg} {σ : St} {H : Hp} {R : L2.It → Hp → Prop} (q : tI K (rngI as) σ H R) : tAs K as σ H fun vs H1 => ∃ ds items, (∃ S, Rdbs K S H1 vs ds) ∧ rngD ds = some items ∧ ∀ J, (∀ S, WalkD K J items S) → R J H1 := by
  obtain ⟨B, ρ, S, items, ρ', Rl, e, q⟩ := q
  obtain ⟨⟨hs, ρ1⟩, e1, e⟩ := Option.bind_eq_some_iff.mp e
  obtain ⟨ds, e2, e⟩ := Option.bind_eq_some_iff.mp e
  obtain ⟨r1, e3, e⟩ := Option.bind_eq_some_iff.mp e
  cases e
  exact ⟨B, ρ, S, hs, ρ1, Rl, e1, fun vs H1 S1 R1 X1 A1 => ⟨ds, _, ⟨S1, rdbs_of R1 A1 e2⟩, e3, fun J w => q J H1 S1 R1 X1 (w S1)⟩⟩
theorem pi_rng1 (hg : Gl X "range") (hm : X.mg "range" = none) (hl : as.length = 1) (ha : PA X [a] (tAs X.K as)) (h1 : okHd a = true) : PI X tg (.Call (.Name "range" p) [a] [] pos) (tI X.K (rngI as)) := by
  refine pi_imp (pi_range1 hg hm ha (star_cons h1)) fun σ H R q => ?_
  obtain ⟨B, ρ, S, hs, ρ1, Rl, e1, q⟩ := rng_q q
  refine ⟨B, ρ, S, hs, ρ1, Rl, e1, fun vs H1 S1 R1 X1 A1 => ?_⟩
  obtain ⟨ds, items, ⟨S2, rd⟩, e2, q⟩ := q vs H1 S1 R1 X1 A1
  have hvl : vs.length = 1 := by rw [argsOk_len A1, evArs_len e1]; exact hl
  unfold rngD at e2
  split at e2
  · rename_i j
    split at e2
    · rename_i hz
      cases e2
      cases rd with
      | cons r1 t => cases t; exact ⟨j, by rw [r1.int'], (in62_of hz).1, (in62_of hz).2, q _ fun S => wd_range⟩
    · cases e2
  · cases rd with
    | cons _ t => cases t; cases hvl
  · cases rd with
    | cons _ t => cases t; cases hvl
  · cases e2
theorem pi_rng2 (hg : Gl X "range") (hm : X.mg "range" = none) (hl : as.length = 2) (ha : PA X [a, b] (tAs X.K as)) (h1 : okHd a = true) (h2 : okHd b = true) : PI X tg (.Call (.Name "range" p) [a, b] [] pos) (tI X.K (rngI as)) := by
  refine pi_imp (pi_range2 hg hm ha (by rw [star_cons h1, star_cons h2]; rfl) (by rw [star_cons h2]; rfl)) fun σ H R q => ?_
  obtain ⟨B, ρ, S, hs, ρ1, Rl, e1, q⟩ := rng_q q
  refine ⟨B, ρ, S, hs, ρ1, Rl, e1, fun vs H1 S1 R1 X1 A1 => ?_⟩
  obtain ⟨ds, items, ⟨S2, rd⟩, e2, q⟩ := q vs H1 S1 R1 X1 A1
  have hvl : vs.length = 2 := by rw [argsOk_len A1, evArs_len e1]; exact hl
  unfold rngD at e2
  split at e2
  · cases rd with
    | cons _ t => cases t; cases hvl
  · rename_i i j
    split at e2
    · rename_i hz
      cases e2
      have hz := Bool.and_eq_true_iff.mp hz
      cases rd with
      | cons r1 t =>
        cases t with
        | cons r2 t =>
          cases t
          exact ⟨i, j, by rw [r1.int', r2.int'], ⟨(in62_of hz.1).1, (in62_of hz.1).2, (in62_of hz.2).1, (in62_of hz.2).2⟩, q _ fun S => wd_range⟩
    · cases e2
  · cases rd with
    | cons _ t =>
      cases t with
      | cons _ t => cases t; cases hvl
  · cases e2
theorem pi_rng3 (hg : Gl X "range") (hm : X.mg "range" = none) (hl : as.length = 3) (ha : PA X [a, b, c] (tAs X.K as)) (h1 : okHd a = true) (h2 : okHd b = true) (h3 : okHd c = true) : PI X tg (.Call (.Name "range" p) [a, b, c] [] pos) (tI X.K (rngI as)) := by
  refine pi_imp (pi_range3 hg hm ha (star_cons h1) (noStar (by show (okHd b && ([c].all okHd)) = true; rw [h2]; show (okHd c && true) = true; rw [h3]; rfl))) fun σ H R q => ?_
  obtain ⟨B, ρ, S, hs, ρ1, Rl, e1, q⟩ := rng_q q
  refine ⟨B, ρ, S, hs, ρ1, Rl, e1, fun vs H1 S1 R1 X1 A1 => ?_⟩
  obtain ⟨ds, items, ⟨S2, rd⟩, e2, q⟩ := q vs H1 S1 R1 X1 A1
  have hvl : vs.length = 3 := by rw [argsOk_len A1, evArs_len e1]; exact hl
  unfold rngD at e2
  split at e2
  · cases rd with
    | cons _ t => cases t; cases hvl
  · cases rd with
    | cons _ t =>
      cases t with
      | cons _ t => cases t; cases hvl
  · rename_i i j c
    split at e2
    · rename_i hz
      cases e2
      simp only [Bool.and_eq_true, decide_eq_true_eq] at hz
      cases rd with
      | cons r1 t =>
        cases t with
        | cons r2 t =>
          cases t with
          | cons r3 t =>
            cases t
            exact ⟨i, j, c, rsz i j c, by rw [r1.int', r2.int', r3.int'], ⟨hz.1.1.1, hz.1.1.2, rsz_small i j c hz.1.1.2 hz.1.2 hz.2, rsz_eq i j c hz.1.1.1⟩, q _ fun S => wd_rangeC⟩
    · cases e2
  · cases e2
end
end My

namespace My
open PySem PySem.Spec PyProof.Rows L2

/-! ### targets -/
def setV (i : Nat) (d : D) (ρ : En) : Option En :=
  match ρ[i]? with
  | some (.io _) => none
  | some _ => some (ρ.set i (.val d))
  | none => none
def setVs : List Nat → List D → En → Option En
  | [], [], ρ => some ρ
  | i :: is, d :: ds, ρ => (setV i d ρ).bind (setVs is ds)
  | _, _, _ => none
def asgTg : Tg → D → En → Option En
  | .nm i, d, ρ => setV i d ρ
  | .tup l, .tup ds, ρ => setVs l ds ρ
  | _, _, _ => none
@[simp] def Tg.slots : Tg → List Nat
  | .nm i => [i]
  | .tup l => l
def gNms : List Nat → TGs
  | [] => gNil
  | i :: r => gCons (gName i) (gNms r)
def gTg (K : Fg) : Tg → TG
  | .nm i => gName i
  | .tup l => gTup K l.length (gNms l)
/-- σ' is σ but for the slots l -/
structure SameBut' (l : List Nat) (σ σ' : St) : Prop where
  len : σ'.length = σ.length
  eq : ∀ j, j ∉ l → σ'[j]? = σ[j]?
section
variable {K : Fg} {B : Bs} {σ σ' : St} {ρ ρ' : En} {H S : Hp} {i : Nat} {v : V} {d : D}
theorem Rel.setV (R : Rel K B σ ρ H S) (h : Dq K S v d) (e : setV i d ρ = some ρ') : Rel K B (σ.set i (some v)) ρ' H S ∧ SameBut' [i] σ (σ.set i (some v)) := by
  unfold My.setV at e
  have hb : SameBut' [i] σ (σ.set i (some v)) := ⟨by simp, fun j hj => by
    have : j ≠ i := fun z => hj (by simp [z])
    rw [List.getElem?_set_ne (Ne.symm this)]⟩
  refine ⟨?_, hb⟩
  have key : ρ[i]? ≠ none → (∀ ds, ρ[i]? ≠ some (.io ds)) → Rel K B (σ.set i (some v)) (ρ.set i (.val d)) H S := fun hn hio => by
    obtain ⟨en, hen⟩ := Option.ne_none_iff_exists'.mp hn
    have hlt : i < ρ.length := (List.getElem?_eq_some_iff.mp hen).1
    have hlt' : i < σ.length := by rw [← R.len]; exact hlt
    have hrt : ∀ j b, Root (σ.set i (some v)) (ρ.set i (.val d)) j b → Root σ ρ j b := fun j b ⟨⟨u, hu, hr⟩, hs⟩ => by
      by_cases hj : j = i
      · subst hj
        rw [List.getElem?_set_self hlt] at hu
        cases hu; cases hr
      · rw [List.getElem?_set_ne (Ne.symm hj)] at hu hs
        exact ⟨⟨u, hu, hr⟩, hs⟩
    refine ⟨by simpa using R.len, R.sub, fun j u hu => ?_, fun j k b h1 h2 => R.inj j k b (hrt j b h1) (hrt k b h2), R.old, R.sst, R.sold, R.iok⟩
    by_cases hj : j = i
    · subst hj
      rw [List.getElem?_set_self hlt] at hu
      cases hu
      exact ⟨v, by rw [List.getElem?_set_self hlt'], h⟩
    · rw [List.getElem?_set_ne (Ne.symm hj)] at hu ⊢
      exact R.ent j u hu
  split at e
  · cases e
  · rename_i en hn hen
    cases e
    exact key (by rw [hen]; exact fun z => by cases z) fun ds z => by rw [hen] at z; cases z; exact hn ds rfl
  · cases e
theorem SameBut'.trans {l l' : List Nat} {σ1 σ2 σ3 : St} (a : SameBut' l σ1 σ2) (b : SameBut' l' σ2 σ3) : SameBut' (l ++ l') σ1 σ3 :=
  ⟨b.len.trans a.len, fun j hj => by
    rw [b.eq j fun z => hj (List.mem_append_right _ z), a.eq j fun z => hj (List.mem_append_left _ z)]⟩
theorem gNms_ok {Q : St → Hp → Prop} : ∀ (l : List Nat) (ds : List D) (xs : List V) (σ : St) (ρ ρ' : En), Rel K B σ ρ H S → DqAll K S xs ds → setVs l ds ρ = some ρ' → (∀ σ', Rel K B σ' ρ' H S → SameBut' l σ σ' → Q σ' H) → gNms l xs σ H Q
  | [], [], xs, σ, ρ, ρ', R, g, e, q => by
    cases g
    cases e
    exact ⟨rfl, q σ R ⟨rfl, fun _ _ => rfl⟩⟩
  | i :: l, d :: ds, xs, σ, ρ, ρ', R, g, e, q => by
    cases g with
    | cons a t =>
      obtain ⟨ρ1, e1, e2⟩ := Option.bind_eq_some_iff.mp e
      obtain ⟨R1, s1⟩ := R.setV a e1
      exact ⟨_, _, rfl, gNms_ok l ds _ _ ρ1 ρ' R1 t e2 fun σ' R2 s2 => q σ' R2 (s1.trans s2)⟩
  | [], _ :: _, _, _, _, _, _, _, e, _ => by cases e
  | _ :: _, [], _, _, _, _, _, _, e, _ => by cases e
theorem gTg_ok {Q : St → Hp → Prop} {tg : Tg} (R : Rel K B σ ρ H S) (h : Dq K S v d) (e : asgTg tg d ρ = some ρ') (q : ∀ σ', Rel K B σ' ρ' H S → SameBut' tg.slots σ σ' → Q σ' H) : gTg K tg v σ H Q := by
  cases tg with
  | nm i =>
    obtain ⟨R1, s1⟩ := R.setV h e
    exact q _ R1 s1
  | tup l =>
    cases d with
    | tup ds =>
      obtain ⟨a, xs, e1, h1, h2, h3⟩ := Rdb.tup' (H := S) (.inl h) (.refl S)
      have hl : xs.length = l.length := by
        rw [h2.length]
        have : ∀ (l : List Nat) (ds : List D) (ρ : En), setVs l ds ρ = some ρ' → ds.length = l.length := by
          intro l
          induction l with
          | nil => intro ds ρ e; cases ds <;> first | rfl | cases e
          | cons i l ih =>
            intro ds ρ e
            cases ds with
            | nil => cases e
            | cons d ds =>
              obtain ⟨ρ1, e1, e2⟩ := Option.bind_eq_some_iff.mp e
              simp [ih ds ρ1 e2]
        exact this l ds ρ e
      exact ⟨a, xs, e1, sqT_mono R.sub h1, hl, gNms_ok l ds xs σ ρ ρ' R h2 e q⟩
    | _ => cases e
end
/-! ### forgetting -/
@[simp] def wipeE (vs : List Nat) (ρ : En) : En := match vs with
  | [] => ρ
  | v :: vs => (wipeE vs ρ).set v .no
theorem wipeE_len (ρ : En) : ∀ vs, (wipeE vs ρ).length = ρ.length
  | [] => rfl
  | v :: vs => by show ((wipeE vs ρ).set v .no).length = _; rw [List.length_set, wipeE_len ρ vs]
theorem wipeE_get (ρ : En) : ∀ (vs : List Nat) (j : Nat) (e : Ent), (wipeE vs ρ)[j]? = some e → (j ∉ vs ∧ ρ[j]? = some e) ∨ e = .no
  | [], j, e, h => .inl ⟨by simp, h⟩
  | v :: vs, j, e, h => by
    have h' : ((wipeE vs ρ).set v .no)[j]? = some e := h
    by_cases hj : j = v
    · subst hj
      by_cases hl : j < (wipeE vs ρ).length
      · rw [List.getElem?_set_self hl] at h'; cases h'; exact .inr rfl
      · rw [List.getElem?_eq_none (by simpa using hl)] at h'; cases h'
    · rw [List.getElem?_set_ne (Ne.symm hj)] at h'
      rcases wipeE_get ρ vs j e h' with ⟨h1, h2⟩ | h2
      · exact .inl ⟨by simp [hj, h1], h2⟩
      · exact .inr h2
theorem wipe_get (σ : St) : ∀ (vs : List Nat) (j : Nat), j ∉ vs → (wipe σ vs)[j]? = σ[j]?
  | [], _, _ => rfl
  | v :: vs, j, h => by
    have h1 : j ≠ v := fun z => h (by simp [z])
    have h2 : j ∉ vs := fun z => h (by simp [z])
    show ((wipe σ vs).set v none)[j]? = _
    rw [List.getElem?_set_ne (Ne.symm h1), wipe_get σ vs j h2]
theorem wipe_in (σ : St) : ∀ (vs : List Nat) (j : Nat), j ∈ vs → j < σ.length → (wipe σ vs)[j]? = some none
  | v :: vs, j, h, hl => by
    show ((wipe σ vs).set v none)[j]? = _
    by_cases hj : j = v
    · subst hj
      rw [List.getElem?_set_self (by rw [wipe_length]; exact hl)]
    · rw [List.getElem?_set_ne (Ne.symm hj)]
      exact wipe_in σ vs j ((List.mem_cons.mp h).resolve_left hj) hl
theorem wipe_eq {l : List Nat} {σ σ' : St} {vs : List Nat} (h : SameBut' l σ σ') (hl : ∀ j ∈ l, j ∈ vs) : wipe σ' vs = wipe σ vs := by
  apply List.ext_getElem?
  intro j
  by_cases hj : j ∈ vs
  · by_cases hlt : j < σ.length
    · rw [wipe_in σ vs j hj hlt, wipe_in σ' vs j hj (by rw [h.len]; exact hlt)]
    · rw [List.getElem?_eq_none (by rw [wipe_length, h.len]; omega), List.getElem?_eq_none (by rw [wipe_length]; omega)]
  · rw [wipe_get σ vs j hj, wipe_get σ' vs j hj]
    exact h.eq j fun z => hj (hl j z)
section
variable {K : Fg} {B : Bs} {σ : St} {ρ : En} {H S : Hp}
theorem Rel.wipe (R : Rel K B σ ρ H S) (vs : List Nat) : Rel K B (L2.wipe σ vs) (wipeE vs ρ) H S := by
  have hrt : ∀ j b, Root (L2.wipe σ vs) (wipeE vs ρ) j b → Root σ ρ j b := fun j b ⟨⟨u, hu, hr⟩, hs⟩ => by
    rcases wipeE_get ρ vs j u hu with ⟨h1, h2⟩ | h2
    · exact ⟨⟨u, h2, hr⟩, by rw [wipe_get σ vs j h1] at hs; exact hs⟩
    · subst h2; cases hr
  refine ⟨by rw [wipeE_len, wipe_length]; exact R.len, R.sub, fun j u hu => ?_, fun j k b h1 h2 => R.inj j k b (hrt j b h1) (hrt k b h2), R.old, R.sst, R.sold, R.iok⟩
  rcases wipeE_get ρ vs j u hu with ⟨h1, h2⟩ | h2
  · rw [wipe_get σ vs j h1]; exact R.ent j u h2
  · subst h2; trivial
theorem root_wipe {vs : List Nat} {j : Nat} {b : Addr} (h : Root (L2.wipe σ vs) (wipeE vs ρ) j b) : Root σ ρ j b := by
  obtain ⟨⟨u, hu, hr⟩, hs⟩ := h
  rcases wipeE_get ρ vs j u hu with ⟨h1, h2⟩ | h2
  · exact ⟨⟨u, h2, hr⟩, by rw [wipe_get σ vs j h1] at hs; exact hs⟩
  · subst h2; cases hr
/-- entries forgotten, the slots as they are -/
theorem Rel.drop (R : Rel K B σ ρ H S) (vs : List Nat) : Rel K B σ (wipeE vs ρ) H S :=
  R.weak (wipeE_len ρ vs) fun i e h => (wipeE_get ρ vs i e h).elim (fun z => .inl z.2) .inr
/-- something else is laid or written -/
theorem Rel.junk (R : Rel K B σ ρ H S) {a : Addr} {o : HO} (n : S a = none) (hb : B.Hb a = none) (hr : ∀ i, ¬ Root σ ρ i a) : Rel K B σ ρ (L2.upd H a o) S := by
  have up : ∀ b u, H b = some u → b ≠ a → L2.upd H a o b = some u := fun b u h hn => by rw [upd_ne hn]; exact h
  refine ⟨R.len, fun b u h => up b u (R.sub b u h) (ne_of_none h n), fun i e he => ?_, R.inj, fun b u h hi => up b u (R.old b u h hi) (ne_of_none h hb), R.sst, R.sold, fun b hi => ?_⟩
  · have q := R.ent i e he
    have ne : ∀ b, σ[i]? = some (some (.ref b)) → isRoot e = true → b ≠ a := fun b q1 q2 z => hr i ⟨⟨e, he, q2⟩, by rw [q1, z]⟩
    cases e with
    | no => trivial
    | val d => exact q
    | own es =>
      obtain ⟨b, zs, h1, h2, h3⟩ := q
      exact ⟨b, zs, h1, up _ _ h2 (ne b h1 rfl), h3⟩
    | io es =>
      obtain ⟨b, zs, h1, h2, h3⟩ := q
      exact ⟨b, zs, h1, up _ _ h2 (ne b h1 rfl), h3⟩
  · by_cases h : b = a
    · rw [h, upd_same]; exact fun z => by cases z
    · rw [upd_ne h]; exact R.iok b hi
theorem Rel.hb_none (R : Rel K B σ ρ H S) {a : Addr} (h : H a = none) : B.Hb a = none := by
  cases z : B.Hb a with
  | none => rfl
  | some o =>
    by_cases hi : B.io = some a
    · exact absurd h (R.iok a hi)
    · rw [R.old a o z hi] at h; cases h
theorem Rel.no_root (R : Rel K B σ ρ H S) {a : Addr} (h : H a = none) (i : Nat) : ¬ Root σ ρ i a := fun q => by
  obtain ⟨xs, g, _⟩ := R.root q
  rw [g] at h; cases h
end
/-! ### list comprehensions -/
@[simp] def isData : Ent → Bool
  | .no => true
  | .val _ => true
  | _ => false
def compL (tg : Tg) (own : List Nat) (cond : EvT) (elt : Ar) : List D → List D → En → Option (List D × En)
  | [], acc, ρ => some (acc, ρ)
  | d :: ds, acc, ρ => (asgTg tg d ρ).bind fun ρ1 => (cond ρ1).bind fun p => if p.1 = true then
      (evAr elt p.2).bind fun q => match q.1 with
        | .dat x => if sz (acc.length + 1) then compL tg own cond elt ds (acc ++ [x]) (wipeE own q.2) else none
        | _ => none
    else compL tg own cond elt ds acc (wipeE own p.2)
@[simp] def restoreE : List Nat → En → En → En
  | [], _, ρ => ρ
  | v :: vs, ρ0, ρ => (restoreE vs ρ0 ρ).set v ((ρ0[v]?).getD .no)
def lcV (it : EvI) (tg : Tg) (own : List Nat) (cond : EvT) (elt : Ar) : EvV := fun ρ => (it ρ).bind fun p =>
  if own.all (fun v => ((p.2[v]?).map isData).getD false) && tg.slots.all (fun v => own.contains v) then
    (compL tg own cond elt p.1 [] (wipeE own p.2)).bind fun q => some (.new q.1, restoreE own p.2 q.2)
  else none
theorem restoreE_len (ρ0 ρ : En) : ∀ vs, (restoreE vs ρ0 ρ).length = ρ.length
  | [] => rfl
  | v :: vs => by show ((restoreE vs ρ0 ρ).set v _).length = _; rw [List.length_set, restoreE_len ρ0 ρ vs]
theorem restoreE_get (ρ0 ρ : En) : ∀ (vs : List Nat) (j : Nat) (e : Ent), (restoreE vs ρ0 ρ)[j]? = some e → (j ∉ vs ∧ ρ[j]? = some e) ∨ (j ∈ vs ∧ e = (ρ0[j]?).getD .no)
  | [], j, e, h => .inl ⟨by simp, h⟩
  | v :: vs, j, e, h => by
    have h' : ((restoreE vs ρ0 ρ).set v ((ρ0[v]?).getD .no))[j]? = some e := h
    by_cases hj : j = v
    · subst hj
      by_cases hl : j < (restoreE vs ρ0 ρ).length
      · rw [List.getElem?_set_self hl] at h'; cases h'; exact .inr ⟨by simp, rfl⟩
      · rw [List.getElem?_eq_none (by simpa using hl)] at h'; cases h'
    · rw [List.getElem?_set_ne (Ne.symm hj)] at h'
      rcases restoreE_get ρ0 ρ vs j e h' with ⟨h1, h2⟩ | ⟨h1, h2⟩
      · exact .inl ⟨by simp [hj, h1], h2⟩
      · exact .inr ⟨by simp [h1], h2⟩
theorem Rel.restore {K : Fg} {B : Bs} {σ : St} {ρ0 ρ : En} {H0 S0 H S : Hp} {vs : List Nat} (R0 : Rel K B σ ρ0 H0 S0) (R : Rel K B (L2.wipe σ vs) ρ H S) (ss : Same S0 S) (hd : vs.all (fun v => ((ρ0[v]?).map isData).getD false) = true) : Rel K B σ (restoreE vs ρ0 ρ) H S := by
  have dat : ∀ j ∈ vs, ∃ e, ρ0[j]? = some e ∧ isData e = true := fun j hj => by
    have h := List.all_eq_true.mp hd j hj
    cases q : ρ0[j]? with
    | none => rw [q] at h; cases h
    | some e => rw [q] at h; exact ⟨e, rfl, h⟩
  have hrt : ∀ j b, Root σ (restoreE vs ρ0 ρ) j b → Root (L2.wipe σ vs) ρ j b := fun j b ⟨⟨u, hu, hr⟩, hs⟩ => by
    rcases restoreE_get ρ0 ρ vs j u hu with ⟨h1, h2⟩ | ⟨h1, h2⟩
    · exact ⟨⟨u, h2, hr⟩, by rw [wipe_get σ vs j h1]; exact hs⟩
    · obtain ⟨e, g1, g2⟩ := dat j h1
      rw [g1] at h2
      have h2' : u = e := h2
      subst h2'
      cases u <;> first | (cases hr; done) | (cases g2; done)
  refine ⟨by rw [restoreE_len]; rw [R.len, wipe_length], R.sub, fun j u hu => ?_, fun j k b h1 h2 => R.inj j k b (hrt j b h1) (hrt k b h2), R.old, R.sst, R.sold, R.iok⟩
  rcases restoreE_get ρ0 ρ vs j u hu with ⟨h1, h2⟩ | ⟨h1, h2⟩
  · have q := R.ent j u h2
    rw [wipe_get σ vs j h1] at q
    exact q
  · obtain ⟨e, g1, g2⟩ := dat j h1
    rw [g1] at h2
    have h2' : u = e := h2
    subst h2'
    have q := R0.ent j u g1
    cases u with
    | no => trivial
    | val d => obtain ⟨v, k1, k2⟩ := q; exact ⟨v, k1, dp_mono ss _ _ k2⟩
    | own _ => cases g2
    | io _ => cases g2
/-- behind some turns of a comprehension whose list stands at L -/
structure Mid (σ : St) (ρs ρ : En) (L : Addr) (H1 S1 H S : Hp) : Prop where
  ss : Same S1 S
  kp : ∀ b o, H1 b = some o → (∀ i, ¬ Root σ ρs i b) → H b = some o ∧ S b = S1 b
  rt : ∀ i a, Root σ ρ i a → Root σ ρs i a
  dm : ∀ b, H1 b ≠ none → H b ≠ none
theorem lc_main {K : Fg} {tg : Tg} {own : List Nat} {cond : EvT} {elt : Ar} {σ : St} {H S : Hp} {Q : VK} {tt : TT} {B : Bs} {ρ ρ1 ρ' : En} {r : RV} {items : List D} {J : L2.It} {H1 S1 : Hp} (ht : ∀ σ H Q, tT K cond σ H Q → tt σ H Q)
    (e : (if own.all (fun v => ((ρ1[v]?).map isData).getD false) && tg.slots.all (fun v => own.contains v) then
      (compL tg own cond elt items [] (wipeE own ρ1)).bind fun q => some (RV.new q.1, restoreE own ρ1 q.2) else none) = some (r, ρ'))
    (q : ∀ v H' S', Rel K B σ ρ' H' S' → Ext σ ρ ρ' H S H' S' → RvOk K H H' S' v r → Q v H')
    (R1 : Rel K B σ ρ1 H1 S1) (X1 : Ext σ ρ ρ1 H S H1 S1) (w : WalkF K J items S1 (KpB σ ρ1 H1)) : tLc (fun _ _ Z => Z J H1) (gTg K tg) tt (tA K elt) own σ H Q := by
  intro L hL
  split at e
  · rename_i hz
    have hz := Bool.and_eq_true_iff.mp hz
    have hsl : ∀ j ∈ tg.slots, j ∈ own := fun j hj => by
      have := List.all_eq_true.mp hz.2 j hj
      simpa using this
    obtain ⟨⟨accE, ρE⟩, e2, e3⟩ := Option.bind_eq_some_iff.mp e
    cases e3
    obtain ⟨G, Y, wk, hG, hY⟩ := w
    have hS1 : S1 L = none := R1.sub.free hL
    have hbL : B.Hb L = none := R1.hb_none hL
    have hnr : ∀ i, ¬ Root σ ρ1 i L := R1.no_root hL
    refine lc_it wk (fun i H' => ∃ ρt St accV accD, Rel K B (L2.wipe σ own) ρt H' St ∧ Mid σ ρ1 ρt L H1 S1 H' St ∧ (∀ i a, Root (L2.wipe σ own) ρt i a → Root σ ρ1 i a) ∧ H' L = some (.lst accV) ∧ St L = none ∧ DqAll K St accV accD ∧ accV.length ≤ sizeLine ∧
      compL tg own cond elt (items.drop i) accD ρt = some (accE, ρE)) ?_ ?_ ?_ ?_
    · refine ⟨wipeE own ρ1, S1, [], [], (R1.wipe own).junk hS1 hbL (fun i h => hnr i (root_wipe h)), ⟨.refl _, fun b o h _ => ⟨?_, rfl⟩, fun i a h => ?_, fun b hb => ?_⟩, fun i a h => root_wipe h, upd_same, hS1, .nil, Nat.zero_le _, e2⟩
      · rw [upd_ne (ne_of_none h hL)]; exact h
      · obtain ⟨⟨u, hu, hr⟩, hs⟩ := h
        rcases wipeE_get ρ1 own i u hu with ⟨h1, h2⟩ | h2
        · exact ⟨⟨u, h2, hr⟩, hs⟩
        · subst h2; cases hr
      · by_cases h : b = L
        · rw [h, upd_same]; exact fun z => by cases z
        · rw [upd_ne h]; exact hb
    · rintro i H' _ ⟨ρt, St, accV, accD, R2, M, _⟩
      exact hG St H' M.ss R2.sub fun b o h1 h2 => (M.kp b o h1 h2).1
    · rintro i x H2 H3 hi ⟨ρt, St, accV, accD, R2, M, hrt, hL2, hSL, hg, hlen, e4⟩ y
      obtain ⟨S3, d, gr, hd, hq⟩ := hY i St H2 x H3 hi M.ss R2.sub (fun b o h1 h2 => (M.kp b o h1 h2).1) y
      have hdrop : items.drop i = d :: items.drop (i + 1) := by
        obtain ⟨h1, h2⟩ := List.getElem?_eq_some_iff.mp hd
        rw [← h2]; exact List.drop_eq_getElem_cons h1
      rw [hdrop] at e4
      obtain ⟨ρa, e5, e4⟩ := Option.bind_eq_some_iff.mp e4
      obtain ⟨⟨c, ρc⟩, e6, e4⟩ := Option.bind_eq_some_iff.mp e4
      have R3 := R2.grow gr
      have hLnr : ∀ i, ¬ Root (L2.wipe σ own) ρt i L := fun i h => hnr i (hrt i L h)
      refine gTg_ok R3 hq e5 fun σ2 R4 sb => ⟨?_, ht _ _ _ ⟨B, ρa, S3, c, ρc, R4, e6, fun H5 S5 R5 X5 => ?_⟩⟩
      · rw [wipe_eq sb hsl]
        exact wipe_eq (l := own) ⟨wipe_length _ _, fun j hj => wipe_get σ own j hj⟩ (fun _ h => h)
      -- where the new roots come from
      have w2 : wipe σ2 own = L2.wipe σ own := by
        rw [wipe_eq sb hsl]
        exact wipe_eq (l := own) ⟨wipe_length _ _, fun j hj => wipe_get σ own j hj⟩ (fun _ h => h)
      have hsets : ∀ i a, Root σ2 ρa i a → Root (L2.wipe σ own) ρt i a := by
        have one : ∀ (i : Nat) (d : D) (ρ ρ' : En), setV i d ρ = some ρ' → ∀ j e, ρ'[j]? = some e → isRoot e = true → j ≠ i ∧ ρ[j]? = some e := by
          intro i d ρ ρ' h j e he hr
          unfold setV at h
          split at h
          · cases h
          · cases h
            by_cases hj : j = i
            · subst hj
              by_cases hl : j < ρ.length
              · rw [List.getElem?_set_self hl] at he; cases he; cases hr
              · rw [List.getElem?_eq_none (by simpa using hl)] at he; cases he
            · rw [List.getElem?_set_ne (Ne.symm hj)] at he; exact ⟨hj, he⟩
          · cases h
        have many : ∀ (l : List Nat) (ds : List D) (ρ ρ' : En), setVs l ds ρ = some ρ' → ∀ j e, ρ'[j]? = some e → isRoot e = true → j ∉ l ∧ ρ[j]? = some e := by
          intro l
          induction l with
          | nil => intro ds ρ ρ' h j e he hr; cases ds <;> first | (cases h; exact ⟨by simp, he⟩) | cases h
          | cons i l ih =>
            intro ds ρ ρ' h j e he hr
            cases ds with
            | nil => cases h
            | cons d ds =>
              obtain ⟨ρ1, h1, h2⟩ := Option.bind_eq_some_iff.mp h
              obtain ⟨g1, g2⟩ := ih ds ρ1 ρ' h2 j e he hr
              obtain ⟨g3, g4⟩ := one i d ρ ρ1 h1 j e g2 hr
              exact ⟨by simp [g3, g1], g4⟩
        rintro j a ⟨⟨u, hu, hr⟩, hs⟩
        have key : j ∉ tg.slots ∧ ρt[j]? = some u := by
          cases tg with
          | nm i =>
            obtain ⟨g1, g2⟩ := one i d ρt ρa e5 j u hu hr
            exact ⟨by simp [Tg.slots, g1], g2⟩
          | tup l =>
            cases d with
            | tup ds => exact many l ds ρt ρa e5 j u hu hr
            | _ => cases e5
        exact ⟨⟨u, key.2, hr⟩, by rw [← sb.eq j key.1]; exact hs⟩
      have hL3 : H3 L = some (.lst accV) := gr.hh _ _ hL2
      have hS3 : S3 L = none := by rw [gr.dm L (by rw [hL2]; exact fun z => by cases z)]; exact hSL
      have kk5 := X5.kp L _ hL3 fun i h => hLnr i (hsets i L h)
      have M3 : ∀ b o, H1 b = some o → (∀ i, ¬ Root σ ρ1 i b) → H3 b = some o ∧ S3 b = S1 b := fun b o h1 h2 => by
        obtain ⟨k1, k2⟩ := M.kp b o h1 h2
        exact ⟨gr.hh _ _ k1, by rw [gr.dm b (by rw [k1]; exact fun z => by cases z)]; exact k2⟩
      have hdm3 : ∀ b, H1 b ≠ none → H3 b ≠ none := fun b hb => by
        cases z : H2 b with
        | none => exact absurd z (M.dm b hb)
        | some o => rw [gr.hh b o z]; exact fun z => by cases z
      have M5 : ∀ b o, H1 b = some o → (∀ i, ¬ Root σ ρ1 i b) → H5 b = some o ∧ S5 b = S1 b := fun b o h1 h2 => by
        obtain ⟨k1, k2⟩ := M3 b o h1 h2
        obtain ⟨k3, k4⟩ := X5.kp b o k1 fun i h => h2 i (hrt i b (hsets i b h))
        exact ⟨k3, k4.trans k2⟩
      have hrt5 : ∀ i a, Root σ2 ρc i a → Root σ ρ1 i a := fun i a h => hrt i a (hsets i a (X5.rt i a h))
      have toσ : ∀ (ρx : En) i a, Root σ (wipeE own ρx) i a → Root σ2 ρx i a := fun ρx i a ⟨⟨u, hu, hr⟩, hs⟩ => by
        rcases wipeE_get ρx own i u hu with ⟨h1, h2⟩ | h2
        · refine ⟨⟨u, h2, hr⟩, ?_⟩
          rw [sb.eq i fun z => h1 (hsl i z), wipe_get σ own i h1]; exact hs
        · subst h2; cases hr
      have toσw : ∀ (ρx : En) i a, Root (L2.wipe σ own) (wipeE own ρx) i a → Root σ2 ρx i a := fun ρx i a ⟨⟨u, hu, hr⟩, hs⟩ => by
        rcases wipeE_get ρx own i u hu with ⟨h1, h2⟩ | h2
        · refine ⟨⟨u, h2, hr⟩, ?_⟩
          rw [sb.eq i fun z => h1 (hsl i z)]; exact hs
        · subst h2; cases hr
      cases c with
      | false =>
        rw [if_neg Bool.false_ne_true] at e4
        show (if false = true then _ else _)
        rw [if_neg Bool.false_ne_true]
        refine ⟨wipeE own ρc, S5, accV, accD, by rw [← w2]; exact R5.wipe own, ⟨(M.ss.trans gr.ss).trans X5.ss, M5, fun i a h => hrt5 i a (toσ ρc i a h), fun b hb => X5.dm b (hdm3 b hb)⟩, fun i a h => hrt5 i a (toσw ρc i a h), kk5.1, by rw [kk5.2]; exact hS3, dpAll_mono (gr.ss.trans X5.ss) _ _ hg, hlen, e4⟩
      | true =>
        rw [if_pos rfl] at e4
        show (if true = true then _ else _)
        rw [if_pos rfl]
        obtain ⟨⟨hx, ρq⟩, e7, e4⟩ := Option.bind_eq_some_iff.mp e4
        refine ⟨B, ρc, S5, hx, ρq, R5, e7, fun y H6 S6 R6 X6 A6 => ?_⟩
        cases hx with
        | slot i => cases e4
        | dat z =>
          dsimp only at e4
          split at e4
          · rename_i hsz
            have kk6 := X6.kp L _ kk5.1 fun i h => hLnr i (hsets i L (X5.rt i L h))
            have hS6 : S6 L = none := by rw [kk6.2, kk5.2]; exact hS3
            have hg6 := dpAll_mono ((gr.ss.trans X5.ss).trans X6.ss) _ _ hg
            have hle : accD.length + 1 ≤ sizeLine := sz_le hsz
            have hlv : accV.length = accD.length := hg.length
            have hnr6 : ∀ i, ¬ Root σ2 ρq i L := fun i h => hLnr i (hsets i L (X5.rt i L (X6.rt i L h)))
            refine ⟨accV, kk6.1, by omega, wipeE own ρq, S6, accV ++ [y], accD ++ [z], ?_, ⟨((M.ss.trans gr.ss).trans X5.ss).trans X6.ss, fun b o h1 h2 => ?_, fun i a h => hrt5 i a (X6.rt i a (toσ ρq i a h)), fun b hb => ?_⟩, fun i a h => hrt5 i a (X6.rt i a (toσw ρq i a h)), upd_same, hS6, hg6.append (.cons A6 .nil), by rw [List.length_append]; show accV.length + 1 ≤ _; omega, e4⟩
            · rw [← w2]
              exact (R6.wipe own).junk hS6 hbL fun i h => hnr6 i (root_wipe h)
            · obtain ⟨k1, k2⟩ := M5 b o h1 h2
              obtain ⟨k3, k4⟩ := X6.kp b o k1 fun i h => h2 i (hrt5 i b h)
              refine ⟨?_, k4.trans k2⟩
              rw [upd_ne (ne_of_none h1 hL)]; exact k3
            · by_cases h : b = L
              · rw [h, upd_same]; exact fun z => by cases z
              · rw [upd_ne h]; exact X6.dm b (X5.dm b (hdm3 b hb))
          · cases e4
    · rintro H' ⟨ρt, St, accV, accD, R2, M, hrt, hL2, hSL, hg, hlen, e4⟩
      rw [List.drop_length] at e4
      cases e4
      have R3 : Rel K B σ (restoreE own ρ1 ρE) H' St := Rel.restore R1 R2 M.ss hz.1
      refine q (.ref L) H' St R3 ⟨X1.ss.trans M.ss, fun b o h1 h2 => ?_, fun i a h => ?_, fun b hb => M.dm b (X1.dm b hb)⟩ ⟨L, accV, rfl, ?_, hL2, hSL, hg⟩
      · obtain ⟨k1, k2⟩ := X1.kp b o h1 h2
        obtain ⟨k3, k4⟩ := M.kp b o k1 fun i h => h2 i (X1.rt i b h)
        exact ⟨k3, k4.trans k2⟩
      · obtain ⟨⟨u, hu, hr⟩, hs⟩ := h
        refine X1.rt i a ?_
        rcases restoreE_get ρ1 ρE own i u hu with ⟨h1, h2⟩ | ⟨h1, h2⟩
        · exact hrt i a ⟨⟨u, h2, hr⟩, by rw [wipe_get σ own i h1]; exact hs⟩
        · have hdd := List.all_eq_true.mp hz.1 i h1
          cases z : ρ1[i]? with
          | none => rw [z] at hdd; cases hdd
          | some e =>
            rw [z] at hdd h2
            have h2' : u = e := h2
            subst h2'
            cases u <;> first | (cases hr; done) | (cases hdd; done)
      · cases z : H L with
        | none => rfl
        | some o => exact absurd hL (X1.dm L (by rw [z]; exact fun z => by cases z))
  · cases e
theorem lc_ok {K : Fg} {it : EvI} {tg : Tg} {own : List Nat} {cond : EvT} {elt : Ar} {σ : St} {H : Hp} {Q : VK} {tt : TT} (ht : ∀ σ H Q, tT K cond σ H Q → tt σ H Q) (q : tV K (lcV it tg own cond elt) σ H Q) : tLc (tF K it) (gTg K tg) tt (tA K elt) own σ H Q := by
  obtain ⟨B, ρ, S, r, ρ', R, e, q⟩ := q
  obtain ⟨⟨items, ρ1⟩, e1, e⟩ := Option.bind_eq_some_iff.mp e
  exact ⟨B, ρ, S, items, ρ1, R, e1, fun J H1 S1 R1 X1 w => lc_main ht e q R1 X1 w⟩
/-- over a list of ours, which the block does not see -/
def lcoV (i : Nat) (tg : Tg) (own : List Nat) (cond : EvT) (elt : Ar) : EvV := fun ρ => match ρ[i]? with
  | some (.own ds) => if own.contains i = false then (lcV (fun ρ' => some (ds, ρ')) tg own cond elt (ρ.set i .no)).bind fun q => some (q.1, q.2.set i (.own ds)) else none
  | _ => none
def tO (i : Nat) (K : Fg) : TI := fun σ H R => ∃ a xs, σ[i]? = some (some (.ref a)) ∧ H a = some (.lst xs) ∧ R (Itl K a) H
theorem pi_own {X : Cx} {tg e : Expr} {i : Nat} (h : PE X e (tVar i)) : PI X tg e (tO i X.K) := by
  refine ⟨fun pins s σ H R I q => ?_⟩
  obtain ⟨a, xs, h1, h2, q⟩ := q
  refine thn (h.run pins s σ H (fun x H1 => x = .ref a ∧ H1 = H) I ⟨.ref a, h1, rfl, rfl⟩) fun v s1 ⟨x, H1, I1, r1, e1, e2⟩ => ?_
  subst e1; subst e2
  cases r1
  obtain ⟨its, rv, p, hz⟩ := I1.list (.inl (.inl h2))
  refine wpAny_pyIter_list p.isList ?_
  exact pi_one (tk := s1.toks) I1 _ (turn_list _ _) ⟨_, Heap.get?_push_size _ rfl, rfl, rfl⟩ q
theorem lco_ok {K : Fg} {i : Nat} {tg : Tg} {own : List Nat} {cond : EvT} {elt : Ar} {σ : St} {H : Hp} {Q : VK} {tt : TT} (ht : ∀ σ H Q, tT K cond σ H Q → tt σ H Q) (q : tV K (lcoV i tg own cond elt) σ H Q) : tLc (tO i K) (gTg K tg) tt (tA K elt) own σ H Q := by
  obtain ⟨B, ρ, S, r, ρ', R, e, q⟩ := q
  unfold lcoV at e
  split at e
  · rename_i ds hi
    split at e
    · rename_i hc
      obtain ⟨⟨r1, ρ1⟩, e1, e2⟩ := Option.bind_eq_some_iff.mp e
      cases e2
      obtain ⟨a, xs, h1, h2, h3, h4, h5⟩ := R.ent i _ hi
      have hlt : i < ρ.length := (List.getElem?_eq_some_iff.mp hi).1
      have hroot : Root σ ρ i a := ⟨⟨_, hi, rfl⟩, h1⟩
      have weak : ∀ j b, Root σ (ρ.set i .no) j b → Root σ ρ j b ∧ j ≠ i := fun j b ⟨⟨u, hu, hr⟩, hs⟩ => by
        by_cases hj : j = i
        · subst hj
          rw [List.getElem?_set_self hlt] at hu; cases hu; cases hr
        · rw [List.getElem?_set_ne (Ne.symm hj)] at hu
          exact ⟨⟨⟨u, hu, hr⟩, hs⟩, hj⟩
      have R0 : Rel K B σ (ρ.set i .no) H S := R.weak (by simp) fun j u hu => by
        by_cases hj : j = i
        · subst hj
          rw [List.getElem?_set_self hlt] at hu; cases hu; exact .inr rfl
        · rw [List.getElem?_set_ne (Ne.symm hj)] at hu; exact .inl hu
      have hna : ∀ j, ¬ Root σ (ρ.set i .no) j a := fun j h => (weak j a h).2 (R.inj j i a (weak j a h).1 hroot)
      have wk : WalkF K (Itl K a) ds S (KpB σ (ρ.set i .no) H) := by
        refine ⟨fun H => SqL K H a xs, YAt xs, by rw [← h5.length]; exact walk_list (xs := xs), fun S1 H1 s1 s2 kp => .inl (.inl (kp a _ h2 hna)), fun j S1 H1 x H2 hj s1 s2 kp y => ?_⟩
        obtain ⟨e, y⟩ := y
        subst e
        obtain ⟨d, g1, g2⟩ := h5.getV y
        exact ⟨S1, d, .refl s2, g1, dp_mono s1 _ _ g2⟩
      refine ⟨a, xs, h1, h2, lc_main (ρ := ρ.set i .no) ht e1 (fun v H' S' R1 E1 k1 => ?_) R0 .refl wk⟩
      · have hk := E1.kp a _ h2 hna
        have hl1 : ρ1.length = ρ.length := by rw [R1.len, R.len]
        have hlt1 : i < ρ1.length := by omega
        have hnr1 : ∀ j, ¬ Root σ ρ1 j a := fun j h => hna j (E1.rt j a h)
        have hset : ∀ j b, Root σ (ρ1.set i (.own ds)) j b → (j = i ∧ b = a) ∨ Root σ ρ1 j b := fun j b ⟨⟨u, hu, hr⟩, hs⟩ => by
          by_cases hj : j = i
          · subst hj
            rw [h1] at hs; cases hs; exact .inl ⟨rfl, rfl⟩
          · rw [List.getElem?_set_ne (Ne.symm hj)] at hu
            exact .inr ⟨⟨u, hu, hr⟩, hs⟩
        refine q v H' S' ⟨by simpa using R1.len, R1.sub, fun j u hu => ?_, fun j k b g1 g2 => ?_, R1.old, R1.sst, R1.sold, R1.iok⟩ ⟨E1.ss, fun b o g1 g2 => E1.kp b o g1 fun j h => g2 j (weak j b h).1, fun j b h => ?_, E1.dm⟩ k1
        · by_cases hj : j = i
          · subst hj
            rw [List.getElem?_set_self hlt1] at hu
            cases hu
            exact ⟨a, xs, h1, hk.1, by rw [hk.2]; exact h3, h4, dpAll_mono E1.ss _ _ h5⟩
          · rw [List.getElem?_set_ne (Ne.symm hj)] at hu
            exact R1.ent j u hu
        · rcases hset j b g1 with p1 | p1
          · rcases hset k b g2 with p2 | p2
            · rw [p1.1, p2.1]
            · rw [p1.2] at p2
              exact absurd p2 (hnr1 k)
          · rcases hset k b g2 with p2 | p2
            · rw [p2.2] at p1
              exact absurd p1 (hnr1 j)
            · exact R1.inj j k b p1 p2
        · rcases hset j b h with ⟨rfl, rfl⟩ | h
          · exact hroot
          · exact (weak j b (E1.rt j b h)).1
    · cases e
  · cases e
end My

namespace My
open PySem PySem.Spec PyProof.Rows L2

/-! ### statements -/
inductive Fl where
  | nx (ρ : En) | rt (r : RV) (ρ : En) | bk (ρ : En)
abbrev EvS := En → Option Fl
/-- what comes back of a def -/
def RvRet (K : Fg) (B : Bs) (H S : Hp) (v : V) : RV → Prop
  | .val d => Dq K S v d
  | .new ds => ∃ a xs, v = .ref a ∧ H a = some (.lst xs) ∧ S a = none ∧ B.Hb a = none ∧ DqAll K S xs ds
def FlOk (K : Fg) (B : Bs) (S : Hp) (D : Ends) : Fl → Prop
  | .nx ρ => ∀ σ' H' S', Rel K B σ' ρ H' S' → Same S S' → D.nx σ' H'
  | .rt r ρ => ∀ v σ' H' S', Rel K B σ' ρ H' S' → Same S S' → RvRet K B H' S' v r → D.rt v H'
  | .bk ρ => ∀ σ' H' S', Rel K B σ' ρ H' S' → Same S S' → D.bk σ' H'
def tS (K : Fg) (f : EvS) : TS := fun D σ H => ∃ B ρ S fl, Rel K B σ ρ H S ∧ f ρ = some fl ∧ FlOk K B S D fl
theorem FlOk.mono {K : Fg} {B : Bs} {S S' : Hp} {D : Ends} {fl : Fl} (h : FlOk K B S D fl) (ss : Same S S') : FlOk K B S' D fl := by
  cases fl with
  | nx ρ => exact fun σ' H' S2 R s => h σ' H' S2 R (ss.trans s)
  | rt r ρ => exact fun v σ' H' S2 R s k => h v σ' H' S2 R (ss.trans s) k
  | bk ρ => exact fun σ' H' S2 R s => h σ' H' S2 R (ss.trans s)
def seqS (f g : EvS) : EvS := fun ρ => (f ρ).bind fun fl => match fl with
  | .nx ρ' => g ρ'
  | fl => some fl
@[simp] def nilS : EvS := fun ρ => some (.nx ρ)
def setR (i : Nat) (r : RV) (ρ : En) : Option En :=
  match ρ[i]? with
  | some (.io _) => none
  | some _ => some (ρ.set i (match r with | .val d => .val d | .new ds => .own ds))
  | none => none
@[simp] def asgS (i : Nat) (f : EvV) : EvS := fun ρ => (f ρ).bind fun p => (setR i p.1 p.2).bind fun ρ' => some (.nx ρ')
@[simp] def expS (f : EvV) : EvS := fun ρ => (f ρ).bind fun p => some (.nx p.2)
@[simp] def iteS (c : EvT) (a b : EvS) : EvS := fun ρ => (c ρ).bind fun p => if p.1 = true then a p.2 else b p.2
def retS (a : Ar) : EvS := fun ρ => match a with
  | .var i => match ρ[i]? with
    | some (.val d) => some (.rt (.val d) ρ)
    | some (.own ds) => some (.rt (.new ds) ρ)
    | _ => none
  | .fz i => (froz i ρ).bind fun p => some (.rt (.val p.1) p.2)
  | .ex f => (f ρ).bind fun p => some (.rt p.1 p.2)
@[simp] def retN : EvS := fun ρ => some (.rt (.val .non) ρ)
def whlF (c : EvT) (b : EvS) (wp : List Nat) : Nat → EvS
  | 0, _ => none
  | n + 1, ρ => (c ρ).bind fun p => if p.1 = true then (b p.2).bind fun fl => match fl with
      | .nx ρ2 => whlF c b wp n (wipeE wp ρ2)
      | .rt r ρ2 => some (.rt r ρ2)
      | .bk ρ2 => some (.nx (wipeE wp ρ2))
    else some (.nx (wipeE wp p.2))
def FUEL : Nat := 2 ^ 64
def whlS (c : EvT) (b : EvS) (wp : List Nat) : EvS := fun ρ => whlF c b wp FUEL (wipeE wp ρ)
def forL (tg : Tg) (b : EvS) (wp : List Nat) : List D → EvS
  | [], ρ => some (.nx ρ)
  | d :: ds, ρ => (asgTg tg d ρ).bind fun ρ1 => (b ρ1).bind fun fl => match fl with
      | .nx ρ2 => forL tg b wp ds (wipeE wp ρ2)
      | .rt r ρ2 => some (.rt r ρ2)
      | .bk ρ2 => some (.nx (wipeE wp ρ2))
def forS (it : EvI) (tg : Tg) (b : EvS) (wp : List Nat) : EvS := fun ρ => (it ρ).bind fun p => forL tg b wp p.1 (wipeE wp p.2)
def unpS (tg : Tg) (a : Ar) : EvS := fun ρ => (evAr a ρ).bind fun p => match p.1 with
  | .dat d => (asgTg tg d p.2).bind fun ρ' => some (.nx ρ')
  | _ => none
section
variable {K : Fg} {B : Bs} {σ : St} {ρ ρ' : En} {H S : Hp} {i : Nat} {v : V} {r : RV}
/-- what waits to be stored -/
def RvT (K : Fg) (B : Bs) (σ : St) (ρ : En) (H S : Hp) (v : V) : RV → Prop
  | .val d => Dq K S v d
  | .new ds => ∃ a xs, v = .ref a ∧ H a = some (.lst xs) ∧ S a = none ∧ B.Hb a = none ∧ DqAll K S xs ds ∧ ∀ i, ¬ Root σ ρ i a
theorem rvT_of {ρ0 : En} {H0 S0 : Hp} (R0 : Rel K B σ ρ0 H0 S0) (E : Ext σ ρ0 ρ H0 S0 H S) (q : RvOk K H0 H S v r) : RvT K B σ ρ H S v r := by
  cases r with
  | val d => exact q
  | new ds =>
    obtain ⟨a, xs, h1, h2, h3, h4, h5⟩ := q
    exact ⟨a, xs, h1, h3, h4, R0.hb_none h2, h5, fun i h => R0.no_root h2 i (E.rt i a h)⟩
theorem rvRet_of {ρ0 : En} {H0 S0 : Hp} (R0 : Rel K B σ ρ0 H0 S0) (q : RvOk K H0 H S v r) : RvRet K B H S v r := by
  cases r with
  | val d => exact q
  | new ds =>
    obtain ⟨a, xs, h1, h2, h3, h4, h5⟩ := q
    exact ⟨a, xs, h1, h3, h4, R0.hb_none h2, h5⟩
theorem Rel.setR (R : Rel K B σ ρ H S) (h : RvT K B σ ρ H S v r) (e : setR i r ρ = some ρ') : Rel K B (σ.set i (some v)) ρ' H S := by
  cases r with
  | val d =>
    have e' : My.setV i d ρ = some ρ' := by
      unfold My.setR at e
      unfold My.setV
      split at e <;> first | (cases e; done) | skip
      rename_i en hn hen
      try rw [hen]
      first
        | exact e
        | (cases en <;> first | exact e | exact absurd rfl (hn _))
    exact (R.setV h e').1
  | new ds =>
    obtain ⟨a, xs, rfl, h2, h3, h4, h5, h6⟩ := h
    unfold My.setR at e
    have key : ρ[i]? ≠ none → ρ' = ρ.set i (.own ds) → Rel K B (σ.set i (some (.ref a))) ρ' H S := fun hn he => by
      subst he
      obtain ⟨en, hen⟩ := Option.ne_none_iff_exists'.mp hn
      have hlt : i < ρ.length := (List.getElem?_eq_some_iff.mp hen).1
      have hlt' : i < σ.length := by rw [← R.len]; exact hlt
      have hrt : ∀ j b, Root (σ.set i (some (.ref a))) (ρ.set i (.own ds)) j b → (j = i ∧ b = a) ∨ (j ≠ i ∧ Root σ ρ j b) := fun j b ⟨⟨u, hu, hr⟩, hs⟩ => by
        by_cases hj : j = i
        · subst hj
          rw [List.getElem?_set_self hlt'] at hs
          cases hs
          exact .inl ⟨rfl, rfl⟩
        · rw [List.getElem?_set_ne (Ne.symm hj)] at hu hs
          exact .inr ⟨hj, ⟨u, hu, hr⟩, hs⟩
      refine ⟨by simpa using R.len, R.sub, fun j u hu => ?_, fun j k b q1 q2 => ?_, R.old, R.sst, R.sold, R.iok⟩
      · by_cases hj : j = i
        · subst hj
          rw [List.getElem?_set_self hlt] at hu
          cases hu
          exact ⟨a, xs, by rw [List.getElem?_set_self hlt'], h2, h3, h4, h5⟩
        · rw [List.getElem?_set_ne (Ne.symm hj)] at hu ⊢
          exact R.ent j u hu
      · rcases hrt j b q1 with ⟨e1, e2⟩ | ⟨e1, e2⟩
        · rcases hrt k b q2 with ⟨e3, e4⟩ | ⟨e3, e4⟩
          · rw [e1, e3]
          · rw [e2] at e4; exact absurd e4 (h6 k)
        · rcases hrt k b q2 with ⟨e3, e4⟩ | ⟨e3, e4⟩
          · rw [e4] at e2; exact absurd e2 (h6 j)
          · exact R.inj j k b e2 e4
    split at e
    · cases e
    · rename_i en hn hen
      exact key (by rw [hen]; exact fun z => by cases z) (Option.some.inj e).symm
    · cases e
end
section
variable {X : Cx} {st : Stmt} {sts : List Stmt} {e tg c : Expr} {pos : Pos} {f : EvV} {g : EvS} {h : EvS} {a : Ar} {t : EvT}
theorem pss_nilS : PSs X [] (tS X.K nilS) := by
  refine pss_imp pss_nil fun D σ H q => ?_
  obtain ⟨B, ρ, S, fl, R, e, q⟩ := q
  cases e
  exact q σ H S R (.refl S)
theorem pss_consS (h1 : PS X st (tS X.K g)) (h2 : PSs X sts (tS X.K h)) : PSs X (st :: sts) (tS X.K (seqS g h)) := by
  refine pss_imp (pss_cons h1 h2) fun D σ H q => ?_
  obtain ⟨B, ρ, S, fl, R, e, q⟩ := q
  obtain ⟨fl1, e1, e2⟩ := Option.bind_eq_some_iff.mp e
  refine ⟨B, ρ, S, fl1, R, e1, ?_⟩
  cases fl1 with
  | nx ρ1 => exact fun σ' H' S' R' s => ⟨B, ρ1, S', fl, R', e2, q.mono s⟩
  | rt r ρ1 => cases e2; exact q
  | bk ρ1 => cases e2; exact q
theorem ps_asgS {i : Nat} {x : Str} {p : Pos} (hN : X.N.Nodup) (hi : X.N[i]? = some x) (hx : Loc X.env.scope x) (he : PE X e (tV X.K f)) (hs : swapsWith e (some (.Name x p)) pos.line X.env = pure false) (hf : X.fn x = true ∨ X.env.scope.names.lookup x = some .local) :
    PS X (.Assign [.Name x p] e pos) (tS X.K (asgS i f)) := by
  refine ps_imp (ps_set hN hi hx he hs hf) fun D σ H q => ?_
  obtain ⟨B, ρ, S, fl, R, e, q⟩ := q
  obtain ⟨⟨r, ρ1⟩, e1, e⟩ := Option.bind_eq_some_iff.mp e
  obtain ⟨ρ2, e2, e⟩ := Option.bind_eq_some_iff.mp e
  cases e
  exact ⟨B, ρ, S, r, ρ1, R, e1, fun v H' S' R' E' k => q _ H' S' (R'.setR (rvT_of R E' k) e2) E'.ss⟩
theorem ps_expS (he : PE X e (tV X.K f)) (hs : swapsWith e none pos.line X.env = pure false) : PS X (.Expr e pos) (tS X.K (expS f)) := by
  refine ps_imp (ps_expr he hs) fun D σ H q => ?_
  obtain ⟨B, ρ, S, fl, R, e, q⟩ := q
  obtain ⟨⟨r, ρ1⟩, e1, e⟩ := Option.bind_eq_some_iff.mp e
  cases e
  exact ⟨B, ρ, S, r, ρ1, R, e1, fun v H' S' R' E' k => q σ H' S' R' E'.ss⟩
theorem ps_iteS {b1 b2 : List Stmt} (hc : PT X c (tT X.K t)) (h1 : PSs X b1 (tS X.K g)) (h2 : PSs X b2 (tS X.K h)) : PS X (.If c b1 b2 pos) (tS X.K (iteS t g h)) := by
  refine ps_imp (ps_if hc h1 h2) fun D σ H q => ?_
  obtain ⟨B, ρ, S, fl, R, e, q⟩ := q
  obtain ⟨⟨b, ρ1⟩, e1, e⟩ := Option.bind_eq_some_iff.mp e
  refine ⟨B, ρ, S, b, ρ1, R, e1, fun H' S' R' E' => ?_⟩
  cases b with
  | true => exact ⟨B, ρ1, S', fl, R', e, q.mono E'.ss⟩
  | false => exact ⟨B, ρ1, S', fl, R', e, q.mono E'.ss⟩
theorem ps_retVar {i : Nat} (he : PE X e (tVar i)) : PS X (.Return (some e) pos) (tS X.K (retS (.var i))) := by
  refine ps_imp (ps_ret he) fun D σ H q => ?_
  obtain ⟨B, ρ, S, fl, R, e, q⟩ := q
  have e' : (match ρ[i]? with
    | some (.val d) => some (Fl.rt (.val d) ρ)
    | some (.own ds) => some (.rt (.new ds) ρ)
    | _ => none) = some fl := e
  split at e'
  · rename_i d hd
    cases e'
    obtain ⟨v, h1, h2⟩ := R.ent i _ hd
    exact ⟨v, h1, q v σ H S R (.refl S) h2⟩
  · rename_i ds hd
    cases e'
    obtain ⟨a, xs, h1, h2, h3, h4, h5⟩ := R.ent i _ hd
    exact ⟨.ref a, h1, q _ σ H S R (.refl S) ⟨a, xs, rfl, h2, h3, h4, h5⟩⟩
  · cases e'
theorem ps_retFz {i : Nat} (he : PE X e (tVar i)) : PS X (.Return (some e) pos) (tS X.K (retS (.fz i))) := by
  refine ps_imp (ps_ret (pa_fz he)) fun D σ H q => ?_
  obtain ⟨B, ρ, S, fl, R, e, q⟩ := q
  obtain ⟨⟨d, ρ1⟩, e1, e⟩ := Option.bind_eq_some_iff.mp e
  cases e
  refine ⟨B, ρ, S, .dat d, ρ1, R, ?_, fun v H' S' R' E' k => q v σ H' S' R' E'.ss k⟩
  show (froz i ρ).bind _ = _
  rw [e1]; rfl
theorem ps_retEx (he : PE X e (tV X.K f)) : PS X (.Return (some e) pos) (tS X.K (retS (.ex f))) := by
  refine ps_imp (ps_ret he) fun D σ H q => ?_
  obtain ⟨B, ρ, S, fl, R, e, q⟩ := q
  obtain ⟨⟨r, ρ1⟩, e1, e⟩ := Option.bind_eq_some_iff.mp e
  cases e
  exact ⟨B, ρ, S, r, ρ1, R, e1, fun v H' S' R' E' k => q v σ H' S' R' E'.ss (rvRet_of R k)⟩
theorem ps_retNS : PS X (.Return none pos) (tS X.K retN) := by
  refine ps_imp ps_retN fun D σ H q => ?_
  obtain ⟨B, ρ, S, fl, R, e, q⟩ := q
  cases e
  exact q .non σ H S R (.refl S) .non
theorem ps_passS : PS X (.Pass pos) (tS X.K nilS) := by
  refine ps_imp ps_pass fun D σ H q => ?_
  obtain ⟨B, ρ, S, fl, R, e, q⟩ := q
  cases e
  exact q σ H S R (.refl S)
theorem ps_breakS : PS X (.Break pos) (tS X.K fun ρ => some (.bk ρ)) := by
  refine ps_imp ps_break fun D σ H q => ?_
  obtain ⟨B, ρ, S, fl, R, e, q⟩ := q
  cases e
  exact q σ H S R (.refl S)
theorem ps_neverS : PS X st (tS X.K fun _ => none) := by
  refine ps_imp ps_never fun D σ H q => ?_
  obtain ⟨B, ρ, S, fl, R, e, q⟩ := q
  cases e
theorem ps_unpS {tt : Tg} (hc : PE X e (tA X.K a)) (hg : PG X tg (gTg X.K tt)) (hs : swapsWithSole [tg] e pos.line X.env = pure false) (hw : swappedStores [tg] e X.env = pure none) (h1 : (assignEach [tg] X.env).map (·.2) = [assign tg X.env]) :
    PS X (.Assign [tg] e pos) (tS X.K (unpS tt a)) := by
  refine ps_imp (ps_asg hc hg hs hw h1) fun D σ H q => ?_
  obtain ⟨B, ρ, S, fl, R, e, q⟩ := q
  obtain ⟨⟨hd, ρ1⟩, e1, e⟩ := Option.bind_eq_some_iff.mp e
  cases hd with
  | slot i => cases e
  | dat d =>
    obtain ⟨ρ2, e2, e⟩ := Option.bind_eq_some_iff.mp e
    cases e
    exact ⟨B, ρ, S, .dat d, ρ1, R, e1, fun v H' S' R' E' k => gTg_ok R' k e2 fun σ' R2 _ => q σ' H' S' R2 E'.ss⟩
theorem ps_whlS {body : List Stmt} {wp : List Nat} (hx : X.xe = fun _ _ => False) (hc : PT X c (tT X.K t)) (hb : PSs X body (tS X.K g)) : PS X (.While c body [] pos) (tS X.K (whlS t g wp)) := by
  refine ps_imp (ps_while (by rw [hx]; exact .never) hc hb) fun D σ H q => ?_
  obtain ⟨B, ρ, S, fl, R, e, q⟩ := q
  refine ⟨fun m σ H => ∃ ρ1 S1, Rel X.K B σ ρ1 H S1 ∧ Same S S1 ∧ whlF t g wp m ρ1 = some fl, ⟨FUEL, wipeE wp ρ, S, R.drop wp, .refl S, e⟩, ?_⟩
  rintro m σ1 H1 ⟨ρ1, S1, R1, s1, e1⟩
  cases m with
  | zero => cases e1
  | succ m =>
    obtain ⟨⟨b, ρ2⟩, e2, e1⟩ := Option.bind_eq_some_iff.mp e1
    refine ⟨B, ρ1, S1, b, ρ2, R1, e2, fun H2 S2 R2 X2 => ?_⟩
    have s2 := s1.trans X2.ss
    cases b with
    | true =>
      rw [if_pos rfl] at e1
      show (if true = true then _ else _)
      rw [if_pos rfl]
      obtain ⟨fl1, e3, e1⟩ := Option.bind_eq_some_iff.mp e1
      refine ⟨fun σ' H' => ∃ ρ1 S1, Rel X.K B σ' ρ1 H' S1 ∧ Same S S1 ∧ whlF t g wp m ρ1 = some fl, fun σ' H' h => ⟨m, Nat.lt_succ_self m, h⟩, B, ρ2, S2, fl1, R2, e3, ?_⟩
      cases fl1 with
      | nx ρ3 => exact fun σ' H' S' R' s => ⟨wipeE wp ρ3, S', R'.drop wp, s2.trans s, e1⟩
      | rt r ρ3 =>
        cases e1
        exact fun v σ' H' S' R' s k => q v σ' H' S' R' (s2.trans s) k
      | bk ρ3 =>
        cases e1
        exact fun σ' H' S' R' s => q σ' H' S' (R'.drop wp) (s2.trans s)
    | false =>
      rw [if_neg Bool.false_ne_true] at e1
      show (if false = true then _ else _)
      rw [if_neg Bool.false_ne_true]
      cases e1
      exact q σ1 H2 S2 (R2.drop wp) s2
theorem noFold {e : Expr} {env : Env} (h : okHd e = true) : ∀ x, foldedSetIterable e env x = pure x := by
  intro x
  cases e <;> first | rfl | cases h
theorem ps_forS {iter : Expr} {body : List Stmt} {wp : List Nat} {tt : Tg} {it : EvI} (hx : X.xe = fun _ _ => False) (hc : X.calm = true) (hi : PI X tg iter (tI X.K it)) (hg : PG X tg (gTg X.K tt)) (hb : PSs X body (tS X.K g)) (hh : okHd iter = true) :
    PS X (.For tg iter body [] pos) (tS X.K (forS it tt g wp)) := by
  refine ps_imp (ps_for (by rw [hx]; exact .never) hc hi hg hb (noFold hh)) fun D σ H q => ?_
  obtain ⟨B, ρ, S, fl, R, e, q⟩ := q
  obtain ⟨⟨items, ρ1⟩, e1, e⟩ := Option.bind_eq_some_iff.mp e
  refine ⟨B, ρ, S, items, ρ1, R, e1, fun J H1 S1 R1 X1 w => ?_⟩
  obtain ⟨G, Y, wk, hG, hY⟩ := w
  refine for_it wk (fun i σ' H' => (∃ ρt St, Rel X.K B σ' ρt H' St ∧ Same S1 St ∧ forL tt g wp (items.drop i) ρt = some fl)) ?_ ?_ ?_ ?_
  · exact ⟨wipeE wp ρ1, S1, R1.drop wp, .refl S1, e⟩
  · rintro i σ' H' _ ⟨ρt, St, R2, s2, _⟩
    exact hG St H' s2 R2.sub
  · rintro i x σ' H2 H3 hi ⟨ρt, St, R2, s2, e4⟩ y
    obtain ⟨S3, d, gr, hd, hq⟩ := hY i St H2 x H3 hi s2 R2.sub y
    have hdrop : items.drop i = d :: items.drop (i + 1) := by
      obtain ⟨h1, h2⟩ := List.getElem?_eq_some_iff.mp hd
      rw [← h2]; exact List.drop_eq_getElem_cons h1
    rw [hdrop] at e4
    obtain ⟨ρa, e5, e4⟩ := Option.bind_eq_some_iff.mp e4
    obtain ⟨fl1, e6, e4⟩ := Option.bind_eq_some_iff.mp e4
    have s3 := s2.trans gr.ss
    refine gTg_ok (R2.grow gr) hq e5 fun σ2 R4 _ => ⟨B, ρa, S3, fl1, R4, e6, ?_⟩
    cases fl1 with
    | nx ρ3 => exact fun σ' H' S' R' s => ⟨wipeE wp ρ3, S', R'.drop wp, s3.trans s, e4⟩
    | rt r ρ3 =>
      cases e4
      exact fun v σ' H' S' R' s k => q v σ' H' S' R' ((X1.ss.trans s3).trans s) k
    | bk ρ3 =>
      cases e4
      exact fun σ' H' S' R' s => q σ' H' S' (R'.drop wp) ((X1.ss.trans s3).trans s)
  · rintro σ' H' ⟨ρt, St, R2, s2, e4⟩
    rw [List.drop_length] at e4
    cases e4
    exact q σ' H' St R2 (X1.ss.trans s2)
end
/-! ### lists of ours, changed -/
def popV (i : Nat) (as : List Ar) : EvV := fun ρ => ((ρ[i]?).bind rootDs).bind fun _ => (evArs as ρ).bind fun p => (getAll p.1 p.2).bind fun ks => (p.2[i]?).bind fun e => (rootDs e).bind fun ds =>
  match ks with
  | [] => (ds[ds.length - 1]?).bind fun d => (reroot e ds.dropLast).bind fun e' => some (.val d, p.2.set i e')
  | [.int k] => if decide (-(2 ^ 63) ≤ k) && decide (k < 2 ^ 63) then (seqIndex? k ds.length).bind fun j => (ds[j]?).bind fun d => (reroot e (ds.eraseIdx j)).bind fun e' => some (.val d, p.2.set i e') else none
  | _ => none
def appV (i : Nat) (a : Ar) : EvV := fun ρ => ((ρ[i]?).bind rootDs).bind fun _ => (evAr a ρ).bind fun p => match p.1 with
  | .dat d => (p.2[i]?).bind fun e => (rootDs e).bind fun ds => if sz (ds.length + 1) then (reroot e (ds ++ [d])).bind fun e' => some (.val .non, p.2.set i e') else none
  | _ => none
/-- x[ix] = e -/
def setIS (i : Nat) (ix a : Ar) : EvS := fun ρ => (evAr a ρ).bind fun p => match p.1 with
  | .dat d => ((p.2[i]?).bind rootDs).bind fun _ => (evAr ix p.2).bind fun q => (q.1.get q.2).bind fun k => (q.2[i]?).bind fun e => (rootDs e).bind fun ds => match k with
    | .int k => (ixN ds.length k).bind fun j => (reroot e (ds.set j d)).bind fun e' => some (.nx (q.2.set i e'))
    | _ => none
  | _ => none
section
variable {K : Fg} {B : Bs} {σ : St} {ρ : En} {H S : Hp} {i : Nat} {e e' : Ent} {ds ds' : List D} {X : Cx}
/-- the slot's list written in place -/
theorem Rel.write (R : Rel K B σ ρ H S) (he : ρ[i]? = some e) (hr : rootDs e = some ds) (hr' : reroot e ds' = some e') : ∃ a xs, σ[i]? = some (some (.ref a)) ∧ H a = some (.lst xs) ∧ DqAll K S xs ds ∧
    ∀ xs', DqAll K S xs' ds' → Rel K B σ (ρ.set i e') (L2.upd H a (.lst xs')) S ∧ Ext σ ρ (ρ.set i e') H S (L2.upd H a (.lst xs')) S := by
  obtain ⟨a, xs, h1, h2, h3, h4, h5⟩ := R.rootAt he hr
  refine ⟨a, xs, h1, h2, h4, fun xs' g => R.upd he hr' h1 (.refl S) (fun b o h => ?_) (fun b o h hn => by rw [upd_ne hn]; exact h) (fun _ _ => rfl) upd_same g⟩
  rw [upd_ne (ne_of_none h h3)]; exact R.sub b o h
theorem tyL {K : Fg} {H : Hp} {a : Addr} {xs : List V} (h : H a = some (.lst xs)) : tyV K "list" (.ref a) H := .inl ⟨rfl, _, .inl (.inl h)⟩
theorem Rel.rootB (R : Rel K B σ ρ H S) (h : (ρ[i]?).bind rootDs = some ds) : ∃ a xs, σ[i]? = some (some (.ref a)) ∧ H a = some (.lst xs) := by
  obtain ⟨e, h1, h2⟩ := Option.bind_eq_some_iff.mp h
  obtain ⟨a, xs, g1, g2, _⟩ := R.rootAt h1 h2
  exact ⟨a, xs, g1, g2⟩
theorem pe_pop0 {o : Expr} {apos pos : Pos} (ho : PE X o (tVar i)) (hh : attributeBase o "pop" X.env (eval o X.env) = eval o X.env) (hline : (apos.endLine == pos.line) = true) : PE X (.Call (.Attribute o "pop" apos) [] [] pos) (tV X.K (popV i [])) := by
  refine pe_imp (pe_bm0 PySem.F.plainAttrs_list PySem.F.slot_list_pop PySem.F.type_list_pop mt_pop ho hh hline) fun σ H Q q => ?_
  obtain ⟨B, ρ, S, r, ρ', R, ea, q⟩ := q
  obtain ⟨_, _, eb⟩ := Option.bind_eq_some_iff.mp ea
  obtain ⟨⟨hs, ρ1⟩, e1, ec⟩ := Option.bind_eq_some_iff.mp eb
  cases e1
  obtain ⟨ks, e2, ed⟩ := Option.bind_eq_some_iff.mp ec
  cases e2
  obtain ⟨en, e3, ee⟩ := Option.bind_eq_some_iff.mp ed
  obtain ⟨ds, e4, ef⟩ := Option.bind_eq_some_iff.mp ee
  obtain ⟨d, e5, eg⟩ := Option.bind_eq_some_iff.mp ef
  obtain ⟨en', e6, eh⟩ := Option.bind_eq_some_iff.mp eg
  cases eh
  obtain ⟨a, xs, h1, h2, h3, h4⟩ := R.write e3 e4 e6
  obtain ⟨v, g1, g2⟩ := h3.get (i := ds.length - 1) e5
  obtain ⟨R', E'⟩ := h4 xs.dropLast h3.dropLast
  exact ⟨.ref a, h1, tyL h2, a, xs, v, rfl, rfl, h2, by rw [h3.length]; exact g1, q v _ S R' E' g2⟩
theorem pe_pop1 {o x : Expr} {apos pos : Pos} {ar : Ar} (ho : PE X o (tVar i)) (hx : PA X [x] (tAs X.K [ar])) (hd : okHd x = true) (hh : attributeBase o "pop" X.env (eval o X.env) = eval o X.env) (hline : (apos.endLine == pos.line) = true) :
    PE X (.Call (.Attribute o "pop" apos) [x] [] pos) (tV X.K (popV i [ar])) := by
  have hst : starEach [x] X.env = (false, eval x X.env) :: starEach [] X.env := star_cons hd
  refine pe_imp (pe_bm PySem.F.plainAttrs_list PySem.F.slot_list_pop PySem.F.type_list_pop mt_popAt ho hx hh (by rw [hst]; rfl) hline hst rfl) fun σ H Q q => ?_
  obtain ⟨B, ρ, S, r, ρ', R, ea, q⟩ := q
  obtain ⟨ds0, e0, eb⟩ := Option.bind_eq_some_iff.mp ea
  clear ea
  obtain ⟨⟨hs, ρ1⟩, e1, ec⟩ := Option.bind_eq_some_iff.mp eb
  clear eb
  obtain ⟨ks, e2, ed⟩ := Option.bind_eq_some_iff.mp ec
  clear ec
  obtain ⟨en, e3, ee⟩ := Option.bind_eq_some_iff.mp ed
  clear ed
  obtain ⟨ds, e4, e⟩ := Option.bind_eq_some_iff.mp ee
  clear ee
  obtain ⟨a, xs0, ha, hL0⟩ := R.rootB e0
  refine ⟨.ref a, ha, tyL hL0, B, ρ, S, hs, ρ1, R, e1, fun vs H1 S1 R1 X1 A1 => ?_⟩
  have hrd := rdbs_of R1 A1 e2
  dsimp only at e
  split at e
  · cases hrd; cases A1; cases evArs_len e1
  · rename_i k
    split at e
    · rename_i hz
      simp only [Bool.and_eq_true, decide_eq_true_eq] at hz
      obtain ⟨j, e5, eg⟩ := Option.bind_eq_some_iff.mp e
      obtain ⟨d, e6, eh⟩ := Option.bind_eq_some_iff.mp eg
      obtain ⟨en', e7, ei⟩ := Option.bind_eq_some_iff.mp eh
      cases ei
      obtain ⟨b, xs, h1, h2, h3, h4⟩ := R1.write e3 e4 e7
      rw [ha] at h1; cases h1
      obtain ⟨v, g1, g2⟩ := h3.get (i := j) e6
      obtain ⟨R', E'⟩ := h4 (xs.eraseIdx j) (h3.eraseIdx j)
      obtain ⟨u, rfl, hu⟩ := hrd.one
      exact ⟨a, xs, k, j, v, rfl, by rw [hu.int'], h2, hz.1, hz.2, by rw [h3.length]; exact e5, g1, q v _ S1 R' (X1.trans E') g2⟩
    · cases e
  · cases e
theorem pe_app {o x : Expr} {apos pos : Pos} {ar : Ar} (ho : PE X o (tVar i)) (hx : PA X [x] (tAs X.K [ar])) (hd : okHd x = true) (hh : attributeBase o "append" X.env (eval o X.env) = eval o X.env) (hline : (apos.endLine == pos.line) = true) :
    PE X (.Call (.Attribute o "append" apos) [x] [] pos) (tV X.K (appV i ar)) := by
  have hst : starEach [x] X.env = (false, eval x X.env) :: starEach [] X.env := star_cons hd
  refine pe_imp (pe_bm PySem.F.plainAttrs_list PySem.F.slot_list_append PySem.F.type_list_append mt_append ho hx hh (by rw [hst]; rfl) hline hst rfl) fun σ H Q q => ?_
  obtain ⟨B, ρ, S, r, ρ', R, ea, q⟩ := q
  obtain ⟨ds0, e0, eb⟩ := Option.bind_eq_some_iff.mp ea
  clear ea
  obtain ⟨⟨hd1, ρ1⟩, e1, ec⟩ := Option.bind_eq_some_iff.mp eb
  clear eb
  obtain ⟨a, xs0, ha, hL0⟩ := R.rootB e0
  refine ⟨.ref a, ha, tyL hL0, B, ρ, S, [hd1], ρ1, R, by show (evAr ar ρ).bind _ = _; rw [e1]; rfl, fun vs H1 S1 R1 X1 A1 => ?_⟩
  cases A1 with
  | cons A1 t =>
    cases t
    cases hd1 with
    | slot i => cases ec
    | dat d =>
      obtain ⟨en, e3, ee⟩ := Option.bind_eq_some_iff.mp ec
      obtain ⟨ds, e4, e⟩ := Option.bind_eq_some_iff.mp ee
      split at e
      · rename_i hz
        obtain ⟨en', e7, ei⟩ := Option.bind_eq_some_iff.mp e
        cases ei
        obtain ⟨b, xs, h1, h2, h3, h4⟩ := R1.write e3 e4 e7
        rw [ha] at h1; cases h1
        obtain ⟨R', E'⟩ := h4 (xs ++ [_]) (h3.append (.cons A1 .nil))
        have hle : ds.length + 1 ≤ sizeLine := sz_le hz
        have hl := h3.length
        exact ⟨a, xs, _, rfl, rfl, h2, by omega, q .non _ S1 R' (X1.trans E') .non⟩
      · cases e
theorem ps_setIS {o x e : Expr} {tpos pos : Pos} {ix ar : Ar} (ho : PE X o (tVar i)) (hx : PE X x (tA X.K ix)) (he : PE X e (tA X.K ar)) (hd : okHd x = true) : PS X (.Assign [.Subscript o x tpos] e pos) (tS X.K (setIS i ix ar)) := by
  have hw : swapsWithSole [.Subscript o x tpos] e pos.line X.env = pure false := by cases e <;> rfl
  have hw2 : swappedStores [.Subscript o x tpos] e X.env = pure none := by cases e <;> rfl
  have hgo : ∀ v, assign (.Subscript o x tpos) X.env v = (do
      let ov ← holding [v] (eval o X.env)
      let iv ← holding [v, ov] (eval x X.env)
      standAt tpos
      holding [v, ov, iv] (setItem ov iv v)
      release [v, ov, iv] []) := by
    intro v
    cases x <;> first | rfl | cases hd
  refine ps_imp (ps_asg he (pg_sub ho hx set_list hgo) hw hw2 rfl) fun D σ H q => ?_
  obtain ⟨B, ρ, S, fl, R, ea, q⟩ := q
  obtain ⟨⟨h1, ρ1⟩, e1, eb⟩ := Option.bind_eq_some_iff.mp ea
  clear ea
  cases h1 with
  | slot i => cases eb
  | dat d =>
    obtain ⟨ds0, e0, eb'⟩ := Option.bind_eq_some_iff.mp eb
    clear eb
    obtain ⟨⟨h2, ρ2⟩, e2, ec⟩ := Option.bind_eq_some_iff.mp eb'
    clear eb'
    obtain ⟨k, e3, ed⟩ := Option.bind_eq_some_iff.mp ec
    clear ec
    obtain ⟨en, e4, ee⟩ := Option.bind_eq_some_iff.mp ed
    clear ed
    obtain ⟨ds, e5, e⟩ := Option.bind_eq_some_iff.mp ee
    clear ee
    refine ⟨B, ρ, S, .dat d, ρ1, R, e1, fun v H1 S1 R1 X1 A1 => ?_⟩
    cases k <;> first | (cases e; done) | skip
    rename_i k
    obtain ⟨j, e6, ef⟩ := Option.bind_eq_some_iff.mp e
    obtain ⟨en', e7, eg⟩ := Option.bind_eq_some_iff.mp ef
    cases eg
    obtain ⟨a, xs0, ha, _⟩ := R1.rootB e0
    refine ⟨.ref a, ha, B, ρ1, S1, h2, ρ2, R1, e2, fun w H2 S2 R2 X2 A2 => ?_⟩
    obtain ⟨b, xs, h1, h2, h3, h4⟩ := R2.write e4 e5 e7
    rw [ha] at h1; cases h1
    have hk := rdb_of R2 A2 e3
    obtain ⟨R', E'⟩ := h4 (xs.set j v) (h3.set j (dp_mono X2.ss _ _ A1))
    exact ⟨a, xs, k, j, rfl, hk.int', h2, by rw [h3.length]; exact e6, q σ _ S2 R' ((X1.ss.trans X2.ss).trans E'.ss)⟩
end
end My

namespace My
open PySem PySem.Spec PyProof.Rows L2

/-! ### several stores at once -/
@[simp] def evRs : List EvV → En → Option (List RV × En)
  | [], ρ => some ([], ρ)
  | f :: fs, ρ => (f ρ).bind fun p => (evRs fs p.2).bind fun q => some (p.1 :: q.1, q.2)
inductive RvsT (K : Fg) (B : Bs) (σ : St) (ρ : En) (H S : Hp) : List V → List RV → List Addr → Prop
  | nil : RvsT K B σ ρ H S [] [] []
  | val {v d vs rs as} : Dq K S v d → RvsT K B σ ρ H S vs rs as → RvsT K B σ ρ H S (v :: vs) (.val d :: rs) as
  | new {a xs ds vs rs as} : H a = some (.lst xs) → S a = none → B.Hb a = none → DqAll K S xs ds → (∀ i, ¬ Root σ ρ i a) → a ∉ as → RvsT K B σ ρ H S vs rs as → RvsT K B σ ρ H S (.ref a :: vs) (.new ds :: rs) (a :: as)
def tRs (K : Fg) (fs : List EvV) : TA := fun σ H Q => ∃ B ρ S rs ρ', Rel K B σ ρ H S ∧ evRs fs ρ = some (rs, ρ') ∧
  ∀ vs H' S' as, Rel K B σ ρ' H' S' → Ext σ ρ ρ' H S H' S' → RvsT K B σ ρ' H' S' vs rs as → (∀ b ∈ as, H b = none) → Q vs H'
section
variable {X : Cx} {e : Expr} {es : List Expr} {f : EvV} {fs : List EvV}
theorem prs_nil : PA X [] (tRs X.K []) := by
  refine pa_imp pa_nil fun σ H Q q => ?_
  obtain ⟨B, ρ, S, hs, ρ', R, e, q⟩ := q
  cases e
  exact q [] H S [] R .refl .nil fun _ h => nomatch h
theorem prs_cons (ha : PE X e (tV X.K f)) (hr : PA X es (tRs X.K fs)) (hs : starEach (e :: es) X.env = (false, eval e X.env) :: starEach es X.env) : PA X (e :: es) (tRs X.K (f :: fs)) := by
  refine pa_imp (pa_cons ha hr hs) fun σ H Q q => ?_
  obtain ⟨B, ρ, S, rs, ρ', R, e, q⟩ := q
  obtain ⟨⟨r1, ρ1⟩, e1, e2⟩ := Option.bind_eq_some_iff.mp e
  obtain ⟨⟨rs2, ρ2⟩, e3, e4⟩ := Option.bind_eq_some_iff.mp e2
  cases e4
  refine ⟨B, ρ, S, r1, ρ1, R, e1, fun v H1 S1 R1 X1 k => ⟨B, ρ1, S1, rs2, ρ2, R1, e3, fun vs H2 S2 as R2 X2 T has => ?_⟩⟩
  have back : ∀ b, H1 b = none → H b = none := fun b hb => by
    cases z : H b with
    | none => rfl
    | some o => exact absurd hb (X1.dm b (by rw [z]; exact fun z => by cases z))
  cases r1 with
  | val d => exact q _ H2 S2 as R2 (X1.trans X2) (.val (dp_mono X2.ss _ _ k) T) fun b hb => back b (has b hb)
  | new ds =>
    obtain ⟨a, xs, rfl, h1, h2, h3, h4⟩ := k
    have hnr : ∀ i, ¬ Root σ ρ1 i a := fun i h => R.no_root h1 i (X1.rt i a h)
    obtain ⟨k1, k2⟩ := X2.kp a _ h2 hnr
    have hna : a ∉ as := fun z => by
      have := has a z
      rw [h2] at this; cases this
    refine q _ H2 S2 (a :: as) R2 (X1.trans X2) (.new k1 (by rw [k2]; exact h3) (R.hb_none h1) (dpAll_mono X2.ss _ _ h4) (fun i h => hnr i (X2.rt i a h)) hna T) fun b hb => ?_
    rcases List.mem_cons.mp hb with rfl | hb
    · exact h1
    · exact back b (has b hb)
end
def setRs : List Nat → List RV → En → Option En
  | [], [], ρ => some ρ
  | i :: is, r :: rs, ρ => (setR i r ρ).bind (setRs is rs)
  | _, _, _ => none
section
variable {K : Fg} {B : Bs} {σ : St} {ρ ρ' : En} {H S : Hp} {i : Nat} {v : V} {r : RV}
theorem setR_root {a : Addr} (e : setR i r ρ = some ρ') : ∀ j, Root (σ.set i (some v)) ρ' j a → (j = i ∧ v = .ref a ∧ ∃ ds, r = .new ds) ∨ Root σ ρ j a := by
  rintro j ⟨⟨u, hu, hr⟩, hs⟩
  unfold setR at e
  split at e
  · cases e
  · rename_i en hn hen
    cases e
    have hlt : i < ρ.length := (List.getElem?_eq_some_iff.mp hen).1
    by_cases hj : j = i
    · subst hj
      rw [List.getElem?_set_self hlt] at hu
      have hs' : v = .ref a := by
        by_cases hl : j < σ.length
        · rw [List.getElem?_set_self hl] at hs
          exact Option.some.inj (Option.some.inj hs)
        · rw [List.getElem?_eq_none (by simpa using hl)] at hs; cases hs
      cases r with
      | val d => cases hu; cases hr
      | new ds => exact .inl ⟨rfl, hs', ds, rfl⟩
    · rw [List.getElem?_set_ne (Ne.symm hj)] at hu hs
      exact .inr ⟨⟨u, hu, hr⟩, hs⟩
  · cases e
theorem RvsT.move (e : setR i r ρ = some ρ') : ∀ {vs : List V} {rs : List RV} {as : List Addr}, (∀ a ds, v = .ref a → r = .new ds → a ∉ as) → RvsT K B σ ρ H S vs rs as → RvsT K B (σ.set i (some v)) ρ' H S vs rs as
  | _, _, _, _, .nil => .nil
  | _, _, _, h, .val a t => .val a (RvsT.move e h t)
  | _, _, _, h, .new h1 h2 h3 h4 h5 h6 t => by
    rename_i a xs ds vs rs as
    refine .new h1 h2 h3 h4 (fun j q => ?_) h6 (RvsT.move e (fun b ds e1 e2 m => h b ds e1 e2 (List.mem_cons_of_mem _ m)) t)
    rcases setR_root e j q with ⟨_, e2, ds, e3⟩ | q
    · exact h a ds e2 e3 (by simp)
    · exact h5 j q
theorem setRs_ok {Q : St → Hp → Prop} : ∀ (is : List Nat) {vs : List V} {rs : List RV} {as : List Addr} {σ : St} {ρ ρ' : En}, Rel K B σ ρ H S → RvsT K B σ ρ H S vs rs as → setRs is rs ρ = some ρ' → (∀ σ', Rel K B σ' ρ' H S → Q σ' H) → gNms is vs σ H Q
  | [], _, _, _, σ, ρ, ρ', R, .nil, e, q => by
    cases e
    exact ⟨rfl, q σ R⟩
  | i :: is, _, _, _, σ, ρ, ρ', R, .val (v := v) (d := d) a t, e, q => by
    obtain ⟨ρ1, e1, e2⟩ := Option.bind_eq_some_iff.mp e
    exact ⟨v, _, rfl, setRs_ok is (R.setR (r := .val d) (v := v) a e1) (RvsT.move (v := v) e1 (fun _ _ _ z => by cases z) t) e2 q⟩
  | i :: is, _, _, _, σ, ρ, ρ', R, .new (a := a) (xs := xs) (ds := ds) h1 h2 h3 h4 h5 h6 t, e, q => by
    obtain ⟨ρ1, e1, e2⟩ := Option.bind_eq_some_iff.mp e
    refine ⟨.ref a, _, rfl, setRs_ok is (R.setR (r := .new ds) (v := .ref a) ⟨a, xs, rfl, h1, h2, h3, h4, h5⟩ e1) (RvsT.move (v := .ref a) e1 (fun b _ z _ m => ?_) t) e2 q⟩
    cases z
    exact h6 m
  | [], _, _, _, _, _, _, _, .val _ _, e, _ => by cases e
  | [], _, _, _, _, _, _, _, .new _ _ _ _ _ _ _, e, _ => by cases e
  | _ :: _, _, _, _, _, _, _, _, .nil, e, _ => by cases e
end
@[simp] def tupS (is : List Nat) (fs : List EvV) : EvS := fun ρ => (evRs fs ρ).bind fun p => (setRs is p.1 p.2).bind fun ρ' => some (.nx ρ')
theorem RvsT.len {K : Fg} {B : Bs} {σ : St} {ρ : En} {H S : Hp} : ∀ {vs : List V} {rs : List RV} {as : List Addr}, RvsT K B σ ρ H S vs rs as → vs.length = rs.length
  | _, _, _, .nil => rfl
  | _, _, _, .val _ t => by simp [RvsT.len t]
  | _, _, _, .new _ _ _ _ _ _ t => by simp [RvsT.len t]
theorem setRs_len : ∀ {is : List Nat} {rs : List RV} {ρ ρ' : En}, setRs is rs ρ = some ρ' → is.length = rs.length
  | [], [], _, _, _ => rfl
  | i :: is, r :: rs, ρ, ρ', e => by
    obtain ⟨ρ1, e1, e2⟩ := Option.bind_eq_some_iff.mp e
    simp [setRs_len e2]
  | [], _ :: _, _, _, e => by cases e
  | _ :: _, [], _, _, e => by cases e
section
variable {X : Cx} {tg : Expr} {ts es : List Expr} {k k2 : Nat} {pt p2 pos : Pos} {is : List Nat} {fs : List EvV}
/-- through the tuple -/
theorem ps_tupG (hz : is.length ≤ sizeLine) (hc : X.calm = true) (ha : PA X es (tRs X.K fs)) (hg : PG X (.Tuple ts k pt) (gTup X.K is.length (gNms is))) (hw : swappedStores [.Tuple ts k pt] (.Tuple es k2 p2) X.env = pure none) :
    PS X (.Assign [.Tuple ts k pt] (.Tuple es k2 p2) pos) (tS X.K (tupS is fs)) := by
  refine ps_imp (ps_asg (pe_tup ha) hg rfl hw rfl) fun D σ H q => ?_
  obtain ⟨B, ρ, S, fl, R, e, q⟩ := q
  obtain ⟨⟨rs, ρ1⟩, e1, ea⟩ := Option.bind_eq_some_iff.mp e
  clear e
  obtain ⟨ρ2, e2, eb⟩ := Option.bind_eq_some_iff.mp ea
  clear ea
  cases eb
  refine ⟨B, ρ, S, rs, ρ1, R, e1, fun vs H1 S1 as R1 X1 T has => ?_⟩
  have hlen : vs.length = is.length := by rw [T.len, setRs_len e2]
  refine ⟨?_, fun p hp => ?_⟩
  · rw [hlen]; exact hz
  have hSp : S1 p = none := R1.sub.free hp
  have R2 := R1.junk (o := .tup vs) hSp (R1.hb_none hp) (R1.no_root hp)
  have T2 : ∀ {vs' : List V} {rs' : List RV} {as' : List Addr}, RvsT X.K B σ ρ1 H1 S1 vs' rs' as' → RvsT X.K B σ ρ1 (L2.upd H1 p (.tup vs)) S1 vs' rs' as' := by
    intro vs' rs' as' T
    induction T with
    | nil => exact .nil
    | val a _ ih => exact .val a ih
    | new h1 h2 h3 h4 h5 h6 _ ih => exact .new (by rw [upd_ne (ne_of_none h1 hp)]; exact h1) h2 h3 h4 h5 h6 ih
  exact ⟨p, vs, rfl, .inl (.inl upd_same), hlen, setRs_ok is R2 (T2 T) e2 fun σ' R3 => q σ' _ S1 R3 X1.ss⟩
/-- by the swap of two plain names -/
theorem ps_tup2 {i j : Nat} {x y : Str} {px py : Pos} {a b : Expr} (hc : X.calm = true) (hN : X.N.Nodup) (hi : X.N[i]? = some x) (hj : X.N[j]? = some y) (hij : i ≠ j)
    (hx : X.env.scope.names.lookup x = some .local) (hy : X.env.scope.names.lookup y = some .local) (ha : PA X [a, b] (tRs X.K fs))
    (hw : swappedStores [.Tuple [.Name x px, .Name y py] k pt] (.Tuple [a, b] k2 p2) X.env = pure (some [x, y])) :
    PS X (.Assign [.Tuple [.Name x px, .Name y py] k pt] (.Tuple [a, b] k2 p2) pos) (tS X.K (tupS [i, j] fs)) := by
  refine ps_imp (ps_par hc hN hi hj hij hx hy ha hw) fun D σ H q => ?_
  obtain ⟨B, ρ, S, fl, R, e, q⟩ := q
  obtain ⟨⟨rs, ρ1⟩, e1, ea⟩ := Option.bind_eq_some_iff.mp e
  clear e
  obtain ⟨ρ2, e2, eb⟩ := Option.bind_eq_some_iff.mp ea
  clear ea
  cases eb
  refine ⟨B, ρ, S, rs, ρ1, R, e1, fun vs H1 S1 as R1 X1 T has => ?_⟩
  obtain ⟨v, r, rfl, w, r2, rfl, rfl, hq⟩ := setRs_ok (Q := fun σ' H' => D.nx σ' H') [i, j] R1 T e2 fun σ' R3 => q σ' _ S1 R3 X1.ss
  exact ⟨v, w, rfl, hq⟩
theorem ps_tup3 {i j l : Nat} {x y z : Str} {px py pz : Pos} {a b c : Expr} (hc : X.calm = true) (hN : X.N.Nodup) (hi : X.N[i]? = some x) (hj : X.N[j]? = some y) (hl : X.N[l]? = some z) (hij : i ≠ j) (hil : i ≠ l) (hjl : j ≠ l)
    (hx : X.env.scope.names.lookup x = some .local) (hy : X.env.scope.names.lookup y = some .local) (hz : X.env.scope.names.lookup z = some .local) (ha : PA X [a, b, c] (tRs X.K fs))
    (hw : swappedStores [.Tuple [.Name x px, .Name y py, .Name z pz] k pt] (.Tuple [a, b, c] k2 p2) X.env = pure (some [x, y, z])) :
    PS X (.Assign [.Tuple [.Name x px, .Name y py, .Name z pz] k pt] (.Tuple [a, b, c] k2 p2) pos) (tS X.K (tupS [i, j, l] fs)) := by
  refine ps_imp (ps_par3 hc hN hi hj hl hij hil hjl hx hy hz ha hw) fun D σ H q => ?_
  obtain ⟨B, ρ, S, fl, R, e, q⟩ := q
  obtain ⟨⟨rs, ρ1⟩, e1, ea⟩ := Option.bind_eq_some_iff.mp e
  clear e
  obtain ⟨ρ2, e2, eb⟩ := Option.bind_eq_some_iff.mp ea
  clear ea
  cases eb
  refine ⟨B, ρ, S, rs, ρ1, R, e1, fun vs H1 S1 as R1 X1 T has => ?_⟩
  obtain ⟨u, r, rfl, v, r2, rfl, w, r3, rfl, rfl, hq⟩ := setRs_ok (Q := fun σ' H' => D.nx σ' H') [i, j, l] R1 T e2 fun σ' R3 => q σ' _ S1 R3 X1.ss
  exact ⟨u, v, w, rfl, hq⟩
end
end My

namespace My
open PySem PySem.Spec PyProof.Rows L2

/-! ### enumerate and zip over lists, tuples, texts -/
section
variable {prog : Program} {w : World} {A : Around}
theorem draws_imp {it : Addr} {fp : List Addr} {n : Nat} {P P' : Nat → Value → Prop} {St : Nat → Heap → Prop} (D : Draws prog w A it fp n P St) (h : ∀ i v, P i v → P' i v) : Draws prog w A it fp n P' St where
  live := D.live
  frame := D.frame
  item := fun i s Q E hi st hQ => D.item i s Q E hi st fun x h' tk p => hQ x h' tk (h i x p)
  done := D.done
end
/-- what may be drawn from: o its iterator as it is made, St its states -/
structure Dr (P : Program) (w : World) (K : Fg) (S : Hp) (u : Value) (ds : List D) (o : Obj) (St : Addr → Nat → Heap → Prop) : Prop where
  beg : ∀ X : Cx, X.prog = P → X.w = w → X.K = K → ∀ pins σ H s, Inv X pins σ H s → Same S H → ∃ Hs, Begins u o Hs ∧ Hs s.heap
  st0 : ∀ it (h : Heap), h.get? it = some o → St it 0 h
  obj : ∀ it i h, St it i h → ∃ ob, h.get? it = some ob ∧ ∀ v, ob.data ≠ .cell v
  keep : ∀ it i (h h' : Heap), St it i h → (∀ ob, h.get? it = some ob → h'.get? it = some ob) → St it i h'
  drw : ∀ X : Cx, X.prog = P → X.w = w → X.K = K → X.calm = true → ∀ pins σ H s, Inv X pins σ H s → Same S H → ∀ it, H it = none →
    ∃ (fp : List Addr) (Src : Heap → Prop), (∀ b ∈ fp, b < s.heap.objs.size ∧ H b ≠ none) ∧ Src s.heap ∧
      Draws P w X.A.in1 it (it :: fp) ds.length (fun i v => ∃ y d, RelV y v ∧ ds[i]? = some d ∧ Dq K S y d) (fun i h => St it i h ∧ Src h)
theorem dr_of {X : Cx} {S : Hp} {x : V} {u : Value} {d : D} {ds : List D} (r : RelV x u) (hq : Dq X.K S x d) (hd : itemsD d = some ds) : ∃ o St, Dr X.prog X.w X.K S u ds o St := by
  cases hq with
  | non => cases hd
  | bl _ => cases hd
  | int _ => cases hd
  | scr _ => cases hd
  | dic _ _ _ => cases hd
  | lst h g =>
    rename_i a xs _
    cases hd
    cases r
    refine ⟨{ cls := .type "list_iterator", data := .fields #[.ref a, .int 0 0] }, fun it i h => h.IsListIter it a i, ?_⟩
    refine { beg := fun X' hP hw hK pins σ H s I hs => ?_, st0 := fun it h e => ⟨_, e, rfl, rfl⟩, obj := fun it i h st => ?_, keep := fun it i h h' st k => st.at fun ob e => k ob e, drw := fun X' hP hw hK' hc pins σ H s I hs it hit => ?_ }
    · obtain ⟨its, rv, p, hz⟩ := I.list (.inl (.inl (hs _ _ h)))
      exact ⟨_, begins_list a its.toArray, p.isList⟩
    · obtain ⟨ob, e, c, dd⟩ := st
      exact ⟨ob, e, fun v z => by rw [dd] at z; cases z⟩
    · obtain ⟨its, rv, p, hz⟩ := I.list (.inl (.inl (hs _ _ h)))
      have hne : a ≠ it := ne_of_none (hs _ _ h) hit
      refine ⟨[a], fun h => h.IsList a its.toArray, fun b hb => ?_, p.isList, ?_⟩
      · obtain rfl : b = a := by simpa using hb
        exact ⟨I.hok.lt (hs _ _ h), by rw [hs _ _ h]; exact fun z => by cases z⟩
      · have D0 := Draws.list (prog := X'.prog) (w := X'.w) (A := X'.A.in1) (I.ok.hd hc) it a hne its.toArray
        have hl : its.toArray.size = ds.length := by rw [List.size_toArray, ← rv.length, g.length]
        rw [hl, hP, hw] at D0
        refine draws_imp D0 fun i v hv => ?_
        have hv' : its[i]? = some v := by simpa using hv
        have hi : i < xs.length := by
          rw [rv.length]; exact (List.getElem?_eq_some_iff.mp hv').1
        obtain ⟨u', h1, h2⟩ := rv.get (List.getElem?_eq_getElem hi)
        rw [hv'] at h1; cases h1
        obtain ⟨d, h3, h4⟩ := g.getV (List.getElem?_eq_getElem hi)
        exact ⟨_, d, h2, h3, h4⟩
  | tup h g =>
    rename_i a xs _
    cases hd
    cases r
    refine ⟨{ cls := .type "tuple_iterator", data := .fields #[.ref a, .int 0 0] }, fun it i h => h.IsTupleIter it a i, ?_⟩
    refine { beg := fun X' hP hw hK pins σ H s I hs => ?_, st0 := fun it h e => ⟨_, e, rfl, rfl⟩, obj := fun it i h st => ?_, keep := fun it i h h' st k => st.at fun ob e => k ob e, drw := fun X' hP hw hK' hc pins σ H s I hs it hit => ?_ }
    · obtain ⟨its, rv, p, hz⟩ := I.tuple (.inl (.inl (hs _ _ h)))
      exact ⟨_, begins_tuple a its.toArray, p⟩
    · obtain ⟨ob, e, c, dd⟩ := st
      exact ⟨ob, e, fun v z => by rw [dd] at z; cases z⟩
    · obtain ⟨its, rv, p, hz⟩ := I.tuple (.inl (.inl (hs _ _ h)))
      have hS := h
      have hne : a ≠ it := ne_of_none (hs _ _ hS) hit
      refine ⟨[a], fun h => h.IsTuple a its.toArray, fun b hb => ?_, p, ?_⟩
      · obtain rfl : b = a := by simpa using hb
        exact ⟨I.hok.lt (hs _ _ hS), by rw [hs _ _ hS]; exact fun z => by cases z⟩
      · have D0 := Draws.tuple (prog := X'.prog) (w := X'.w) (A := X'.A.in1) (I.ok.hd hc) it a hne its.toArray
        have hl : its.toArray.size = ds.length := by rw [List.size_toArray, ← rv.length, g.length]
        rw [hl, hP, hw] at D0
        refine draws_imp D0 fun i v hv => ?_
        have hv' : its[i]? = some v := by simpa using hv
        have hi : i < xs.length := by
          rw [rv.length]; exact (List.getElem?_eq_some_iff.mp hv').1
        obtain ⟨u', h1, h2⟩ := rv.get (List.getElem?_eq_getElem hi)
        rw [hv'] at h1; cases h1
        obtain ⟨d, h3, h4⟩ := g.getV (List.getElem?_eq_getElem hi)
        exact ⟨_, d, h2, h3, h4⟩
  | str z =>
    cases hd
    obtain ⟨t, rfl⟩ := r
    refine ⟨{ cls := .type (strIterType z), data := .fields #[.str z t, .int 0 0] }, fun it i h => h.IsStrIter it (strIterType z) z t i, ?_⟩
    refine { beg := fun X' hP hw hK pins σ H s I hs => ⟨_, begins_text z t, trivial⟩, st0 := fun it h e => ⟨_, e, rfl, rfl⟩, obj := fun it i h st => ?_, keep := fun it i h h' st k => ?_, drw := fun X' hP hw hK' hc pins σ H s I hs it hit => ?_ }
    · obtain ⟨ob, e, c, dd⟩ := st
      exact ⟨ob, e, fun v z => by rw [dd] at z; cases z⟩
    · obtain ⟨ob, e, c⟩ := st
      exact ⟨ob, k ob e, c⟩
    · refine ⟨[], fun _ => True, fun b hb => (nomatch hb), trivial, ?_⟩
      have D0 := Draws.text (prog := X'.prog) (w := X'.w) (A := X'.A.in1) (I.ok.hd hc) it z t
      have hl : z.cps.size = (signs z).length := by simp [signs]
      rw [hl, hP, hw] at D0
      have D1 := draws_imp (P' := fun i v => ∃ y d, RelV y v ∧ (signs z)[i]? = some d ∧ Dq X.K S y d) D0 fun i v hv => by
        obtain ⟨c, u, h1, rfl⟩ := hv
        refine ⟨.str ⟨#[c]⟩, .str ⟨#[c]⟩, ⟨u, rfl⟩, ?_, .str _⟩
        unfold signs
        rw [List.getElem?_map, Array.getElem?_toList, h1]; rfl
      exact { live := fun i h st => D1.live i h st.1, frame := fun i h h' st k => ⟨D1.frame i h h' st.1 k, trivial⟩,
              item := fun i s Q E hi st hQ => D1.item i s Q E hi st.1 fun x h' tk p st' => hQ x h' tk p ⟨st', trivial⟩, done := fun s Q E st hQ => D1.done s Q E st.1 hQ }
def enumD : Nat → List D → List D
  | _, [] => []
  | k, d :: ds => .tup [.int (k : Nat), d] :: enumD (k + 1) ds
theorem enumD_len : ∀ (ds : List D) (k : Nat), (enumD k ds).length = ds.length
  | [], _ => rfl
  | d :: ds, k => by simp [enumD, enumD_len ds (k + 1)]
theorem enumD_get : ∀ (ds : List D) (k i : Nat) (d : D), ds[i]? = some d → (enumD k ds)[i]? = some (.tup [.int ((k + i : Nat)), d])
  | [], _, _, _, h => by simp at h
  | e :: ds, k, 0, d, h => by
    have h' : e = d := Option.some.inj h
    subst h'; rfl
  | e :: ds, k, i + 1, d, h => by
    have h' : ds[i]? = some d := by simpa using h
    have q := enumD_get ds (k + 1) i d h'
    show (enumD (k + 1) ds)[i]? = _
    rw [q]
    have : k + 1 + i = k + (i + 1) := by omega
    rw [this]
/-- pairs handed out, each a new tuple -/
def ItP (K : Fg) (S : Hp) (n : Nat) (fs : Nat → List V → Prop) : L2.It :=
  ⟨fun i H => Same S H ∧ i < n, fun i H v H' => ∃ T ys, v = .ref T ∧ H T = none ∧ H' = L2.upd H T (.tup ys) ∧ fs i ys, fun i H => Same S H ∧ i = n⟩
theorem wd_itP {K : Fg} {S : Hp} {items : List D} {fs : Nat → List V → Prop} (h : ∀ i ys, i < items.length → fs i ys → ∃ ds, items[i]? = some (.tup ds) ∧ DqAll K S ys ds) : WalkD K (ItP K S items.length fs) items S := by
  refine ⟨fun H => Same S H, fun i H v H' => ∃ T ys, v = .ref T ∧ H T = none ∧ H' = L2.upd H T (.tup ys) ∧ fs i ys, ⟨fun i H hi hs => ⟨hs, hi⟩, fun H hs => ⟨hs, rfl⟩, fun i H x H' _ _ y => y⟩, fun S1 H1 s1 s2 => s1.trans s2, fun i S1 H1 x H2 hi s1 s2 y => ?_⟩
  obtain ⟨T, ys, rfl, hT, rfl, hf⟩ := y
  obtain ⟨ds, h1, h2⟩ := h i ys hi hf
  have hST : S1 T = none := s2.free hT
  have s3 : Same S1 (L2.upd S1 T (.tup ys)) := fun b o e => by rw [upd_ne (ne_of_none e hST)]; exact e
  refine ⟨L2.upd S1 T (.tup ys), .tup ds, ⟨s3, fun b o e => ?_, fun b o e => by rw [upd_ne (ne_of_none e hT)]; exact e, fun b hb => ?_⟩, h1, .tup upd_same (dpAll_mono (s1.trans s3) _ _ h2)⟩
  · by_cases hb : b = T
    · subst hb; rw [upd_same] at e ⊢; exact e
    · rw [upd_ne hb] at e ⊢; exact s2 _ _ e
  · have hn : b ≠ T := fun z => hb (by rw [z]; exact hT)
    rw [upd_ne hn]
theorem turn_en {P : Program} {w : World} {K : Fg} {S : Hp} {u : Value} {ds : List D} {o : Obj} {St : Addr → Nat → Heap → Prop} (dr : Dr P w K S u ds o St) {elts : List Expr} {kk : Nat} {tpos : Pos} (e it : Addr) :
    Turn P w K (.Tuple elts kk tpos) (ItP K S ds.length fun i ys => ∃ y d, ys = [.int (i : Nat), y] ∧ ds[i]? = some d ∧ Dq K S y d) [e, it] e (fun i h => (∃ old, IsEnum h e it (0 + ((i : Nat) : Int)) old) ∧ St it i h ∧ e ≠ it) where
  mem := by simp
  obj := fun i h st b hb => by
    obtain ⟨⟨old, he⟩, hs, hne⟩ := st
    have hb' : b = e ∨ b = it := by simpa using hb
    rcases hb' with rfl | rfl
    · exact ⟨_, he, fun v q => nomatch q⟩
    · exact dr.obj _ i h hs
  keep := fun i h h' st k => ⟨st.1.elim fun old he => ⟨old, k e (by simp) _ he⟩, dr.keep it i h h' st.2.1 (fun ob q => k it (by simp) ob q), st.2.2⟩
  item := by
    intro X hP hw hK hc i pins s σ H E I hf st hg
    subst hP hw hK
    obtain ⟨⟨old, he⟩, hst, hne⟩ := st
    obtain ⟨hs, hi⟩ := hg
    obtain ⟨fp, Src, hfp, hsrc, D0⟩ := dr.drw X rfl rfl rfl hc pins σ H s I hs it (hf it (by simp)).1
    have hen : e ∉ it :: fp := fun m => by
      rcases List.mem_cons.mp m with z | z
      · exact hne z
      · exact (hfp e z).2 (hf e (by simp)).1
    have W := GoesN.enumFrom (elts := elts) (x1 := kk) (pos := tpos) 0 D0 e hne hen (by simp)
    refine W.goes i s _ E hi ⟨⟨old, he⟩, hst, hsrc⟩ fun v h' tk hY st' hk _ => ?_
    obtain ⟨T, t, xv, rfl, hT, ⟨y, d, ry, hd, hq⟩, hTup⟩ := hY
    have hvals : Vals [V.int (i : Nat), y] [.int (0 + (i : Int)) t, xv] := .cons ⟨t, by rw [Int.zero_add]⟩ (.cons ry .nil)
    have I1 : Inv X pins σ (L2.upd H T (.tup [.int (i : Nat), y])) { s with heap := h', toks := tk } :=
      I.turnedNew (ch := [e, it]) hk hf hT ⟨by show 2 ≤ sizeLine; decide, _, hvals, hTup⟩
    refine ⟨.ref T, _, I1, rfl, ⟨T, _, rfl, I.hok.fresh hT, rfl, y, d, rfl, hd, hq⟩, ⟨st'.1, st'.2.1, hne⟩, fun b hb => ?_⟩
    have hlt : b < s.heap.objs.size := by
      have hb' : b = e ∨ b = it := by simpa using hb
      rcases hb' with rfl | rfl
      · exact Heap.lt_size he
      · obtain ⟨ob, q, _⟩ := dr.obj _ i _ hst
        exact Heap.lt_size q
    rw [upd_ne (Nat.ne_of_lt (Nat.lt_of_lt_of_le hlt hT))]
    exact (hf b hb).1
  done := by
    intro X hP hw hK hc i pins s σ H E I hf st hg
    subst hP hw hK
    obtain ⟨⟨old, he⟩, hst, hne⟩ := st
    obtain ⟨hs, rfl⟩ := hg
    obtain ⟨fp, Src, hfp, hsrc, D0⟩ := dr.drw X rfl rfl rfl hc pins σ H s I hs it (hf it (by simp)).1
    have hen : e ∉ it :: fp := fun m => by
      rcases List.mem_cons.mp m with z | z
      · exact hne z
      · exact (hfp e z).2 (hf e (by simp)).1
    have W := GoesN.enumFrom (elts := elts) (x1 := kk) (pos := tpos) 0 D0 e hne hen (by simp)
    exact W.stops s _ E ⟨⟨old, he⟩, hst, hsrc⟩ fun h' tk hk _ => I.turnedL (ch := [e, it]) hk hf
  self := fun _ _ _ _ _ st h => st.1.elim fun _ he => wpAny_pyIter_enum he h
set_option maxHeartbeats 1000000 in
theorem meets_en1 {v : Value} {o : Obj} {H : Heap → Prop} (B : Begins v o H) :
    Meets (Builtin.«enumerate.__new__» ⟨[.type "enumerate", v], []⟩) (fun _ R s => H s.heap ∧
      R (.ok (.ret (.ref (s.heap.push o).objs.size))) { s with heap := (s.heap.push o).push { cls := .type "enumerate", data := .fields #[.none, .bool false, .ref s.heap.objs.size, rawInt 0, .none, .none] } }) :=
  .of_wp fun prog w A R s h => by
    obtain ⟨hp, gg, dd, tk, os⟩ := s; obtain ⟨h1, h⟩ := h
    have hsub := sub_enumerate
    have q1 : ∀ {A' : Around} {E' : Value → Shared → Prop} {Q' : Value → Shared → Prop}, Q' (.ref hp.objs.size) ⟨hp.push o, gg, dd, tk, os⟩ → wpAny (model prog w) A' (pyIter v) Q' E' ⟨hp, gg, dd, tk, os⟩ :=
      fun q => B.iter prog w _ _ ⟨hp, gg, dd, tk, os⟩ _ h1 q
    wp_walk using q1
    refine wpAny_stack_any fun st => wpAny_pure ?_
    split
    · rename_i c _ _ _ _ _
      cases (c == Value.type "enumerate")
      · wp_walk using q1
        exact ⟨_, rfl, h⟩
      · wp_walk using q1
        exact ⟨_, rfl, h⟩
    · wp_walk using q1
      exact ⟨_, rfl, h⟩
theorem en_begins {prog : Program} {w : World} {A : Around} {E : Value → Shared → Prop} {s : Shared} {v : Value} {o : Obj} {H : Heap → Prop} {Q : Value → Shared → Prop} (B : Begins v o H) (h1 : H s.heap)
    (h : ∀ h', IsEnum h' (s.heap.objs.size + 1) s.heap.objs.size 0 .none → h'.get? s.heap.objs.size = some o → (∀ b o, s.heap.get? b = some o → h'.get? b = some o) → Q (.ref (s.heap.objs.size + 1)) { s with heap := h' }) :
    wpAny (model prog w) A (call (.type "enumerate") [v]) Q E s := by
  refine callType_new F.called_enumerate (by decide) (F.typeCall_enumerate_1 _) (F.newCall_enumerate_1 _) (fun obj => F.args_object_init_2 obj _) F.entry_enumerate_new (meets_en1 B) ⟨h1, ?_⟩
  have hz : (s.heap.push o).objs.size = s.heap.objs.size + 1 := Heap.size_push ..
  show _ ∧ _
  rw [hz]
  have he := Heap.get?_push_size (s.heap.push o) (o := { cls := .type "enumerate", data := .fields #[.none, .bool false, .ref s.heap.objs.size, rawInt 0, .none, .none] }) rfl
  rw [hz] at he
  exact ⟨⟨_, he, rfl⟩, h _ he (Heap.get?_push_of_some _ (Heap.get?_push_size _ B.free)) fun b o x => Heap.get?_push_of_some _ (Heap.get?_push_of_some _ x)⟩
end My

namespace My
open PySem PySem.Spec PyProof.Rows L2

def enI (a : Ar) : EvI := fun ρ => (evAr a ρ).bind fun p => match p.1 with
  | .dat d => (itemsD d).bind fun ds => some (enumD 0 ds, p.2)
  | _ => none
def zipD : List D → List D → List D
  | a :: as, b :: bs => .tup [a, b] :: zipD as bs
  | _, _ => []
@[simp] def zipI (a b : Ar) : EvI := fun ρ => (evAr a ρ).bind fun p => (evAr b p.2).bind fun q => match p.1, q.1 with
  | .dat d, .dat e => (itemsD d).bind fun ds => (itemsD e).bind fun es => some (zipD ds es, q.2)
  | _, _ => none
theorem zipD_len : ∀ (as bs : List D), (zipD as bs).length = min as.length bs.length
  | [], bs => by simp [zipD]
  | _ :: _, [] => by simp [zipD]
  | a :: as, b :: bs => by simp [zipD, zipD_len as bs]
theorem zipD_get : ∀ (as bs : List D) (i : Nat) (a b : D), as[i]? = some a → bs[i]? = some b → (zipD as bs)[i]? = some (.tup [a, b])
  | [], _, _, _, _, h, _ => by simp at h
  | _ :: _, [], _, _, _, _, h => by simp at h
  | x :: as, y :: bs, 0, a, b, h, h2 => by
    have e1 : x = a := Option.some.inj h
    have e2 : y = b := Option.some.inj h2
    subst e1 e2; rfl
  | x :: as, y :: bs, i + 1, a, b, h, h2 => zipD_get as bs i a b (by simpa using h) (by simpa using h2)
section
variable {X : Cx} {e e2 : Expr} {a b : Ar} {p pos tpos : Pos} {elts : List Expr} {kk : Nat}
theorem pi_en (hg : Gl X "enumerate") (hm : X.mg "enumerate" = none) (ha : PE X e (tA X.K a)) (hd : okHd e = true) : PI X (.Tuple elts kk tpos) (.Call (.Name "enumerate" p) [e] [] pos) (tI X.K (enI a)) := by
  have hst : starEach [e] X.env = [(false, eval e X.env)] := star_cons hd
  refine ⟨fun pins s σ H R I h => ?_⟩
  obtain ⟨B, ρ, S, items, ρ', Rl, e1, q⟩ := h
  obtain ⟨⟨h1, ρ1⟩, e2, e3⟩ := Option.bind_eq_some_iff.mp e1
  cases h1 with
  | slot i => cases e3
  | dat d =>
    obtain ⟨ds, e4, e5⟩ := Option.bind_eq_some_iff.mp e3
    cases e5
    have harg := pa_cons ha pa_nil hst
    refine Call_ (ld_blt I hg hm boot_enumerate (PyProof.Rows.callWith_type1 (thn (harg.run pos pins s σ H (fun vs H1 => ∃ x S1, vs = [x] ∧ Rel X.K B σ ρ1 H1 S1 ∧ Ext σ ρ ρ1 H S H1 S1 ∧ Dq X.K S1 x d) I
      ⟨B, ρ, S, _, ρ1, Rl, e2, fun v H1 S1 R1 X1 A1 => ⟨v, S1, rfl, R1, X1, A1⟩⟩) fun us s1 ⟨vs, H1, I1, r1, x, S1, ev, R1, X1, A1⟩ => ?_) hst rfl))
    subst ev
    obtain ⟨u, rfl, ru⟩ := vals1 r1
    obtain ⟨o, St, dr⟩ := dr_of ru A1 e4
    obtain ⟨Hs, Bg, h0⟩ := dr.beg X rfl rfl rfl pins σ H1 s1 I1 R1.sub
    refine en_begins Bg h0 fun h' he hit hk => wpAny_pyIter_enum he ?_
    have I2 : Inv X pins σ H1 { s1 with heap := h' } := I1.kept (t' := s1.toks) hk
    refine ⟨s1.heap.objs.size + 1, [s1.heap.objs.size + 1, s1.heap.objs.size], _, _, H1, rfl, I2, turn_en dr (s1.heap.objs.size + 1) s1.heap.objs.size, ⟨⟨.none, he⟩, dr.st0 _ _ hit, Nat.succ_ne_self _⟩, fun b hb => ?_, q _ H1 S1 R1 X1 ?_⟩
    · have hle : s1.heap.objs.size ≤ b := by
        have hb' : b = s1.heap.objs.size + 1 ∨ b = s1.heap.objs.size := by simpa using hb
        rcases hb' with rfl | rfl
        · exact Nat.le_add_right _ _
        · exact Nat.le_refl _
      exact I1.fpOk hle (I1.hok.fresh hle)
    · have hl := enumD_len ds 0
      rw [← hl]
      refine wd_itP fun i ys _ hf => ?_
      obtain ⟨y, d, rfl, h1, h2⟩ := hf
      refine ⟨[.int (i : Nat), d], ?_, .cons (.int _) (.cons h2 .nil)⟩
      rw [enumD_get ds 0 i d h1, Nat.zero_add]
end
theorem sep_of (N : Nat) {fp1 fp2 : List Addr} (h1 : ∀ c ∈ [N + 4, N + 3, N, N + 1], c ∉ fp1) (h2 : ∀ c ∈ [N + 4, N + 3, N, N + 1], c ∉ fp2) : ZipSep2 (N + 4) (N + 2) (N + 3) N (N + 1) (N :: fp1) ((N + 1) :: fp2) := by
  have no1 : ∀ c : Nat, c ≠ N → c ∈ [N + 4, N + 3, N, N + 1] → c ∉ N :: fp1 := fun c hn hc m => (List.mem_cons.mp m).elim hn (h1 c hc)
  have no2 : ∀ c : Nat, c ≠ N + 1 → c ∈ [N + 4, N + 3, N, N + 1] → c ∉ (N + 1) :: fp2 := fun c hn hc m => (List.mem_cons.mp m).elim hn (h2 c hc)
  have e1 : N + 2 ≠ N + 4 := by omega
  have e2 : N + 3 ≠ N + 4 := by omega
  have e3 : N + 2 ≠ N + 3 := by omega
  have e4 : N + 2 ≠ N := by omega
  have e5 : N + 2 ≠ N + 1 := by omega
  exact ⟨e1, e2, e3, e4, List.mem_cons_self, no1 _ (by omega) (by simp), no1 _ (by omega) (by simp), e5, List.mem_cons_self, no2 _ (by omega) (by simp), no2 _ (by omega) (by simp), no2 _ (by omega) (by simp), no1 _ (by omega) (by simp)⟩
theorem hc5 {N : Nat} (c : Nat) (h : c ∈ [N + 4, N + 3, N, N + 1]) : c ∈ [N + 4, N + 2, N + 3, N, N + 1] := by
  simp at h ⊢
  omega
theorem turn_zp {P : Program} {w : World} {K : Fg} {S : Hp} {u1 u2 : Value} {ds1 ds2 : List D} {o1 o2 : Obj} {St1 St2 : Addr → Nat → Heap → Prop} (dr1 : Dr P w K S u1 ds1 o1 St1) (dr2 : Dr P w K S u2 ds2 o2 St2)
    {elts : List Expr} {kk : Nat} {tpos : Pos} (N : Addr) :
    Turn P w K (.Tuple elts kk tpos) (ItP K S (min ds1.length ds2.length) fun i ys => ∃ y z d e, ys = [y, z] ∧ ds1[i]? = some d ∧ ds2[i]? = some e ∧ Dq K S y d ∧ Dq K S z e) [N + 4, N + 2, N + 3, N, N + 1] (N + 4)
      (fun i h => IsZip h (N + 4) (N + 2) (N + 3) .none ∧ IsTupOf2 h (N + 2) (.ref N) (.ref (N + 1)) ∧ (∃ a1 a2, IsTupOf2 h (N + 3) a1 a2) ∧ St1 N i h ∧ St2 (N + 1) i h) where
  mem := by simp
  obj := fun i h st b hb => by
    obtain ⟨h1, h2, ⟨a1, a2, h3⟩, h4, h5⟩ := st
    have hb' : b = N + 4 ∨ b = N + 2 ∨ b = N + 3 ∨ b = N ∨ b = N + 1 := by simpa using hb
    rcases hb' with rfl | rfl | rfl | rfl | rfl
    · exact ⟨_, h1, fun v q => nomatch q⟩
    · exact ⟨_, h2, fun v q => nomatch q⟩
    · exact ⟨_, h3, fun v q => nomatch q⟩
    · exact dr1.obj _ i h h4
    · exact dr2.obj _ i h h5
  keep := fun i h h' st k => by
    obtain ⟨h1, h2, ⟨a1, a2, h3⟩, h4, h5⟩ := st
    exact ⟨k _ (by simp) _ h1, k _ (by simp) _ h2, ⟨a1, a2, k _ (by simp) _ h3⟩, dr1.keep _ i h h' h4 (fun ob q => k _ (by simp) ob q), dr2.keep _ i h h' h5 (fun ob q => k _ (by simp) ob q)⟩
  item := by
    intro X hP hw hK hc i pins s σ H E I hf st hg
    subst hP hw hK
    obtain ⟨hz, hTI, hTO, hs1, hs2⟩ := st
    obtain ⟨hs, hi⟩ := hg
    have free : ∀ b, b ∈ [N + 4, N + 2, N + 3, N, N + 1] → H b = none := fun b hb => (hf b hb).1
    obtain ⟨fp1, Src1, hfp1, hsrc1, D1⟩ := dr1.drw X rfl rfl rfl hc pins σ H s I hs N (free N (by simp))
    obtain ⟨fp2, Src2, hfp2, hsrc2, D2⟩ := dr2.drw X rfl rfl rfl hc pins σ H s I hs (N + 1) (free (N + 1) (by simp))
    have nin : ∀ (fp : List Addr), (∀ b ∈ fp, b < s.heap.objs.size ∧ H b ≠ none) → ∀ c, H c = none → c ∉ fp := fun fp h c hc m => (h c m).2 hc
    have sep : ZipSep2 (N + 4) (N + 2) (N + 3) N (N + 1) (N :: fp1) ((N + 1) :: fp2) :=
      sep_of N (fun c hc => nin fp1 hfp1 _ (free _ (hc5 c hc))) (fun c hc => nin fp2 hfp2 _ (free _ (hc5 c hc)))
    have W := GoesN.zip2 (elts := elts) (x1 := kk) (pos := tpos) sep D1 D2
    refine W.goes i s _ E hi ⟨hz, hTI, hTO, ⟨hs1, hsrc1⟩, ⟨hs2, hsrc2⟩⟩ fun v h' tk hY st' hk _ => ?_
    obtain ⟨T, xv, yv, rfl, hT, ⟨y, d, ry, hd, hq⟩, ⟨z, d2, rz, hd2, hq2⟩, hTup⟩ := hY
    have I1 : Inv X pins σ (L2.upd H T (.tup [y, z])) { s with heap := h', toks := tk } :=
      I.turnedNew (ch := [N + 4, N + 3, N, N + 1]) hk (fun b hb => hf b (by
        have hb' : b = N + 4 ∨ b = N + 3 ∨ b = N ∨ b = N + 1 := by simpa using hb
        rcases hb' with rfl | rfl | rfl | rfl <;> simp)) hT ⟨by show 2 ≤ sizeLine; decide, _, .cons ry (.cons rz .nil), hTup⟩
    obtain ⟨k1, k2, k3, k4, k5⟩ := st'
    refine ⟨.ref T, _, I1, rfl, ⟨T, _, rfl, I.hok.fresh hT, rfl, y, z, d, d2, rfl, hd, hd2, hq, hq2⟩, ⟨k1, k2, k3, k4.1, k5.1⟩, fun b hb => ?_⟩
    have hlt : b < s.heap.objs.size := by
      have hb' : b = N + 4 ∨ b = N + 2 ∨ b = N + 3 ∨ b = N ∨ b = N + 1 := by simpa using hb
      obtain ⟨a1, a2, hTO'⟩ := hTO
      rcases hb' with rfl | rfl | rfl | rfl | rfl
      · exact Heap.lt_size hz
      · exact Heap.lt_size hTI
      · exact Heap.lt_size hTO'
      · obtain ⟨ob, q, _⟩ := dr1.obj _ i _ hs1
        exact Heap.lt_size q
      · obtain ⟨ob, q, _⟩ := dr2.obj _ i _ hs2
        exact Heap.lt_size q
    rw [upd_ne (Nat.ne_of_lt (Nat.lt_of_lt_of_le hlt hT))]
    exact (hf b hb).1
  done := by
    intro X hP hw hK hc i pins s σ H E I hf st hg
    subst hP hw hK
    obtain ⟨hz, hTI, hTO, hs1, hs2⟩ := st
    obtain ⟨hs, rfl⟩ := hg
    have free : ∀ b, b ∈ [N + 4, N + 2, N + 3, N, N + 1] → H b = none := fun b hb => (hf b hb).1
    obtain ⟨fp1, Src1, hfp1, hsrc1, D1⟩ := dr1.drw X rfl rfl rfl hc pins σ H s I hs N (free N (by simp))
    obtain ⟨fp2, Src2, hfp2, hsrc2, D2⟩ := dr2.drw X rfl rfl rfl hc pins σ H s I hs (N + 1) (free (N + 1) (by simp))
    have nin : ∀ (fp : List Addr), (∀ b ∈ fp, b < s.heap.objs.size ∧ H b ≠ none) → ∀ c, H c = none → c ∉ fp := fun fp h c hc m => (h c m).2 hc
    have sep : ZipSep2 (N + 4) (N + 2) (N + 3) N (N + 1) (N :: fp1) ((N + 1) :: fp2) :=
      sep_of N (fun c hc => nin fp1 hfp1 _ (free _ (hc5 c hc))) (fun c hc => nin fp2 hfp2 _ (free _ (hc5 c hc)))
    have W := GoesN.zip2 (elts := elts) (x1 := kk) (pos := tpos) sep D1 D2
    exact W.stops s _ E ⟨hz, hTI, hTO, ⟨hs1, hsrc1⟩, ⟨hs2, hsrc2⟩⟩ fun h' tk hk _ => I.turnedL (ch := [N + 4, N + 3, N, N + 1]) hk (fun b hb => hf b (by
        have hb' : b = N + 4 ∨ b = N + 3 ∨ b = N ∨ b = N + 1 := by simpa using hb
        rcases hb' with rfl | rfl | rfl | rfl <;> simp))
  self := fun _ _ _ _ _ st h => wpAny_pyIter_zip st.1 h
section
variable {X : Cx} {e e2 : Expr} {a b : Ar} {p pos tpos : Pos} {elts : List Expr} {kk : Nat}
theorem pi_zp (hg : Gl X "zip") (hm : X.mg "zip" = none) (ha : PE X e (tA X.K a)) (hb : PE X e2 (tA X.K b)) (hd : okHd e = true) (hd2 : okHd e2 = true) : PI X (.Tuple elts kk tpos) (.Call (.Name "zip" p) [e, e2] [] pos) (tI X.K (zipI a b)) := by
  have hst2 : starEach [e2] X.env = (false, eval e2 X.env) :: starEach [] X.env := star_cons hd2
  have hst : starEach [e, e2] X.env = (false, eval e X.env) :: starEach [e2] X.env := star_cons hd
  refine ⟨fun pins s σ H R I h => ?_⟩
  obtain ⟨B, ρ, S, items, ρ', Rl, e1, q⟩ := h
  obtain ⟨⟨h1, ρ1⟩, g1, ea⟩ := Option.bind_eq_some_iff.mp e1
  clear e1
  obtain ⟨⟨h2, ρ2⟩, g2, eb⟩ := Option.bind_eq_some_iff.mp ea
  clear ea
  cases h1 with
  | slot i => cases eb
  | dat d =>
  cases h2 with
  | slot i => cases eb
  | dat d2 =>
  obtain ⟨ds, g3, ec⟩ := Option.bind_eq_some_iff.mp eb
  clear eb
  obtain ⟨es, g4, ed⟩ := Option.bind_eq_some_iff.mp ec
  clear ec
  cases ed
  have harg := pa_cons ha (pa_cons hb pa_nil hst2) hst
  refine Call_ (ld_blt I hg hm PyProof.Rows.boot_zip (PyProof.Rows.callWith_type1 (thn (harg.run pos pins s σ H (fun vs H1 => ∃ x y S1, vs = [x, y] ∧ Rel X.K B σ ρ2 H1 S1 ∧ Ext σ ρ ρ2 H S H1 S1 ∧ Dq X.K S1 x d ∧ Dq X.K S1 y d2) I
    ⟨B, ρ, S, _, ρ1, Rl, g1, fun v H1 S1 R1 X1 A1 => ⟨B, ρ1, S1, _, ρ2, R1, g2, fun v2 H2 S2 R2 X2 A2 => ⟨v, v2, S2, rfl, R2, X1.trans X2, dp_mono X2.ss _ _ A1, A2⟩⟩⟩) fun us s1 ⟨vs, H1, I1, r1, x, y, S1, ev, R1, X1, A1, A2⟩ => ?_) hst (noStar (by show (okHd e2 && true) = true; rw [hd2]; rfl))))
  subst ev
  obtain ⟨u, u2, rfl, ru, ru2⟩ := vals2 r1
  obtain ⟨o, St, dr⟩ := dr_of ru A1 g3
  obtain ⟨o2, St2, dr2⟩ := dr_of ru2 A2 g4
  obtain ⟨Hs, Bg, h0⟩ := dr.beg X rfl rfl rfl pins σ H1 s1 I1 R1.sub
  obtain ⟨Hs2, Bg2, h02⟩ := dr2.beg X rfl rfl rfl pins σ H1 s1 I1 R1.sub
  refine zip_begins2 Bg Bg2 h0 h02 fun h' hz hTI hTO hit hit2 _ hk => wpAny_pyIter_zip hz ?_
  have I2 : Inv X pins σ H1 { s1 with heap := h' } := I1.kept (t' := s1.toks) hk
  refine ⟨s1.heap.objs.size + 4, [s1.heap.objs.size + 4, s1.heap.objs.size + 2, s1.heap.objs.size + 3, s1.heap.objs.size, s1.heap.objs.size + 1], _, _, H1, rfl, I2, turn_zp dr dr2 s1.heap.objs.size, ⟨hz, hTI, ⟨_, _, hTO⟩, dr.st0 _ _ hit, dr2.st0 _ _ hit2⟩, fun b hb => ?_, q _ H1 S1 R1 X1 ?_⟩
  · have hle : s1.heap.objs.size ≤ b := by
      have hb' : b = s1.heap.objs.size + 4 ∨ b = s1.heap.objs.size + 2 ∨ b = s1.heap.objs.size + 3 ∨ b = s1.heap.objs.size ∨ b = s1.heap.objs.size + 1 := by simpa using hb
      rcases hb' with rfl | rfl | rfl | rfl | rfl
      · exact Nat.le_add_right _ _
      · exact Nat.le_add_right _ _
      · exact Nat.le_add_right _ _
      · exact Nat.le_refl _
      · exact Nat.le_add_right _ _
    exact I1.fpOk hle (I1.hok.fresh hle)
  · have hl := zipD_len ds es
    rw [← hl]
    refine wd_itP fun i ys _ hf => ?_
    obtain ⟨y, z, d, e, rfl, h1, h2, h3, h4⟩ := hf
    exact ⟨[d, e], zipD_get ds es i d e h1 h2, .cons h3 (.cons h4 .nil)⟩
end
end My

namespace My
open PySem PySem.Spec PyProof.Rows L2

/-! ### slices -/
def cutD (ds : List D) (lo hi : Option Int) : List D := (ds.drop (HT.sIx ds.length 0 lo)).take (HT.sIx ds.length ds.length hi - HT.sIx ds.length 0 lo)
def oSl (lo hi : Option Int) : D → Option RV
  | .lst ds => some (.new (cutD ds lo hi))
  | .tup ds => some (.val (.tup (cutD ds lo hi)))
  | .str z => if sz z.length then some (.val (.str (cutS z lo hi))) else none
  | _ => none
def oRev : D → Option RV
  | .lst ds => some (.new ds.reverse)
  | .tup ds => some (.val (.tup ds.reverse))
  | .str z => if sz z.length then some (.val (.str ⟨z.cps.reverse⟩)) else none
  | _ => none
def partV : Option Ar → En → Option (Option Int × En)
  | none, ρ => some (none, ρ)
  | some a, ρ => (evAr a ρ).bind fun p => (p.1.get p.2).bind fun d => match d with
    | .int i => some (some i, p.2)
    | _ => none
@[simp] def slV (a : Ar) (lo hi : Option Ar) : EvV := fun ρ => (evAr a ρ).bind fun p => (partV lo p.2).bind fun q => (partV hi q.2).bind fun t => (p.1.get t.2).bind fun d => (oSl q.1 t.1 d).bind fun r => some (r, t.2)
@[simp] def revV (a : Ar) : EvV := fun ρ => (evAr a ρ).bind fun p => (p.1.get p.2).bind fun d => (oRev d).bind fun r => some (r, p.2)
theorem cut_dq {K : Fg} {S : Hp} {xs : List V} {ds : List D} (g : DqAll K S xs ds) (lo hi : Option Int) : DqAll K S (cutV xs lo hi) (cutD ds lo hi) := by
  unfold cutV cutD
  rw [g.length]
  exact (g.drop _).take _
theorem cut_all {ds : List D} {lo hi : Option Int} (h : HT.sIx ds.length 0 lo = 0 ∧ HT.sIx ds.length ds.length hi = ds.length) : cutD ds lo hi = ds := by
  unfold cutD
  rw [h.1, h.2]; simp
def PoOk (X : Cx) (e : Option Expr) (o : Option Ar) : Prop := match e, o with
  | none, none => True
  | some e, some a => PE X e (tA X.K a)
  | _, _ => False
def tPO (K : Fg) (o : Option Ar) : TO := fun σ H Q => ∃ B ρ S i ρ', Rel K B σ ρ H S ∧ partV o ρ = some (i, ρ') ∧ ∀ H' S', Rel K B σ ρ' H' S' → Ext σ ρ ρ' H S H' S' → Q i H'
theorem po_ok {X : Cx} {e : Option Expr} {o : Option Ar} (h : PoOk X e o) : PO X e (tPO X.K o) := by
  cases e with
  | none =>
    cases o with
    | none =>
      refine ⟨fun pins s σ H Q I q => ?_⟩
      obtain ⟨B, ρ, S, i, ρ', R, e, q⟩ := q
      cases e
      exact po_none.run pins s σ H Q I (q H S R .refl)
    | some a => exact h.elim
  | some e =>
    cases o with
    | none => exact h.elim
    | some a =>
      refine ⟨fun pins s σ H Q I q => ?_⟩
      obtain ⟨B, ρ, S, i, ρ', R, e1, q⟩ := q
      obtain ⟨⟨h1, ρ1⟩, e2, e3⟩ := Option.bind_eq_some_iff.mp e1
      obtain ⟨d, e4, e5⟩ := Option.bind_eq_some_iff.mp e3
      cases d <;> first | (cases e5; done) | skip
      cases e5
      refine (po_some (te := tA X.K a) h).run pins s σ H Q I ⟨B, ρ, S, h1, ρ1, R, e2, fun v H1 S1 R1 X1 A1 => ⟨_, (rdb_of R1 A1 e4).int', q H1 S1 R1 X1⟩⟩
section
variable {X : Cx} {e : Expr} {lo hi : Option Expr} {a : Ar} {l u : Option Ar} {p2 pos : Pos}
def rSlD (K : Fg) : V → Option Int → Option Int → Hp → VK → Prop := fun x lo hi H Q => ∃ S d r, Same S H ∧ Rdb K S H x d ∧ oSl lo hi d = some r ∧ ∀ v H' S', Grow H S H' S' → RvOk K H H' S' v r → Q v H'
theorem sl_any : SlR X (rSlD X.K) := by
  intro pins s σ H x v vl vu lo hi sl Q I rx hs pl pu ⟨S, d, r, hsub, hd, ho, q⟩
  cases d <;> first | (cases ho; done) | skip
  · rename_i z
    have ho' : (if sz z.length then some (RV.val (.str (cutS z lo hi))) else none) = some r := ho
    split at ho'
    · rename_i hz
      cases ho'
      exact sl_str pins s σ H x v vl vu lo hi sl Q I rx hs pl pu ⟨z, hd.str', sz_le hz, end_val hsub q rfl (.str _)⟩
    · cases ho'
  · cases ho
    obtain ⟨p, xs, e1, g1, g2⟩ := hd.lst' hsub
    exact sl_list pins s σ H x v vl vu lo hi sl Q I rx hs pl pu ⟨p, xs, e1, .inl (.inl g1), end_lst hsub q rfl (cut_dq g2 lo hi)⟩
  · cases ho
    obtain ⟨p, xs, e1, g1, g2, k⟩ := hd.tup' hsub
    refine sl_tupA pins s σ H x v vl vu lo hi sl Q I rx hs pl pu ⟨p, xs, e1, g1, fun z => ?_, fun _ => end_tup hsub q rfl (cut_dq g2 lo hi)⟩
    rw [g2.length] at z
    rw [e1] at k
    exact end_val hsub q (by rw [cut_all z]) k
theorem pe_slV (he : PE X e (tA X.K a)) (hl : PoOk X lo l) (hu : PoOk X hi u) : PE X (.Subscript e (.Slice lo hi none p2) pos) (tV X.K (slV a l u)) := by
  refine pe_imp (pe_slice sl_any he (po_ok hl) (po_ok hu)) fun σ H Q q => ?_
  obtain ⟨B, ρ, S, r, ρ', R, e, q⟩ := q
  obtain ⟨⟨h1, ρ1⟩, e1, ea⟩ := Option.bind_eq_some_iff.mp e
  clear e
  obtain ⟨⟨i, ρ2⟩, e2, eb⟩ := Option.bind_eq_some_iff.mp ea
  clear ea
  obtain ⟨⟨j, ρ3⟩, e3, ec⟩ := Option.bind_eq_some_iff.mp eb
  clear eb
  obtain ⟨d, e4, ed⟩ := Option.bind_eq_some_iff.mp ec
  clear ec
  obtain ⟨r', e5, ee⟩ := Option.bind_eq_some_iff.mp ed
  clear ed
  cases ee
  exact ⟨B, ρ, S, h1, ρ1, R, e1, fun v H1 S1 R1 X1 A1 => ⟨B, ρ1, S1, i, ρ2, R1, e2, fun H2 S2 R2 X2 => ⟨B, ρ2, S2, j, ρ3, R2, e3, fun H3 S3 R3 X3 =>
    ⟨S3, d, r, R3.sub, rdb_of R3 ((A1.mono X2.ss).mono X3.ss) e4, e5, fun v H' S' g k => q v H' S' (R3.grow g) (((X1.trans X2).trans X3).trans (.grow g)) (rvOk_back ((X1.trans X2).trans X3) k)⟩⟩⟩⟩
end
section
variable {prog : Program} {w : World} {A : Around} {E : Value → Shared → Prop} {s : Shared}
theorem applied_rev {sl : Addr} {vl vu vs : Value} {n : Nat} {Q : Int × Int × Nat → Shared → Prop} (hs : s.heap.IsSliceOf sl vl vu vs) (pl : IsPart vl none) (pu : IsPart vu none) (ps : IsPart vs (some (-1)))
    (h : Q ((n : Int) - 1, -1, n) s) : wpAny (model prog w) A (Builtin.Slice.sliceApplied (.ref sl) (pure (n : Int))) Q E s := by
  obtain ⟨ob, h1, _, h3⟩ := id hs
  unfold Builtin.Slice.sliceApplied Builtin.Slice.sliceFields
  refine wpAny_bind (wpAny_bind (wpAny_field h1 h3 (x := vl) rfl (wpAny_bind (wpAny_field h1 h3 (x := vu) rfl (wpAny_bind (wpAny_field h1 h3 (x := vs) rfl (wpAny_pure ?_)))))))
  refine wpAny_bind (HT.slicePart_ ps ?_)
  show wpAny _ _ (if ((-1 : Int) == 0) = true then _ else _) _ _ s
  rw [if_neg (by decide)]
  refine wpAny_bind (HT.slicePart_ pl (wpAny_bind (HT.slicePart_ pu (wpAny_bind (wpAny_pure ?_)))))
  show wpAny _ _ (pure ((Builtin.Slice.sliceAdjust none none (-1) (n : Int)).1, (-1 : Int), Builtin.Slice.slicePlaces (Builtin.Slice.sliceAdjust none none (-1) (n : Int)).1 (Builtin.Slice.sliceAdjust none none (-1) (n : Int)).2 (-1))) _ _ s
  have e1 : Builtin.Slice.sliceAdjust none none (-1) (n : Int) = ((n : Int) - 1, -1) := rfl
  have e2 : Builtin.Slice.slicePlaces ((n : Int) - 1) (-1) (-1) = n := by
    unfold Builtin.Slice.slicePlaces
    rw [if_neg (by decide)]
    by_cases hn : n = 0
    · subst hn; rfl
    · rw [if_pos (by omega)]
      have : ((n : Int) - 1 - -1 - 1) / (- -1) + 1 = (n : Int) := by
        have e : (- -1 : Int) = 1 := by decide
        rw [e, Int.ediv_one]; omega
      rw [this]; omega
  rw [e1]
  show wpAny _ _ (pure ((n : Int) - 1, (-1 : Int), Builtin.Slice.slicePlaces ((n : Int) - 1) (-1) (-1))) _ _ s
  rw [e2]
  exact wpAny_pure h
theorem pick_rev (its : List Value) : ((List.range its.length).filterMap fun (k : Nat) => its.toArray[(((its.length : Nat) : Int) - 1 + (k : Int) * -1).toNat]?).toArray = its.reverse.toArray := by
  congr 1
  have h : ∀ k, k < its.length → its.toArray[(((its.length : Nat) : Int) - 1 + (k : Int) * -1).toNat]? = its.reverse[k]? := fun k hk => by
    have e : (((its.length : Nat) : Int) - 1 + (k : Int) * -1).toNat = its.length - 1 - k := by omega
    rw [e, List.getElem?_toArray, List.getElem?_reverse hk]
  have gen : ∀ (l : List Value) (f : Nat → Option Value) (n : Nat), n ≤ l.length → (∀ k, k < n → f k = l[k]?) → (List.range n).filterMap f = l.take n := by
    intro l f n
    induction n with
    | zero => intro _ _; rfl
    | succ n ih =>
      intro hn hf
      rw [List.range_succ, List.filterMap_append, ih (by omega) (fun k hk => hf k (by omega)), List.take_add_one]
      have hlt : n < l.length := by omega
      simp [hf n (by omega), List.getElem?_eq_getElem hlt]
  rw [gen its.reverse _ its.length (by simp) h]
  rw [List.take_of_length_le (by simp)]
theorem getItem_tuple_rev {t sl : Addr} {its : List Value} {vl vu vs : Value} {Q : Value → Shared → Prop} (ht : IsTup s.heap t its.toArray) (hs : s.heap.IsSliceOf sl vl vu vs) (pl : IsPart vl none) (pu : IsPart vu none) (ps : IsPart vs (some (-1)))
    (h : Q (.ref s.heap.objs.size) { s with heap := s.heap.push { cls := .type "tuple", data := .seq its.reverse.toArray } }) (hsz : its.length ≤ sizeLine) : wpAny (model prog w) A (getItem (.ref t) (.ref sl)) Q E s := by
  have hfit : sizeOk (.seq its.reverse.toArray) := by
    show its.reverse.toArray.size ≤ sizeLine
    simpa using hsz
  obtain ⟨ob, h1, h2, h3⟩ := id hs
  have hTs : s.TypeIs (.ref sl) "slice" := ⟨ob, h1, h2⟩
  unfold getItem
  try with_reducible refine wpAny_holding ?_
  first | refine wpAny_bind (wpAny_pure ?_) | skip
  refine wpAny_bind (wpAny_sequenceKey ht.typeIs (by decide) ?_)
  refine wpAny_bind (wpAny_callSpecial?_slot (name := Str.ofString "__getitem__") ht.typeIs PyProof.Rows.slot_tuple_getitem (wpAny_call_entry PyProof.Rows.slot_tuple_getitem ht.typeIs entry_tuple_getitem ?_ (args_tuple_getitem _ _)))
  show wpAny _ _ (Builtin.Tuple.tupleItemsOf (.ref t) >>= _) _ _ s
  refine wpAny_bind (tupleItemsOf_ ht ?_)
  refine wpAny_bind (wpAny_typeOf hTs ?_)
  rw [if_pos (by decide)]
  have hlen : its.toArray.size = its.length := by simp
  rw [hlen]
  refine wpAny_bind (applied_rev hs pl pu ps ?_)
  show wpAny _ _ (if ((its.length : Int) - 1 == 0 && (-1 : Int) == 1 && its.length == its.length) = true then _ else _) _ _ s
  rw [if_neg (by
    have e : ((-1 : Int) == 1) = false := by decide
    rw [e, Bool.and_false, Bool.false_and]
    exact Bool.false_ne_true), pick_rev]
  first
    | exact wpAny_bind (m := Builtin.Tuple.tupleExact _) (wpAny_newObj_type (wpAny_pure ⟨_, rfl, wpAny_pure h⟩) hfit)
    | exact wpAny_bind (m := Builtin.Tuple.tupleExact _) (wpAny_newObj_type (wpAny_bind (wpAny_pure (wpAny_pure ⟨_, rfl, wpAny_pure h⟩))) hfit)
end
theorem pe_revV {X : Cx} {e : Expr} {a : Ar} {k : Nat} {p1 p2 p3 pos : Pos} (he : PE X e (tA X.K a)) : PE X (.Subscript e (.Slice none none (some (.UnaryOp .USub (.Constant (.int 1) k p1) p2)) p3) pos) (tV X.K (revV a)) := by
  refine ⟨fun pins s σ H Q I q => ?_⟩
  obtain ⟨B, ρ, S, r, ρ', R, e0, q⟩ := q
  obtain ⟨⟨h1, ρ1⟩, e1, ea⟩ := Option.bind_eq_some_iff.mp e0
  clear e0
  obtain ⟨d, e4, ed⟩ := Option.bind_eq_some_iff.mp ea
  clear ea
  obtain ⟨r', e5, ee⟩ := Option.bind_eq_some_iff.mp ed
  clear ed
  cases ee
  refine Subscript_ (thn (he.run pins s σ H (fun x H1 => ∃ S1, Rel X.K B σ ρ1 H1 S1 ∧ Ext σ ρ ρ1 H S H1 S1 ∧ Rdb X.K S1 H1 x d) I ⟨B, ρ, S, h1, ρ1, R, e1, fun v H1 S1 R1 X1 A1 => ⟨S1, R1, X1, rdb_of R1 A1 e4⟩⟩) fun v s1 ⟨x, H1, I1, r1, S1, R1, X1, hd⟩ => ?_)
  have hst : PO X (some (.UnaryOp .USub (.Constant (.int 1) k p1) p2)) (tPart (tUn (rU fun i => .int (-i)) (tC (.int 1)))) := po_some (pe_un un_neg pe_int)
  refine wpAny_Slice (thn (po_none.run pins s1 σ H1 (fun o H2 => o = none ∧ H2 = H1) I1 ⟨rfl, rfl⟩) fun vl s2 ⟨l, H2, I2, pl, el, e2⟩ => ?_)
  subst el e2
  refine thn (po_none.run pins s2 σ H2 (fun o H3 => o = none ∧ H3 = H2) I2 ⟨rfl, rfl⟩) fun vu s3 ⟨u, H3, I3, pu, eu, e3⟩ => ?_
  subst eu e3
  refine thn (hst.run pins s3 σ H3 (fun o H4 => o = some (-1) ∧ H4 = H3) I3 ⟨1, rfl, -1, rfl, rfl, rfl⟩) fun vs s4 ⟨o, H4, I4, ps, eo, e4'⟩ => ?_
  subst eo e4'
  have I5 : Inv X pins σ H4 { s4 with heap := s4.heap.push { cls := .type "slice", data := .fields #[vl, vu, vs] } } := I4.kept (t' := s4.toks) fun b ob q => Heap.get?_push_of_some _ q
  have fin : ∀ v H' S', Grow H4 S1 H' S' → RvOk X.K H4 H' S' v r → Q v H' := fun v H' S' g k => q v H' S' (R1.grow g) (X1.trans (.grow g)) (rvOk_back X1 k)
  show wpAny (model X.prog X.w) X.A (subscriptTail e (.Slice none none (some (.UnaryOp .USub (.Constant (.int 1) k p1) p2)) p3) v (.ref s4.heap.objs.size)) (EP X pins σ Q) X.xe { s4 with heap := s4.heap.push { cls := .type "slice", data := .fields #[vl, vu, vs] } }
  have hsl := Heap.IsSliceOf.new s4.heap vl vu vs
  cases d with
  | non => cases e5
  | bl _ => cases e5
  | int _ => cases e5
  | scr _ => cases e5
  | dic _ _ => cases e5
  | str z =>
    have ho' : (if sz z.length then some (RV.val (.str ⟨z.cps.reverse⟩)) else none) = some r := e5
    split at ho'
    · rename_i hz
      cases ho'
      have ex := hd.str'
      subst ex
      obtain ⟨t, rfl⟩ := r1
      obtain ⟨ls, rfl, hl1⟩ := IsPart.raw pl
      obtain ⟨us, rfl, hu1⟩ := IsPart.raw pu
      obtain ⟨ss, rfl, hs1⟩ := IsPart.raw ps
      refine tail_any (ops := [.str z t, .ref s4.heap.objs.size]) (typeIs_str _ z t) F.slot_str_getitem.lookup ?_ (by with_unfolding_all rfl)
      refine wpAny_getItem_str_slice (l := ls) (u := us) (st := ss) hsl (by rw [hs1]; rfl) ?_
      have hp : slicePicked z ls us ss = (List.range z.cps.size).reverse := by
        unfold slicePicked
        rw [hl1, hu1, hs1]
        show sliceRange ((z.cps.size : Int) - 1) (-1) (-1) = _
        rw [PySem.W.krv_sliceRange, PySem.W.krv_range]
      unfold sliceMade
      rw [hp, hs1, if_neg (by
        have e : (((some (-1 : Int)).getD 1) == 1) = false := by decide
        rw [e, Bool.false_and]; exact Bool.false_ne_true), List.filterMap_reverse, PySem.W.krv_all]
      have er : (⟨(z.cps.toList.reverse).toArray⟩ : Str) = ⟨z.cps.reverse⟩ := by
        congr 1
        apply Array.ext'
        simp
      rw [er]
      refine ⟨?_, .str _, H4, I5.tok _, ⟨_, rfl⟩, end_val R1.sub fin rfl (.str _)⟩
      show z.cps.reverse.size ≤ sizeLine
      rw [Array.size_reverse]; exact sz_le hz
    · cases ho'
  | lst ds =>
    cases e5
    obtain ⟨b, xs, rfl, g1, g2⟩ := hd.lst' R1.sub
    cases r1
    obtain ⟨its, rv, ht, hz⟩ := I5.list (.inl (.inl g1))
    refine tail_any (ops := [.ref b, .ref s4.heap.objs.size]) ht.isList.typeIs (PySem.slot_list_getitem.lookup) ?_ (by with_unfolding_all rfl)
    refine wpAny_getItem_list_slice ht.isList hsl pl pu ps (by decide) ?_ (by rw [List.size_toArray, ← rv.length]; exact hz)
    rw [PySem.W.krv_pick]
    refine ⟨.ref _, _, I5.laid (t' := s4.toks) (o := .lst xs.reverse) (fun b ob q => Heap.get?_push_of_some _ q) (Nat.le_refl _) ?_, rfl, end_lst R1.sub fin rfl g2.reverse _ (I5.hok.fresh (Nat.le_refl _))⟩
    exact ⟨by rw [List.length_reverse]; exact hz, _, 0, rv.reverse, Heap.get?_push_size _ rfl⟩
  | tup ds =>
    cases e5
    obtain ⟨b, xs, rfl, g1, g2, _⟩ := hd.tup' R1.sub
    cases r1
    obtain ⟨its, rv, ht, hz⟩ := I5.tuple g1
    refine tail_any (ops := [.ref b, .ref s4.heap.objs.size]) ht.typeIs (PyProof.Rows.slot_tuple_getitem.lookup) ?_ (by with_unfolding_all rfl)
    refine getItem_tuple_rev ht hsl pl pu ps ?_ (by rw [← rv.length]; exact hz)
    refine ⟨.ref _, _, I5.laid (t' := s4.toks) (o := .tup xs.reverse) (fun b ob q => Heap.get?_push_of_some _ q) (Nat.le_refl _) ?_, rfl, end_tup R1.sub fin rfl g2.reverse _ (I5.hok.fresh (Nat.le_refl _))⟩
    exact ⟨by rw [List.length_reverse]; exact hz, _, rv.reverse, ⟨_, Heap.get?_push_size _ rfl, rfl, 0, rfl⟩⟩
end My

namespace My
open PySem PySem.Spec PyProof.Rows L2

/-! ### kinds -/
inductive Ty | int | bool | str | tuple | list | dict
  deriving DecidableEq
def Ty.id : Ty → String
  | .int => "int" | .bool => "bool" | .str => "str" | .tuple => "tuple" | .list => "list" | .dict => "dict"
def Ty.name : Ty → Str
  | .int => "int" | .bool => "bool" | .str => "str" | .tuple => "tuple" | .list => "list" | .dict => "dict"
def isaD : Ty → D → Option Bool
  | .int, .int _ => some true
  | .int, .bl _ => some true
  | .bool, .bl _ => some true
  | .str, .str _ => some true
  | .tuple, .tup _ => some true
  | .list, .lst _ => some true
  | _, .scr _ => none
  | _, .dic _ _ => none
  | _, _ => some false
def oIsa (T : Ty) : List D → Option RV
  | [d] => (isaD T d).bind fun b => some (.val (.bl b))
  | _ => none
def tyS : D → String
  | .non => "NoneType" | .bl _ => "bool" | .int _ => "int" | .str _ => "str" | .lst _ => "list" | .tup _ => "tuple" | _ => ""
theorem isa_kit (T : Ty) (d : D) (b : Bool) (h : isaD T d = some b) : kitB (tyS d) T.id = some b := by
  cases d with
  | non => show kitB "NoneType" T.id = _; cases T <;> (cases h; decide +kernel)
  | bl _ => show kitB "bool" T.id = _; cases T <;> (cases h; decide +kernel)
  | int _ => show kitB "int" T.id = _; cases T <;> (cases h; decide +kernel)
  | str _ => show kitB "str" T.id = _; cases T <;> (cases h; decide +kernel)
  | lst _ => show kitB "list" T.id = _; cases T <;> (cases h; decide +kernel)
  | tup _ => show kitB "tuple" T.id = _; cases T <;> (cases h; decide +kernel)
  | scr _ => cases T <;> cases h
  | dic _ _ => cases T <;> cases h
theorem ty_dq {K : Fg} {S H : Hp} {v : V} {d : D} {T : Ty} {b : Bool} (hs : Same S H) (q : Rdb K S H v d) (h : isaD T d = some b) : TyX K H v (.type (tyS d)) := by
  cases d with
  | non => rw [q.non']; exact .base .non
  | bl x => rw [q.bl']; exact .base (.bl _)
  | int x => rw [q.int']; exact .base (.int _)
  | str x => rw [q.str']; exact .base (.str _)
  | lst ds =>
    obtain ⟨a, xs, rfl, h1, _⟩ := q.lst' hs
    exact .base (.lst h1)
  | tup ds =>
    rcases q with q | ⟨_, _, _, _, q, _⟩
    · cases q with
      | tup a _ => exact .base (.tup (hs _ _ a))
    · cases q
  | scr _ => cases T <;> cases h
  | dic _ _ => cases T <;> cases h
theorem pe_isa {X : Cx} {e : Expr} {a : Ar} {T : Ty} {p p2 pos : Pos} (hg : Gl X "isinstance") (hm : X.mg "isinstance" = none) (hg2 : Gl X T.name) (hm2 : X.mg T.name = none) (ha : PE X e (tA X.K a)) (hd : okHd e = true) :
    PE X (.Call (.Name "isinstance" p) [e, .Name T.name p2] [] pos) (tV X.K (opC (oIsa T) [a])) := by
  have hT : PE X (.Name T.name p2) (tC (.ty T.id)) := pe_bltn (u := .type T.id) hg2 hm2 (by cases T <;> decide +kernel) rfl (by cases T <;> decide) (by cases T <;> decide)
  have hst : starEach [e, .Name T.name p2] X.env = (false, eval e X.env) :: starEach [.Name T.name p2] X.env := star_cons hd
  refine pe_imp (pe_callB call_isi hg hm PyProof.Rows.boot_isinstance (pa_cons ha (pa_cons hT pa_nil rfl) hst) (by decide) (by decide) hst rfl) fun σ H Q q => ?_
  obtain ⟨B, ρ, S, h1, ρ1, R, e1, q⟩ := op_1 q
  refine ⟨B, ρ, S, h1, ρ1, R, e1, fun v H1 S1 R1 X1 A1 => ?_⟩
  obtain ⟨S2, ds, r, hs, hr, ho, q⟩ := q v H1 S1 R1 X1 A1
  obtain ⟨d, rfl, hd⟩ := rd1 hr
  obtain ⟨b, h2, h3⟩ := Option.bind_eq_some_iff.mp ho
  cases h3
  exact ⟨v, .ty T.id, .type (tyS d), .type T.id, b, rfl, .ty _, ty_dq hs hd h2, kit_ty (isa_kit T d b h2), end_val hs q rfl (.bl _)⟩

/-! ### lists of ints, of bools, of texts -/
def intsD : List D → Option (List Int)
  | [] => some []
  | .int i :: r => (intsD r).bind fun s => some (i :: s)
  | _ => none
def blsD : List D → Option (List Bool)
  | [] => some []
  | .bl i :: r => (blsD r).bind fun s => some (i :: s)
  | _ => none
def strsD : List D → Option (List Str)
  | [] => some []
  | .str i :: r => (strsD r).bind fun s => some (i :: s)
  | _ => none
theorem ints_dq {K : Fg} {S : Hp} : ∀ {xs : List V} {ds : List D} {ns : List Int}, DqAll K S xs ds → intsD ds = some ns → xs = ns.map V.int
  | _, _, _, .nil, h => by cases h; rfl
  | _, _, _, .cons (d := d) a t, h => by
    cases d <;> first | (cases h; done) | skip
    rename_i i
    obtain ⟨s, h1, h2⟩ := Option.bind_eq_some_iff.mp (show ((intsD _).bind fun s => some (i :: s)) = some _ from h)
    cases h2
    cases a
    rw [ints_dq t h1]; rfl
theorem bls_dq {K : Fg} {S : Hp} : ∀ {xs : List V} {ds : List D} {ns : List Bool}, DqAll K S xs ds → blsD ds = some ns → xs = ns.map V.bl
  | _, _, _, .nil, h => by cases h; rfl
  | _, _, _, .cons (d := d) a t, h => by
    cases d <;> first | (cases h; done) | skip
    rename_i i
    obtain ⟨s, h1, h2⟩ := Option.bind_eq_some_iff.mp (show ((blsD _).bind fun s => some (i :: s)) = some _ from h)
    cases h2
    cases a
    rw [bls_dq t h1]; rfl
theorem strs_dq {K : Fg} {S : Hp} : ∀ {xs : List V} {ds : List D} {ns : List Str}, DqAll K S xs ds → strsD ds = some ns → xs = ns.map V.str
  | _, _, _, .nil, h => by cases h; rfl
  | _, _, _, .cons (d := d) a t, h => by
    cases d <;> first | (cases h; done) | skip
    rename_i i
    obtain ⟨s, h1, h2⟩ := Option.bind_eq_some_iff.mp (show ((strsD _).bind fun s => some (i :: s)) = some _ from h)
    cases h2
    cases a
    rw [strs_dq t h1]; rfl
theorem dqStrs {K : Fg} {S : Hp} : ∀ ns : List Str, DqAll K S (ns.map V.str) (ns.map D.str)
  | [] => .nil
  | n :: ns => .cons (.str n) (dqStrs ns)
def oAll : List D → Option RV
  | [.lst ds] => (blsD ds).bind fun bs => some (.val (.bl (bs.all id)))
  | _ => none
def oAny : List D → Option RV
  | [.lst ds] => (blsD ds).bind fun bs => some (.val (.bl (bs.any id)))
  | _ => none
def oSum : List D → Option RV
  | [.lst ds] => (intsD ds).bind fun ns => some (.val (.int ns.sum))
  | [.tup ds] => (intsD ds).bind fun ns => some (.val (.int ns.sum))
  | _ => none
def maxL : List Int → Int
  | [] => 0
  | [a] => a
  | a :: r => if maxL r ≤ a then a else maxL r
def minL : List Int → Int
  | [] => 0
  | [a] => a
  | a :: r => if a ≤ minL r then a else minL r
def oMax : List D → Option RV
  | [.int i, .int j] => some (.val (.int (if j > i then j else i)))
  | [.lst ds] => (intsD ds).bind fun ns => if decide (0 < ns.length) then some (.val (.int (maxL ns))) else none
  | [.tup ds] => (intsD ds).bind fun ns => if decide (0 < ns.length) then some (.val (.int (maxL ns))) else none
  | _ => none
/-- tuples of numbers, and the first of the least of them -/
def itupsD : List D → Option (List (List Int))
  | [] => some []
  | d :: r => match d with
    | .tup xs => (intsD xs).bind fun a => (itupsD r).bind fun s => some (a :: s)
    | _ => none
def lexI : List Int → List Int → Bool
  | [], [] => false
  | [], _ :: _ => true
  | _ :: _, [] => false
  | x :: a, y :: b => if x = y then lexI a b else decide (x < y)
def minT : List (List Int) → List Int
  | [] => []
  | x :: r => r.foldl (fun a y => if lexI y a = true then y else a) x
def oMin : List D → Option RV
  | [.int i, .int j] => some (.val (.int (if j < i then j else i)))
  | [.lst ds] => match intsD ds with
    | some ns => if decide (0 < ns.length) then some (.val (.int (minL ns))) else none
    | none => (itupsD ds).bind fun L => if decide (0 < L.length) then some (.val (.tup ((minT L).map D.int))) else none
  | _ => none
theorem ints_eq : ∀ {ds : List D} {ns : List Int}, intsD ds = some ns → ds = ns.map D.int
  | [], _, h => by cases h; rfl
  | d :: ds, _, h => by
    cases d <;> first | (cases h; done) | skip
    rename_i i
    obtain ⟨s, h1, h2⟩ := Option.bind_eq_some_iff.mp (show ((intsD ds).bind fun s => some (i :: s)) = some _ from h)
    cases h2
    rw [ints_eq h1]; rfl
theorem itups_eq : ∀ {ds : List D} {L : List (List Int)}, itupsD ds = some L → ds = L.map fun a => D.tup (a.map D.int)
  | [], _, h => by cases h; rfl
  | d :: ds, _, h => by
    cases d <;> first | (cases h; done) | skip
    rename_i xs
    obtain ⟨a, h1, h2⟩ := Option.bind_eq_some_iff.mp (show ((intsD xs).bind fun a => (itupsD ds).bind fun s => some (a :: s)) = some _ from h)
    obtain ⟨s, h3, h4⟩ := Option.bind_eq_some_iff.mp h2
    cases h4
    rw [itups_eq h3, ints_eq h1]; rfl
theorem itups_pln : ∀ L : List (List Int), plnDs (L.map fun a => D.tup (a.map D.int)) = true
  | [] => rfl
  | a :: L => by
    have h : ∀ ns : List Int, plnDs (ns.map D.int) = true := by
      intro ns
      induction ns with
      | nil => rfl
      | cons n ns ih => exact ih
    show (plnDs (a.map D.int) && plnDs _) = true
    rw [h, itups_pln L]; rfl
theorem toPys_ints : ∀ a : List Int, toPys (a.map D.int) = a.map PySem.W.Datum.toD
  | [] => rfl
  | x :: a => by
    show PyData.int x :: toPys (a.map D.int) = _
    rw [toPys_ints a]; rfl
theorem toPys_tups : ∀ L : List (List Int), toPys (L.map fun a => D.tup (a.map D.int)) = (L.map PySem.W.Tup.mk).map PySem.W.Datum.toD
  | [] => rfl
  | a :: L => by
    show PyData.tuple (toPys (a.map D.int)) :: toPys _ = PyData.tuple (a.map PySem.W.Datum.toD) :: _
    rw [toPys_ints, toPys_tups L]
theorem lexI_listLt : ∀ a b : List Int, PySem.W.listLt a b = lexI a b
  | [], [] => rfl
  | [], _ :: _ => rfl
  | _ :: _, [] => rfl
  | x :: a, y :: b => by
    show (if x = y then PySem.W.listLt a b else decide (x < y)) = if x = y then lexI a b else decide (x < y)
    rw [lexI_listLt a b]
theorem minOf_minT : ∀ (r : List (List Int)) (x : List Int), PySem.W.minOf (PySem.W.Tup.mk x) (r.map PySem.W.Tup.mk) = PySem.W.Tup.mk (minT (x :: r))
  | [], _ => rfl
  | y :: r, x => by
    have ih := minOf_minT r (if lexI y x = true then y else x)
    have e : (if PySem.W.DatumOrd.lt (PySem.W.Tup.mk y) (PySem.W.Tup.mk x) = true then PySem.W.Tup.mk y else PySem.W.Tup.mk x) = PySem.W.Tup.mk (if lexI y x = true then y else x) := by
      show (if PySem.W.listLt y x = true then PySem.W.Tup.mk y else PySem.W.Tup.mk x) = _
      rw [lexI_listLt]
      split <;> rfl
    show PySem.W.minOf (if PySem.W.DatumOrd.lt (PySem.W.Tup.mk y) (PySem.W.Tup.mk x) = true then PySem.W.Tup.mk y else PySem.W.Tup.mk x) (r.map PySem.W.Tup.mk) = _
    rw [e, ih]
    rfl
theorem toD_tup_inj {a b : List Int} (h : PySem.W.Datum.toD (PySem.W.Tup.mk a) = PySem.W.Datum.toD (PySem.W.Tup.mk b)) : a = b := by
  have h1 := PySem.W.Datum.eqv (PySem.W.Tup.mk a) (PySem.W.Tup.mk b)
  have h2 := PySem.W.Datum.eqv (PySem.W.Tup.mk b) (PySem.W.Tup.mk b)
  rw [h, h2, decide_eq_true rfl] at h1
  have h3 := of_decide_eq_true h1.symm
  cases h3
  rfl
theorem maxL_spec : ∀ (l : List Int), l ≠ [] → maxL l ∈ l ∧ ∀ y ∈ l, y ≤ maxL l
  | [], h => absurd rfl h
  | [a], _ => ⟨by simp [maxL], fun y hy => by simp at hy; simp [maxL, hy]⟩
  | a :: b :: r, _ => by
    obtain ⟨h1, h2⟩ := maxL_spec (b :: r) (by simp)
    show (if maxL (b :: r) ≤ a then a else maxL (b :: r)) ∈ _ ∧ ∀ y ∈ _, y ≤ (if maxL (b :: r) ≤ a then a else maxL (b :: r))
    split
    · rename_i h
      refine ⟨by simp, fun y hy => ?_⟩
      rcases List.mem_cons.mp hy with rfl | hy
      · exact Int.le_refl _
      · have := h2 y hy; omega
    · rename_i h
      refine ⟨List.mem_cons_of_mem _ h1, fun y hy => ?_⟩
      rcases List.mem_cons.mp hy with rfl | hy
      · omega
      · exact h2 y hy
theorem minL_spec : ∀ (l : List Int), l ≠ [] → minL l ∈ l ∧ ∀ y ∈ l, minL l ≤ y
  | [], h => absurd rfl h
  | [a], _ => ⟨by simp [minL], fun y hy => by simp at hy; simp [minL, hy]⟩
  | a :: b :: r, _ => by
    obtain ⟨h1, h2⟩ := minL_spec (b :: r) (by simp)
    show (if a ≤ minL (b :: r) then a else minL (b :: r)) ∈ _ ∧ ∀ y ∈ _, (if a ≤ minL (b :: r) then a else minL (b :: r)) ≤ y
    split
    · rename_i h
      refine ⟨by simp, fun y hy => ?_⟩
      rcases List.mem_cons.mp hy with rfl | hy
      · exact Int.le_refl _
      · have := h2 y hy; omega
    · rename_i h
      refine ⟨List.mem_cons_of_mem _ h1, fun y hy => ?_⟩
      rcases List.mem_cons.mp hy with rfl | hy
      · omega
      · exact h2 y hy
section
variable {X : Cx}
theorem cr_all' (hc : X.calm = true) : CallR X (.builtin "all") (rOp X.K oAll) := by
  intro pins s σ H xs us Q I rv ⟨S, ds, r, hs, hr, ho, q⟩
  unfold oAll at ho
  split at ho
  · rename_i es
    obtain ⟨bs, h1, h2⟩ := Option.bind_eq_some_iff.mp ho
    cases h2
    obtain ⟨x, rfl, hd⟩ := hr.one
    obtain ⟨a, vs, e1, g1, g2⟩ := hd.lst' hs
    exact cr_all hc pins s σ H _ us Q I rv ⟨a, bs, by rw [e1], by rw [← bls_dq g2 h1]; exact .inl (.inl g1), end_val hs q rfl (.bl _)⟩
  · cases ho
theorem cr_any' (hc : X.calm = true) : CallR X (.builtin "any") (rOp X.K oAny) := by
  intro pins s σ H xs us Q I rv ⟨S, ds, r, hs, hr, ho, q⟩
  unfold oAny at ho
  split at ho
  · rename_i es
    obtain ⟨bs, h1, h2⟩ := Option.bind_eq_some_iff.mp ho
    cases h2
    obtain ⟨x, rfl, hd⟩ := hr.one
    obtain ⟨a, vs, e1, g1, g2⟩ := hd.lst' hs
    exact cr_any hc pins s σ H _ us Q I rv ⟨a, bs, by rw [e1], by rw [← bls_dq g2 h1]; exact .inl (.inl g1), end_val hs q rfl (.bl _)⟩
  · cases ho
theorem cr_sum' (hc : X.calm = true) : CallR X (.builtin "sum") (rOp X.K oSum) := by
  intro pins s σ H xs us Q I rv ⟨S, ds, r, hs, hr, ho, q⟩
  unfold oSum at ho
  split at ho
  · rename_i es
    obtain ⟨bs, h1, h2⟩ := Option.bind_eq_some_iff.mp ho
    cases h2
    obtain ⟨x, rfl, hd⟩ := hr.one
    obtain ⟨a, vs, e1, g1, g2⟩ := hd.lst' hs
    exact cr_sum hc pins s σ H _ us Q I rv ⟨a, bs, by rw [e1], by rw [← ints_dq g2 h1]; exact .inl (.inl g1), end_val hs q rfl (.int _)⟩
  · rename_i es
    obtain ⟨ks, h1, h2⟩ := Option.bind_eq_some_iff.mp ho
    cases h2
    obtain ⟨x, rfl, hd⟩ := hr.one
    obtain ⟨a, vs, e1, g1, g2, _⟩ := hd.tup' hs
    subst e1
    have g3 := ints_dq g2 h1
    subst g3
    rw [Vals.ref1 rv]
    obtain ⟨its, rv2, tl, _⟩ := I.tuple g1
    have iv : PyProof.Rows.IntsAre its ks := rv2.ints
    obtain ⟨ws, ew⟩ := iv.allInts.items
    have en : numsOf (intItems ws).toList = ks := by rw [← ew]; exact iv.numsOf
    rw [nums_intItems] at en
    rw [ew] at tl
    refine PySem.W.ktm_sumG (I.ok.hd hc) tl fun h' tk t' hk => ?_
    rw [preSum_eq, List.take_of_length_le (by simp), en]
    exact ⟨.int _, H, I.kept hk, ⟨_, rfl⟩, end_val hs q rfl (.int _)⟩
  · cases ho
theorem fold_max : ∀ (l : List Int) (n : Int), (l.foldl max n ∈ n :: l) ∧ ∀ y ∈ n :: l, y ≤ l.foldl max n
  | [], n => ⟨by simp, fun y hy => by simp at hy; simp [hy]⟩
  | k :: r, n => by
    obtain ⟨h1, h2⟩ := fold_max r (max n k)
    refine ⟨?_, fun y hy => ?_⟩
    · rcases List.mem_cons.mp h1 with e | h1
      · rw [List.foldl_cons, e]
        rcases Int.le_total n k with c | c
        · rw [Int.max_eq_right c]; simp
        · rw [Int.max_eq_left c]; simp
      · rw [List.foldl_cons]
        exact List.mem_cons_of_mem _ (List.mem_cons_of_mem _ h1)
    · rw [List.foldl_cons]
      have h3 := h2 (max n k) (by simp)
      rcases List.mem_cons.mp hy with rfl | hy
      · exact Int.le_trans (Int.le_max_left _ _) h3
      · rcases List.mem_cons.mp hy with rfl | hy
        · exact Int.le_trans (Int.le_max_right _ _) h3
        · exact h2 y (List.mem_cons_of_mem _ hy)
theorem fold_maxL (l : List Int) (n : Int) : l.foldl max n = maxL (n :: l) := by
  obtain ⟨h1, h2⟩ := fold_max l n
  obtain ⟨k1, k2⟩ := maxL_spec (n :: l) (by simp)
  have := h2 _ k1
  have := k2 _ h1
  omega
theorem cr_max' (hc : X.calm = true) (hu : X.A.units + 65 < cLine) : CallR X (.builtin "max") (rOp X.K oMax) := by
  intro pins s σ H xs us Q I rv ⟨S, ds, r, hs, hr, ho, q⟩
  unfold oMax at ho
  split at ho
  · cases ho
    cases hr with
    | cons r1 t =>
      cases t with
      | cons r2 t =>
        cases t
        exact call_max2 hc pins s σ H _ us Q I rv ⟨_, _, by rw [r1.int', r2.int'], end_val hs q rfl (.int _)⟩
  · rename_i es
    obtain ⟨ns, h1, h2⟩ := Option.bind_eq_some_iff.mp ho
    split at h2
    · rename_i hz
      cases h2
      have hz' : 0 < ns.length := of_decide_eq_true hz
      obtain ⟨x, rfl, hd⟩ := hr.one
      obtain ⟨a, vs, e1, g1, g2⟩ := hd.lst' hs
      refine cr_max hc pins s σ H _ us Q I rv ⟨a, ns, by rw [e1], by rw [← ints_dq g2 h1]; exact .inl (.inl g1), hz', fun m m1 m2 => ?_⟩
      obtain ⟨k1, k2⟩ := maxL_spec ns (by rintro rfl; simp at hz')
      have e : m = maxL ns := by
        have a1 := m2 _ k1
        have a2 := k2 _ m1
        omega
      rw [e]
      exact end_val hs q rfl (.int _)
    · cases h2
  · rename_i es
    obtain ⟨ns, h1, h2⟩ := Option.bind_eq_some_iff.mp ho
    split at h2
    · rename_i hz
      cases h2
      have hz' : 0 < ns.length := of_decide_eq_true hz
      obtain ⟨x, rfl, hd⟩ := hr.one
      obtain ⟨a, vs, e1, g1, g2, _⟩ := hd.tup' hs
      subst e1
      have g3 := ints_dq g2 h1
      subst g3
      rw [Vals.ref1 rv]
      obtain ⟨its, rv2, hl, _⟩ := I.tuple g1
      cases ns with
      | nil => exact absurd hz' (by simp)
      | cons n ns =>
        have hi : PyProof.Rows.IntsAre its (n :: ns) := rv2.ints
        have hdep : PyData.depthAll (PyData.int n :: ns.map PyData.int) = 0 := by
          have : ∀ l : List Int, PyData.depthAll (l.map PyData.int) = 0 := by
            intro l
            induction l with
            | nil => rfl
            | cons a l ih =>
              show max (PyData.depth (.int a)) (PyData.depthAll (l.map PyData.int)) = 0
              rw [ih]; rfl
          exact this (n :: ns)
        refine PySem.W.max_tuple_data (I.ok.hd hc) hl (x := .int n) (xs := ns.map .int) (IntsAre.reads s.heap hi) ⟨fun x hx y hy => ?_, fun x hx => ?_⟩ (by rw [hdep]; omega) fun i v h' tk bs hv r hk => ?_
        · obtain ⟨i, _, rfl⟩ := List.mem_map.mp (show x ∈ (n :: ns).map PyData.int from hx)
          obtain ⟨j, _, rfl⟩ := List.mem_map.mp (show y ∈ (n :: ns).map PyData.int from hy)
          rfl
        · obtain ⟨i, _, rfl⟩ := List.mem_map.mp (show x ∈ (n :: ns).map PyData.int from hx)
          exact fun e => nomatch e
        · rw [PySem.W.maxD_ints, fold_maxL] at r
          obtain ⟨t, rfl, _⟩ := PyProof.Rows.reads_int_inv r
          exact ⟨.int _, H, I.kept hk, ⟨_, rfl⟩, end_val hs q rfl (.int _)⟩
    · cases h2
  · cases ho
theorem cr_min' (hc : X.calm = true) (hu : X.A.units + 65 < cLine) : CallR X (.builtin "min") (rOp X.K oMin) := by
  intro pins s σ H xs us Q I rv ⟨S, ds, r, hs, hr, ho, q⟩
  unfold oMin at ho
  split at ho
  · cases ho
    cases hr with
    | cons r1 t =>
      cases t with
      | cons r2 t =>
        cases t
        exact call_min2 hc pins s σ H _ us Q I rv ⟨_, _, by rw [r1.int', r2.int'], end_val hs q rfl (.int _)⟩
  · rename_i es
    obtain ⟨x, rfl, hd⟩ := hr.one
    obtain ⟨a, vs, e1, g1, g2⟩ := hd.lst' hs
    split at ho
    · rename_i ns h1
      split at ho
      · rename_i hz
        cases ho
        have hz' : 0 < ns.length := of_decide_eq_true hz
        refine cr_min hc pins s σ H _ us Q I rv ⟨a, ns, by rw [e1], by rw [← ints_dq g2 h1]; exact .inl (.inl g1), hz', fun m m1 m2 => ?_⟩
        obtain ⟨k1, k2⟩ := minL_spec ns (by rintro rfl; simp at hz')
        have e : m = minL ns := by
          have a1 := m2 _ k1
          have a2 := k2 _ m1
          omega
        rw [e]
        exact end_val hs q rfl (.int _)
      · cases ho
    · obtain ⟨L, h1, h2⟩ := Option.bind_eq_some_iff.mp ho
      split at h2
      · rename_i hz
        cases h2
        have hz' : 0 < L.length := of_decide_eq_true hz
        have eds := itups_eq h1
        subst eds
        subst e1
        rw [Vals.ref1 rv]
        obtain ⟨its, rv2, hl, _⟩ := I.list (.inl (.inl g1))
        obtain ⟨as, hra⟩ := Dp.readsAll I _ vs its (dps_of _ vs (itups_pln L) (dpAll_mono hs _ vs g2)) rv2
        rw [toPys_tups] at hra
        cases L with
        | nil => exact absurd hz' (by simp)
        | cons l0 L0 =>
          refine PySem.W.min_list_datum (x := PySem.W.Tup.mk l0) (xs := L0.map PySem.W.Tup.mk) (I.ok.hd hc) hl.isList ⟨as, by simpa using hra⟩ (show X.A.units + 1 + 1 < cLine by omega) fun i u h' tk hiu hold hk => ?_
          have hiu' : its[i]? = some u := by simpa using hiu
          rw [minOf_minT] at hold
          have hI := I.kept (t' := tk) hk
          have hilt : i < vs.length := by
            have h1 := (List.getElem?_eq_some_iff.mp hiu').1
            rw [← rv2.length] at h1
            exact h1
          have hy1 : vs[i]? = some vs[i] := List.getElem?_eq_getElem hilt
          obtain ⟨u', hu1, hy2⟩ := rv2.get hy1
          have hy1 := hy1
          rw [hiu'] at hu1
          cases hu1
          generalize vs[i] = y at hy1 hy2
          obtain ⟨d, hd1, hd2⟩ := g2.getV hy1
          rw [List.getElem?_map] at hd1
          obtain ⟨b, hb, rfl⟩ := Option.map_eq_some_iff.mp hd1
          obtain ⟨bs, hb1⟩ := hold
          have hpl : plnD (.tup (b.map D.int)) = true := by
            have := itups_pln [b]
            simpa [plnDs] using this
          obtain ⟨cs, hb2⟩ := Dp.reads hI _ y u (dp_of _ y hpl (dp_mono hs _ y hd2)) hy2
          have e3 : toPy (.tup (b.map D.int)) = PySem.W.Datum.toD (PySem.W.Tup.mk b) := by
            show PyData.tuple (toPys (b.map D.int)) = _
            rw [toPys_ints]; rfl
          have e4 := (PySem.Reads.unique hb2 _ _ hb1).1
          rw [e3] at e4
          have e5 := toD_tup_inj e4
          rw [e5] at hd2
          exact ⟨y, H, hI, hy2, end_val hs q rfl hd2⟩
      · cases h2
  · cases ho
end
end My

namespace My
open PySem PySem.Spec PyProof.Rows L2

/-! ### sorted -/
def insB {α : Type} (lt : α → α → Bool) (a : α) : List α → List α
  | [] => [a]
  | b :: r => if lt b a then b :: insB lt a r else a :: b :: r
def srtB {α : Type} (lt : α → α → Bool) : List α → List α
  | [] => []
  | a :: r => insB lt a (srtB lt r)
theorem insB_perm {α : Type} (lt : α → α → Bool) (a : α) : ∀ l, (insB lt a l).Perm (a :: l)
  | [] => .refl _
  | b :: r => by
    unfold insB
    split
    · exact ((insB_perm lt a r).cons b).trans (.swap a b r)
    · exact .refl _
theorem srtB_perm {α : Type} (lt : α → α → Bool) : ∀ l, (srtB lt l).Perm l
  | [] => .refl _
  | a :: r => (insB_perm lt a _).trans ((srtB_perm lt r).cons a)
theorem insB_srt {α : Type} {lt : α → α → Bool} (asy : ∀ x y, lt x y = true → lt y x = false) (tr : ∀ x y z, lt y x = false → lt z y = false → lt z x = false) (a : α) :
    ∀ l, l.Pairwise (fun x y => lt y x = false) → (insB lt a l).Pairwise (fun x y => lt y x = false)
  | [], _ => .cons (fun _ h => nomatch h) .nil
  | b :: r, h => by
    cases h with
    | cons h1 h2 =>
    unfold insB
    split
    · rename_i hb
      refine .cons (fun y hy => ?_) (insB_srt asy tr a r h2)
      rcases List.mem_cons.mp ((insB_perm lt a r).mem_iff.mp hy) with rfl | hy
      · exact asy _ _ hb
      · exact h1 y hy
    · rename_i hb
      have hb' : lt b a = false := by simpa using hb
      refine .cons (fun y hy => ?_) (.cons h1 h2)
      rcases List.mem_cons.mp hy with rfl | hy
      · exact hb'
      · exact tr _ _ _ hb' (h1 y hy)
theorem srtB_srt {α : Type} {lt : α → α → Bool} (asy : ∀ x y, lt x y = true → lt y x = false) (tr : ∀ x y z, lt y x = false → lt z y = false → lt z x = false) :
    ∀ l, (srtB lt l).Pairwise (fun x y => lt y x = false)
  | [] => .nil
  | a :: r => insB_srt asy tr a _ (srtB_srt asy tr r)
def ltI (x y : Int) : Bool := decide (x < y)
def srtI (l : List Int) : List Int := srtB ltI l
theorem srtI_perm (l : List Int) : (srtI l).Perm l := srtB_perm _ l
theorem srtI_srt (l : List Int) : (srtI l).Pairwise (· ≤ ·) :=
  (srtB_srt (lt := ltI) (fun x y h => by simp [ltI] at *; omega) (fun x y z h1 h2 => by simp [ltI] at *; omega) l).imp fun {x y} h => by simpa [ltI] using h
theorem srtI_only {l k : List Int} (hp : k.Perm l) (hs : k.Pairwise (· ≤ ·)) : k = srtI l :=
  List.Perm.eq_of_pairwise (fun x y _ _ h1 h2 => Int.le_antisymm h1 h2) hs (srtI_srt l) (hp.trans (srtI_perm l).symm)
theorem ltCps_asym : ∀ a b : List Nat, ltCps a b = true → ltCps b a = false
  | [], [], h => by cases h
  | [], _ :: _, _ => rfl
  | _ :: _, [], h => by cases h
  | a :: r, b :: t, h => by
    unfold ltCps at *
    simp only [Bool.or_eq_true, Bool.and_eq_true, decide_eq_true_eq, beq_iff_eq, Bool.or_eq_false_iff, Bool.and_eq_false_iff, decide_eq_false_iff_not, beq_eq_false_iff_ne] at *
    rcases h with h | ⟨h1, h2⟩
    · exact ⟨by omega, .inl (by omega)⟩
    · exact ⟨by omega, .inr (ltCps_asym r t h2)⟩
theorem ltCps_tr : ∀ a b c : List Nat, ltCps b a = false → ltCps c b = false → ltCps c a = false
  | [], _, [], _, _ => rfl
  | [], [], _ :: _, _, _ => rfl
  | [], _ :: _, _ :: _, _, _ => rfl
  | _ :: _, [], _, h, _ => by cases h
  | _ :: _, _ :: _, [], _, h => by cases h
  | a :: r, b :: t, c :: u, h1, h2 => by
    unfold ltCps at *
    simp only [Bool.or_eq_false_iff, Bool.and_eq_false_iff, decide_eq_false_iff_not, beq_eq_false_iff_ne] at *
    obtain ⟨h1, h3⟩ := h1
    obtain ⟨h2, h4⟩ := h2
    refine ⟨by omega, ?_⟩
    by_cases e : c = a
    · subst e
      have e2 : b = c := by omega
      subst e2
      rcases h3 with h3 | h3
      · exact absurd rfl h3
      · rcases h4 with h4 | h4
        · exact absurd rfl h4
        · exact .inr (ltCps_tr r t u h3 h4)
    · exact .inl e
theorem ltCps_anti : ∀ a b : List Nat, ltCps a b = false → ltCps b a = false → a = b
  | [], [], _, _ => rfl
  | [], _ :: _, h, _ => by cases h
  | _ :: _, [], _, h => by cases h
  | a :: r, b :: t, h1, h2 => by
    unfold ltCps at *
    simp only [Bool.or_eq_false_iff, Bool.and_eq_false_iff, decide_eq_false_iff_not, beq_eq_false_iff_ne] at *
    have e : a = b := by omega
    subst e
    rcases h1.2 with h | h
    · exact absurd rfl h
    · rcases h2.2 with h' | h'
      · exact absurd rfl h'
      · rw [ltCps_anti r t h h']
def ltT (x y : Str) : Bool := ltCps x.cps.toList y.cps.toList
def srtT (l : List Str) : List Str := srtB ltT l
theorem srtT_perm (l : List Str) : (srtT l).Perm l := srtB_perm _ l
theorem srtT_srt (l : List Str) : (srtT l).Pairwise (fun x y => ltT y x = false) := srtB_srt (lt := ltT) (fun x y h => ltCps_asym x.cps.toList y.cps.toList h) (fun x y z h1 h2 => ltCps_tr x.cps.toList y.cps.toList z.cps.toList h1 h2) l
theorem risingS_pw : ∀ (l : List Str) (p : Str), risingS p l = true → (p :: l).Pairwise (fun x y => ltT y x = false)
  | [], p, _ => .cons (fun _ h => nomatch h) .nil
  | x :: r, p, h => by
    have h := Bool.and_eq_true_iff.mp (show (!ltCps x.cps.toList p.cps.toList && risingS x r) = true from h)
    have ih := risingS_pw r x h.2
    have hx : ltT x p = false := by simpa [ltT] using h.1
    refine .cons (fun y hy => ?_) ih
    rcases List.mem_cons.mp hy with rfl | hy
    · exact hx
    · cases ih with
      | cons h1 _ => exact ltCps_tr p.cps.toList x.cps.toList y.cps.toList hx (h1 y hy)
theorem sortedS_pw : ∀ (l : List Str), sortedS l = true → l.Pairwise (fun x y => ltT y x = false)
  | [], _ => .nil
  | p :: l, h => risingS_pw l p h
theorem srtT_only {l k : List Str} (hp : k.Perm l) (hs : sortedS k = true) : k = srtT l :=
  List.Perm.eq_of_pairwise (fun x y _ _ h1 h2 => by
    have e := ltCps_anti x.cps.toList y.cps.toList h2 h1
    cases x; cases y
    simpa using e) (sortedS_pw k hs) (srtT_srt l) (hp.trans (srtT_perm l).symm)
def oSorted : List D → Option RV
  | [.lst ds] => match intsD ds with
    | some ns => some (.new ((srtI ns).map .int))
    | none => (strsD ds).bind fun ss => if decide (ss.length < 64) then some (.new ((srtT ss).map .str)) else none
  | [.tup ds] => (intsD ds).bind fun ns => some (.new ((srtI ns).map .int))
  | _ => none
theorem objOk_some {P : Program} {w : World} {H : Hp} {h : Heap} {a : Addr} {o : HO} (x : ObjOk P w H h a o) : ∃ u, h.get? a = some u := by
  cases o with
  | lst xs => obtain ⟨_, _, _, _, e⟩ := x; exact ⟨_, e⟩
  | tup xs => obtain ⟨_, _, _, _, e, _⟩ := x; exact ⟨_, e⟩
  | dK kvs => obtain ⟨_, _, _, _, o, _, _, e, _⟩ := x; exact ⟨_, e⟩
  | dT kvs => obtain ⟨_, _, _, _, o, _, _, e, _⟩ := x; exact ⟨_, e⟩
  | set S n => obtain ⟨o, _, _, _, e, _⟩ := x; exact ⟨_, e⟩
  | ins C dx fs => obtain ⟨_, _, _, e, _⟩ := x; exact ⟨_, e⟩
  | own y => exact x
  | xd fs => obtain ⟨_, ⟨_, _, _, e, _⟩, _⟩ := x; exact ⟨_, e⟩
  | rng lo hi => obtain ⟨_, _, _, e⟩ := x; exact ⟨_, e⟩
  | frz ob u => obtain ⟨e, _⟩ := x; exact ⟨_, e⟩
  | tbl ps => exact ⟨_, (show h.get? a = some _ from x)⟩
  | met f y => exact ⟨_, (show h.get? a = some _ from x)⟩
  | ext φ => obtain ⟨_, e, _⟩ := x; exact e
theorem hok_none {P : Program} {w : World} {H : Hp} {h : Heap} {a : Addr} (I : HOk P w H h) (n : h.get? a = none) : H a = none := by
  cases q : H a with
  | none => rfl
  | some o =>
    obtain ⟨u, e⟩ := objOk_some (I a o q)
    rw [n] at e; cases e
section
variable {prog : Program} {w : World} {A : Around} {E : Value → Shared → Prop} {s : Shared}
/-- sorted over a tuple of ints -/
theorem sorted_tupI {l : Addr} {vs : List Value} {ns : List Int} {Q : Value → Shared → Prop} (hl : s.heap.IsTuple l vs.toArray) (hz : vs.length ≤ sizeLine) (hi : IntsAre vs ns)
    (h : ∀ (h' : Heap) (out : List Value) (p : Addr) (ep : Nat), IntsAre out (out.map SrtO.iv) → (out.map SrtO.iv).Perm ns → (out.map SrtO.iv).Pairwise (· ≤ ·) → s.heap.get? p = none → (∀ b o, s.heap.get? b = some o → h'.get? b = some o) → h'.get? p = some (seqObj "list" out.toArray ep) → Q (.ref p) { s with heap := h' }) :
    wpAny (model prog w) A (call (.builtin "sorted") [.ref l]) Q E s := by
  refine Calls.call_function_entry kind_sorted plain_sorted entry_sorted (args_sorted1 _) ?_
  unfold Builtin.«sorted»
  refine wpAny_bind (m := checkCount "sorted" 1 1 _) (wpAny_pure ?_)
  obtain ⟨ol, hol, hcl, nl, hdl⟩ := hl
  refine wpAny_bind (wpAny_collect_seq l (.inr rfl) hol hcl hdl (fun h1 k1 => ?_) (by simpa using hz))
  refine wpAny_bind (wpAny_newList ?_ (by simpa using hz))
  have hoL : (h1.push (seqObj "list" vs.toArray 0)).get? h1.objs.size = some (seqObj "list" vs.toArray 0) := Heap.get?_push_size _ rfl
  refine wpAny_bind (wpAny_holding (wpAny_call_entry PySem.F.slot_list_sort ⟨_, hoL, rfl⟩ PySem.F.entry_list_sort (SrtO.list_sort_ord (s := { s with heap := h1.push (seqObj "list" vs.toArray 0) }) SrtO.swo_int hoL hz (fun h2 => SrtO.ints_sortable hi h2) fun out hs hb => ⟨_, rfl, ?_⟩) (args_list_sort _)))
  obtain ⟨q1, q2, q3⟩ := SrtO.ints_out hi hs hb
  obtain ⟨ep, he⟩ := sortedHeap_at (vs := vs) (out := out.toArray) hoL
  refine wpAny_pure ⟨_, rfl, h _ out h1.objs.size ep q1 q2 q3 ?_ (fun b o e => ?_) he⟩
  · cases z : s.heap.get? h1.objs.size with
    | none => rfl
    | some o => exact absurd (Heap.lt_size (k1 _ o z)) (Nat.lt_irrefl _)
  · have e1 := k1 b o e
    have hlt := Heap.lt_size e1
    rw [sortedHeap_old (Nat.ne_of_lt hlt) (by rw [size_push']; exact Nat.lt_succ_of_lt hlt)]
    exact Heap.get?_push_of_some _ e1
end
section
variable {X : Cx}
theorem cr_sorted' : CallR X (.builtin "sorted") (rOp X.K oSorted) := by
  intro pins s σ H xs us Q I rv ⟨S, ds, r, hs, hr, ho, q⟩
  unfold oSorted at ho
  split at ho
  · rename_i es
    obtain ⟨x, rfl, hd⟩ := hr.one
    obtain ⟨a, vs, e1, g1, g2⟩ := hd.lst' hs
    split at ho
    · rename_i ns hns
      cases ho
      exact cr_sortedI pins s σ H _ us Q I rv ⟨a, ns, by rw [e1], by rw [← ints_dq g2 hns]; exact .inl (.inl g1), fun ns' p h1 h2 hp => by
        rw [srtI_only h1 h2]
        exact end_lst hs q rfl (dqInts _) p hp⟩
    · obtain ⟨ss, h1, h2⟩ := Option.bind_eq_some_iff.mp ho
      split at h2
      · rename_i hz
        cases h2
        exact cr_sortedS pins s σ H _ us Q I rv ⟨a, ss, by rw [e1], by rw [← strs_dq g2 h1]; exact .inl (.inl g1), of_decide_eq_true hz, fun ns' p k1 k2 hp => by
          rw [srtT_only k1 k2]
          exact end_lst hs q rfl (dqStrs _) p hp⟩
      · cases h2
  · obtain ⟨ns, h1, h2⟩ := Option.bind_eq_some_iff.mp ho
    cases h2
    obtain ⟨x, rfl, hd⟩ := hr.one
    obtain ⟨a, vs, e1, g1, g2⟩ := hd.tup' hs
    subst e1
    rw [Vals.ref1 rv]
    obtain ⟨its, rv2, hl, hz⟩ := I.tuple g1
    have g3 := ints_dq g2.1 h1
    rw [g3] at rv2 hz
    refine sorted_tupI hl (by rw [← rv2.length]; exact hz) rv2.ints fun h' out p ep q1 q2 q3 hp hk he => ?_
    have hn := hok_none I.hok hp
    have hlen : ((out.map SrtO.iv).map V.int).length ≤ sizeLine := by
      rw [List.length_map, q2.length_eq]
      rw [List.length_map] at hz
      exact hz
    exact ⟨.ref p, _, I.laidN (t' := s.toks) hk hp hn (o := .lst ((out.map SrtO.iv).map V.int)) ⟨hlen, out, ep, vals_of_ints q1, he⟩, rfl, by
      rw [srtI_only q2 q3]
      exact end_lst hs q rfl (dqInts _) p hn⟩
  · cases ho
end
end My

namespace My
open PySem PySem.Spec PyProof.Rows L2

/-! ### texts -/
def oMulS : List D → Option RV
  | [.str x, .int k] => if decide (0 ≤ k) && decide (k ≤ 1000) && decide (x.length ≤ 1000) then some (.val (.str (Txt.mul x k))) else none
  | ds => oMul ds
def oFind : List D → Option RV
  | [.str a, .str b] => some (.val (.int (Txt.find a b)))
  | _ => none
def oCountT : List D → Option RV
  | [.str a, .str b] => some (.val (.int (Txt.count a b)))
  | _ => none
section
variable {X : Cx}
theorem or_mulS : OpR X (binaryOp .Mult) (fun x y H Q => rOp X.K oMulS [x, y] H Q) := by
  intro pins s σ H x y v u Q I rx ry ⟨S, ds, r, hs, hr, ho, q⟩
  obtain ⟨d, e, rfl, hd, he⟩ := rd2 hr
  unfold oMulS at ho
  split at ho
  · rename_i x' k h
    cases h
    split at ho
    · rename_i hz
      cases ho
      simp only [Bool.and_eq_true, decide_eq_true_eq] at hz
      have e1 := hd.str'
      have e2 := he.int'
      subst e1; subst e2
      obtain ⟨t, rfl⟩ := rx
      obtain ⟨t2, rfl⟩ := ry
      obtain ⟨⟨z1, z2⟩, z3⟩ := hz
      have zl : x'.length * k.toNat ≤ 1000 * 1000 := Nat.mul_le_mul z3 (by omega)
      refine PySem.SB.mul ⟨?_, fun h1 h2 => ?_, fun h1 h2 => ?_⟩ fun t' k' => ⟨.str (Txt.mul x' k), H, I.tok k', ⟨t', rfl⟩, end_val hs q rfl (.str _)⟩
      · have a1 : decide (k < -(2 ^ 63 : Int)) = false := decide_eq_false (by omega)
        have a2 : decide (k ≥ 2 ^ 63) = false := decide_eq_false (by omega)
        rw [a1, a2]; rfl
      · have a3 : (1000 : Int) ≤ (2 ^ 63 - 1) / k := by
          refine (Int.le_ediv_iff_mul_le (by omega)).mpr ?_
          omega
        omega
      · unfold PySem.Builtin.Str.tooLong
        exact decide_eq_false (by have := sizeLine_eq; omega)
    · cases ho
  · exact or_mul pins s σ H x y v u Q I rx ry ⟨S, _, r, hs, hr, ho, q⟩
end
def isT : D → Bool
  | .str _ => true
  | _ => false
/-- a method of a text -/
@[simp] def mt1V (f : List D → Option RV) (a b : Ar) : EvV := fun ρ => (evAr a ρ).bind fun x => (x.1.get x.2).bind fun d0 => if isT d0 = true then (evAr b x.2).bind fun y => (x.1.get y.2).bind fun d => (y.1.get y.2).bind fun e => (f [d, e]).bind fun r => some (r, y.2) else none
def mt0V (f : List D → Option RV) (a : Ar) : EvV := fun ρ => (evAr a ρ).bind fun x => (x.1.get x.2).bind fun d => if isT d = true then (f [d]).bind fun r => some (r, x.2) else none
theorem isT_str {K : Fg} {S H : Hp} {v : V} {d : D} (h : Rdb K S H v d) (ht : isT d = true) : ∃ s, v = .str s := by
  cases d <;> first | (cases ht; done) | skip
  exact ⟨_, h.str'⟩
theorem mt1_q {K : Fg} {f : List D → Option RV} {a b : Ar} {σ : St} {H : Hp} {Q : VK} {r : V → List V → Hp → VK → Prop} (hr : ∀ x y H Q, rOp K f [x, y] H Q → r x [y] H Q) (q : tV K (mt1V f a b) σ H Q) : tM1 r (tA K a) (tA K b) σ H Q := by
  obtain ⟨B, ρ, S, r0, ρ', R, e, q⟩ := q
  obtain ⟨⟨h1, ρ1⟩, e1, e2⟩ := Option.bind_eq_some_iff.mp e
  obtain ⟨d0, e3, e4⟩ := Option.bind_eq_some_iff.mp e2
  refine ⟨B, ρ, S, h1, ρ1, R, e1, fun v H1 S1 R1 X1 A1 => ?_⟩
  split at e4
  · rename_i hz
    obtain ⟨⟨h2, ρ2⟩, e5, e6⟩ := Option.bind_eq_some_iff.mp e4
    obtain ⟨d, e7, e8⟩ := Option.bind_eq_some_iff.mp e6
    obtain ⟨e0, e9, e10⟩ := Option.bind_eq_some_iff.mp e8
    obtain ⟨r1, e11, e12⟩ := Option.bind_eq_some_iff.mp e10
    cases e12
    refine ⟨isT_str (rdb_of R1 A1 e3) hz, B, ρ1, S1, h2, ρ2, R1, e5, fun w H2 S2 R2 X2 A2 => hr _ _ _ _ ?_⟩
    exact ⟨S2, [d, e0], _, R2.sub, .cons (rdb_of R2 (A1.mono X2.ss) e7) (.cons (rdb_of R2 A2 e9) .nil), e11, fun w H3 S3 g k => q w H3 S3 (R2.grow g) ((X1.trans X2).trans (.grow g)) (rvOk_back (X1.trans X2) k)⟩
  · cases e4
theorem mt0_q {K : Fg} {f : List D → Option RV} {a : Ar} {σ : St} {H : Hp} {Q : VK} {r : V → List V → Hp → VK → Prop} (hr : ∀ x H Q, rOp K f [x] H Q → r x [] H Q) (q : tV K (mt0V f a) σ H Q) : tM0 r (tA K a) σ H Q := by
  obtain ⟨B, ρ, S, r0, ρ', R, e, q⟩ := q
  obtain ⟨⟨h1, ρ1⟩, e1, e2⟩ := Option.bind_eq_some_iff.mp e
  obtain ⟨d0, e3, e4⟩ := Option.bind_eq_some_iff.mp e2
  refine ⟨B, ρ, S, h1, ρ1, R, e1, fun v H1 S1 R1 X1 A1 => ?_⟩
  split at e4
  · rename_i hz
    obtain ⟨r1, e11, e12⟩ := Option.bind_eq_some_iff.mp e4
    cases e12
    have hd := rdb_of R1 A1 e3
    exact ⟨isT_str hd hz, hr _ _ _ ⟨S1, [d0], _, R1.sub, .cons hd .nil, e11, fun w H3 S3 g k => q w H3 S3 (R1.grow g) (X1.trans (.grow g)) (rvOk_back X1 k)⟩⟩
  · cases e4
/-- methods of texts with one argument -/
inductive M1 | find | count
  deriving DecidableEq
def M1.name : M1 → Str
  | .find => "find" | .count => "count"
@[simp] def M1.f : M1 → List D → Option RV
  | .find => oFind | .count => oCountT
theorem pe_mt1 {X : Cx} {o e : Expr} {apos pos : Pos} {a b : Ar} (m : M1) (ho : PE X o (tA X.K a)) (he : PE X e (tA X.K b)) (hd : okHd e = true) (hbase : attributeBase o m.name X.env (eval o X.env) = eval o X.env) (hline : (apos.endLine == pos.line) = true) :
    PE X (.Call (.Attribute o m.name apos) [e] [] pos) (tV X.K (mt1V m.f a b)) := by
  have hs : starEach [e] X.env = [(false, eval e X.env)] := star_cons hd
  cases m with
  | find =>
    refine pe_imp (pe_m1 PySem.F.slot_str_find PySem.F.type_str_find mt_find ho he hs hbase hline) fun σ H Q q => mt1_q (fun x y H Q ⟨S, ds, r, hs, hr, ho, q⟩ => ?_) q
    obtain ⟨d, e, rfl, hd, he⟩ := rd2 hr
    have ho' : oFind [d, e] = some r := ho
    unfold oFind at ho'
    split at ho'
    · rename_i z1 z2 h
      cases h; cases ho'
      exact ⟨z1, z2, hd.str', by rw [he.str'], end_val hs q rfl (.int _)⟩
    · cases ho'
  | count =>
    refine pe_imp (pe_m1 PySem.F.slot_str_count PySem.F.type_str_count mt_count ho he hs hbase hline) fun σ H Q q => mt1_q (fun x y H Q ⟨S, ds, r, hs, hr, ho, q⟩ => ?_) q
    obtain ⟨d, e, rfl, hd, he⟩ := rd2 hr
    have ho' : oCountT [d, e] = some r := ho
    unfold oCountT at ho'
    split at ho'
    · rename_i z1 z2 h
      cases h; cases ho'
      exact ⟨z1, z2, hd.str', by rw [he.str'], end_val hs q rfl (.int _)⟩
    · cases ho'
/-! ### two items exchanged -/
def wrS (i : Nat) (ix : Ar) (d : D) : En → Option En := fun ρ => ((ρ[i]?).bind rootDs).bind fun _ => (evAr ix ρ).bind fun q => (q.1.get q.2).bind fun k => (q.2[i]?).bind fun e => (rootDs e).bind fun ds => match k with
    | .int k => (ixN ds.length k).bind fun j => (reroot e (ds.set j d)).bind fun e' => some (q.2.set i e')
    | _ => none
def swapS (i j : Nat) (x y a b : Ar) : EvS := fun ρ => (evArs [a, b] ρ).bind fun p => (datAll p.1).bind fun ds => match ds with
  | [d, e] => (wrS i x d p.2).bind fun ρ1 => (wrS j y e ρ1).bind fun ρ2 => some (.nx ρ2)
  | _ => none
theorem wr_ok {K : Fg} {B : Bs} {i : Nat} {ix : Ar} {d : D} {σ : St} {ρ ρ' : En} {H S : Hp} {v : V} {Q : St → Hp → Prop} (R : Rel K B σ ρ H S) (hv : Dq K S v d) (e : wrS i ix d ρ = some ρ') (q : ∀ H' S', Rel K B σ ρ' H' S' → Same S S' → Q σ H') : gSub (tVar i) (tA K ix) rSetL v σ H Q := by
  obtain ⟨ds0, e0, eb⟩ := Option.bind_eq_some_iff.mp e
  obtain ⟨⟨h2, ρ2⟩, e2, ec⟩ := Option.bind_eq_some_iff.mp eb
  obtain ⟨k, e3, ed⟩ := Option.bind_eq_some_iff.mp ec
  obtain ⟨en, e4, ee⟩ := Option.bind_eq_some_iff.mp ed
  obtain ⟨ds, e5, ef⟩ := Option.bind_eq_some_iff.mp ee
  cases k <;> first | (cases ef; done) | skip
  rename_i k
  obtain ⟨j, e6, eg⟩ := Option.bind_eq_some_iff.mp ef
  obtain ⟨en', e7, eh⟩ := Option.bind_eq_some_iff.mp eg
  cases eh
  obtain ⟨a, xs0, ha, _⟩ := R.rootB e0
  refine ⟨.ref a, ha, B, ρ, S, h2, ρ2, R, e2, fun w H2 S2 R2 X2 A2 => ?_⟩
  obtain ⟨b, xs, h1, h2, h3, h4⟩ := R2.write e4 e5 e7
  rw [ha] at h1; cases h1
  have hk := rdb_of R2 A2 e3
  obtain ⟨R', E'⟩ := h4 (xs.set j v) (h3.set j (dp_mono X2.ss _ _ hv))
  exact ⟨a, xs, k, j, rfl, hk.int', h2, by rw [h3.length]; exact e6, q _ S2 R' (X2.ss.trans E'.ss)⟩
theorem ps_swapS {X : Cx} {o1 o2 x1 x2 e1 e2 : Expr} {p1 p2 p3 p4 pos : Pos} {k1 k2 : Nat} {i j : Nat} {x y a b : Ar} (hc : X.calm = true) (ho1 : PE X o1 (tVar i)) (ho2 : PE X o2 (tVar j)) (hx1 : PE X x1 (tA X.K x)) (hx2 : PE X x2 (tA X.K y)) (he1 : PE X e1 (tA X.K a)) (he2 : PE X e2 (tA X.K b))
    (h1 : okHd x1 = true) (h2 : okHd x2 = true) (h3 : okHd e1 = true) (h4 : okHd e2 = true) (hw : swappedStores [.Tuple [.Subscript o1 x1 p1, .Subscript o2 x2 p2] k1 p3] (.Tuple [e1, e2] k2 p4) X.env = pure none) :
    PS X (.Assign [.Tuple [.Subscript o1 x1 p1, .Subscript o2 x2 p2] k1 p3] (.Tuple [e1, e2] k2 p4) pos) (tS X.K (swapS i j x y a b)) := by
  have go : ∀ (o x : Expr) (p : Pos), okHd x = true → ∀ v, assign (.Subscript o x p) X.env v = (do
      let ov ← holding [v] (eval o X.env)
      let iv ← holding [v, ov] (eval x X.env)
      standAt p
      holding [v, ov, iv] (setItem ov iv v)
      release [v, ov, iv] []) := by
    intro o x p h v
    cases x <;> first | rfl | cases h
  have ha := pas_cons he1 (pas_cons he2 pas_nil (star_cons h4)) (star_cons h3)
  have hg := pg_tup (k := k1) (pos := p3) hc (pgs_cons (pg_sub ho1 hx1 set_list (go o1 x1 p1 h1)) (pgs_cons (pg_sub ho2 hx2 set_list (go o2 x2 p2 h2)) pgs_nil rfl) rfl) rfl rfl
  refine ps_imp (ps_asg (pe_tup ha) hg rfl hw rfl) fun D σ H q => ?_
  obtain ⟨B, ρ, S, fl, R, e, q⟩ := q
  obtain ⟨⟨hs, ρ1⟩, g1, ea⟩ := Option.bind_eq_some_iff.mp e
  clear e
  obtain ⟨ds, g2, eb⟩ := Option.bind_eq_some_iff.mp ea
  clear ea
  refine ⟨B, ρ, S, hs, ρ1, R, g1, fun vs H1 S1 R1 X1 A1 => ?_⟩
  have hd := dat_args A1 g2
  dsimp only at eb
  split at eb
  · rename_i d e
    obtain ⟨ρ2, g3, ec⟩ := Option.bind_eq_some_iff.mp eb
    obtain ⟨ρ3, g4, ed⟩ := Option.bind_eq_some_iff.mp ec
    cases ed
    cases hd with
    | cons hd1 t =>
      cases t with
      | cons hd2 t =>
        cases t
        rename_i v1 v2
        refine ⟨by have := sizeLine_eq; show 2 ≤ _; omega, fun p hp => ?_⟩
        have hSp : S1 p = none := R1.sub.free hp
        have R2 := R1.junk (o := .tup [v1, v2]) hSp (R1.hb_none hp) (R1.no_root hp)
        exact ⟨p, [v1, v2], rfl, .inl (.inl upd_same), rfl, v1, [v2], rfl, wr_ok R2 hd1 g3 fun H' S' R3 s3 => ⟨v2, [], rfl, wr_ok R3 (dp_mono s3 _ _ hd2) g4 fun H'' S'' R4 s4 => ⟨rfl, q σ H'' S'' R4 ((X1.ss.trans s3).trans s4)⟩⟩⟩
  · cases eb
end My

namespace My
open PySem PySem.Spec PyProof.Rows L2

/-! ### how many unlike ones: len(set(x)) -/
def uniqI : List Int → List Int
  | [] => []
  | a :: r => if r.elem a then uniqI r else a :: uniqI r
theorem uniqI_mem : ∀ (l : List Int) (x : Int), x ∈ uniqI l ↔ x ∈ l
  | [], x => .rfl
  | a :: r, x => by
    unfold uniqI
    have ih := uniqI_mem r x
    by_cases h : r.elem a = true
    · rw [if_pos h, ih]
      have ha : a ∈ r := by simpa using h
      constructor
      · exact fun z => List.mem_cons_of_mem _ z
      · intro z
        rcases List.mem_cons.mp z with rfl | z
        · exact ha
        · exact z
    · rw [if_neg h, List.mem_cons, List.mem_cons, ih]
theorem uniqI_nd : ∀ l : List Int, (uniqI l).Nodup
  | [] => .nil
  | a :: r => by
    unfold uniqI
    by_cases h : r.elem a = true
    · rw [if_pos h]; exact uniqI_nd r
    · rw [if_neg h]
      refine List.nodup_cons.mpr ⟨fun z => ?_, uniqI_nd r⟩
      exact h (by simpa using (uniqI_mem r a).mp z)
theorem nodup_len {l k : List Int} (hl : l.Nodup) (hk : k.Nodup) (h : ∀ x, x ∈ l ↔ x ∈ k) : l.length = k.length := by
  refine (List.perm_iff_count.mpr fun a => ?_).length_eq
  rw [hl.count, hk.count]
  by_cases z : a ∈ l
  · rw [if_pos z, if_pos ((h a).mp z)]
  · rw [if_neg z, if_neg fun y => z ((h a).mpr y)]
theorem dedup_nd : ∀ (l acc : List Int), acc.Nodup → (l.foldl step_dedup acc).Nodup
  | [], _, h => h
  | a :: l, acc, h => by
    refine dedup_nd l _ ?_
    unfold step_dedup
    split
    · exact h
    · rename_i z
      refine List.nodup_append.mpr ⟨h, by simp, fun x hx y hy => ?_⟩
      simp only [List.mem_singleton] at hy
      subst hy
      rintro rfl
      exact z (List.any_eq_true.mpr ⟨x, hx, by simp⟩)
def oLenSet : List D → Option RV
  | [.lst ds] => (intsD ds).bind fun ns => if decide (ns.length ≤ 4000) then some (.val (.int (uniqI ns).length)) else none
  | [.tup ds] => (intsD ds).bind fun ns => if decide (ns.length ≤ 4000) then some (.val (.int (uniqI ns).length)) else none
  | _ => none
theorem pe_lenSet {X : Cx} {a : Expr} {ar : Ar} {p p2 q pos : Pos} (hg : Gl X "len") (hm : X.mg "len" = none) (hg2 : Gl X "set") (hm2 : X.mg "set" = none) (ha : PE X a (tA X.K ar)) (hc : X.calm = true) (hd : okHd a = true) :
    PE X (.Call (.Name "len" p) [.Call (.Name "set" p2) [a] [] q] [] pos) (tV X.K (opC oLenSet [ar])) := by
  have na : starEach [a] X.env = (false, eval a X.env) :: starEach [] X.env := star_cons hd
  refine ⟨fun pins s σ H Q I h => ?_⟩
  refine Call_ (ld_blt I hg hm boot_len ?_)
  refine PyProof.Rows.callWith_builtin1 (PyProof.Rows.args_cons ?_ rfl) rfl rfl
  refine Call_ (ld_blt I hg2 hm2 boot_set ?_)
  refine PyProof.Rows.callWith_type1 (PyProof.Rows.args_cons (thn (ha.run pins s σ H _ I (op_1 h)) fun v s1 ⟨x, H1, I1, r1, q1⟩ => PyProof.Rows.args_nil ?_) na) na rfl
  obtain ⟨S, ds, r, hs, hr, ho, q1⟩ := q1
  unfold oLenSet at ho
  split at ho
  · obtain ⟨ns, h1, h2⟩ := Option.bind_eq_some_iff.mp ho
    split at h2
    · rename_i hz
      cases h2
      have hz := of_decide_eq_true hz
      obtain ⟨_, e0, hq⟩ := hr.one
      cases e0
      obtain ⟨l, vs, rfl, g1, g2⟩ := hq.lst' hs
      cases r1
      have g3 := ints_dq g2 h1
      subst g3
      obtain ⟨its, r, pl, hz2⟩ := I1.list (.inl (.inl g1))
      have hlen : its.toArray.size = ns.length := by rw [List.size_toArray, ← r.length, List.length_map]
      refine call_set_list (I1.ok.hd hc) pl.isList (by simpa using RZ.intsAre_vals r) (by rw [hlen]; unfold scanBound; omega) fun h' tk hS hk => ?_
      refine PyProof.Rows.args_nil ?_
      rw [hlen] at hS
      obtain ⟨o, es, ep, t, ho, hex, hd, _, _, _, hf, hn⟩ := hS
      have hn' : es.size = (uniqI ns).length := by
        rw [hn]
        have e1 : (List.range ns.length).map (fun i => ns.getD i 0) = ns := by
          refine List.ext_getElem (by simp) fun i h1 h2 => ?_
          simp [List.getD_eq_getElem?_getD, List.getElem?_eq_getElem h2]
        unfold PyProof.Rows.firstMet
        rw [e1]
        refine nodup_len (dedup_nd ns [] .nil) (uniqI_nd ns) fun x => ?_
        rw [uniqI_mem]
        have hh := PyProof.Rows.firstMet_any (fun i => ns.getD i 0) ns.length x
        unfold PyProof.Rows.firstMet at hh
        rw [e1] at hh
        constructor
        · intro z
          have : (ns.any (· == x)) = true := by rw [← hh]; exact List.any_eq_true.mpr ⟨x, z, by simp⟩
          obtain ⟨y, hy, e⟩ := List.any_eq_true.mp this
          rw [← eq_of_beq e]; exact hy
        · intro z
          have : ((ns.foldl step_dedup []).any (· == x)) = true := by rw [hh]; exact List.any_eq_true.mpr ⟨x, z, by simp⟩
          obtain ⟨y, hy, e⟩ := List.any_eq_true.mp this
          rw [← eq_of_beq e]; exact hy
      have I2 := I1.kept (t' := tk) fun b o e => hk b o (Heap.lt_size e) e
      have hle : (uniqI ns).length ≤ 4000 := by
        have := firstMet_length_le (fun i => ns.getD i 0) ns.length
        omega
      exact call_len_set ho hex hd hf (by rw [hn']; omega) ⟨.int (uniqI ns).length, _, I2.tok _, ⟨_, by rw [hn']⟩, end_val hs q1 rfl (.int _)⟩
    · cases h2
  · obtain ⟨ns, h1, h2⟩ := Option.bind_eq_some_iff.mp ho
    split at h2
    · rename_i hz
      cases h2
      have hz := of_decide_eq_true hz
      obtain ⟨_, e0, hq⟩ := hr.one
      cases e0
      obtain ⟨l, vs, rfl, g1, g2, _⟩ := hq.tup' hs
      cases r1
      have g3 := ints_dq g2 h1
      subst g3
      obtain ⟨its, r, pl, hz2⟩ := I1.tuple g1
      refine call_set_tupI ns (I1.ok.hd hc) pl (by simpa using RZ.intsAre_vals r) (by unfold scanBound; omega) fun h' tk c hS hc' hk => ?_
      refine PyProof.Rows.args_nil ?_
      obtain ⟨o, es, ep, t, ho, hex, hd, _, hnd, hmem, _, hf, hn, _⟩ := hS
      have hn' : es.size = (uniqI ns).length := by
        have e1 : es.size = (es.toList.map keyOf).length := by simp
        rw [e1]
        refine nodup_len hnd (uniqI_nd ns) fun x => ?_
        rw [uniqI_mem, ← hmem x]
        simp
      have I2 := I1.kept (t' := tk) hk
      exact call_len_set ho hex hd hf (by omega) ⟨.int (uniqI ns).length, _, I2.tok _, ⟨_, by rw [hn']⟩, end_val hs q1 rfl (.int _)⟩
    · cases h2
  · cases ho
end My

namespace My
open PySem PySem.Spec PyProof.Rows L2
/-! ### a set of the numbers of a list, with its places -/
abbrev emptyO (w : World) : Obj := { cls := .type "set", dict := none, data := .set #[] 0 (.fresh 0 0 (!w.params.followText "set-order")) }
section
variable {P : Program} {w : World} {A : Around} {E : Value → Shared → Prop} {z : Shared}
theorem set_init_lst {b : Addr} {arr : Array Value} {ks : List Int} (hand : A.handled = none) (isl : z.heap.IsList b arr) (innt : IntsAre arr.toList ks) (few : ks.length + 1 < scanBound) (ty : Shared.TypeIs { z with heap := z.heap.push (emptyO w) } (.ref z.heap.objs.size) "set") :
    codeAny (model P w) A (.call (.builtin "set.__init__") ⟨[.ref z.heap.objs.size, .ref b], []⟩) (wants (fun r y => r = .none ∧ ∃ hp tk c, y = { z with heap := hp, toks := tk } ∧ SetR w hp z.heap.objs.size (fun j => decide (j ∈ ks)) c ∧ c ≤ ks.length ∧ (∀ x o, z.heap.get? x = some o → hp.get? x = some o)) E)
      { z with heap := z.heap.push (emptyO w) } := by
  have size : arr.size = ks.length := by
    have := IntsAre.length innt
    rwa [Array.length_toList] at this
  have at0 : (z.heap.push (emptyO w)).get? z.heap.objs.size = some (emptyO w) := Heap.get?_push_size _ rfl
  refine codeAny_call_builtin F.called_set.init.plain F.entry_set_init (check_set_init_1 ty ?_)
  obtain ⟨⟨cl, di, da, sl⟩, got, e1, nl, e2⟩ := isl
  simp only at e1 e2
  subst e1; subst e2
  have got1 : (z.heap.push (emptyO w)).get? b = some { cls := .type "list", dict := di, data := .seq arr nl, slots := sl } := Heap.get?_push_of_some _ got
  have no1 := F.sub_list_set
  have no2 := F.sub_list_frozenset
  have no3 : (Value.type "list" == Value.type "dict") = false := by decide
  have isl0 : z.heap.IsList b arr := ⟨_, got, rfl, nl, rfl⟩
  have isl1 : (z.heap.push (emptyO w)).IsList b arr := ⟨_, got1, rfl, nl, rfl⟩
  unfold Builtin.«set.__init__» noKeywords Builtin.Frozenset.updateFrom
  generalize pi : pyIter = IT
  wp_walk
  subst pi
  refine wpAny_pyIter_list isl1 (wpAny_bind (wpAny_runValue ?_))
  have blt : b < z.heap.objs.size := Heap.lt_size got
  have hand3 : A.in1.in1.handled = none := by simp [hand]
  have size1 : (z.heap.push (emptyO w)).objs.size = z.heap.objs.size + 1 := Heap.size_push ..
  have ne1 : b ≠ (z.heap.push (emptyO w)).objs.size := by rw [size1]; exact Nat.ne_of_lt (Nat.lt_succ_of_lt blt)
  have ne2 : z.heap.objs.size ∉ [(z.heap.push (emptyO w)).objs.size, b] := by
    rw [size1]
    simp only [List.mem_cons, List.not_mem_nil, or_false, not_or]
    exact ⟨Nat.ne_of_lt (Nat.lt_succ_self _), Nat.ne_of_gt blt⟩
  have vals : ∀ (i : Nat) (v : Value), arr[i]? = some v → ∃ k t, ks[i]? = some k ∧ v = .int k t := fun i v hv => by
    have il : i < ks.length := by rw [← size]; exact (Array.getElem?_eq_some_iff.mp hv).1
    obtain ⟨t, e⟩ := PyProof.Rows.IntsAre.int_at innt i v (by rw [Array.getElem?_toList]; exact hv)
    refine ⟨ks[i], t, List.getElem?_eq_getElem il, ?_⟩
    rw [e, List.getD_eq_getElem?_getD, List.getElem?_eq_getElem il]
    rfl
  refine set_update_ints ((Walks.list hand3 _ b ne1 arr).toS) z.heap.objs.size ne2 ks size few vals (arr.size - 0) 0 { z with heap := (z.heap.push (emptyO w)).push { cls := .type "list_iterator", data := .fields #[.ref b, .int 0 0] } } (by omega) (Nat.zero_le _) ⟨⟨_, Heap.get?_push_size _ rfl, rfl, rfl⟩, (isl1.push _)⟩ ?emp ?fin
  case emp =>
    have at1 : ((z.heap.push (emptyO w)).push { cls := .type "list_iterator", data := .fields #[.ref b, .int 0 0] }).get? z.heap.objs.size = some (emptyO w) := Heap.get?_push_of_some _ at0
    exact ⟨0, Nat.le_refl 0, setR_new_at at1⟩
  case fin =>
    intro y c moved le R
    obtain ⟨hp, ge, dr, tk, os⟩ := y
    have m1 : ge = z.gens := moved.gens
    have m2 : dr = z.drawn := moved.drawn
    have m3 : os = z.os := moved.os
    subst m1; subst m2; subst m3
    show wpAny _ _ _ _ _ _
    refine wpAny_pure ?_
    show wpAny _ _ (ret Value.none) _ _ _
    rw [size] at le
    refine wpAny_pure ⟨rfl, hp, tk, c, rfl, R, le, fun x o e => moved.heap x o ?_ (Heap.get?_push_of_some _ (Heap.get?_push_of_some _ e))⟩
    have xlt : x < z.heap.objs.size := Heap.lt_size e
    simp only [List.mem_cons, List.mem_singleton, List.not_mem_nil, or_false, not_or]
    exact ⟨Nat.ne_of_lt xlt, by rw [size1]; exact Nat.ne_of_lt (Nat.lt_succ_of_lt xlt)⟩
theorem call_set_lst {b : Addr} {arr : Array Value} (ks : List Int) {Q : Value → Shared → Prop} (hand : A.handled = none) (isl : z.heap.IsList b arr) (innt : IntsAre arr.toList ks) (few : ks.length + 1 < scanBound)
    (post : ∀ (hp : Heap) (tk c : Nat), SetR w hp z.heap.objs.size (fun j => decide (j ∈ ks)) c → c ≤ ks.length → (∀ x o, z.heap.get? x = some o → hp.get? x = some o) → Q (.ref z.heap.objs.size) { z with heap := hp, toks := tk }) :
    wpAny (model P w) A (call (.type "set") [.ref b]) Q E z := by
  obtain ⟨mr, ml, mro⟩ := F.called_set.mro
  have made := F.called_set.made
  have subs := F.called_set.sub
  refine wpAny_call (codeAny_of_tree (show wpAny _ _ (callAny (.type "set") _) _ _ _ from wpAny_pure ⟨Code.quiet_builtin _ (by decide +kernel), codeAny_builtin F.entry_type_call ?_⟩))
  rw [Around.under_plain (weight_type_call_type "set" [.ref b] []) rfl]
  have f1 := F.called_set.notType
  have f2 := F.called_set.canCreate
  have f3 := F.typeCall_set_1 (.ref b)
  repeat (any_goals (first | assumption | wp_step))
  refine codeAny_mono (code_set_led1 (.ref b) (E := E) (Q₁ := fun v y => v = .ref z.heap.objs.size ∧ y = { z with heap := z.heap.push (emptyO w) }) ⟨rfl, rfl⟩) fun r y hy => ?_
  cases r with
  | error e => exact hy
  | ok fl =>
    cases fl with
    | ret v =>
      obtain ⟨rfl, rfl⟩ := hy
      have at0 : (z.heap.push (emptyO w)).get? z.heap.objs.size = some (emptyO w) := Heap.get?_push_size _ rfl
      have ty : Shared.TypeIs { z with heap := z.heap.push (emptyO w) } (.ref z.heap.objs.size) "set" := ⟨_, at0, rfl⟩
      have look := F.called_set.init.lookup
      have bind := F.called_set.init.bind (.ref z.heap.objs.size)
      repeat (any_goals (first | assumption | wp_step))
      refine codeAny_mono (set_init_lst (E := E) (by simp [hand]) isl innt few ty) fun r2 y2 hy2 => ?_
      cases r2 with
      | error e => exact hy2
      | ok fl2 =>
        cases fl2 with
        | ret v2 =>
          obtain ⟨rfl, hp, tk, c, rfl, R, le, keep⟩ := hy2
          repeat (any_goals (first | assumption | wp_step))
          exact post _ _ _ R le keep
        | _ => exact hy2.elim
    | _ => exact hy.elim
end
/-- the unlike ones in order: sorted(set(x)) of numbers -/
def oSrtSet : List D → Option RV
  | [.lst ds] => (intsD ds).bind fun ns => if decide (ns.length ≤ 63) then some (.new ((srtI (uniqI ns)).map .int)) else none
  | [.tup ds] => (intsD ds).bind fun ns => if decide (ns.length ≤ 63) then some (.new ((srtI (uniqI ns)).map .int)) else none
  | _ => none
theorem pe_srtSet {X : Cx} {a : Expr} {ar : Ar} {p p2 q pos : Pos} (hg : Gl X "sorted") (hm : X.mg "sorted" = none) (hg2 : Gl X "set") (hm2 : X.mg "set" = none) (ha : PE X a (tA X.K ar)) (hc : X.calm = true) (hd : okHd a = true) :
    PE X (.Call (.Name "sorted" p) [.Call (.Name "set" p2) [a] [] q] [] pos) (tV X.K (opC oSrtSet [ar])) := by
  have na : starEach [a] X.env = (false, eval a X.env) :: starEach [] X.env := star_cons hd
  refine ⟨fun pins s σ H Q I h => ?_⟩
  refine Call_ (ld_blt I hg hm PyProof.Rows.boot_sorted ?_)
  refine PyProof.Rows.callWith_builtin1 (PyProof.Rows.args_cons ?_ rfl) rfl rfl
  refine Call_ (ld_blt I hg2 hm2 boot_set ?_)
  refine PyProof.Rows.callWith_type1 (PyProof.Rows.args_cons (thn (ha.run pins s σ H _ I (op_1 h)) fun v s1 ⟨x, H1, I1, r1, q1⟩ => PyProof.Rows.args_nil ?_) na) na rfl
  obtain ⟨S, ds, r, hs, hr, ho, q1⟩ := q1
  unfold oSrtSet at ho
  split at ho
  · obtain ⟨ns, h1, h2⟩ := Option.bind_eq_some_iff.mp ho
    split at h2
    · rename_i hz
      cases h2
      have hz := of_decide_eq_true hz
      obtain ⟨_, e0, hq⟩ := hr.one
      cases e0
      obtain ⟨l, vs, rfl, g1, g2⟩ := hq.lst' hs
      cases r1
      have g3 := ints_dq g2 h1
      subst g3
      obtain ⟨its, r, pl, hz2⟩ := I1.list (.inl (.inl g1))
      refine call_set_lst ns (I1.ok.hd hc) pl.isList (by simpa using RZ.intsAre_vals r) (by unfold scanBound; omega) fun h' tk c hS hc' hk => ?_
      refine PyProof.Rows.args_nil ?_
      have I2 := I1.kept (t' := tk) hk
      refine sorted_set hS (I2.ok.hd hc) (by omega) fun s2 pz out c2 ms k g o hp hg2 hi hsrt hm2 hl => ?_
      have hlen : (ms.map V.int).length ≤ sizeLine := by
        rw [List.length_map, hl]; unfold sizeLine; omega
      have hn : H1 pz = none := I2.hok.fresh hp
      have J : Inv X pins σ (upd H1 pz (.lst (ms.map V.int))) { s1 with heap := s2.heap, gens := s2.gens, drawn := s2.drawn, toks := s2.toks } :=
        L2.Inv.call (s := { s1 with heap := h', toks := tk }) (ch := []) I2 (Un.laid (h := h') k hp hn) (I2.hok.laid k hp ⟨hlen, out.toList, c2, vals_of_ints hi, hg2⟩) (by rw [g]; exact I2.bare) (fun _ z => nomatch z)
      have e : s2 = { s1 with heap := s2.heap, gens := s2.gens, drawn := s2.drawn, toks := s2.toks } := by
        obtain ⟨u1, u2, u3, u4, u5⟩ := s2
        cases o
        rfl
      have ems : ms = srtI (uniqI ns) := srtI_only ((List.perm_ext_iff_of_nodup (hsrt.imp fun {x y} h => by omega) (uniqI_nd ns)).mpr fun x => by rw [hm2 x, uniqI_mem]; simp) (hsrt.imp fun {x y} h => by omega)
      rw [e]
      refine ⟨.ref pz, _, J, rfl, ?_⟩
      rw [ems]
      exact end_lst hs q1 rfl (dqInts _) pz hn
    · cases h2
  · obtain ⟨ns, h1, h2⟩ := Option.bind_eq_some_iff.mp ho
    split at h2
    · rename_i hz
      cases h2
      have hz := of_decide_eq_true hz
      obtain ⟨_, e0, hq⟩ := hr.one
      cases e0
      obtain ⟨l, vs, rfl, g1, g2, _⟩ := hq.tup' hs
      cases r1
      have g3 := ints_dq g2 h1
      subst g3
      obtain ⟨its, r, pl, hz2⟩ := I1.tuple g1
      refine call_set_tupI ns (I1.ok.hd hc) pl (by simpa using RZ.intsAre_vals r) (by unfold scanBound; omega) fun h' tk c hS hc' hk => ?_
      refine PyProof.Rows.args_nil ?_
      have I2 := I1.kept (t' := tk) hk
      refine sorted_set hS (I2.ok.hd hc) (by omega) fun s2 pz out c2 ms k g o hp hg2 hi hsrt hm2 hl => ?_
      have hlen : (ms.map V.int).length ≤ sizeLine := by
        rw [List.length_map, hl]; unfold sizeLine; omega
      have hn : H1 pz = none := I2.hok.fresh hp
      have J : Inv X pins σ (upd H1 pz (.lst (ms.map V.int))) { s1 with heap := s2.heap, gens := s2.gens, drawn := s2.drawn, toks := s2.toks } :=
        L2.Inv.call (s := { s1 with heap := h', toks := tk }) (ch := []) I2 (Un.laid (h := h') k hp hn) (I2.hok.laid k hp ⟨hlen, out.toList, c2, vals_of_ints hi, hg2⟩) (by rw [g]; exact I2.bare) (fun _ z => nomatch z)
      have e : s2 = { s1 with heap := s2.heap, gens := s2.gens, drawn := s2.drawn, toks := s2.toks } := by
        obtain ⟨u1, u2, u3, u4, u5⟩ := s2
        cases o
        rfl
      have ems : ms = srtI (uniqI ns) := srtI_only ((List.perm_ext_iff_of_nodup (hsrt.imp fun {x y} h => by omega) (uniqI_nd ns)).mpr fun x => by rw [hm2 x, uniqI_mem]; simp) (hsrt.imp fun {x y} h => by omega)
      rw [e]
      refine ⟨.ref pz, _, J, rfl, ?_⟩
      rw [ems]
      exact end_lst hs q1 rfl (dqInts _) pz hn
    · cases h2
  · cases ho
end My

namespace My
open PySem PySem.Spec PyProof.Rows L2

/-! ### tuple(range(..)), list(range(..)) -/
def oRgT : List D → Option RV := fun ds => (rngD ds).bind fun r => if sz r.length then some (.val (.tup r)) else none
def oRgL : List D → Option RV := fun ds => (rngD ds).bind fun r => if sz r.length then some (.new r) else none
theorem szLine {n : Nat} (h : sz n = true) : n ≤ 2 ^ 24 := by
  have := sz_le h
  have := sizeLine_eq
  omega
section
variable {X : Cx}
/-- a range made of good arguments -/
theorem rg_made {K : Fg} {S H : Hp} {vs : List V} {ds items : List D} {us : List Value} {s : Shared} (hd : Rdbs K S H vs ds) (hr : rngD ds = some items) (rv : Vals vs us) {Q : Value → Shared → Prop} {E : Value → Shared → Prop}
    (h : ∀ r a b c t u v n s', IsRange s'.heap r a b c t u v → Builtin.Range.small a b c = true → Builtin.Range.rangeSize a b c = ((n : Nat) : Int) → items = ((List.range n).map fun (i : Nat) => D.int (a + i * c)) → (∃ h' tk, s' = { s with heap := h', toks := tk } ∧ ∀ b o, s.heap.get? b = some o → h'.get? b = some o) → Q (.ref r) s') :
    wpAny (model X.prog X.w) X.A (call (.type "range") us) Q E s := by
  unfold rngD at hr
  split at hr
  · rename_i j
    split at hr
    · rename_i hz
      cases hr
      obtain ⟨b1, b2⟩ := in62_of hz
      cases hd with
      | cons r1 t =>
        cases t
        have e := r1.int'
        subst e
        obtain ⟨u, rfl, hu⟩ := Vals.one rv
        obtain ⟨t, rfl⟩ := hu
        refine call_range_1 (h _ 0 j 1 _ _ _ j.toNat _ (IsRange.new ..) (small_one (by omega) (by omega) b1 b2) ?_ ?_ ⟨_, _, rfl, fun b o e => Heap.get?_push_of_some _ e⟩)
        · have := rangeSize_nat 0 j
          rw [this]; simp
        · simp
    · cases hr
  · rename_i i j
    split at hr
    · rename_i hz
      cases hr
      have hz := Bool.and_eq_true_iff.mp hz
      obtain ⟨b1, b2⟩ := in62_of hz.1
      obtain ⟨b3, b4⟩ := in62_of hz.2
      cases hd with
      | cons r1 t =>
        cases t with
        | cons r2 t =>
          cases t
          have e := r1.int'
          subst e
          have e := r2.int'
          subst e
          obtain ⟨u1, u2, rfl, hu1, hu2⟩ := vals2 rv
          obtain ⟨t, rfl⟩ := hu1
          obtain ⟨t, rfl⟩ := hu2
          refine call_range_2 (h _ i j 1 _ _ _ (j - i).toNat _ (IsRange.new ..) (small_one b1 b2 b3 b4) (rangeSize_nat i j) ?_ ⟨_, _, rfl, fun b o e => Heap.get?_push_of_some _ e⟩)
          simp
    · cases hr
  · rename_i i j c
    split at hr
    · rename_i hz
      simp only [Bool.and_eq_true, decide_eq_true_eq] at hz
      cases hr
      cases hd with
      | cons r1 t =>
        cases t with
        | cons r2 t =>
          cases t with
          | cons r3 t =>
            cases t
            have e := r1.int'
            subst e
            have e := r2.int'
            subst e
            have e := r3.int'
            subst e
            cases rv with
            | cons u1 rv =>
              obtain ⟨u2, u3, rfl, hu2, hu3⟩ := vals2 rv
              obtain ⟨t, rfl⟩ := u1
              obtain ⟨t, rfl⟩ := hu2
              obtain ⟨t, rfl⟩ := hu3
              exact call_range_3 hz.1.1.1 (h _ i j c _ _ _ (rsz i j c) _ (IsRange.new ..) (rsz_small i j c hz.1.1.2 hz.1.2 hz.2) (rsz_eq i j c hz.1.1.1) rfl ⟨_, s.toks, rfl, fun b o e => Heap.get?_push_of_some _ e⟩) (.inl (PyProof.noPylong_small hz.1.1.2))
    · cases hr
  · cases hr
theorem vals_rgD {a c : Int} {n : Nat} {acc : Array Value} (h : ItemsOf (fun i v => ∃ t, v = .int (a + i * c) t) acc n) : Vals ((List.range n).map fun (i : Nat) => V.int (a + i * c)) acc.toList := by
  have e : acc.toList.length = n := by rw [Array.length_toList]; exact h.1
  subst e
  refine vals_of_get acc.toList (fun (i : Nat) => V.int (a + i * c)) fun j u hj => ?_
  exact h.2 j u (by rw [← hj, Array.getElem?_toList])
theorem dq_rg {K : Fg} {S : Hp} (a c : Int) (l : List Nat) : DqAll K S (l.map fun (i : Nat) => V.int (a + i * c)) (l.map fun (i : Nat) => D.int (a + i * c)) := by
  induction l with
  | nil => exact .nil
  | cons i r ih => exact .cons (.int _) ih
theorem pe_rgT {e : Expr} {es : List Expr} {as : List Ar} {p p2 q pos : Pos} (hc : X.calm = true) (hg : Gl X "tuple") (hm : X.mg "tuple" = none) (hg2 : Gl X "range") (hm2 : X.mg "range" = none) (ha : PA X (e :: es) (tAs X.K as)) (hd : (e :: es).all okHd = true) :
    PE X (.Call (.Name "tuple" p) [.Call (.Name "range" p2) (e :: es) [] q] [] pos) (tV X.K (opC oRgT as)) := by
  have hd2 := Bool.and_eq_true_iff.mp (show (okHd e && es.all okHd) = true from hd)
  refine ⟨fun pins s σ H Q I h => ?_⟩
  refine Call_ (ld_blt I hg hm boot_tuple (PyProof.Rows.callWith_type1 (args_cons (Call_ (ld_blt I hg2 hm2 boot_range (PyProof.Rows.callWith_type1 (thn (ha.run q pins s σ H _ I (op_as h)) fun us s1 ⟨vs, H1, I1, r1, q1⟩ => ?_) (star_cons hd2.1) (noStar hd2.2)))) rfl) rfl))
  obtain ⟨S, ds, r, hs, hr, ho, q1⟩ := q1
  obtain ⟨items, g1, g2⟩ := Option.bind_eq_some_iff.mp ho
  split at g2
  · rename_i hz
    cases g2
    refine rg_made hr g1 r1 fun r a b c t u v n s2 k1 k2 k3 k4 k5 => args_nil ?_
    obtain ⟨h', tk, rfl, hk⟩ := k5
    have I2 := I1.kept (t' := tk) hk
    have hn : n ≤ 2 ^ 24 := szLine (by rw [k4] at hz; simpa using hz)
    refine call_tuple_range (n := n) (I2.ok.hd hc) k1 k2 k3 hn fun h2 tk2 acc hk2 hi => ?_
    have I3 := I2.kept (t' := tk2) hk2
    have hl : ((List.range n).map fun (i : Nat) => V.int (a + i * c)).length ≤ sizeLine := by
      have := sizeLine_eq
      simp only [List.length_map, List.length_range]
      omega
    subst k4
    exact ⟨.ref h2.objs.size, _, I3.laid (t' := tk2) (fun c o e => Heap.get?_push_of_some _ e) (Nat.le_refl _) (o := .tup ((List.range n).map fun (i : Nat) => V.int (a + i * c))) ⟨hl, acc.toList, vals_rgD hi, by rw [Array.toArray_toList]; exact IsTup.new _ _⟩, rfl, end_tup hs q1 rfl (dq_rg a c _) _ (I3.hok.fresh (Nat.le_refl _))⟩
  · cases g2
theorem pe_rgL {e : Expr} {es : List Expr} {as : List Ar} {p p2 q pos : Pos} (hc : X.calm = true) (hg : Gl X "list") (hm : X.mg "list" = none) (hg2 : Gl X "range") (hm2 : X.mg "range" = none) (ha : PA X (e :: es) (tAs X.K as)) (hd : (e :: es).all okHd = true) :
    PE X (.Call (.Name "list" p) [.Call (.Name "range" p2) (e :: es) [] q] [] pos) (tV X.K (opC oRgL as)) := by
  have hd2 := Bool.and_eq_true_iff.mp (show (okHd e && es.all okHd) = true from hd)
  refine ⟨fun pins s σ H Q I h => ?_⟩
  refine Call_ (ld_blt I hg hm boot_list (PyProof.Rows.callWith_type1 (args_cons (Call_ (ld_blt I hg2 hm2 boot_range (PyProof.Rows.callWith_type1 (thn (ha.run q pins s σ H _ I (op_as h)) fun us s1 ⟨vs, H1, I1, r1, q1⟩ => ?_) (star_cons hd2.1) (noStar hd2.2)))) rfl) rfl))
  obtain ⟨S, ds, r, hs, hr, ho, q1⟩ := q1
  obtain ⟨items, g1, g2⟩ := Option.bind_eq_some_iff.mp ho
  split at g2
  · rename_i hz
    cases g2
    refine rg_made hr g1 r1 fun r a b c t u v n s2 k1 k2 k3 k4 k5 => args_nil ?_
    obtain ⟨h', tk, rfl, hk⟩ := k5
    have I2 := I1.kept (t' := tk) hk
    have hn : n ≤ 2 ^ 24 := szLine (by rw [k4] at hz; simpa using hz)
    refine call_list_range (n := n) (I2.ok.hd hc) k1 k2 k3 hn fun h2 tk2 acc c' hk2 e' hi => ?_
    have hl : ((List.range n).map fun (i : Nat) => V.int (a + i * c)).length ≤ sizeLine := by
      have := sizeLine_eq
      simp only [List.length_map, List.length_range]
      omega
    subst k4
    exact ⟨.ref h'.objs.size, _, I2.laid (t' := tk2) hk2 (Nat.le_refl _) (o := .lst ((List.range n).map fun (i : Nat) => V.int (a + i * c))) ⟨hl, acc.toList, c', vals_rgD hi, by rw [Array.toArray_toList]; exact e'⟩, rfl, end_lst hs q1 rfl (dq_rg a c _) _ (I2.hok.fresh (Nat.le_refl _))⟩
  · cases g2
end
end My

namespace My
open PySem PySem.Spec PyProof.Rows L2

/-! ### methods of lists and tuples with one argument: index -/
def oIxL : List D → Option RV
  | [.lst ds, .int k] => (intsD ds).bind fun ns => if k ∈ ns then some (.val (.int (ns.idxOf k : Nat))) else none
  | _ => none
def mqK (fL : List D → Option RV) : D → Option (List D → Option RV)
  | .lst _ => some fL
  | _ => none
@[simp] def mqV (fL : List D → Option RV) (a b : Ar) : EvV := fun ρ => (evAr a ρ).bind fun x => (x.1.get x.2).bind fun d0 => (mqK fL d0).bind fun f => (evAr b x.2).bind fun y => (x.1.get y.2).bind fun d => (y.1.get y.2).bind fun e => (f [d, e]).bind fun r => some (r, y.2)
def rQ (K : Fg) (f : List D → Option RV) : V → List V → Hp → VK → Prop := fun x xs H Q => ∃ y, xs = [y] ∧ rOp K f [x, y] H Q
theorem mt_ixL {X : Cx} : MtR X "list.index" (rQ X.K oIxL) := by
  intro pins s σ H x xs v us Q I rx rus ⟨y, e0, S, ds, r, hs, hr, ho, q⟩
  subst e0
  obtain ⟨d, e, rfl, hd, he⟩ := rd2 hr
  unfold oIxL at ho
  split at ho
  · rename_i es k h
    cases h
    obtain ⟨ns, h1, h2⟩ := Option.bind_eq_some_iff.mp ho
    split at h2
    · rename_i hk
      cases h2
      obtain ⟨a, vs, rfl, g1, g2⟩ := hd.lst' hs
      have g3 := ints_dq g2 h1
      subst g3
      cases rx
      obtain ⟨u, rfl, ru⟩ := Vals.one rus
      rw [he.int'] at ru
      obtain ⟨t, rfl⟩ := ru
      obtain ⟨its, rv, pl, hz⟩ := I.list (.inl (.inl g1))
      exact PySem.SeqAt.list_index_ints pl.isList (by simpa using RZ.intsAre_vals rv) (by simpa using hz) hk ⟨.int _, H, I.tok _, ⟨_, rfl⟩, end_val hs q rfl (.int _)⟩
    · cases h2
  · cases ho
theorem pe_mq {X : Cx} {o e : Expr} {m : Str} {idL : String} {fL : List D → Option RV} {apos pos : Pos} {a b : Ar} (sL : Slot "list" m idL) (kL : typeOf (.builtin idL) = pure (.type "method_descriptor"))
    (hL : MtR X idL (rQ X.K fL)) (ho : PE X o (tA X.K a)) (he : PE X e (tA X.K b)) (hd : okHd e = true) (hbase : attributeBase o m X.env (eval o X.env) = eval o X.env) (hline : (apos.endLine == pos.line) = true) :
    PE X (.Call (.Attribute o m apos) [e] [] pos) (tV X.K (mqV fL a b)) := by
  have hst : starEach [e] X.env = (false, eval e X.env) :: starEach [] X.env := star_cons hd
  have ha : PA X [e] (tAs X.K [b]) := pas_cons he pas_nil hst
  refine ⟨fun pins s σ H Q I h => ?_⟩
  obtain ⟨B, ρ, S, r, ρ', R, e0, q⟩ := h
  obtain ⟨⟨h1, ρ1⟩, e1, e2⟩ := Option.bind_eq_some_iff.mp e0
  obtain ⟨d0, e3, e4⟩ := Option.bind_eq_some_iff.mp e2
  obtain ⟨f, e5, e6⟩ := Option.bind_eq_some_iff.mp e4
  obtain ⟨⟨h2, ρ2⟩, e7, e8⟩ := Option.bind_eq_some_iff.mp e6
  obtain ⟨d, e9, e10⟩ := Option.bind_eq_some_iff.mp e8
  obtain ⟨d2, e11, e12⟩ := Option.bind_eq_some_iff.mp e10
  obtain ⟨r1, e13, e14⟩ := Option.bind_eq_some_iff.mp e12
  cases e14
  refine wpAny_Call_method_late hbase (by rw [hst]; rfl) hline rfl (thn (ho.run pins s σ H (fun x H1 => ∃ S1, Rel X.K B σ ρ1 H1 S1 ∧ Ext σ ρ ρ1 H S H1 S1 ∧ ArgOk X.K S1 σ x h1) I ⟨B, ρ, S, h1, ρ1, R, e1, fun v H1 S1 R1 X1 A1 => ⟨S1, R1, X1, A1⟩⟩) fun v s1 ⟨x, H1, I1, r1', S1, R1, X1, A1⟩ => ?_)
  have hd0 := rdb_of R1 A1 e3
  have qq : tAs X.K [b] σ H1 (fun vs H2 => rQ X.K f x vs H2 Q) := by
    refine ⟨B, ρ1, S1, [h2], ρ2, R1, by show (evAr b ρ1).bind _ = _; rw [e7]; rfl, fun vs H2 S2 R2 X2 A2 => ?_⟩
    cases A2 with
    | cons A2 t =>
      cases t
      exact ⟨_, rfl, S2, [d, d2], _, R2.sub, .cons (rdb_of R2 (A1.mono X2.ss) e9) (.cons (rdb_of R2 A2 e11) .nil), e13, fun w H3 S3 g k => q w H3 S3 (R2.grow g) ((X1.trans X2).trans (.grow g)) (rvOk_back (X1.trans X2) k)⟩
  cases d0 with
  | lst es =>
    cases e5
    obtain ⟨p, xs, rfl, g1, g2⟩ := hd0.lst' R1.sub
    cases r1'
    obtain ⟨its, rv, pl, hz⟩ := I1.list (.inl (.inl g1))
    refine ⟨"list", idL, PySem.F.plainAttrs_list, sL, kL, pl.isList.typeIs, fun c ec => ?_, ?_⟩
    · cases ec
      obtain ⟨ob, n, k1, _, k3, _⟩ := pl
      exact ⟨ob, k1, k3⟩
    · have hA := ha.run pos pins s1 σ H1 _ I1 qq
      rw [hst] at hA ⊢
      refine Calls.callWith_builtin rfl (Calls.evalArgs_plain ?_)
      exact thn hA fun us s2 ⟨vs, H2, I2, r2, q2⟩ => hL pins s2 σ H2 (.ref p) vs (.ref p) us Q I2 rfl r2 q2
  | _ => cases e5
/-- methods of lists and tuples with one argument -/
inductive M2 | index
  deriving DecidableEq
def M2.name : M2 → Str
  | .index => "index"
@[simp] def M2.fL : M2 → List D → Option RV
  | .index => oIxL
theorem pe_m2 {X : Cx} {o e : Expr} {apos pos : Pos} {a b : Ar} (m : M2) (ho : PE X o (tA X.K a)) (he : PE X e (tA X.K b)) (hd : okHd e = true) (hbase : attributeBase o m.name X.env (eval o X.env) = eval o X.env) (hline : (apos.endLine == pos.line) = true) :
    PE X (.Call (.Attribute o m.name apos) [e] [] pos) (tV X.K (mqV m.fL a b)) := by
  cases m with
  | index => exact pe_mq PySem.F.slot_list_index PySem.F.type_list_index mt_ixL ho he hd hbase hline
end My

namespace My
open PySem PySem.Spec PyProof.Rows L2

/-! ### the small language: its terms -/
/-- built-in calls, by name -/
inductive Bf | len | tuple | list | abs | int | str | all | any | sum | max | min | sorted
  deriving DecidableEq
def Bf.name : Bf → Str
  | .len => "len" | .tuple => "tuple" | .list => "list" | .abs => "abs" | .int => "int" | .str => "str" | .all => "all" | .any => "any" | .sum => "sum" | .max => "max" | .min => "min" | .sorted => "sorted"
/-- a type, or a function -/
def Bf.ty : Bf → Option String
  | .tuple => some "tuple" | .list => some "list" | .int => some "int" | .str => some "str"
  | _ => none
def Bf.id : Bf → String
  | .len => "len" | .abs => "abs" | .all => "all" | .any => "any" | .sum => "sum" | .max => "max" | .min => "min" | .sorted => "sorted" | _ => ""
@[simp] def Bf.f : Bf → List D → Option RV
  | .len => oLen | .tuple => oTuple | .list => oList | .abs => oAbs | .int => oInt | .str => oStr | .all => oAll | .any => oAny | .sum => oSum | .max => oMax | .min => oMin | .sorted => oSorted
@[simp] def Bi.f : Bi → List D → Option RV
  | .add => oAdd | .sub => oSub | .mul => oMulS | .fdiv => oFdiv | .mod => oMod | .pow => oPow
mutual
inductive Ex where
  | var (i : Nat) | fz (i : Nat)
  | cint (i : Int) | cstr (s : Str) | cbl (b : Bool) | cnon
  | glo (k : Nat)
  | bi (o : Bi) (a b : Ex) | neg (a : Ex)
  | cm (o : Cm) (a b : Ex) | ch (o p : Cm) (a b c : Ex)
  | bo (k : Bool) (es : Exs) | not (a : Ex) | ite (c a b : Ex)
  | lst (es : Exs) | tup (es : Exs)
  | idx (a b : Ex) | sl (a : Ex) (lo hi : Po) | rev (a : Ex)
  | bf (f : Bf) (es : Exs)
  | call (k : Nat) (es : Exs)
  | isa (T : Ty) (a : Ex)
  | m1 (m : M1) (a b : Ex)
  | m2 (m : M2) (a b : Ex)
  | pop (i : Nat) (es : Exs) | app (i : Nat) (e : Ex)
  | lset (a : Ex)
  | sset (a : Ex)
  | rg (t : Bool) (es : Exs)
  | lc (elt : Ex) (tg : Tg) (own : List Nat) (it : It) (cd : Po)
  | lco (elt : Ex) (tg : Tg) (own : List Nat) (i : Nat) (cd : Po)
inductive Exs where
  | nil | cons (e : Ex) (es : Exs)
inductive Po where
  | no | so (e : Ex)
inductive It where
  | sq (e : Ex) | rng (es : Exs) | en (e : Ex) | zp (a b : Ex)
end
mutual
inductive Sx where
  | asg (i : Nat) (e : Ex) | exp (e : Ex)
  | ite (c : Ex) (a b : Sxs)
  | ret (e : Ex) | retN | pass | brk | never
  | whl (c : Ex) (b : Sxs) (wp : List Nat)
  | «for» (it : It) (tg : Tg) (b : Sxs) (wp : List Nat)
  | unp (tg : Tg) (e : Ex)
  | par (is : List Nat) (es : Exs)
  | setI (i : Nat) (ix a : Ex)
  | swap (i j : Nat) (x y a b : Ex)
inductive Sxs where
  | nil | cons (s : Sx) (r : Sxs)
end
/-- the defs that may be called, the module's constants -/
structure Gm where
  Φ : List FI
  C : List (Str × D)
  B : List Str
@[simp] def arE (e : Ex) (v : EvV) : Ar := match e with
  | .var i => .var i
  | .fz i => .fz i
  | _ => .ex v
@[simp] def stE (e : Ex) (v : EvV) : Ar := match e with
  | .var i => .fz i
  | .fz i => .fz i
  | _ => .ex v
/-! ### .. and their meaning -/
mutual
@[simp] def sem (Γ : Gm) : Ex → Sm
  | .var i => ⟨slotV i, testA (.var i)⟩
  | .fz i => ⟨slotV i, testA (.var i)⟩
  | .cint i => plain (constV (.int i))
  | .cstr s => plain (constV (.str s))
  | .cbl b => plain (constV (.bl b))
  | .cnon => plain (constV .non)
  | .glo k => plain (match Γ.C[k]? with | some p => constV p.2 | none => fun _ => none)
  | .bi o a b => plain (opC o.f [arE a (sem Γ a).v, arE b (sem Γ b).v])
  | .neg a => plain (opC oNeg [arE a (sem Γ a).v])
  | .cm o a b => blS (opC o.f [arE a (sem Γ a).v, arE b (sem Γ b).v])
  | .ch o p a b c => blS (chV o.f p.f (arE a (sem Γ a).v) (arE b (sem Γ b).v) (arE c (sem Γ c).v))
  | .bo k es => ⟨boV k (semVs Γ es), boT k (semTs Γ es)⟩
  | .not a => ⟨opC oNot [arE a (sem Γ a).v], notT (sem Γ a).t⟩
  | .ite c a b => ⟨iteV (sem Γ c).t (sem Γ a).v (sem Γ b).v, fun _ => none⟩
  | .lst es => plain (seqV .new (semSs Γ es))
  | .tup es => plain (seqV (fun ds => .val (.tup ds)) (semSs Γ es))
  | .idx a b => plain (opC oIdx [arE a (sem Γ a).v, arE b (sem Γ b).v])
  | .sl a lo hi => plain (slV (arE a (sem Γ a).v) (semP Γ lo) (semP Γ hi))
  | .rev a => plain (revV (arE a (sem Γ a).v))
  | .bf f es => plain (opC f.f (semAs Γ es))
  | .call k es => plain (match Γ.Φ[k]? with
    | some fi => if fi.io then callIo fi.F (semAs Γ es) else callV fi.F (semAs Γ es)
    | none => fun _ => none)
  | .isa T a => plain (opC (oIsa T) [arE a (sem Γ a).v])
  | .m1 m a b => plain (mt1V m.f (arE a (sem Γ a).v) (arE b (sem Γ b).v))
  | .m2 m a b => plain (mqV m.fL (arE a (sem Γ a).v) (arE b (sem Γ b).v))
  | .pop i es => plain (popV i (semAs Γ es))
  | .app i e => plain (appV i (stE e (sem Γ e).v))
  | .lset a => plain (opC oLenSet [arE a (sem Γ a).v])
  | .sset a => plain (opC oSrtSet [arE a (sem Γ a).v])
  | .rg t es => plain (opC (if t = true then oRgT else oRgL) (semAs Γ es))
  | .lc elt tg own it cd => plain (lcV (semI Γ it) tg own (semC Γ cd) (stE elt (sem Γ elt).v))
  | .lco elt tg own i cd => plain (lcoV i tg own (semC Γ cd) (stE elt (sem Γ elt).v))
@[simp] def semVs (Γ : Gm) : Exs → List EvV
  | .nil => []
  | .cons e es => (sem Γ e).v :: semVs Γ es
@[simp] def semTs (Γ : Gm) : Exs → List EvT
  | .nil => []
  | .cons e es => (sem Γ e).t :: semTs Γ es
@[simp] def semAs (Γ : Gm) : Exs → List Ar
  | .nil => []
  | .cons e es => arE e (sem Γ e).v :: semAs Γ es
@[simp] def semSs (Γ : Gm) : Exs → List Ar
  | .nil => []
  | .cons e es => stE e (sem Γ e).v :: semSs Γ es
@[simp] def semP (Γ : Gm) : Po → Option Ar
  | .no => none
  | .so e => some (arE e (sem Γ e).v)
@[simp] def semC (Γ : Gm) : Po → EvT
  | .no => fun ρ => some (true, ρ)
  | .so e => (sem Γ e).t
@[simp] def semI (Γ : Gm) : It → EvI
  | .sq e => seqI (stE e (sem Γ e).v)
  | .rng es => rngI (semAs Γ es)
  | .en e => enI (stE e (sem Γ e).v)
  | .zp a b => zipI (stE a (sem Γ a).v) (stE b (sem Γ b).v)
end
@[simp] def Ex.retA (Γ : Gm) (e : Ex) : Ar := match e with
  | .var i => .var i
  | .fz i => .fz i
  | e => .ex (sem Γ e).v
mutual
@[simp] def semS (Γ : Gm) : Sx → EvS
  | .asg i e => asgS i (sem Γ e).v
  | .exp e => expS (sem Γ e).v
  | .ite c a b => iteS (sem Γ c).t (semB Γ a) (semB Γ b)
  | .ret e => retS (e.retA Γ)
  | .retN => retN
  | .pass => nilS
  | .brk => fun ρ => some (.bk ρ)
  | .never => fun _ => none
  | .whl c b wp => whlS (sem Γ c).t (semB Γ b) wp
  | .for it tg b wp => forS (semI Γ it) tg (semB Γ b) wp
  | .unp tg e => unpS tg (stE e (sem Γ e).v)
  | .par is es => tupS is (semVs Γ es)
  | .setI i ix a => setIS i (arE ix (sem Γ ix).v) (stE a (sem Γ a).v)
  | .swap i j x y a b => swapS i j (arE x (sem Γ x).v) (arE y (sem Γ y).v) (stE a (sem Γ a).v) (stE b (sem Γ b).v)
@[simp] def semB (Γ : Gm) : Sxs → EvS
  | .nil => nilS
  | .cons s r => seqS (semS Γ s) (semB Γ r)
end
def Exs.len : Exs → Nat
  | .nil => 0
  | .cons _ es => es.len + 1
/-! ### the look at the text -/
def visB (sc : Scope) (x : Str) : Bool := match sc.names.lookup x with
  | some .local => true
  | some .cell => true
  | some .free => true
  | _ => false
def locB (sc : Scope) (x : Str) : Bool := match sc.names.lookup x with
  | some .local => true
  | some .cell => true
  | _ => false
def glB (sc : Scope) (x : Str) : Bool := match sc.names.lookup x with
  | some .globalImplicit => true
  | _ => false
def nmC (N : List Str) (sc : Scope) (i : Nat) (x : Str) : Bool := decide (N[i]? = some x) && visB sc x && !(x == ("__debug__" : Str)) && !(x == ("__classdict__" : Str))
def stC (N : List Str) (sc : Scope) (i : Nat) (x : Str) : Bool := decide (N[i]? = some x) && locB sc x
def nmsC (N : List Str) (sc : Scope) : List Nat → List Expr → Bool
  | [], [] => true
  | i :: is, .Name x _ :: es => stC N sc i x && nmsC N sc is es
  | _, _ => false
def tgC (N : List Str) (sc : Scope) : Tg → Expr → Bool
  | .nm i, .Name x _ => stC N sc i x
  | .tup l, .Tuple es _ _ => nmsC N sc l es
  | _, _ => false
def isTupE : Expr → Bool
  | .Tuple .. => true
  | _ => false
def bltB (Γ : Gm) (sc : Scope) (x y : Str) : Bool := decide (x = y) && glB sc x && Γ.B.contains x
def lineB (apos pos : Pos) : Bool := apos.endLine == pos.line
mutual
def chk (Γ : Gm) (N : List Str) (sc : Scope) : Ex → Expr → Bool
  | .var i, pe => match pe with | .Name x _ => nmC N sc i x | _ => false
  | .fz i, pe => match pe with | .Name x _ => nmC N sc i x | _ => false
  | .cint i, pe => match pe with | .Constant (.int j) _ _ => decide (j = i) | _ => false
  | .cstr s, pe => match pe with | .Constant (.str t) _ _ => decide (t = s) | _ => false
  | .cbl b, pe => match pe with | .Constant (.bool c) _ _ => decide (c = b) | _ => false
  | .cnon, pe => match pe with | .Constant .none _ _ => true | _ => false
  | .glo k, pe => match pe with
    | .Name x _ => glB sc x && !(x == ("__debug__" : Str)) && (match Γ.C[k]? with | some p => decide (p.1 = x) | none => false)
    | _ => false
  | .bi o a b, pe => match pe with | .BinOp pa op pb _ => decide (op = o.op) && chk Γ N sc a pa && chk Γ N sc b pb | _ => false
  | .neg a, pe => match pe with | .UnaryOp .USub pa _ => chk Γ N sc a pa | _ => false
  | .cm o a b, pe => match pe with | .Compare pa [op] [pb] _ => decide (op = o.op) && chk Γ N sc a pa && chk Γ N sc b pb | _ => false
  | .ch o p a b c, pe => match pe with | .Compare pa [op, op2] [pb, pc] _ => decide (op = o.op) && decide (op2 = p.op) && chk Γ N sc a pa && chk Γ N sc b pb && chk Γ N sc c pc | _ => false
  | .bo k es, pe => match pe with | .BoolOp op (pa :: pes) _ => decide (op = if k = true then .And else .Or) && chks Γ N sc es (pa :: pes) | _ => false
  | .not a, pe => match pe with | .UnaryOp .Not pa _ => chk Γ N sc a pa | _ => false
  | .ite c a b, pe => match pe with | .IfExp pc pa pb _ => chk Γ N sc c pc && chk Γ N sc a pa && chk Γ N sc b pb | _ => false
  | .lst es, pe => match pe with | .List pes _ => chks Γ N sc es pes | _ => false
  | .tup es, pe => match pe with | .Tuple pes _ _ => chks Γ N sc es pes | _ => false
  | .idx a b, pe => match pe with | .Subscript pa pb _ => chk Γ N sc a pa && chk Γ N sc b pb | _ => false
  | .sl a lo hi, pe => match pe with | .Subscript pa (.Slice l u none _) _ => chk Γ N sc a pa && chkP Γ N sc lo l && chkP Γ N sc hi u | _ => false
  | .rev a, pe => match pe with | .Subscript pa (.Slice none none (some (.UnaryOp .USub (.Constant (.int 1) _ _) _)) _) _ => chk Γ N sc a pa | _ => false
  | .bf f es, pe => match pe with | .Call (.Name x _) (pa :: pes) [] _ => bltB Γ sc x f.name && chks Γ N sc es (pa :: pes) | _ => false
  | .call k es, pe => match pe with
    | .Call (.Name x _) pes [] _ => glB sc x && !(x == ("__debug__" : Str)) && !(x == ("super" : Str)) && (match Γ.Φ[k]? with | some fi => decide (fi.name = x) && decide (es.len = fi.n) | none => false) && chks Γ N sc es pes
    | _ => false
  | .isa T a, pe => match pe with | .Call (.Name x _) [pa, .Name y _] [] _ => bltB Γ sc x "isinstance" && bltB Γ sc y T.name && chk Γ N sc a pa | _ => false
  | .m1 m a b, pe => match pe with | .Call (.Attribute pa x apos) [pb] [] pos => decide (x = m.name) && lineB apos pos && chk Γ N sc a pa && chk Γ N sc b pb | _ => false
  | .m2 m a b, pe => match pe with | .Call (.Attribute pa x apos) [pb] [] pos => decide (x = m.name) && lineB apos pos && chk Γ N sc a pa && chk Γ N sc b pb | _ => false
  | .pop i es, pe => match pe with | .Call (.Attribute (.Name x _) y apos) pes [] pos => decide (y = ("pop" : Str)) && lineB apos pos && nmC N sc i x && decide (pes.length ≤ 1) && chks Γ N sc es pes | _ => false
  | .app i e, pe => match pe with | .Call (.Attribute (.Name x _) y apos) [pa] [] pos => decide (y = ("append" : Str)) && lineB apos pos && nmC N sc i x && chk Γ N sc e pa | _ => false
  | .lset a, pe => match pe with | .Call (.Name x _) [.Call (.Name y _) [pa] [] _] [] _ => bltB Γ sc x "len" && bltB Γ sc y "set" && chk Γ N sc a pa | _ => false
  | .sset a, pe => match pe with | .Call (.Name x _) [.Call (.Name y _) [pa] [] _] [] _ => bltB Γ sc x "sorted" && bltB Γ sc y "set" && chk Γ N sc a pa | _ => false
  | .rg t es, pe => match pe with | .Call (.Name x _) [.Call (.Name y _) (pa :: pes) [] _] [] _ => bltB Γ sc x (if t = true then "tuple" else "list") && bltB Γ sc y "range" && chks Γ N sc es (pa :: pes) | _ => false
  | .lc elt tg own it cd, pe => match pe with
    | .ListComp pelt [⟨ptg, piter, ifs, isa⟩] scope _ => decide (isa = 0) && blkC N sc scope (own.map fun i => (N.getD i "", i)) && tgC N scope tg ptg && okHd piter && chkI Γ N sc (isTupE ptg) it piter &&
        chkC Γ N (relS scope sc) cd ifs && chk Γ N (relS scope sc) elt pelt
    | _ => false
  | .lco elt tg own i cd, pe => match pe with
    | .ListComp pelt [⟨ptg, .Name x _, ifs, isa⟩] scope _ => decide (isa = 0) && blkC N sc scope (own.map fun i => (N.getD i "", i)) && tgC N scope tg ptg && nmC N sc i x &&
        chkC Γ N (relS scope sc) cd ifs && chk Γ N (relS scope sc) elt pelt
    | _ => false
def chks (Γ : Gm) (N : List Str) (sc : Scope) : Exs → List Expr → Bool
  | .nil, pes => match pes with | [] => true | _ => false
  | .cons e es, pes => match pes with | pe :: pes => chk Γ N sc e pe && chks Γ N sc es pes | _ => false
def chkP (Γ : Gm) (N : List Str) (sc : Scope) : Po → Option Expr → Bool
  | .no, pe => match pe with | none => true | _ => false
  | .so e, pe => match pe with | some pe => chk Γ N sc e pe | _ => false
def chkC (Γ : Gm) (N : List Str) (sc : Scope) : Po → List Expr → Bool
  | .no, pes => match pes with | [] => true | _ => false
  | .so e, pes => match pes with | [pe] => chk Γ N sc e pe | _ => false
def chkI (Γ : Gm) (N : List Str) (sc : Scope) (tt : Bool) : It → Expr → Bool
  | .sq e, pe => chk Γ N sc e pe
  | .rng es, pe => match pe with | .Call (.Name x _) pes [] _ => bltB Γ sc x "range" && chks Γ N sc es pes && decide (1 ≤ pes.length) && decide (pes.length ≤ 3) | _ => false
  | .en e, pe => match pe with | .Call (.Name x _) [pa] [] _ => tt && bltB Γ sc x "enumerate" && chk Γ N sc e pa | _ => false
  | .zp a b, pe => match pe with | .Call (.Name x _) [pa, pb] [] _ => tt && bltB Γ sc x "zip" && chk Γ N sc a pa && chk Γ N sc b pb | _ => false
end
/-- does y = [..] go by the block's own exchange -/
def swB (sc : Scope) (y : Str) (py : Pos) : Expr → Bool
  | .ListComp _ _ scope pos => (sc.names.lookup y == some .local) && (py.line == pos.line) && !(scope.names.any fun (n, k) => n == y && (k == .local || k == .cell))
  | .SetComp _ _ scope pos => (sc.names.lookup y == some .local) && (py.line == pos.line) && !(scope.names.any fun (n, k) => n == y && (k == .local || k == .cell))
  | .DictComp _ _ _ scope pos => (sc.names.lookup y == some .local) && (py.line == pos.line) && !(scope.names.any fun (n, k) => n == y && (k == .local || k == .cell))
  | _ => false
/-- several names at once: by the exchange -/
def swpB (sc : Scope) (ts vs : List Expr) : Option (Option (List Str)) :=
  if !(ts.length == 2 || ts.length == 3) || vs.length != ts.length then some none
  else if vs.any (fun | .Starred .. => true | _ => false) then some none
  else
    let line := (ts.head?.map (·.pos.line)).getD 0
    let names := ts.filterMap fun
      | .Name id pos => if sc.names.lookup id == some .local && pos.line == line then some id else none
      | _ => none
    if names.length != ts.length || names.eraseDups.length != names.length then some none
    else if vs.all (foldedForSure 8) then some none
    else if vs.all (constantsAlone 8) then none
    else some (some names)
def lclB (sc : Scope) (x : Str) : Bool := sc.names.lookup x == some .local
def parC (sc : Scope) : List Nat → List Expr → List Expr → List Str → Bool
  | [i, j], [.Name x _, .Name y _], [_, _], [x', y'] => decide (x = x') && decide (y = y') && decide (i ≠ j) && (lclB sc x && lclB sc y)
  | [i, j, l], [.Name x _, .Name y _, .Name z _], [_, _, _], [x', y', z'] => decide (x = x') && decide (y = y') && decide (z = z') && (decide (i ≠ j) && decide (i ≠ l) && decide (j ≠ l) && (lclB sc x && lclB sc y && lclB sc z))
  | _, _, _, _ => false
def isLco : Ex → Bool
  | .lco .. => true
  | _ => false
mutual
def chkS (Γ : Gm) (N : List Str) (sc : Scope) : Sx → Stmt → Bool
  | .asg i e, st => match st with | .Assign [.Name x p] pe _ => stC N sc i x && chk Γ N sc e pe && !(isLco e && swB sc x p pe) | _ => false
  | .exp e, st => match st with | .Expr (.Call f as kw p) _ => chk Γ N sc e (.Call f as kw p) | _ => false
  | .ite c a b, st => match st with | .If pc pa pb _ => chk Γ N sc c pc && chkB Γ N sc a pa && chkB Γ N sc b pb | _ => false
  | .ret e, st => match st with | .Return (some pe) _ => chk Γ N sc e pe | _ => false
  | .retN, st => match st with | .Return none _ => true | _ => false
  | .pass, st => match st with | .Pass _ => true | _ => false
  | .brk, st => match st with | .Break _ => true | _ => false
  | .never, st => true
  | .whl c b wp, st => match st with | .While pc pb [] _ => chk Γ N sc c pc && chkB Γ N sc b pb | _ => false
  | .for it tg b wp, st => match st with | .For ptg piter pb [] _ => okHd piter && chkI Γ N sc (isTupE ptg) it piter && tgC N sc tg ptg && chkB Γ N sc b pb | _ => false
  | .unp tg e, st => match st with | .Assign [ptg] pe _ => isTupE ptg && !isTupE pe && tgC N sc tg ptg && chk Γ N sc e pe | _ => false
  | .par is es, st => match st with
    | .Assign [.Tuple ts _ _] (.Tuple vs _ _) _ => nmsC N sc is ts && chks Γ N sc es vs && decide (is.length ≤ 1000) && (match swpB sc ts vs with
      | some none => true
      | some (some names) => parC sc is ts vs names
      | none => false)
    | _ => false
  | .setI i ix a, st => match st with | .Assign [.Subscript (.Name x _) pix _] pe _ => nmC N sc i x && chk Γ N sc ix pix && chk Γ N sc a pe | _ => false
  | .swap i j x y a b, st => match st with
    | .Assign [.Tuple [.Subscript (.Name n1 _) p1 _, .Subscript (.Name n2 _) p2 _] _ _] (.Tuple [q1, q2] _ _) _ => nmC N sc i n1 && nmC N sc j n2 && chk Γ N sc x p1 && chk Γ N sc y p2 && chk Γ N sc a q1 && chk Γ N sc b q2
    | _ => false
def chkB (Γ : Gm) (N : List Str) (sc : Scope) : Sxs → List Stmt → Bool
  | .nil, sts => match sts with | [] => true | _ => false
  | .cons s r, sts => match sts with | st :: sts => chkS Γ N sc s st && chkB Γ N sc r sts | _ => false
end
end My

namespace My
open PySem PySem.Spec PyProof.Rows L2

/-! ### what is shown of an expression -/
structure Okx (X : Cx) (Γ : Gm) (pe : Expr) (e : Ex) : Prop where
  v : PE X pe (tV X.K (sem Γ e).v)
  t : PT X pe (tT X.K (sem Γ e).t)
  a : PE X pe (tA X.K (arE e (sem Γ e).v))
  s : PE X pe (tA X.K (stE e (sem Γ e).v))
  hd : okHd pe = true
section
variable {X : Cx} {Γ : Gm} {K : Fg} {pe : Expr} {e : Ex} {a : Ar} {f : EvV} {σ : St} {H : Hp}
/-- a plain one: from its value -/
theorem okx_plain {f : EvV} (h : PE X pe (tV X.K f)) (hp : plainT pe = true) (hh : okHd pe = true) (he : sem Γ e = plain f) (ha : arE e f = .ex f) (hs : stE e f = .ex f) : Okx X Γ pe e := by
  refine ⟨by rw [he]; exact h, by rw [he]; exact pt_test (pa_ex h) hp, ?_, ?_, hh⟩
  · rw [he]; show PE X pe (tA X.K (arE e f)); rw [ha]; exact pa_ex h
  · rw [he]; show PE X pe (tA X.K (stE e f)); rw [hs]; exact pa_ex h
theorem okx_var {i : Nat} (h : PE X pe (tVar i)) (hp : plainT pe = true) (hh : okHd pe = true) : Okx X Γ pe (.var i) := by
  refine ⟨?_, pt_test (pa_slot h) hp, pa_slot h, pa_fz h, hh⟩
  refine pe_imp (pa_fz h) fun σ H Q q => ?_
  obtain ⟨B, ρ, S, r, ρ', R, e, q⟩ := q
  obtain ⟨⟨d, ρ1⟩, e1, e2⟩ := Option.bind_eq_some_iff.mp e
  cases e2
  refine ⟨B, ρ, S, .dat d, ρ1, R, ?_, fun v H1 S1 R1 X1 A1 => q v H1 S1 R1 X1 A1⟩
  show (froz i ρ).bind _ = _
  rw [e1]; rfl
theorem okx_fz {i : Nat} (h : PE X pe (tVar i)) (hp : plainT pe = true) (hh : okHd pe = true) : Okx X Γ pe (.fz i) := by
  have o := okx_var (Γ := Γ) h hp hh
  exact ⟨o.v, o.t, pa_fz h, pa_fz h, hh⟩
/-- from a rule that asks a bool -/
theorem okx_bl {f : EvV} {t : TE} (h : PE X pe t) (ht : PT X pe (fun σ H Q => t σ H fun x H' => ∃ k, x = .bl k ∧ Q k H')) (w : ∀ σ H Q, tV X.K f σ H Q → t σ H Q) (hh : okHd pe = true) (he : sem Γ e = blS f) (ha : arE e f = .ex f) (hs : stE e f = .ex f) : Okx X Γ pe e := by
  have hv : PE X pe (tV X.K f) := pe_imp h w
  refine ⟨by rw [he]; exact hv, ?_, ?_, ?_, hh⟩
  · rw [he]
    refine pt_imp ht fun σ H Q q => w σ H _ ?_
    obtain ⟨B, ρ, S, b, ρ', R, e, q⟩ := q
    obtain ⟨⟨r, ρ1⟩, e1, e2⟩ := Option.bind_eq_some_iff.mp e
    cases r with
    | new ds => cases e2
    | val d =>
      cases d <;> first | (cases e2; done) | skip
      cases e2
      refine ⟨B, ρ, S, _, ρ1, R, e1, fun v H' S' R' E' k => ?_⟩
      cases k
      exact ⟨_, rfl, q H' S' R' E'⟩
  · rw [he]; show PE X pe (tA X.K (arE e f)); rw [ha]; exact pa_ex hv
  · rw [he]; show PE X pe (tA X.K (stE e f)); rw [hs]; exact pa_ex hv
end
/-- what is asked of a context -/
structure Cxt (X : Cx) (Γ : Gm) (N : List Str) (sc : Scope) : Prop where
  calm : X.calm = true
  nd : X.N.Nodup
  eN : X.N = N
  esc : X.env.scope = sc
  kind : sc.kind = .function
  un : X.A.units + 65 < cLine
  blt : ∀ x ∈ Γ.B, X.mg x = none
  cst : ∀ p ∈ Γ.C, ∃ v u, X.mg p.1 = some u ∧ RelV v u ∧ ∀ S, Dq X.K S v p.2
  fns : ∀ fi ∈ Γ.Φ, ∃ j k, Room j X.A ∧ k ≤ j ∧ C8.Cal X.prog X.w X.K X.mg X.base k fi.name (spF X.K fi.n fi.io fi.F) []
section
variable {X : Cx} {Γ : Gm} {pe qe re : Expr} {a b c : Ex} {pos : Pos} {σ : St} {H : Hp}
theorem okx_bi {o : Bi} (ha : Okx X Γ pe a) (hb : Okx X Γ qe b) : Okx X Γ (.BinOp pe o.op qe pos) (.bi o a b) := by
  refine okx_plain (f := opC o.f [arE a (sem Γ a).v, arE b (sem Γ b).v]) ?_ rfl rfl rfl rfl rfl
  cases o with
  | add => exact pe_imp (pe_op or_add ha.a hb.a) fun σ H Q q => op_2 q
  | sub => exact pe_imp (pe_op or_sub ha.a hb.a) fun σ H Q q => op_2 q
  | mul => exact pe_imp (pe_op or_mulS ha.a hb.a) fun σ H Q q => op_2 q
  | fdiv => exact pe_imp (pe_op or_fdiv ha.a hb.a) fun σ H Q q => op_2 q
  | mod => exact pe_imp (pe_op or_mod ha.a hb.a) fun σ H Q q => op_2 q
  | pow => exact pe_imp (pe_op or_pow ha.a hb.a) fun σ H Q q => op_2 q
theorem okx_neg (ha : Okx X Γ pe a) : Okx X Γ (.UnaryOp .USub pe pos) (.neg a) := by
  refine okx_plain (f := opC oNeg [arE a (sem Γ a).v]) ?_ rfl rfl rfl rfl rfl
  exact pe_imp (pe_un ur_neg ha.a) fun σ H Q q => op_1 q
theorem cm_rule (hu : X.A.units + 65 < cLine) (o : Cm) : OpR X (compareOp o.op) (fun x y H Q => rOp X.K o.f [x, y] H Q) := by
  cases o with
  | eq => exact or_eq hu
  | ne => exact or_ne hu
  | lt => exact or_lt
  | le => exact or_le
  | gt => exact or_gt
  | ge => exact or_ge
  | is => exact or_is
  | isNot => exact or_isNot
  | isIn => exact or_in hu
  | notIn => exact or_notIn hu
theorem okx_cm {o : Cm} (hu : X.A.units + 65 < cLine) (ha : Okx X Γ pe a) (hb : Okx X Γ qe b) : Okx X Γ (.Compare pe [o.op] [qe] pos) (.cm o a b) :=
  okx_bl (f := opC o.f [arE a (sem Γ a).v, arE b (sem Γ b).v]) (pe_cmpR (cm_rule hu o) ha.a hb.a (noMark hb.hd)) (pt_cmpR (cm_rule hu o) ha.a hb.a (noMark hb.hd)) (fun σ H Q q => op_2 q) rfl rfl rfl rfl
theorem okx_ch {o p : Cm} (hu : X.A.units + 65 < cLine) (ha : Okx X Γ pe a) (hb : Okx X Γ qe b) (hc : Okx X Γ re c) : Okx X Γ (.Compare pe [o.op, p.op] [qe, re] pos) (.ch o p a b c) := by
  refine okx_bl (f := chV o.f p.f (arE a (sem Γ a).v) (arE b (sem Γ b).v) (arE c (sem Γ c).v)) (pe_chain (cm_rule hu o) (cm_rule hu p) ha.a hb.a hc.a (noLast hc.hd)) (pt_chain (cm_rule hu o) (cm_rule hu p) ha.a hb.a hc.a (noLast hc.hd)) (fun σ H Q q => ?_) rfl rfl rfl rfl
  obtain ⟨B, ρ, S, r, ρ', R, e, q⟩ := q
  obtain ⟨⟨h1, ρ1⟩, e1, e⟩ := Option.bind_eq_some_iff.mp e
  obtain ⟨⟨h2, ρ2⟩, e2, e⟩ := Option.bind_eq_some_iff.mp e
  obtain ⟨d1, e3, e⟩ := Option.bind_eq_some_iff.mp e
  obtain ⟨d2, e4, e⟩ := Option.bind_eq_some_iff.mp e
  obtain ⟨r1, e5, e⟩ := Option.bind_eq_some_iff.mp e
  refine ⟨B, ρ, S, h1, ρ1, R, e1, fun v H1 S1 R1 X1 A1 => ⟨B, ρ1, S1, h2, ρ2, R1, e2, fun u H2 S2 R2 X2 A2 => ?_⟩⟩
  have A1' := A1.mono X2.ss
  refine ⟨S2, [d1, d2], r1, R2.sub, .cons (rdb_of R2 A1' e3) (.cons (rdb_of R2 A2 e4) .nil), e5, fun w H3 S3 g k => ?_⟩
  have R3 := R2.grow g
  have X3 := (X1.trans X2).trans (Ext.grow g)
  cases r1 with
  | new ds => cases e
  | val dd =>
    cases dd <;> first | (cases e; done) | skip
    rename_i bb
    cases k
    refine ⟨bb, rfl, ?_⟩
    cases bb with
    | false =>
      rw [if_neg Bool.false_ne_true]
      cases e
      exact q _ H3 S3 R3 X3 (.bl _)
    | true =>
      rw [if_pos rfl]
      obtain ⟨⟨h3, ρ3⟩, e6, e⟩ := Option.bind_eq_some_iff.mp e
      obtain ⟨d3, e7, e⟩ := Option.bind_eq_some_iff.mp e
      obtain ⟨d4, e8, e⟩ := Option.bind_eq_some_iff.mp e
      obtain ⟨r2, e9, e⟩ := Option.bind_eq_some_iff.mp e
      cases e
      refine ⟨B, ρ2, S3, h3, ρ3, R3, e6, fun z H4 S4 R4 X4 A4 => ?_⟩
      have A2' := (A2.mono g.ss).mono X4.ss
      exact ⟨S4, [d3, d4], _, R4.sub, .cons (rdb_of R4 A2' e7) (.cons (rdb_of R4 A4 e8) .nil), e9, fun w H5 S5 g5 k5 => q w H5 S5 (R4.grow g5) ((X3.trans X4).trans (.grow g5)) (rvOk_back (X3.trans X4) k5)⟩
theorem ur_not : UnR X (unaryOp .Not) (fun x H Q => rOp X.K oNot [x] H Q) := by
  intro pins s σ H x v Q I rx ⟨S, ds, r, hs, hr, ho, q⟩
  obtain ⟨d, rfl, hd⟩ := rd1 hr
  obtain ⟨b, h1, h2⟩ := Option.bind_eq_some_iff.mp ho
  cases h2
  refine PyProof.Rows.not_of (thn (tru_ok pins s σ H x v (fun c H1 => H1 = H ∧ c = b) I rx ⟨b, tru_rd hd hs h1, rfl, rfl⟩) fun c s1 ⟨H1, I1, e1, e2⟩ => ?_)
  subst e1 e2
  exact ⟨.bl (!c), H1, I1, rfl, end_val hs q rfl (.bl _)⟩
theorem okx_not (ha : Okx X Γ pe a) : Okx X Γ (.UnaryOp .Not pe pos) (.not a) := by
  have h : PT X (.UnaryOp .Not pe pos) (tT X.K (notT (sem Γ a).t)) := by
    refine pt_imp (pt_not ha.t) fun σ H Q q => ?_
    obtain ⟨B, ρ, S, b, ρ', R, e, q⟩ := q
    obtain ⟨⟨c, ρ1⟩, e1, e2⟩ := Option.bind_eq_some_iff.mp e
    cases e2
    exact ⟨B, ρ, S, c, ρ1, R, e1, fun H1 S1 R1 X1 => q H1 S1 R1 X1⟩
  have hv : PE X (.UnaryOp .Not pe pos) (tV X.K (opC oNot [arE a (sem Γ a).v])) := pe_imp (pe_un ur_not ha.a) fun σ H Q q => op_1 q
  exact ⟨hv, h, pa_ex hv, pa_ex hv, rfl⟩
theorem okx_ite (hc : Okx X Γ re c) (ha : Okx X Γ pe a) (hb : Okx X Γ qe b) : Okx X Γ (.IfExp re pe qe pos) (.ite c a b) := by
  have hv : PE X (.IfExp re pe qe pos) (tV X.K (iteV (sem Γ c).t (sem Γ a).v (sem Γ b).v)) := by
    refine pe_imp (pe_ifExp hc.t ha.v hb.v) fun σ H Q q => ?_
    obtain ⟨B, ρ, S, r, ρ', R, e, q⟩ := q
    obtain ⟨⟨k, ρ1⟩, e1, e2⟩ := Option.bind_eq_some_iff.mp e
    refine ⟨B, ρ, S, k, ρ1, R, e1, fun H1 S1 R1 X1 => ?_⟩
    cases k with
    | true => 
      rw [if_pos rfl] at e2 ⊢
      exact ⟨B, ρ1, S1, r, ρ', R1, e2, fun v H2 S2 R2 X2 k => q v H2 S2 R2 (X1.trans X2) (rvOk_back X1 k)⟩
    | false =>
      rw [if_neg Bool.false_ne_true] at e2 ⊢
      exact ⟨B, ρ1, S1, r, ρ', R1, e2, fun v H2 S2 R2 X2 k => q v H2 S2 R2 (X1.trans X2) (rvOk_back X1 k)⟩
  refine ⟨hv, ⟨fun pins s σ H Q I q => ?_⟩, pa_ex hv, pa_ex hv, rfl⟩
  obtain ⟨B, ρ, S, r, ρ', R, e, q⟩ := q
  cases e
theorem okx_idx (ha : Okx X Γ pe a) (hb : Okx X Γ qe b) : Okx X Γ (.Subscript pe qe pos) (.idx a b) := by
  refine okx_plain (f := opC oIdx [arE a (sem Γ a).v, arE b (sem Γ b).v]) ?_ rfl rfl rfl rfl rfl
  exact pe_imp (pe_ix ir_idx ha.a hb.a (plainIx hb.hd)) fun σ H Q q => op_2 q
end
/-! ### several -/
structure Okxs (X : Cx) (Γ : Gm) (pes : List Expr) (es : Exs) : Prop where
  a : PA X pes (tAs X.K (semAs Γ es))
  s : PA X pes (tAs X.K (semSs Γ es))
  hd : pes.all okHd = true
  ln : pes.length = es.len
  w : ∀ pos isAnd, pes ≠ [] → PE X (.BoolOp (if isAnd = true then .And else .Or) pes pos) (tV X.K (boV isAnd (semVs Γ es))) ∧ PW X (.BoolOp (if isAnd = true then .And else .Or) pes pos) (tT X.K (boT isAnd (semTs Γ es)))
section
variable {X : Cx} {Γ : Gm} {pe qe re : Expr} {pes : List Expr} {es : Exs} {a b c : Ex} {pos : Pos} {σ : St} {H : Hp}
theorem okxs_nil : Okxs X Γ [] .nil := ⟨pas_nil, pas_nil, rfl, rfl, fun _ _ h => absurd rfl h⟩
theorem bo_v {K : Fg} {k : Bool} {f g : EvV} {r : List EvV} {Q : VK} (q : tV K (boV k (f :: g :: r)) σ H Q) : tV K f σ H fun x H1 => ∃ c, x = .bl c ∧ if c = k then tV K (boV k (g :: r)) σ H1 Q else Q (.bl c) H1 := by
  obtain ⟨B, ρ, S, r1, ρ', R, e, q⟩ := q
  obtain ⟨⟨r2, ρ1⟩, e1, e2⟩ := Option.bind_eq_some_iff.mp e
  refine ⟨B, ρ, S, r2, ρ1, R, e1, fun v H1 S1 R1 X1 kk => ?_⟩
  cases r2 with
  | new ds => cases e2
  | val d =>
    cases d <;> first | (cases e2; done) | skip
    rename_i c
    cases kk
    refine ⟨c, rfl, ?_⟩
    by_cases hc : c = k
    · rw [if_pos hc] 
      have e3 : boV k (g :: r) ρ1 = some (r1, ρ') := by
        have e2' : (if c = k then boV k (g :: r) ρ1 else some (.val (.bl c), ρ1)) = some (r1, ρ') := e2
        rw [if_pos hc] at e2'; exact e2'
      exact ⟨B, ρ1, S1, r1, ρ', R1, e3, fun v H2 S2 R2 X2 k => q v H2 S2 R2 (X1.trans X2) (rvOk_back X1 k)⟩
    · rw [if_neg hc]
      have e2' : (if c = k then boV k (g :: r) ρ1 else some (.val (.bl c), ρ1)) = some (r1, ρ') := e2
      rw [if_neg hc] at e2'
      cases e2'
      exact q _ H1 S1 R1 X1 (.bl _)
theorem bo_t {K : Fg} {k : Bool} {f g : EvT} {r : List EvT} {Q : Bool → Hp → Prop} (q : tT K (boT k (f :: g :: r)) σ H Q) : tT K f σ H fun c H1 => if c = k then tT K (boT k (g :: r)) σ H1 Q else Q c H1 := by
  obtain ⟨B, ρ, S, r1, ρ', R, e, q⟩ := q
  obtain ⟨⟨c, ρ1⟩, e1, e2⟩ := Option.bind_eq_some_iff.mp e
  refine ⟨B, ρ, S, c, ρ1, R, e1, fun H1 S1 R1 X1 => ?_⟩
  by_cases hc : c = k
  · rw [if_pos hc] at e2 ⊢
    exact ⟨B, ρ1, S1, r1, ρ', R1, e2, fun H2 S2 R2 X2 => q H2 S2 R2 (X1.trans X2)⟩
  · rw [if_neg hc] at e2 ⊢
    cases e2
    exact q H1 S1 R1 X1
theorem okxs_cons (ha : Okx X Γ pe a) (hs : Okxs X Γ pes es) : Okxs X Γ (pe :: pes) (.cons a es) := by
  refine ⟨pas_cons ha.a hs.a (star_cons ha.hd), pas_cons ha.s hs.s (star_cons ha.hd), ?_, by show pes.length + 1 = es.len + 1; rw [hs.ln], fun pos isAnd _ => ?_⟩
  · show (okHd pe && pes.all okHd) = true
    rw [ha.hd, hs.hd]; rfl
  · cases pes with
    | nil =>
      cases es with
      | cons e es => cases hs.ln
      | nil =>
        refine ⟨pe_one ha.v, ?_⟩
        cases isAnd with
        | true => exact pw_and1 ha.t
        | false => exact pw_or1 ha.t
    | cons qe qes =>
      cases es with
      | nil => cases hs.ln
      | cons e es =>
        obtain ⟨h1, h2⟩ := hs.w pos isAnd (fun z => by cases z)
        cases isAnd with
        | true =>
          refine ⟨pe_imp (pe_and ha.v h1) fun σ H Q q => ?_, pw_imp (pw_and ha.t h2) fun σ H Q q => ?_⟩
          · have q' := bo_v (k := true) q
            obtain ⟨B, ρ, S, r, ρ', R, e, q'⟩ := q'
            refine ⟨B, ρ, S, r, ρ', R, e, fun v H1 S1 R1 X1 k => ?_⟩
            obtain ⟨c, e1, e2⟩ := q' v H1 S1 R1 X1 k
            refine ⟨c, e1, ?_⟩
            cases c with
            | true => exact e2
            | false => exact e2
          · have q' := bo_t (k := true) q
            obtain ⟨B, ρ, S, r, ρ', R, e, q'⟩ := q'
            refine ⟨B, ρ, S, r, ρ', R, e, fun H1 S1 R1 X1 => ?_⟩
            have q2 := q' H1 S1 R1 X1
            cases r with
            | true => exact q2
            | false => exact q2
        | false =>
          refine ⟨pe_imp (pe_or ha.v h1) fun σ H Q q => ?_, pw_imp (pw_or ha.t h2) fun σ H Q q => ?_⟩
          · have q' := bo_v (k := false) q
            obtain ⟨B, ρ, S, r, ρ', R, e, q'⟩ := q'
            refine ⟨B, ρ, S, r, ρ', R, e, fun v H1 S1 R1 X1 k => ?_⟩
            obtain ⟨c, e1, e2⟩ := q' v H1 S1 R1 X1 k
            refine ⟨c, e1, ?_⟩
            cases c with
            | true => exact e2
            | false => exact e2
          · have q' := bo_t (k := false) q
            obtain ⟨B, ρ, S, r, ρ', R, e, q'⟩ := q'
            refine ⟨B, ρ, S, r, ρ', R, e, fun H1 S1 R1 X1 => ?_⟩
            have q2 := q' H1 S1 R1 X1
            cases r with
            | true => exact q2
            | false => exact q2
theorem okx_bo {k : Bool} (hs : Okxs X Γ pes es) (hn : pes ≠ []) : Okx X Γ (.BoolOp (if k = true then .And else .Or) pes pos) (.bo k es) := by
  obtain ⟨h1, h2⟩ := hs.w pos k hn
  exact ⟨h1, h2.pt, pa_ex h1, pa_ex h1, rfl⟩
theorem seq_q {K : Fg} {mk : List D → RV} {as : List Ar} {Q : VK} (q : tV K (seqV mk as) σ H Q) : tAs K as σ H fun vs H1 => ∃ S ds, Same S H1 ∧ DqAll K S vs ds ∧ vs.length ≤ sizeLine ∧ ∀ v H' S', Grow H1 S H' S' → RvOk K H1 H' S' v (mk ds) → Q v H' := by
  obtain ⟨B, ρ, S, r1, ρ', R, e, q⟩ := q
  obtain ⟨⟨hs, ρ1⟩, e1, e2⟩ := Option.bind_eq_some_iff.mp e
  obtain ⟨ds, e3, e4⟩ := Option.bind_eq_some_iff.mp e2
  refine ⟨B, ρ, S, hs, ρ1, R, e1, fun vs H1 S1 R1 X1 A1 => ?_⟩
  have g := dat_args A1 e3
  split at e4
  · rename_i hz
    cases e4
    exact ⟨S1, ds, R1.sub, g, by rw [g.length]; exact sz_le hz, fun v H' S' gr k => q v H' S' (R1.grow gr) (X1.trans (.grow gr)) (rvOk_back X1 k)⟩
  · cases e4
theorem okx_lst (hs : Okxs X Γ pes es) : Okx X Γ (.List pes pos) (.lst es) := by
  refine okx_plain (f := seqV .new (semSs Γ es)) ?_ rfl rfl rfl rfl rfl
  refine pe_imp (pe_lst hs.s) fun σ H Q q => ?_
  obtain ⟨B, ρ, S, hs, ρ1, R, e1, h⟩ := seq_q q
  refine ⟨B, ρ, S, hs, ρ1, R, e1, fun vs H1 S1 R1 X1 A1 => ?_⟩
  obtain ⟨S2, ds, g1, g2, g3, g4⟩ := h vs H1 S1 R1 X1 A1
  exact ⟨g3, end_lst g1 g4 rfl g2⟩
theorem okx_tup {k : Nat} (hs : Okxs X Γ pes es) : Okx X Γ (.Tuple pes k pos) (.tup es) := by
  refine okx_plain (f := seqV (fun ds => .val (.tup ds)) (semSs Γ es)) ?_ rfl rfl rfl rfl rfl
  refine pe_imp (pe_tup hs.s) fun σ H Q q => ?_
  obtain ⟨B, ρ, S, hs, ρ1, R, e1, h⟩ := seq_q q
  refine ⟨B, ρ, S, hs, ρ1, R, e1, fun vs H1 S1 R1 X1 A1 => ?_⟩
  obtain ⟨S2, ds, g1, g2, g3, g4⟩ := h vs H1 S1 R1 X1 A1
  exact ⟨g3, end_tup g1 g4 rfl g2⟩
/-! ### built-in calls -/
theorem bf_boot (f : Bf) : bootBuiltins f.name = some (match f.ty with | some T => .type T | none => .builtin f.id) := by
  cases f <;> decide +kernel
theorem bf_name (f : Bf) : f.name ≠ "__name__" ∧ (f.name == ("__debug__" : Str)) = false := by
  cases f <;> exact ⟨by decide, by decide⟩
theorem bf_rule {X : Cx} (f : Bf) (hc : X.calm = true) (hu : X.A.units + 65 < cLine) : CallR X (match f.ty with | some T => .type T | none => .builtin f.id) (rOp X.K f.f) := by
  cases f with
  | len => exact cr_len
  | tuple => exact cr_tuple
  | list => exact cr_list
  | abs => exact cr_abs
  | int => exact cr_int
  | str => exact cr_str
  | all => exact cr_all' hc
  | any => exact cr_any' hc
  | sum => exact cr_sum' hc
  | max => exact cr_max' hc hu
  | min => exact cr_min' hc hu
  | sorted => exact cr_sorted'
theorem okx_bf {f : Bf} {p : Pos} (hcalm : X.calm = true) (hu : X.A.units + 65 < cLine) (hm : X.mg f.name = none) (hg : Gl X f.name) (hs : Okxs X Γ (pe :: pes) es) : Okx X Γ (.Call (.Name f.name p) (pe :: pes) [] pos) (.bf f es) := by
  have hd := Bool.and_eq_true_iff.mp (show (okHd pe && pes.all okHd) = true from hs.hd)
  have hr := bf_rule (X := X) f hcalm hu
  have hv := bf_boot f
  refine okx_plain (f := opC f.f (semAs Γ es)) ?_ rfl rfl rfl rfl rfl
  cases hT : f.ty with
  | some T =>
    rw [hT] at hr hv
    exact pe_imp (pe_callTy hr hg hm hv hs.a (bf_name f).1 (bf_name f).2 (star_cons hd.1) (noStar hd.2)) fun σ H Q q => op_as q
  | none =>
    rw [hT] at hr hv
    exact pe_imp (pe_callB hr hg hm hv hs.a (bf_name f).1 (bf_name f).2 (star_cons hd.1) (noStar hd.2)) fun σ H Q q => op_as q
end
end My

namespace My
open PySem PySem.Spec PyProof.Rows L2

/-! ### names -/
theorem vis_of {sc : Scope} {x : Str} (h : visB sc x = true) : Vis sc x := by
  unfold visB at h
  split at h
  · exact .inl (by assumption)
  · exact .inr (.inl (by assumption))
  · exact .inr (.inr (by assumption))
  · cases h
theorem loc_of {sc : Scope} {x : Str} (h : locB sc x = true) : Loc sc x := by
  unfold locB at h
  split at h
  · exact .inl (by assumption)
  · exact .inr (by assumption)
  · cases h
theorem gl_of {X : Cx} {sc : Scope} {x : Str} (hs : X.env.scope = sc) (h : glB sc x = true) : Gl X x := by
  subst hs
  unfold glB at h
  split at h
  · assumption
  · cases h
theorem and4 {a b c d : Bool} (h : (a && b && c && d) = true) : a = true ∧ b = true ∧ c = true ∧ d = true := by
  simp only [Bool.and_eq_true] at h
  exact ⟨h.1.1.1, h.1.1.2, h.1.2, h.2⟩
theorem and3 {a b c : Bool} (h : (a && b && c) = true) : a = true ∧ b = true ∧ c = true := by
  simp only [Bool.and_eq_true] at h
  exact ⟨h.1.1, h.1.2, h.2⟩
theorem and2 {a b : Bool} (h : (a && b) = true) : a = true ∧ b = true := by
  simp only [Bool.and_eq_true] at h
  exact h
theorem nmC_of {N : List Str} {sc : Scope} {i : Nat} {x : Str} (h : nmC N sc i x = true) : N[i]? = some x ∧ Vis sc x ∧ (x == ("__debug__" : Str)) = false ∧ (x == ("__classdict__" : Str)) = false := by
  obtain ⟨h1, h2, h3, h4⟩ := and4 h
  exact ⟨of_decide_eq_true h1, vis_of h2, by simpa using h3, by simpa using h4⟩
theorem blt_of {Γ : Gm} {sc : Scope} {x y : Str} (h : bltB Γ sc x y = true) : x = y ∧ glB sc y = true ∧ y ∈ Γ.B := by
  obtain ⟨h1, h2, h3⟩ := and3 h
  have e := of_decide_eq_true h1
  subst e
  exact ⟨rfl, h2, by simpa using h3⟩
section
variable {X : Cx} {Γ : Gm} {N : List Str} {sc : Scope} {pe qe : Expr} {pes : List Expr} {es : Exs} {a b : Ex} {pos apos : Pos}
theorem var_of (hX : Cxt X Γ N sc) {i : Nat} {x : Str} {p : Pos} (h : nmC N sc i x = true) : PE X (.Name x p) (tVar i) := by
  obtain ⟨h1, h2, h3, h4⟩ := nmC_of h
  exact pe_var (by rw [hX.eN]; exact h1) (by rw [hX.esc]; exact h2) h3 h4
theorem noBase {o : Expr} {m : Str} {env : Env} (h : okHd o = true) : attributeBase o m env (eval o env) = eval o env := by
  cases o <;> first | rfl | skip
  rename_i f as kw p
  cases f <;> first | rfl | skip
  cases as with
  | cons _ _ => rfl
  | nil =>
    cases kw with
    | cons _ _ => rfl
    | nil =>
      rename_i x p'
      have hx : (!decide (x = ("super" : Str))) = true := h
      exact abase_call (by simpa using hx)
theorem semAs_len {Γ : Gm} : ∀ es : Exs, (semAs Γ es).length = es.len
  | .nil => by simp [semAs, Exs.len]
  | .cons e es => by simp [semAs, Exs.len, semAs_len es]
theorem okx_call (hX : Cxt X Γ N sc) {k : Nat} {fi : FI} {x : Str} {p : Pos} (hk : Γ.Φ[k]? = some fi) (hx : fi.name = x) (hg : glB sc x = true) (hd : (x == ("__debug__" : Str)) = false) (hsu : (x == ("super" : Str)) = false) (hn : es.len = fi.n) (hs : Okxs X Γ pes es) : Okx X Γ (.Call (.Name x p) pes [] pos) (.call k es) := by
  subst hx
  obtain ⟨j, k', hr, hjk, hc⟩ := hX.fns fi (List.mem_of_getElem? hk)
  have hG : Gl X fi.name := gl_of hX.esc hg
  have hlen : (semAs Γ es).length = es.len := semAs_len es
  have hE : sem Γ (.call k es) = plain (if fi.io then callIo fi.F (semAs Γ es) else callV fi.F (semAs Γ es)) := by
    show plain (match Γ.Φ[k]? with | some fi => if fi.io then callIo fi.F (semAs Γ es) else callV fi.F (semAs Γ es) | none => fun _ => none) = _
    rw [hk]
  have hhd : okHd (.Call (.Name fi.name p) pes [] pos) = true := by
    cases pes with
    | cons _ _ => rfl
    | nil =>
      show (!decide (fi.name = ("super" : Str))) = true
      simpa using hsu
  refine okx_plain (f := if fi.io then callIo fi.F (semAs Γ es) else callV fi.F (semAs Γ es)) ?_ rfl hhd hE rfl rfl
  have hq : PE X (.Call (.Name fi.name p) pes [] pos) (tCall (spF X.K fi.n fi.io fi.F) [] E0 (tAs X.K (semAs Γ es))) := by
    cases pes with
    | cons pe pes =>
      have hd2 := and2 (show (okHd pe && pes.all okHd) = true from hs.hd)
      exact C8.pe_c hc hr hjk hG hs.a hd (star_cons hd2.1) (noStar hd2.2)
    | nil =>
      cases es with
      | cons e es => cases hs.ln
      | nil =>
        obtain ⟨f, fd, ps, ds, F, hm, kp, b, d⟩ := hc.ex
        refine pe_imp (pe_call0 F (hr.mono hjk) hG hm kp b d pass0 hd) fun σ H Q q => ?_
        obtain ⟨B, ρ, S, hs, ρ', R, e, q⟩ := q
        cases e
        exact q [] H S R .refl .nil
  cases hio : fi.io with
  | true =>
    rw [hio] at hq
    exact pe_imp hq fun σ H Q q => callIo_q (E := E0) (by rw [hlen, hn]) q
  | false =>
    rw [hio] at hq
    exact pe_imp hq fun σ H Q q => call_q (E := E0) (by rw [hlen, hn]) q
end
end My

namespace My
open PySem PySem.Spec PyProof.Rows L2

/-! ### stores -/
/-- names of sc may be stored in X -/
def Sto (X : Cx) (N : List Str) (sc : Scope) : Prop := X.N = N ∧ X.N.Nodup ∧ X.calm = true ∧ ∀ x, locB sc x = true → Loc X.env.scope x ∧ (X.fn x = true ∨ X.env.scope.names.lookup x = some .local)
section
variable {X : Cx} {Γ : Gm} {N : List Str} {sc : Scope} {pe qe : Expr} {pes : List Expr} {es : Exs} {a b : Ex} {pos apos : Pos}
theorem stC_of (hS : Sto X N sc) {i : Nat} {x : Str} (h : stC N sc i x = true) : X.N[i]? = some x ∧ Loc X.env.scope x ∧ (X.fn x = true ∨ X.env.scope.names.lookup x = some .local) := by
  obtain ⟨h1, h2⟩ := and2 h
  obtain ⟨g1, g2⟩ := hS.2.2.2 x h2
  exact ⟨by rw [hS.1]; exact of_decide_eq_true h1, g1, g2⟩
theorem nms_pgs (hS : Sto X N sc) : ∀ (is : List Nat) (es : List Expr), nmsC N sc is es = true → PGs X es (gNms is) ∧ es.length = is.length ∧ (assignEach es X.env).length = es.length ∧ (assignEach es X.env).findIdx? (·.1) = none
  | [], [], _ => ⟨pgs_nil, rfl, rfl, rfl⟩
  | i :: is, .Name x p :: es, h => by
    obtain ⟨h1, h2⟩ := and2 (show (stC N sc i x && nmsC N sc is es) = true from h)
    obtain ⟨g1, g2, g3⟩ := stC_of hS h1
    obtain ⟨k1, k2, k3, k4⟩ := nms_pgs hS is es h2
    have e1 : assignEach (.Name x p :: es) X.env = (false, assign (.Name x p) X.env) :: assignEach es X.env := rfl
    refine ⟨pgs_cons (pg_name hS.2.1 g1 g2 g3) k1 rfl, by simp [k2], by rw [e1]; simp [k3], ?_⟩
    rw [e1, List.findIdx?_cons, k4]
    rfl
  | [], _ :: _, h => by cases h
  | _ :: _, [], h => by cases h
  | i :: is, .BoolOp _ _ _ :: es, h => by cases h
  | i :: is, .NamedExpr _ _ _ :: es, h => by cases h
  | i :: is, .BinOp _ _ _ _ :: es, h => by cases h
  | i :: is, .UnaryOp _ _ _ :: es, h => by cases h
  | i :: is, .Lambda _ _ _ _ :: es, h => by cases h
  | i :: is, .IfExp _ _ _ _ :: es, h => by cases h
  | i :: is, .Dict _ _ _ :: es, h => by cases h
  | i :: is, .Set _ _ _ :: es, h => by cases h
  | i :: is, .ListComp _ _ _ _ :: es, h => by cases h
  | i :: is, .SetComp _ _ _ _ :: es, h => by cases h
  | i :: is, .DictComp _ _ _ _ _ :: es, h => by cases h
  | i :: is, .GeneratorExp _ _ _ _ :: es, h => by cases h
  | i :: is, .Await _ _ :: es, h => by cases h
  | i :: is, .Yield _ _ :: es, h => by cases h
  | i :: is, .YieldFrom _ _ :: es, h => by cases h
  | i :: is, .Compare _ _ _ _ :: es, h => by cases h
  | i :: is, .Call _ _ _ _ :: es, h => by cases h
  | i :: is, .FormattedValue _ _ _ _ :: es, h => by cases h
  | i :: is, .JoinedStr _ _ :: es, h => by cases h
  | i :: is, .Constant _ _ _ :: es, h => by cases h
  | i :: is, .Attribute _ _ _ :: es, h => by cases h
  | i :: is, .Subscript _ _ _ :: es, h => by cases h
  | i :: is, .Starred _ _ :: es, h => by cases h
  | i :: is, .List _ _ :: es, h => by cases h
  | i :: is, .Tuple _ _ _ :: es, h => by cases h
  | i :: is, .Slice _ _ _ _ :: es, h => by cases h
theorem tg_ok (hS : Sto X N sc) {tg : Tg} (h : tgC N sc tg pe = true) : PG X pe (gTg X.K tg) := by
  cases tg with
  | nm i =>
    cases pe <;> first | (cases h; done) | skip
    obtain ⟨g1, g2, g3⟩ := stC_of hS h
    exact pg_name hS.2.1 g1 g2 g3
  | tup l =>
    cases pe <;> first | (cases h; done) | skip
    obtain ⟨k1, k2, k3, k4⟩ := nms_pgs hS l _ h
    exact pg_tup hS.2.2.1 k1 (by rw [k3, k2]) k4
/-! ### the block of a comprehension -/
theorem relS_lookup {sc : Scope} : ∀ {names : List (Str × NameKind)} {x : Str} {k : NameKind}, names.lookup x = some k → k ≠ .free →
    (names.map fun (n, k) => if (k == .free && sc.kind == .function && sc.names.lookup n == some .cell) then (n, NameKind.cell) else (n, k)).lookup x = some k
  | [], _, _, h, _ => by simp at h
  | (n, k) :: r, x, k', h, hk => by
    rw [List.lookup_cons] at h
    rw [List.map_cons]
    cases hb : x == n with
    | true =>
      rw [hb] at h
      cases h
      have hf : (k == NameKind.free) = false := by
        cases k <;> first | rfl | exact absurd rfl hk
      show List.lookup x ((if (k == .free && sc.kind == .function && sc.names.lookup n == some .cell) = true then (n, NameKind.cell) else (n, k)) :: _) = _
      rw [hf, Bool.false_and, Bool.false_and, if_neg Bool.false_ne_true, List.lookup_cons, hb]
    | false =>
      rw [hb] at h
      have ih := relS_lookup (sc := sc) h hk
      show List.lookup x ((if (k == .free && sc.kind == .function && sc.names.lookup n == some .cell) = true then (n, NameKind.cell) else (n, k)) :: _) = _
      split <;> (rw [List.lookup_cons, hb]; exact ih)
theorem blk_cxt (hX : Cxt X Γ N sc) {scope : Scope} (hk : scope.kind = .function) (s : Shared) (H : Hp) (C : Addr) (cl : List (Str × Addr)) (fp : List Addr) : Cxt (X.blk s H scope (compEnvC scope cl C X.env) fp) Γ N (relS scope sc) := by
  refine ⟨hX.calm, hX.nd, hX.eN, ?_, hk, hX.un, hX.blt, hX.cst, hX.fns⟩
  show relabel scope X.env = relS scope sc
  unfold relabel relS
  have e : X.env.scope = sc := hX.esc
  simp only [Env.kindOf, e]
theorem blk_sto (hX : Cxt X Γ N sc) {scope : Scope} (s : Shared) (H : Hp) (C : Addr) (cl : List (Str × Addr)) (fp : List Addr) : Sto (X.blk s H scope (compEnvC scope cl C X.env) fp) N scope := by
  refine ⟨hX.eN, hX.nd, hX.calm, fun x h => ?_⟩
  have key : ∀ k, scope.names.lookup x = some k → k ≠ .free → (relabel scope X.env).names.lookup x = some k := fun k h1 h2 => by
    have e : X.env.scope = sc := hX.esc
    have q := relS_lookup (sc := sc) h1 h2
    unfold relabel
    simp only [Env.kindOf, e]
    exact q
  unfold locB at h
  split at h
  · rename_i h1
    exact ⟨.inl (key _ h1 (by decide)), .inr (key _ h1 (by decide))⟩
  · rename_i h1
    refine ⟨.inr (key _ h1 (by decide)), .inl ?_⟩
    show (scope.names.lookup x == some .cell) = true
    rw [h1]; rfl
  · cases h
theorem own_map (N : List Str) : ∀ own : List Nat, (own.map fun i => (N.getD i "", i)).map (·.2) = own
  | [] => rfl
  | i :: r => by
    show i :: _ = i :: r
    rw [own_map N r]
end
end My

namespace My
open PySem PySem.Spec PyProof.Rows L2

theorem PoOk.none {X : Cx} : PoOk X Option.none Option.none := trivial
theorem glo_ok {X : Cx} {Γ : Gm} {N : List Str} {sc : Scope} (hX : Cxt X Γ N sc) {x : Str} {p : Pos} {q : Str × D} {k : Nat} (hg : glB sc x = true) (hd : (x == ("__debug__" : Str)) = false) (hq : Γ.C[k]? = some q) (hx : q.1 = x) : PE X (.Name x p) (tV X.K (constV q.2)) := by
  subst hx
  obtain ⟨v, u, h1, h2, h3⟩ := hX.cst q (List.mem_of_getElem? hq)
  exact const_ok (pe_glob (gl_of hX.esc hg) h1 h2 hd) h3
def ttC (K : Fg) (Γ : Gm) : Po → TT
  | .no => tYes
  | .so e => tT K (sem Γ e).t
theorem ttC_imp {K : Fg} {Γ : Gm} (cd : Po) (σ : St) (H : Hp) (Q : Bool → Hp → Prop) (q : tT K (semC Γ cd) σ H Q) : ttC K Γ cd σ H Q := by
  cases cd with
  | no =>
    unfold semC at q
    obtain ⟨B, ρ, S, b, ρ', R, e, q⟩ := q
    cases e
    exact q H S R .refl
  | so e =>
    unfold semC at q
    exact q
theorem isTup_of {e : Expr} (h : isTupE e = true) : ∃ es k p, e = .Tuple es k p := by
  cases e <;> first | (cases h; done) | exact ⟨_, _, _, rfl⟩
theorem okx_lc {X : Cx} {Γ : Gm} {N : List Str} {sc : Scope} (hX : Cxt X Γ N sc) {elt : Ex} {tg : Tg} {own : List Nat} {it : It} {cd : Po} {pelt ptg piter : Expr} {ifs : List Expr} {scope : Scope} {pos : Pos} {tt : TT}
    (hi : PI X ptg piter (tI X.K (semI Γ it))) (hb : BlkOk X.N X.env.scope scope (own.map fun i => (N.getD i "", i)))
    (hg : ∀ s H C cl fp, PG (X.blk s H scope (compEnvC scope cl C X.env) fp) ptg (gTg X.K tg)) (ht : ∀ s H C cl fp, PTs (X.blk s H scope (compEnvC scope cl C X.env) fp) ifs tt) (htt : ∀ σ H Q, tT X.K (semC Γ cd) σ H Q → tt σ H Q)
    (he : ∀ s H C cl fp, PE (X.blk s H scope (compEnvC scope cl C X.env) fp) pelt (tA X.K (stE elt (sem Γ elt).v))) (hh : okHd piter = true) : PE X (.ListComp pelt [⟨ptg, piter, ifs, 0⟩] scope pos) (tV X.K (lcV (semI Γ it) tg own (semC Γ cd) (stE elt (sem Γ elt).v))) := by
  refine pe_imp (pe_lc hX.calm hX.nd (pi_imp hi fun σ H R q => tF_tI q) hb hg ht he (noFold hh)) fun σ H Q q => ?_
  rw [own_map]
  exact lc_ok htt q
theorem okx_lco {X : Cx} {Γ : Gm} {N : List Str} {sc : Scope} (hX : Cxt X Γ N sc) {elt : Ex} {tg : Tg} {own : List Nat} {i : Nat} {cd : Po} {pelt ptg : Expr} {x : Str} {p : Pos} {ifs : List Expr} {scope : Scope} {pos : Pos} {tt : TT}
    (hi : PE X (.Name x p) (tVar i)) (hb : BlkOk X.N X.env.scope scope (own.map fun i => (N.getD i "", i)))
    (hg : ∀ s H C cl fp, PG (X.blk s H scope (compEnvC scope cl C X.env) fp) ptg (gTg X.K tg)) (ht : ∀ s H C cl fp, PTs (X.blk s H scope (compEnvC scope cl C X.env) fp) ifs tt) (htt : ∀ σ H Q, tT X.K (semC Γ cd) σ H Q → tt σ H Q)
    (he : ∀ s H C cl fp, PE (X.blk s H scope (compEnvC scope cl C X.env) fp) pelt (tA X.K (stE elt (sem Γ elt).v))) : PE X (.ListComp pelt [⟨ptg, .Name x p, ifs, 0⟩] scope pos) (tV X.K (lcoV i tg own (semC Γ cd) (stE elt (sem Γ elt).v))) := by
  refine pe_imp (pe_lc hX.calm hX.nd (pi_own hi) hb hg ht he (noFold rfl)) fun σ H Q q => ?_
  rw [own_map]
  exact lco_ok htt q
set_option maxHeartbeats 8000000 in
mutual
theorem ok_ex (Γ : Gm) (N : List Str) : ∀ (e : Ex) (sc : Scope) (pe : Expr) (X : Cx), Cxt X Γ N sc → chk Γ N sc e pe = true → Okx X Γ pe e
  | .var i, sc, pe, X, hX, h => by
    unfold chk at h
    split at h
    · exact okx_var (var_of hX h) rfl rfl
    · cases h
  | .fz i, sc, pe, X, hX, h => by
    unfold chk at h
    split at h
    · exact okx_fz (var_of hX h) rfl rfl
    · cases h
  | .cint i, sc, pe, X, hX, h => by
    unfold chk at h
    split at h
    · have e := of_decide_eq_true h
      subst e
      exact okx_plain (f := constV (.int _)) (const_ok pe_int fun _ => .int _) rfl rfl rfl rfl rfl
    · cases h
  | .cstr s, sc, pe, X, hX, h => by
    unfold chk at h
    split at h
    · have e := of_decide_eq_true h
      subst e
      exact okx_plain (f := constV (.str _)) (const_ok pe_str fun _ => .str _) rfl rfl rfl rfl rfl
    · cases h
  | .cbl b, sc, pe, X, hX, h => by
    unfold chk at h
    split at h
    · have e := of_decide_eq_true h
      subst e
      exact okx_plain (f := constV (.bl _)) (const_ok pe_bl fun _ => .bl _) rfl rfl rfl rfl rfl
    · cases h
  | .cnon, sc, pe, X, hX, h => by
    unfold chk at h
    split at h
    · exact okx_plain (f := constV .non) (const_ok pe_non fun _ => .non) rfl rfl rfl rfl rfl
    · cases h
  | .glo k, sc, pe, X, hX, h => by
    unfold chk at h
    split at h
    · obtain ⟨h1, h2, h3⟩ := and3 h
      split at h3
      · rename_i q hq
        refine okx_plain (f := constV q.2) (glo_ok hX h1 (by simpa using h2) hq (of_decide_eq_true h3)) rfl rfl ?_ rfl rfl
        show plain (match Γ.C[k]? with | some p => constV p.2 | none => fun _ => none) = _
        rw [hq]
      · cases h3
    · cases h
  | .bi o a b, sc, pe, X, hX, h => by
    unfold chk at h
    split at h
    · obtain ⟨h1, h2, h3⟩ := and3 h
      have e := of_decide_eq_true h1
      subst e
      exact okx_bi (ok_ex Γ N a sc _ X hX h2) (ok_ex Γ N b sc _ X hX h3)
    · cases h
  | .neg a, sc, pe, X, hX, h => by
    unfold chk at h
    split at h
    · exact okx_neg (ok_ex Γ N a sc _ X hX h)
    · cases h
  | .cm o a b, sc, pe, X, hX, h => by
    unfold chk at h
    split at h
    · obtain ⟨h1, h2, h3⟩ := and3 h
      have e := of_decide_eq_true h1
      subst e
      exact okx_cm hX.un (ok_ex Γ N a sc _ X hX h2) (ok_ex Γ N b sc _ X hX h3)
    · cases h
  | .ch o p a b c, sc, pe, X, hX, h => by
    unfold chk at h
    split at h
    · obtain ⟨h0, h4⟩ := and2 h
      obtain ⟨h1, h2, h2', h3⟩ := and4 h0
      have e := of_decide_eq_true h1
      subst e
      have e := of_decide_eq_true h2
      subst e
      exact okx_ch hX.un (ok_ex Γ N a sc _ X hX h2') (ok_ex Γ N b sc _ X hX h3) (ok_ex Γ N c sc _ X hX h4)
    · cases h
  | .bo k es, sc, pe, X, hX, h => by
    unfold chk at h
    split at h
    · obtain ⟨h1, h2⟩ := and2 h
      have e := of_decide_eq_true h1
      subst e
      exact okx_bo (ok_exs Γ N es sc _ X hX h2) fun z => by cases z
    · cases h
  | .not a, sc, pe, X, hX, h => by
    unfold chk at h
    split at h
    · exact okx_not (ok_ex Γ N a sc _ X hX h)
    · cases h
  | .ite c a b, sc, pe, X, hX, h => by
    unfold chk at h
    split at h
    · obtain ⟨h1, h2, h3⟩ := and3 h
      exact okx_ite (ok_ex Γ N c sc _ X hX h1) (ok_ex Γ N a sc _ X hX h2) (ok_ex Γ N b sc _ X hX h3)
    · cases h
  | .lst es, sc, pe, X, hX, h => by
    unfold chk at h
    split at h
    · exact okx_lst (ok_exs Γ N es sc _ X hX h)
    · cases h
  | .tup es, sc, pe, X, hX, h => by
    unfold chk at h
    split at h
    · exact okx_tup (ok_exs Γ N es sc _ X hX h)
    · cases h
  | .idx a b, sc, pe, X, hX, h => by
    unfold chk at h
    split at h
    · obtain ⟨h1, h2⟩ := and2 h
      exact okx_idx (ok_ex Γ N a sc _ X hX h1) (ok_ex Γ N b sc _ X hX h2)
    · cases h
  | .sl a lo hi, sc, pe, X, hX, h => by
    unfold chk at h
    split at h
    · obtain ⟨h1, h2, h3⟩ := and3 h
      exact okx_plain (f := slV (arE a (sem Γ a).v) (semP Γ lo) (semP Γ hi)) (pe_slV (ok_ex Γ N a sc _ X hX h1).a (ok_po Γ N lo sc _ X hX h2) (ok_po Γ N hi sc _ X hX h3)) rfl rfl rfl rfl rfl
    · cases h
  | .rev a, sc, pe, X, hX, h => by
    unfold chk at h
    split at h
    · exact okx_plain (f := revV (arE a (sem Γ a).v)) (pe_revV (ok_ex Γ N a sc _ X hX h).a) rfl rfl rfl rfl rfl
    · cases h
  | .bf f es, sc, pe, X, hX, h => by
    unfold chk at h
    split at h
    · obtain ⟨h1, h2⟩ := and2 h
      obtain ⟨e, g1, g2⟩ := blt_of h1
      subst e
      exact okx_bf hX.calm hX.un (hX.blt _ g2) (gl_of hX.esc g1) (ok_exs Γ N es sc _ X hX h2)
    · cases h
  | .call k es, sc, pe, X, hX, h => by
    unfold chk at h
    split at h
    · obtain ⟨h0, h5⟩ := and2 h
      obtain ⟨h1, h2, h3, h4⟩ := and4 h0
      split at h4
      · rename_i fi hfi
        obtain ⟨g1, g2⟩ := and2 h4
        exact okx_call hX hfi (of_decide_eq_true g1) h1 (by simpa using h2) (by simpa using h3) (of_decide_eq_true g2) (ok_exs Γ N es sc _ X hX h5)
      · cases h4
    · cases h
  | .isa T a, sc, pe, X, hX, h => by
    unfold chk at h
    split at h
    · obtain ⟨h1, h2, h3⟩ := and3 h
      obtain ⟨e, g1, g2⟩ := blt_of h1
      subst e
      obtain ⟨e, k1, k2⟩ := blt_of h2
      subst e
      have ha := ok_ex Γ N a sc _ X hX h3
      exact okx_plain (f := opC (oIsa T) [arE a (sem Γ a).v]) (pe_isa (gl_of hX.esc g1) (hX.blt _ g2) (gl_of hX.esc k1) (hX.blt _ k2) ha.a ha.hd) rfl rfl rfl rfl rfl
    · cases h
  | .m1 m a b, sc, pe, X, hX, h => by
    unfold chk at h
    split at h
    · obtain ⟨h1, h2, h3, h4⟩ := and4 h
      have e := of_decide_eq_true h1
      subst e
      have ha := ok_ex Γ N a sc _ X hX h3
      have hb := ok_ex Γ N b sc _ X hX h4
      exact okx_plain (f := mt1V m.f (arE a (sem Γ a).v) (arE b (sem Γ b).v)) (pe_mt1 m ha.a hb.a hb.hd (noBase ha.hd) h2) rfl rfl rfl rfl rfl
    · cases h
  | .m2 m a b, sc, pe, X, hX, h => by
    unfold chk at h
    split at h
    · obtain ⟨h1, h2, h3, h4⟩ := and4 h
      have e := of_decide_eq_true h1
      subst e
      have ha := ok_ex Γ N a sc _ X hX h3
      have hb := ok_ex Γ N b sc _ X hX h4
      exact okx_plain (f := mqV m.fL (arE a (sem Γ a).v) (arE b (sem Γ b).v)) (pe_m2 m ha.a hb.a hb.hd (noBase ha.hd) h2) rfl rfl rfl rfl rfl
    · cases h
  | .pop i es, sc, pe, X, hX, h => by
    unfold chk at h
    split at h
    · rename_i x p y apos pes pos
      obtain ⟨h0, h5⟩ := and2 h
      obtain ⟨h1, h2, h3, h4⟩ := and4 h0
      have e := of_decide_eq_true h1
      subst e
      have hs := ok_exs Γ N es sc _ X hX h5
      have hl : pes.length ≤ 1 := of_decide_eq_true h4
      refine okx_plain (f := popV i (semAs Γ es)) ?_ rfl (by cases pes <;> rfl) rfl rfl rfl
      match pes, es, hs, hl with
      | [], .nil, hs, _ => exact pe_pop0 (var_of hX h3) (by rfl) h2
      | [pa], .cons e .nil, hs, _ => exact pe_pop1 (var_of hX h3) hs.a (and2 hs.hd).1 (by rfl) h2
      | [], .cons _ _, hs, _ => cases hs.ln
      | [_], .nil, hs, _ => cases hs.ln
      | [_], .cons _ (.cons _ _), hs, _ => cases hs.ln
      | _ :: _ :: _, _, _, hl => exact absurd hl (by simp)
    · cases h
  | .app i e, sc, pe, X, hX, h => by
    unfold chk at h
    split at h
    · obtain ⟨h1, h2, h3, h4⟩ := and4 h
      have e' := of_decide_eq_true h1
      subst e'
      have ha := ok_ex Γ N e sc _ X hX h4
      exact okx_plain (f := appV i (stE e (sem Γ e).v)) (pe_app (var_of hX h3) (pas_cons ha.s pas_nil (star_cons ha.hd)) ha.hd (by rfl) h2) rfl rfl rfl rfl rfl
    · cases h
  | .lset a, sc, pe, X, hX, h => by
    unfold chk at h
    split at h
    · obtain ⟨h1, h2, h3⟩ := and3 h
      obtain ⟨e, g1, g2⟩ := blt_of h1
      subst e
      obtain ⟨e, k1, k2⟩ := blt_of h2
      subst e
      have ha := ok_ex Γ N a sc _ X hX h3
      exact okx_plain (f := opC oLenSet [arE a (sem Γ a).v]) (pe_lenSet (gl_of hX.esc g1) (hX.blt _ g2) (gl_of hX.esc k1) (hX.blt _ k2) ha.a hX.calm ha.hd) rfl rfl rfl rfl rfl
    · cases h
  | .sset a, sc, pe, X, hX, h => by
    unfold chk at h
    split at h
    · obtain ⟨h1, h2, h3⟩ := and3 h
      obtain ⟨e, g1, g2⟩ := blt_of h1
      subst e
      obtain ⟨e, k1, k2⟩ := blt_of h2
      subst e
      have ha := ok_ex Γ N a sc _ X hX h3
      exact okx_plain (f := opC oSrtSet [arE a (sem Γ a).v]) (pe_srtSet (gl_of hX.esc g1) (hX.blt _ g2) (gl_of hX.esc k1) (hX.blt _ k2) ha.a hX.calm ha.hd) rfl rfl rfl rfl rfl
    · cases h
  | .rg t es, sc, pe, X, hX, h => by
    unfold chk at h
    split at h
    · obtain ⟨h1, h2, h3⟩ := and3 h
      obtain ⟨e, g1, g2⟩ := blt_of h1
      subst e
      obtain ⟨e, k1, k2⟩ := blt_of h2
      subst e
      have ha := ok_exs Γ N es sc _ X hX h3
      cases t with
      | true => exact okx_plain (f := opC oRgT (semAs Γ es)) (pe_rgT hX.calm (gl_of hX.esc g1) (hX.blt _ g2) (gl_of hX.esc k1) (hX.blt _ k2) ha.a ha.hd) rfl rfl rfl rfl rfl
      | false => exact okx_plain (f := opC oRgL (semAs Γ es)) (pe_rgL hX.calm (gl_of hX.esc g1) (hX.blt _ g2) (gl_of hX.esc k1) (hX.blt _ k2) ha.a ha.hd) rfl rfl rfl rfl rfl
    · cases h
  | .lc elt tg own it cd, sc, pe, X, hX, h => by
    unfold chk at h
    split at h
    · rename_i pelt ptg piter ifs isa scope pos
      obtain ⟨h0, h7⟩ := and2 h
      obtain ⟨h0, h6⟩ := and2 h0
      obtain ⟨h0, h5⟩ := and2 h0
      obtain ⟨h1, h2, h3, h4⟩ := and4 h0
      have e := of_decide_eq_true h1
      subst e
      have hb := blkOk_by h2
      have ht : ∀ s H C cl fp, PTs (X.blk s H scope (compEnvC scope cl C X.env) fp) ifs (ttC X.K Γ cd) := fun s H C cl fp => ok_pc Γ N cd (relS scope sc) ifs _ (blk_cxt hX hb.kind s H C cl fp) h6
      have he := fun s H C cl fp => (ok_ex Γ N elt (relS scope sc) _ _ (blk_cxt hX hb.kind s H C cl fp) h7).s
      refine okx_plain (okx_lc hX (ok_it Γ N it sc ptg piter X hX h5) (by rw [hX.eN, hX.esc]; exact hb) (fun s H C cl fp => tg_ok (blk_sto hX s H C cl fp) h3) ht (ttC_imp cd) he h4) rfl rfl rfl rfl rfl
    · cases h
  | .lco elt tg own i cd, sc, pe, X, hX, h => by
    unfold chk at h
    split at h
    · rename_i pelt ptg x p ifs isa scope pos
      obtain ⟨h0, h7⟩ := and2 h
      obtain ⟨h0, h6⟩ := and2 h0
      obtain ⟨h1, h2, h3, h4⟩ := and4 h0
      have e := of_decide_eq_true h1
      subst e
      have hb := blkOk_by h2
      have ht : ∀ s H C cl fp, PTs (X.blk s H scope (compEnvC scope cl C X.env) fp) ifs (ttC X.K Γ cd) := fun s H C cl fp => ok_pc Γ N cd (relS scope sc) ifs _ (blk_cxt hX hb.kind s H C cl fp) h6
      have he := fun s H C cl fp => (ok_ex Γ N elt (relS scope sc) _ _ (blk_cxt hX hb.kind s H C cl fp) h7).s
      exact okx_plain (f := lcoV i tg own (semC Γ cd) (stE elt (sem Γ elt).v)) (okx_lco hX (var_of hX h4) (by rw [hX.eN, hX.esc]; exact hb) (fun s H C cl fp => tg_ok (blk_sto hX s H C cl fp) h3) ht (ttC_imp cd) he) rfl rfl rfl rfl rfl
    · cases h
theorem ok_exs (Γ : Gm) (N : List Str) : ∀ (es : Exs) (sc : Scope) (pes : List Expr) (X : Cx), Cxt X Γ N sc → chks Γ N sc es pes = true → Okxs X Γ pes es
  | .nil, sc, pes, X, hX, h => by
    unfold chks at h
    split at h
    · exact okxs_nil
    · cases h
  | .cons e es, sc, pes, X, hX, h => by
    unfold chks at h
    split at h
    · obtain ⟨h1, h2⟩ := and2 h
      exact okxs_cons (ok_ex Γ N e sc _ X hX h1) (ok_exs Γ N es sc _ X hX h2)
    · cases h
theorem ok_po (Γ : Gm) (N : List Str) : ∀ (e : Po) (sc : Scope) (pe : Option Expr) (X : Cx), Cxt X Γ N sc → chkP Γ N sc e pe = true → PoOk X pe (semP Γ e)
  | .no, sc, pe, X, hX, h => by
    unfold chkP at h
    split at h
    · unfold semP; exact PoOk.none
    · cases h
  | .so e, sc, pe, X, hX, h => by
    unfold chkP at h
    split at h
    · unfold semP; exact (ok_ex Γ N e sc _ X hX h).a
    · cases h
theorem ok_pc (Γ : Gm) (N : List Str) : ∀ (e : Po) (sc : Scope) (pes : List Expr) (X : Cx), Cxt X Γ N sc → chkC Γ N sc e pes = true → PTs X pes (ttC X.K Γ e)
  | .no, sc, pes, X, hX, h => by
    unfold chkC at h
    split at h
    · exact pts_nil
    · cases h
  | .so e, sc, pes, X, hX, h => by
    unfold chkC at h
    split at h
    · exact pts_one (ok_ex Γ N e sc _ X hX h).t
    · cases h
theorem ok_it (Γ : Gm) (N : List Str) : ∀ (it : It) (sc : Scope) (ptg pe : Expr) (X : Cx), Cxt X Γ N sc → chkI Γ N sc (isTupE ptg) it pe = true → PI X ptg pe (tI X.K (semI Γ it))
  | .sq e, sc, ptg, pe, X, hX, h => by
    unfold chkI at h
    unfold semI
    exact pi_seq (ok_ex Γ N e sc pe X hX h).s
  | .rng es, sc, ptg, pe, X, hX, h => by
    unfold chkI at h
    split at h
    · rename_i x p pes pos
      obtain ⟨h1, h2, h3, h4⟩ := and4 h
      obtain ⟨e, g1, g2⟩ := blt_of h1
      subst e
      have hs := ok_exs Γ N es sc _ X hX h2
      have hl3 := of_decide_eq_true h3
      have hl4 := of_decide_eq_true h4
      have hg := gl_of hX.esc g1
      have hm := hX.blt _ g2
      unfold semI
      have hln := hs.ln
      match pes, hs, hln, hl3, hl4 with
      | [], _, _, hl, _ => exact absurd hl (by simp)
      | [pa], hs, hln, _, _ => exact pi_rng1 hg hm (by rw [semAs_len, ← hln]; rfl) hs.a (and2 hs.hd).1
      | [pa, pb], hs, hln, _, _ => exact pi_rng2 hg hm (by rw [semAs_len, ← hln]; rfl) hs.a (and2 hs.hd).1 (and2 (and2 hs.hd).2).1
      | [pa, pb, pc], hs, hln, _, _ => exact pi_rng3 hg hm (by rw [semAs_len, ← hln]; rfl) hs.a (and2 hs.hd).1 (and2 (and2 hs.hd).2).1 (and2 (and2 (and2 hs.hd).2).2).1
      | _ :: _ :: _ :: _ :: _, _, _, _, hl => exact absurd hl (by simp)
    · cases h
  | .en e, sc, ptg, pe, X, hX, h => by
    unfold chkI at h
    split at h
    · obtain ⟨h1, h2, h3⟩ := and3 h
      obtain ⟨es, k, p, rfl⟩ := isTup_of h1
      obtain ⟨e', g1, g2⟩ := blt_of h2
      subst e'
      have ha := ok_ex Γ N e sc _ X hX h3
      unfold semI
      exact pi_en (gl_of hX.esc g1) (hX.blt _ g2) ha.s ha.hd
    · cases h
  | .zp a b, sc, ptg, pe, X, hX, h => by
    unfold chkI at h
    split at h
    · obtain ⟨h1, h2, h3, h4⟩ := and4 h
      obtain ⟨es, k, p, rfl⟩ := isTup_of h1
      obtain ⟨e', g1, g2⟩ := blt_of h2
      subst e'
      have ha := ok_ex Γ N a sc _ X hX h3
      have hb := ok_ex Γ N b sc _ X hX h4
      unfold semI
      exact pi_zp (gl_of hX.esc g1) (hX.blt _ g2) ha.s hb.s ha.hd hb.hd
    · cases h
end
end My

namespace My
open PySem PySem.Spec PyProof.Rows L2

/-- a def's body -/
structure Cxs (X : Cx) (Γ : Gm) (N : List Str) (sc : Scope) : Prop where
  cx : Cxt X Γ N sc
  fn : ∀ x, X.fn x = true
  xe : X.xe = fun _ _ => False
section
variable {X : Cx} {Γ : Gm} {N : List Str} {sc : Scope} {pe qe : Expr} {pes : List Expr} {es : Exs} {a b : Ex} {pos apos : Pos}
theorem Cxs.sto (h : Cxs X Γ N sc) : Sto X N sc := ⟨h.cx.eN, h.cx.nd, h.cx.calm, fun x hx => ⟨by rw [h.cx.esc]; exact loc_of hx, .inl (h.fn x)⟩⟩
theorem swapsWith_ok {env : Env} {e : Expr} {x : Str} {p : Pos} {line : Nat} (hk : env.scope.kind = .function) : swapsWith e (some (.Name x p)) line env = pure (swB env.scope x p e) := by
  have hb : (env.blockKind == .function) = true := by
    unfold Env.blockKind
    rw [hk]; rfl
  cases e with
  | ListComp elt gs scope pos =>
    show (pure (env.blockKind == .function && env.kindOf x == some .local && p.line == pos.line && !(scope.names.any fun (n, k) => n == x && (k == .local || k == .cell))) : Sem Bool) = _
    rw [hb, Bool.true_and]
    rfl
  | SetComp elt gs scope pos =>
    show (pure (env.blockKind == .function && env.kindOf x == some .local && p.line == pos.line && !(scope.names.any fun (n, k) => n == x && (k == .local || k == .cell))) : Sem Bool) = _
    rw [hb, Bool.true_and]
    rfl
  | DictComp k v gs scope pos =>
    show (pure (env.blockKind == .function && env.kindOf x == some .local && p.line == pos.line && !(scope.names.any fun (n, k) => n == x && (k == .local || k == .cell))) : Sem Bool) = _
    rw [hb, Bool.true_and]
    rfl
  | _ => rfl
theorem swp_ok {env : Env} {ts vs : List Expr} {k k2 : Nat} {p p2 : Pos} {r : Option (List Str)} (hk : env.scope.kind = .function) (h : swpB env.scope ts vs = some r) : swappedStores [.Tuple ts k p] (.Tuple vs k2 p2) env = pure r := by
  have hb : (env.blockKind != .function) = false := by
    unfold Env.blockKind
    rw [hk]; rfl
  unfold swappedStores
  unfold swpB at h
  dsimp only at h ⊢
  rw [hb, Bool.or_false]
  split at h
  · rename_i h1
    cases h
    exact if_pos h1
  · rename_i h1
    refine (if_neg h1).trans ?_
    split at h
    · rename_i h2
      cases h
      exact if_pos h2
    · rename_i h2
      refine (if_neg h2).trans ?_
      split at h
      · rename_i h3
        cases h
        exact if_pos h3
      · rename_i h3
        refine (if_neg h3).trans ?_
        split at h
        · rename_i h4
          cases h
          exact if_pos h4
        · rename_i h4
          refine (if_neg h4).trans ?_
          split at h
          · cases h
          · rename_i h5
            refine (if_neg h5).trans ?_
            cases h
            rfl
theorem asg_q {K : Fg} {i : Nat} {f : EvV} {D : Ends} {σ : St} {H : Hp} (q : tS K (asgS i f) D σ H) : tAsg (tV K f) (gName i) D σ H := by
  obtain ⟨B, ρ, S, fl, R, e, q⟩ := q
  obtain ⟨⟨r, ρ1⟩, e1, e⟩ := Option.bind_eq_some_iff.mp e
  obtain ⟨ρ2, e2, e⟩ := Option.bind_eq_some_iff.mp e
  cases e
  exact ⟨B, ρ, S, r, ρ1, R, e1, fun v H' S' R' E' k => q _ H' S' (R'.setR (rvT_of R E' k) e2) E'.ss⟩
theorem loc_lc (hX : Cxs X Γ N sc) {i : Nat} {x : Str} {p spos : Pos} {elt : Ex} {tg : Tg} {own : List Nat} {it : It} {cd : Po} (h1 : stC N sc i x = true) (h2 : chk Γ N sc (.lc elt tg own it cd) pe = true) (h3 : swapsWith pe (some (.Name x p)) spos.line X.env = pure true) (h4 : sc.names.lookup x = some .local) :
    PS X (.Assign [.Name x p] pe spos) (tS X.K (asgS i (sem Γ (.lc elt tg own it cd)).v)) := by
  have hC := hX.cx
  unfold chk at h2
  split at h2
  · rename_i pelt ptg piter ifs isa scope pos
    obtain ⟨h0, h7⟩ := and2 h2
    obtain ⟨h0, h6⟩ := and2 h0
    obtain ⟨h0, h5⟩ := and2 h0
    obtain ⟨k1, k2, k3, k4⟩ := and4 h0
    have e := of_decide_eq_true k1
    subst e
    have hb := blkOk_by k2
    have ht : ∀ s H C cl fp, PTs (X.blk s H scope (compEnvC scope cl C X.env) fp) ifs (ttC X.K Γ cd) := fun s H C cl fp => ok_pc Γ N cd (relS scope sc) ifs _ (blk_cxt hC hb.kind s H C cl fp) h6
    have he : ∀ s H C cl fp, PE (X.blk s H scope (compEnvC scope cl C X.env) fp) pelt (tA X.K (stE elt (sem Γ elt).v)) := fun s H C cl fp => (ok_ex Γ N elt (relS scope sc) _ _ (blk_cxt hC hb.kind s H C cl fp) h7).s
    obtain ⟨g1, g2, g3⟩ := stC_of hX.sto h1
    refine ps_imp (ps_setLc (g := gTg X.K tg) (te := tA X.K (stE elt (sem Γ elt).v)) hC.calm hC.nd g1 (by rw [hC.esc]; exact h4) h3 (pi_imp (ok_it Γ N it sc ptg piter X hC h5) fun σ H R q => tF_tI q) (by rw [hC.eN, hC.esc]; exact hb) (fun s H C cl fp => tg_ok (blk_sto hC s H C cl fp) k3) ht he (noFold k4)) fun D σ H q => ?_
    rw [own_map]
    exact lc_ok (ttC_imp cd) (asg_q q)
  · cases h2
theorem asg_ok (hX : Cxs X Γ N sc) {i : Nat} {x : Str} {p spos : Pos} {e : Ex} (h1 : stC N sc i x = true) (h2 : chk Γ N sc e pe = true) (h9 : (!(isLco e && swB sc x p pe)) = true) : PS X (.Assign [.Name x p] pe spos) (tS X.K (asgS i (sem Γ e).v)) := by
  have hC := hX.cx
  obtain ⟨g1, g2, g3⟩ := stC_of hX.sto h1
  have hsw := swapsWith_ok (env := X.env) (e := pe) (x := x) (p := p) (line := spos.line) (by rw [hC.esc]; exact hC.kind)
  rw [hC.esc] at hsw
  cases hb : swB sc x p pe with
  | false =>
    rw [hb] at hsw
    exact ps_asgS hC.nd g1 g2 (ok_ex Γ N e sc pe X hC h2).v hsw g3
  | true =>
    rw [hb] at hsw
    have hl : sc.names.lookup x = some .local := by
      unfold swB at hb
      split at hb <;> first | (cases hb; done) | exact eq_of_beq (and3 hb).1
    cases e with
    | lc elt tg own it cd => exact loc_lc hX h1 h2 hsw hl
    | lco elt tg own i cd => rw [hb] at h9; cases h9
    | _ =>
      exfalso
      cases pe <;> first | (cases hb; done) | (unfold chk at h2; cases h2; done)
end
end My

namespace My
open PySem PySem.Spec PyProof.Rows L2

section
variable {X : Cx} {Γ : Gm} {N : List Str} {sc : Scope} {pe qe : Expr} {pes : List Expr} {es : Exs} {a b : Ex} {pos apos : Pos}
theorem prs_of (hX : Cxt X Γ N sc) : ∀ (es : Exs) (pes : List Expr), chks Γ N sc es pes = true → PA X pes (tRs X.K (semVs Γ es))
  | .nil, pes, h => by
    unfold chks at h
    split at h
    · unfold semVs; exact prs_nil
    · cases h
  | .cons e es, pes, h => by
    unfold chks at h
    split at h
    · obtain ⟨h1, h2⟩ := and2 h
      unfold semVs
      have ha := ok_ex Γ N e sc _ X hX h1
      exact prs_cons ha.v (prs_of hX es _ h2) (star_cons ha.hd)
    · cases h
theorem lcl_of {x : Str} (h : lclB sc x = true) : sc.names.lookup x = some .local := eq_of_beq h
theorem par_ok (hX : Cxs X Γ N sc) {is : List Nat} {ts vs : List Expr} {k k2 : Nat} {p p2 spos : Pos} (h1 : nmsC N sc is ts = true) (h2 : chks Γ N sc es vs = true) (h3 : is.length ≤ 1000) (h4 : (match swpB sc ts vs with
      | some none => true
      | some (some names) => parC sc is ts vs names
      | none => false) = true) : PS X (.Assign [.Tuple ts k p] (.Tuple vs k2 p2) spos) (tS X.K (tupS is (semVs Γ es))) := by
  have hC := hX.cx
  have ha := prs_of hC es vs h2
  have hk : X.env.scope.kind = .function := by rw [hC.esc]; exact hC.kind
  split at h4
  · rename_i hw
    obtain ⟨g1, g2, g3, g4⟩ := nms_pgs hX.sto is ts h1
    exact ps_tupG (by have := sizeLine_eq; omega) hC.calm ha (pg_tup hC.calm g1 (by rw [g3, g2]) g4) (swp_ok hk (by rw [hC.esc]; exact hw))
  · rename_i names hw
    have hw' : ∀ {k k2 p p2}, swappedStores [.Tuple ts k p] (.Tuple vs k2 p2) X.env = pure (some names) := fun {k k2 p p2} => swp_ok hk (by rw [hC.esc]; exact hw)
    unfold parC at h4
    split at h4
    · rename_i i j x px y py v1 v2 x' y'
      obtain ⟨q1, q2, q3, q4⟩ := and4 h4
      obtain ⟨q4, q5⟩ := and2 q4
      have e := of_decide_eq_true q1
      subst e
      have e := of_decide_eq_true q2
      subst e
      obtain ⟨s1, s2⟩ := and2 (show (stC N sc i x && nmsC N sc [j] [.Name y py]) = true from h1)
      obtain ⟨s2, _⟩ := and2 (show (stC N sc j y && nmsC N sc [] []) = true from s2)
      exact ps_tup2 hC.calm hC.nd (stC_of hX.sto s1).1 (stC_of hX.sto s2).1 (of_decide_eq_true q3) (by rw [hC.esc]; exact lcl_of q4) (by rw [hC.esc]; exact lcl_of q5) ha hw'
    · rename_i i j l x px y py z pz v1 v2 v3 x' y' z'
      obtain ⟨q1, q2, q3, q4⟩ := and4 h4
      obtain ⟨r1, r2, r3, q4⟩ := and4 q4
      obtain ⟨q4, q5, q6⟩ := and3 q4
      have e := of_decide_eq_true q1
      subst e
      have e := of_decide_eq_true q2
      subst e
      have e := of_decide_eq_true q3
      subst e
      obtain ⟨s1, s2⟩ := and2 (show (stC N sc i x && nmsC N sc [j, l] [.Name y py, .Name z pz]) = true from h1)
      obtain ⟨s2, s3⟩ := and2 (show (stC N sc j y && nmsC N sc [l] [.Name z pz]) = true from s2)
      obtain ⟨s3, _⟩ := and2 (show (stC N sc l z && nmsC N sc [] []) = true from s3)
      exact ps_tup3 hC.calm hC.nd (stC_of hX.sto s1).1 (stC_of hX.sto s2).1 (stC_of hX.sto s3).1 (of_decide_eq_true r1) (of_decide_eq_true r2) (of_decide_eq_true r3) (by rw [hC.esc]; exact lcl_of q4) (by rw [hC.esc]; exact lcl_of q5) (by rw [hC.esc]; exact lcl_of q6) ha hw'
    · cases h4
  · cases h4
end
theorem swp_sub (sc : Scope) {o1 x1 o2 x2 q1 q2 : Expr} {p1 p2 : Pos} : swpB sc [.Subscript o1 x1 p1, .Subscript o2 x2 p2] [q1, q2] = some none := by
  unfold swpB
  split
  · rfl
  · split
    · rfl
    · rfl
mutual
theorem ok_st (Γ : Gm) (N : List Str) : ∀ (s : Sx) (sc : Scope) (st : Stmt) (X : Cx), Cxs X Γ N sc → chkS Γ N sc s st = true → PS X st (tS X.K (semS Γ s))
  | .asg i e, sc, st, X, hX, h => by
    unfold chkS at h
    split at h
    · obtain ⟨h1, h2, h3⟩ := and3 h
      unfold semS
      exact asg_ok hX h1 h2 h3
    · cases h
  | .exp e, sc, st, X, hX, h => by
    unfold chkS at h
    split at h
    · unfold semS
      exact ps_expS (ok_ex Γ N e sc _ X hX.cx h).v rfl
    · cases h
  | .ite c a b, sc, st, X, hX, h => by
    unfold chkS at h
    split at h
    · obtain ⟨h1, h2, h3⟩ := and3 h
      unfold semS
      exact ps_iteS (ok_ex Γ N c sc _ X hX.cx h1).t (ok_bd Γ N a sc _ X hX h2) (ok_bd Γ N b sc _ X hX h3)
    · cases h
  | .ret e, sc, st, X, hX, h => by
    unfold chkS at h
    split at h
    · unfold semS
      rename_i pe pos
      have he : PS X (.Return (some pe) pos) (tS X.K (retS (.ex (sem Γ e).v))) := ps_retEx (ok_ex Γ N e sc _ X hX.cx h).v
      cases e with
      | var i =>
        unfold chk at h
        split at h
        · exact ps_retVar (var_of hX.cx h)
        · cases h
      | fz i =>
        unfold chk at h
        split at h
        · exact ps_retFz (var_of hX.cx h)
        · cases h
      | _ => exact he
    · cases h
  | .retN, sc, st, X, hX, h => by
    unfold chkS at h
    split at h
    · unfold semS; exact ps_retNS
    · cases h
  | .pass, sc, st, X, hX, h => by
    unfold chkS at h
    split at h
    · unfold semS; exact ps_passS
    · cases h
  | .brk, sc, st, X, hX, h => by
    unfold chkS at h
    split at h
    · unfold semS; exact ps_breakS
    · cases h
  | .never, sc, st, X, hX, h => by
    unfold semS
    exact ps_neverS
  | .whl c b wp, sc, st, X, hX, h => by
    unfold chkS at h
    split at h
    · obtain ⟨h1, h2⟩ := and2 h
      unfold semS
      exact ps_whlS hX.xe (ok_ex Γ N c sc _ X hX.cx h1).t (ok_bd Γ N b sc _ X hX h2)
    · cases h
  | .for it tg b wp, sc, st, X, hX, h => by
    unfold chkS at h
    split at h
    · obtain ⟨h1, h2, h3, h4⟩ := and4 h
      unfold semS
      exact ps_forS hX.xe hX.cx.calm (ok_it Γ N it sc _ _ X hX.cx h2) (tg_ok hX.sto h3) (ok_bd Γ N b sc _ X hX h4) h1
    · cases h
  | .unp tg e, sc, st, X, hX, h => by
    unfold chkS at h
    split at h
    · obtain ⟨h1, h2, h3, h4⟩ := and4 h
      obtain ⟨es, k, p, rfl⟩ := isTup_of h1
      unfold semS
      rename_i pe pos
      have hne : isTupE pe = false := by simpa using h2
      refine ps_unpS (ok_ex Γ N e sc _ X hX.cx h4).s (tg_ok hX.sto h3) ?_ ?_ rfl
      · cases pe <;> rfl
      · cases pe <;> first | rfl | cases hne
    · cases h
  | .par is es, sc, st, X, hX, h => by
    unfold chkS at h
    split at h
    · obtain ⟨h1, h2, h3, h4⟩ := and4 h
      unfold semS
      exact par_ok hX h1 h2 (of_decide_eq_true h3) h4
    · cases h
  | .setI i ix a, sc, st, X, hX, h => by
    unfold chkS at h
    split at h
    · obtain ⟨h1, h2, h3⟩ := and3 h
      unfold semS
      have hx := ok_ex Γ N ix sc _ X hX.cx h2
      exact ps_setIS (var_of hX.cx h1) hx.a (ok_ex Γ N a sc _ X hX.cx h3).s hx.hd
    · cases h
  | .swap i j x y a b, sc, st, X, hX, h => by
    unfold chkS at h
    split at h
    · obtain ⟨h0, h6⟩ := and2 h
      obtain ⟨h0, h5⟩ := and2 h0
      obtain ⟨h1, h2, h3, h4⟩ := and4 h0
      unfold semS
      have hx := ok_ex Γ N x sc _ X hX.cx h3
      have hy := ok_ex Γ N y sc _ X hX.cx h4
      have ha := ok_ex Γ N a sc _ X hX.cx h5
      have hb := ok_ex Γ N b sc _ X hX.cx h6
      exact ps_swapS hX.cx.calm (var_of hX.cx h1) (var_of hX.cx h2) hx.a hy.a ha.s hb.s hx.hd hy.hd ha.hd hb.hd (swp_ok (by rw [hX.cx.esc]; exact hX.cx.kind) (swp_sub _))
    · cases h
theorem ok_bd (Γ : Gm) (N : List Str) : ∀ (s : Sxs) (sc : Scope) (sts : List Stmt) (X : Cx), Cxs X Γ N sc → chkB Γ N sc s sts = true → PSs X sts (tS X.K (semB Γ s))
  | .nil, sc, sts, X, hX, h => by
    unfold chkB at h
    split at h
    · unfold semB; exact pss_nilS
    · cases h
  | .cons s r, sc, sts, X, hX, h => by
    unfold chkB at h
    split at h
    · obtain ⟨h1, h2⟩ := and2 h
      unfold semB
      exact pss_consS (ok_st Γ N s sc _ X hX h1) (ok_bd Γ N r sc _ X hX h2)
    · cases h
end
end My

namespace My
open PySem PySem.Spec PyProof.Rows L2

/-! ### a def as a function -/
def startE (N : List Str) (io : Bool) (ds : List D) : Option En := match io, ds with
  | false, ds => some (ds.map .val ++ List.replicate (N.length - ds.length) .no)
  | true, .lst cs :: ds => some (.io cs :: ds.map .val ++ List.replicate (N.length - (ds.length + 1)) .no)
  | true, _ => none
def outE (io : Bool) (r : RV) (ρ : En) : Option (RV × List D) := match io with
  | false => some (r, [])
  | true => match (ρ[(0 : Nat)]? : Option Ent) with
    | some (.io cs) => some (r, cs)
    | _ => none
def defF (f : EvS) (N : List Str) (n : Nat) (io : Bool) (ds : List D) : Option (RV × List D) :=
  if ds.length = n then (startE N io ds).bind fun ρ => (f ρ).bind fun fl => match fl with
    | .rt r ρ' => outE io r ρ'
    | .nx ρ' => outE io (.val .non) ρ'
    | .bk _ => none
  else none
section
variable {K : Fg} {H S : Hp} {N : List Str}
theorem map_some_get : ∀ (vs : List V) (m i : Nat) (x : Option V), (vs.map some ++ List.replicate m none)[i]? = some x → (∃ v, vs[i]? = some v ∧ x = some v) ∨ x = none := by
  intro vs m i x h
  by_cases hi : i < vs.length
  · rw [List.getElem?_append_left (by simpa using hi), List.getElem?_map, List.getElem?_eq_getElem hi] at h
    exact .inl ⟨_, List.getElem?_eq_getElem hi, (Option.some.inj h).symm⟩
  · rw [List.getElem?_append_right (by simpa using hi), List.getElem?_replicate] at h
    split at h
    · exact .inr (Option.some.inj h).symm
    · cases h
theorem start_val {vs : List V} {ds : List D} (hs : Same S H) (q : DqAll K S vs ds) (m : Nat) : Rel K ⟨H, S, none⟩ (vs.map some ++ List.replicate m none) (ds.map .val ++ List.replicate m .no) H S := by
  have noroot : ∀ i a, ¬ Root (vs.map some ++ List.replicate m none) (ds.map Ent.val ++ List.replicate m .no) i a := by
    rintro i a ⟨⟨e, he, hr⟩, _⟩
    by_cases hi : i < ds.length
    · rw [List.getElem?_append_left (by simpa using hi), List.getElem?_map, List.getElem?_eq_getElem hi] at he
      cases he; cases hr
    · rw [List.getElem?_append_right (by simpa using hi), List.getElem?_replicate] at he
      split at he <;> cases he
      cases hr
  refine ⟨by simp [q.length], hs, fun i e he => ?_, fun i j a h => absurd h (noroot i a), fun b o h _ => h, .refl _, fun _ _ => rfl, fun a h => by cases h⟩
  by_cases hi : i < ds.length
  · rw [List.getElem?_append_left (by simpa using hi), List.getElem?_map, List.getElem?_eq_getElem hi] at he
    cases he
    obtain ⟨v, h1, h2⟩ := q.get (List.getElem?_eq_getElem hi)
    refine ⟨v, ?_, h2⟩
    have hi2 : i < vs.length := by rw [q.length]; exact hi
    rw [List.getElem?_append_left (by simpa using hi2), List.getElem?_map, h1]; rfl
  · rw [List.getElem?_append_right (by simpa using hi), List.getElem?_replicate] at he
    split at he <;> cases he
    trivial
theorem start_io {a : Addr} {xs : List V} {cs : List D} {vs : List V} {ds : List D} (hs : Same S H) (ha : H a = some (.lst xs)) (hn : S a = none) (qc : DqAll K S xs cs) (q : DqAll K S vs ds) (m : Nat) :
    Rel K ⟨H, S, some a⟩ (some (.ref a) :: (vs.map some ++ List.replicate m none)) (.io cs :: (ds.map .val ++ List.replicate m .no)) H S := by
  have R := start_val hs q m
  have root0 : ∀ i b, Root (some (V.ref a) :: (vs.map some ++ List.replicate m none)) (Ent.io cs :: (ds.map Ent.val ++ List.replicate m .no)) i b → i = 0 := by
    rintro i b ⟨⟨e, he, hr⟩, _⟩
    cases i with
    | zero => rfl
    | succ i =>
      have he' : (ds.map Ent.val ++ List.replicate m .no)[i]? = some e := by simpa using he
      exfalso
      by_cases hi : i < ds.length
      · rw [List.getElem?_append_left (by simpa using hi), List.getElem?_map, List.getElem?_eq_getElem hi] at he'
        cases he'; cases hr
      · rw [List.getElem?_append_right (by simpa using hi), List.getElem?_replicate] at he'
        split at he' <;> cases he'
        cases hr
  refine ⟨by simp [q.length], hs, fun i e he => ?_, fun i j b h1 h2 => by rw [root0 i b h1, root0 j b h2], fun b o h _ => h, .refl _, fun _ _ => rfl, fun b h => by cases h; rw [ha]; exact fun z => by cases z⟩
  cases i with
  | zero =>
    cases he
    exact ⟨a, xs, rfl, ha, hn, rfl, qc⟩
  | succ i =>
    have he' : (ds.map Ent.val ++ List.replicate m .no)[i]? = some e := by simpa using he
    have r := R.ent i e he'
    have e1 : (some (V.ref a) :: (vs.map some ++ List.replicate m none))[i + 1]? = (vs.map some ++ List.replicate m none)[i]? := by simp
    rw [e1]
    by_cases hi : i < ds.length
    · rw [List.getElem?_append_left (by simpa using hi), List.getElem?_map, List.getElem?_eq_getElem hi] at he'
      cases he'
      exact r
    · rw [List.getElem?_append_right (by simpa using hi), List.getElem?_replicate] at he'
      split at he' <;> cases he'
      trivial
theorem rvOk_ret {B : Bs} {H' S' : Hp} {v : V} {r : RV} (h : RvRet K B H' S' v r) : RvOk K B.Hb H' S' v r := by
  cases r with
  | val d => exact h
  | new ds =>
    obtain ⟨a, xs, h1, h2, h3, h4, h5⟩ := h
    exact ⟨a, xs, h1, h4, h2, h3, h5⟩
theorem rel_grow {σ : St} {ρ : En} {H' S' : Hp} (hs : Same S H) (R : Rel K ⟨H, S, none⟩ σ ρ H' S') : Grow H S H' S' :=
  ⟨R.sst, R.sub, fun b o h => R.old b o h (fun z => by cases z), fun b h => R.sold b h⟩
/-- the promise, from the body -/
theorem spF_body {f : EvS} {n : Nat} {io : Bool} {vs : List V} {Q : VK} {E : XK} (h : spF K n io (defF f N n io) vs H Q E) :
    tS K f { nx := fun _ H' => Q .non H', rt := Q } (start N vs) H := by
  obtain ⟨hl, S, ds, r, ds', hs, hF, h⟩ := h
  unfold defF at hF
  split at hF
  · rename_i hlen
    obtain ⟨ρ, h1, hF⟩ := Option.bind_eq_some_iff.mp hF
    obtain ⟨fl, h2, hF⟩ := Option.bind_eq_some_iff.mp hF
    cases io with
    | false =>
      rw [if_neg Bool.false_ne_true] at h
      obtain ⟨q1, q2⟩ := h
      have e1 : ρ = ds.map .val ++ List.replicate (N.length - vs.length) .no := by
        cases h1
        rw [q1.length]
      subst e1
      refine ⟨⟨H, S, none⟩, _, S, fl, start_val hs q1 _, h2, ?_⟩
      cases fl with
      | nx ρ' =>
        cases hF
        exact fun σ' H' S' R' s => q2 .non H' S' (rel_grow hs R') .non
      | rt r' ρ' =>
        cases hF
        exact fun v σ' H' S' R' s k => q2 v H' S' (rel_grow hs R') (rvOk_ret k)
      | bk ρ' => cases hF
    | true =>
      rw [if_pos rfl] at h
      obtain ⟨a, xs, cs, vs', rest, rfl, rfl, ha, hn, qc, q1, q2⟩ := h
      have e1 : ρ = .io cs :: (rest.map .val ++ List.replicate (N.length - (vs'.length + 1)) .no) := by
        cases h1
        rw [q1.length]; rfl
      subst e1
      have R0 := start_io (m := N.length - (vs'.length + 1)) hs ha hn qc q1
      have fin : ∀ {σ' : St} {ρ' : En} {H' S' : Hp} {r' : RV} {v : V}, Rel K ⟨H, S, some a⟩ σ' ρ' H' S' → RvRet K ⟨H, S, some a⟩ H' S' v r' → outE true r' ρ' = some (r, ds') → Q v H' := by
        intro σ' ρ' H' S' r' v R' k ho
        have ho' : (match (ρ'[(0 : Nat)]? : Option Ent) with | some (.io cs) => some (r', cs) | _ => none) = some (r, ds') := ho
        split at ho'
        · rename_i cs' hc
          cases ho'
          obtain ⟨b, ys, g1, g2, g3, g4, g5⟩ := R'.ent 0 _ hc
          cases g4
          exact q2 v H' S' ys R'.sst R'.sub (fun c o hc hca => R'.old c o hc (fun z => hca (by cases z; rfl))) (fun c hc => R'.sold c hc) g2 g5 (rvOk_ret k)
        · cases ho'
      refine ⟨⟨H, S, some a⟩, _, S, fl, R0, h2, ?_⟩
      cases fl with
      | nx ρ' => exact fun σ' H' S' R' s => fin R' (r' := .val .non) (v := .non) .non hF
      | rt r' ρ' => exact fun v σ' H' S' R' s k => fin R' k hF
      | bk ρ' => cases hF
  · cases hF
end
/-! ### a def of the text -/
structure Facts (P : Program) (w : World) (K : Fg) (mg : Str → Option Value) (base : Heap) (Γ : Gm) (k : Nat) : Prop where
  blt : ∀ x ∈ Γ.B, mg x = none
  cst : ∀ p ∈ Γ.C, ∃ v u, mg p.1 = some u ∧ RelV v u ∧ ∀ S, Dq K S v p.2
  fns : ∀ fi ∈ Γ.Φ, C8.Cal P w K mg base k fi.name (spF K fi.n fi.io fi.F) []
section
variable {P : Program} {w : World} {K : Fg} {mg : Str → Option Value} {base : Heap} {Γ : Gm} {k : Nat}
theorem def_ok {x qual : Str} {st : Stmt} {f : Addr} {fd : FuncData} {N ps : List Str} {n : Nat} {io : Bool} {body : Sxs} (F : Fun K x qual st f fd) (S : FnScope N ps (defScope st)) (hn : ps.length = n) (hb : chkB Γ N (defScope st) body (defBody st) = true)
    (X : Facts P w K mg base Γ k) : FnOk P w K mg base CX0 (k + 1) f fd ps (spF K n io (defF (semB Γ body) N n io)) := by
  refine F.ok S (fun vs H Q E h => by rw [hn]; exact h.1) (fun cdv A outer s H vs Q E hr h => ?_)
  refine ⟨_, ok_bd Γ N body (defScope st) (defBody st) _ ⟨⟨rfl, S.nd, rfl, rfl, S.kind, ?_, X.blt, X.cst, fun fi hfi => ⟨k, k, hr, Nat.le_refl _, X.fns fi hfi⟩⟩, fun _ => rfl, rfl⟩ hb, spF_body h⟩
  have := hr.un
  show (A.deeper _).units + 65 < cLine
  omega
end
end My

namespace My
open PySem PySem.Spec PyProof.Rows L2

/-- a def of the module by its name -/
structure DefAt (K : Fg) (mg : Str → Option Value) (x : Str) (st : Stmt) (ps : List Str) : Prop where
  ex : ∃ f fd, Fun K x x st f fd ∧ mg x = some (.ref f) ∧ ∀ us : List Value, us.length = ps.length → bindArgs fd ⟨us, []⟩ = pure (ps.zip us)
section
variable {P : Program} {w : World} {K : Fg} {mg : Str → Option Value} {base : Heap} {Γ : Gm} {k : Nat}
theorem defAt_mk {h : Heap} {x : Str} {st : Stmt} {ps : List Str} {f : Addr} {od an : Option Addr} {sl : Array (Option Value)} {oc kV dc pm cd ct : Value} (X : K.In h) (G : h.Ns mainGlobals mg)
    (a : PySem.W.nsIn K mainGlobals x = some (some (.ref f))) (l : K.lookup f = some ⟨oc, od, .func (PySem.W.fnOf x x (defArgs st) (defBody st) (defScope st) .none kV dc pm an cd ct), sl⟩) (c : PySem.W.codeIn K cd x = true) (k : PySem.W.keepIn K (.ref f) = true)
    (b : ∀ (kV doc pm : Value) (an : Option Addr) (cdv ct : Value) (us : List Value), us.length = ps.length → bindArgs (PySem.W.fnOf x x (defArgs st) (defBody st) (defScope st) .none kV doc pm an cdv ct) ⟨us, []⟩ = pure (ps.zip us)) : DefAt K mg x st ps :=
  have F := fun_mk (st := st) l c k
  ⟨f, _, F, PySem.W.mg_of X G a, b kV dc pm an cd ct⟩
theorem cal_ok {x : Str} {st : Stmt} {N ps : List Str} {n : Nat} {io : Bool} {body : Sxs} (d : DefAt K mg x st ps) (S : FnScope N ps (defScope st)) (hn : ps.length = n) (hb : chkB Γ N (defScope st) body (defBody st) = true)
    (X : Facts P w K mg base Γ k) : C8.Cal P w K mg base (k + 1) x (spF K n io (defF (semB Γ body) N n io)) [] := by
  obtain ⟨f, fd, F, hm, b⟩ := d.ex
  exact ⟨f, fd, ps, [], def_ok F S hn hb X, hm, F.kp, .all b, .nil⟩
theorem cal_mono {x : Str} {sp : Sp} {j : Nat} (c : C8.Cal P w K mg base j x sp []) (h : j ≤ k) : C8.Cal P w K mg base k x sp [] := by
  obtain ⟨f, fd, ps, ds, F, r⟩ := c.ex
  exact ⟨f, fd, ps, ds, F.mono h, r⟩
/-- a def that calls itself: as deep as wanted -/
def recF (G : (List D → Option (RV × List D)) → List D → Option (RV × List D)) : Nat → List D → Option (RV × List D)
  | 0, _ => none
  | j + 1, ds => G (recF G j) ds
theorem cal_rec {x : Str} {st : Stmt} {N ps : List Str} {n : Nat} {io : Bool} {body : Sxs} {ΓF : (List D → Option (RV × List D)) → Gm} (d : DefAt K mg x st ps) (S : FnScope N ps (defScope st)) (hn : ps.length = n) (hb : ∀ F, chkB (ΓF F) N (defScope st) body (defBody st) = true)
    (X : ∀ (j : Nat) (F : List D → Option (RV × List D)), k ≤ j → C8.Cal P w K mg base j x (spF K n io F) [] → Facts P w K mg base (ΓF F) j) : ∀ j, C8.Cal P w K mg base (k + j) x (spF K n io (recF (fun F => defF (semB (ΓF F) body) N n io) j)) []
  | 0 => by
    obtain ⟨f, fd, F, hm, b⟩ := d.ex
    refine ⟨f, fd, ps, [], ⟨fun vs H Q E h => by rw [hn]; exact h.1, fun A outer s H args us vs Q E _ _ _ _ h => ?_⟩, hm, F.kp, .all b, .nil⟩
    obtain ⟨_, S, ds, r, ds', _, hF, _⟩ := h
    cases hF
  | j + 1 => by
    have ih := cal_rec d S hn hb X j
    exact cal_ok d S hn (hb _) (X (k + j) _ (Nat.le_add_right _ _) ih)
/-- a constant of the module: a text, a number -/
theorem cst_int {h : Heap} {x : Str} {i : Int} {t : Tok} (X : K.In h) (G : h.Ns mainGlobals mg) (a : PySem.W.nsIn K mainGlobals x = some (some (.int i t))) : ∃ v u, mg x = some u ∧ RelV v u ∧ ∀ S, Dq K S v (.int i) :=
  ⟨.int i, _, PySem.W.mg_of X G a, ⟨t, rfl⟩, fun _ => .int _⟩
theorem cst_str {h : Heap} {x : Str} {i : Str} {t : Tok} (X : K.In h) (G : h.Ns mainGlobals mg) (a : PySem.W.nsIn K mainGlobals x = some (some (.str i t))) : ∃ v u, mg x = some u ∧ RelV v u ∧ ∀ S, Dq K S v (.str i) :=
  ⟨.str i, _, PySem.W.mg_of X G a, ⟨t, rfl⟩, fun _ => .str _⟩
theorem fa_nil {α : Type} {Q : α → Prop} : ∀ p ∈ ([] : List α), Q p := fun _ h => nomatch h
theorem fa_cons {α : Type} {Q : α → Prop} {a : α} {l : List α} (h : Q a) (t : ∀ p ∈ l, Q p) : ∀ p ∈ a :: l, Q p := fun p hp => by
  rcases List.mem_cons.mp hp with rfl | hp
  · exact h
  · exact t p hp
/-- the law's own def -/
theorem law_top {x : Str} {st : Stmt} {N : List Str} {body : Sxs} {fa : Addr} (d : DefAt K mg x st ["script"]) (hfa : mg x = some (.ref fa)) (S : FnScope N ["script"] (defScope st)) (hb : chkB Γ N (defScope st) body (defBody st) = true)
    (X : ∀ base : Heap, Facts P w K mg base Γ k) : ∃ fd : FuncData, (∀ (s : Shared) (v : Value), BindsTo s fd ⟨[v], []⟩ [("script", v)]) ∧ ∀ base : Heap, K.In base → base.Ns mainGlobals mg → FnOk P w K mg base CX0 (k + 1) fa fd ["script"] (spF K 1 false (defF (semB Γ body) N 1 false)) := by
  obtain ⟨f, fd, F, hm, b⟩ := d.ex
  have e := hfa.symm.trans hm
  cases e
  exact ⟨fd, fun s v => .of_eq (b [v] rfl), fun base _ _ => def_ok F S rfl hb (X base)⟩
/-- what the law asks: from the promise of law -/
theorem law_sp {F : List D → Option (RV × List D)} {a : Addr} {ns : List Int} {H : Hp} {Q : VK} {E : XK} (hS : SqL K H a (ns.map V.int)) (hF : ∃ x, F [.scr ns] = some (.val (.bl true), x)) (q : ∀ H', Q (.bl true) H') : spF K 1 false F [.ref a] H Q E := by
  obtain ⟨x, hF⟩ := hF
  refine ⟨rfl, H, [.scr ns], _, x, .refl _, hF, ?_⟩
  rw [if_neg Bool.false_ne_true]
  refine ⟨.cons (.scr hS) .nil, fun v H' S' g k => ?_⟩
  cases k
  exact q H'
end
end My
namespace My
open PySem PySem.Spec PyProof.Rows L2
/-! ### a function that no reduction opens -/
theorem sealE (f : List D → Option (RV × List D)) : Nonempty {g : List D → Option (RV × List D) // g = f} := ⟨⟨f, rfl⟩⟩
noncomputable def sealF (f : List D → Option (RV × List D)) : List D → Option (RV × List D) := (Classical.choice (sealE f)).1
@[simp] theorem seal_eq (f : List D → Option (RV × List D)) : sealF f = f := (Classical.choice (sealE f)).2
end My

namespace My
open PySem PySem.Spec PyProof.Rows L2

/-! ### reductions -/
def W {α : Type} (o : Option α) (P : α → Prop) : Prop := ∃ x, o = some x ∧ P x
@[simp] theorem W_some {α : Type} {x : α} {P : α → Prop} : W (some x) P ↔ P x := by simp [W]
@[simp] theorem W_none {α : Type} {P : α → Prop} : W (none : Option α) P ↔ False := by simp [W]
@[simp] theorem W_bind {α β : Type} {o : Option α} {f : α → Option β} {P : β → Prop} : W (o.bind f) P ↔ W o (fun x => W (f x) P) := by
  unfold W
  constructor
  · rintro ⟨y, h, p⟩
    obtain ⟨x, h1, h2⟩ := Option.bind_eq_some_iff.mp h
    exact ⟨x, h1, y, h2, p⟩
  · rintro ⟨x, h1, y, h2, p⟩
    exact ⟨y, by rw [h1]; exact h2, p⟩
theorem W_mono {α : Type} {o : Option α} {P Q : α → Prop} (h : W o P) (k : ∀ x, P x → Q x) : W o Q := by
  obtain ⟨x, e, p⟩ := h
  exact ⟨x, e, k x p⟩
@[simp] theorem W_ite {α : Type} {c : Prop} [Decidable c] {a b : Option α} {P : α → Prop} : W (if c then a else b) P ↔ (c → W a P) ∧ (¬ c → W b P) := by
  by_cases h : c <;> simp [h]
@[simp high] theorem W_guard {α : Type} {c : Prop} [Decidable c] {a : Option α} {P : α → Prop} : W (if c then a else none) P ↔ c ∧ W a P := by
  by_cases h : c <;> simp [h, W_none]
theorem of_W {α : Type} {o : Option α} {x : α} (h : W o fun r => r = x) : o = some x := by
  obtain ⟨y, e, rfl⟩ := h
  exact e
theorem W_eq {α : Type} {o : Option α} {x : α} {P : α → Prop} (e : o = some x) : W o P ↔ P x := by rw [e, W_some]
@[simp] theorem r0 (i j : Int) : oAdd [.int i, .int j] = some (.val (.int (i + j))) := rfl
@[simp] theorem r1 (x y : Str) : oAdd [.str x, .str y] = if sz (x.length + y.length) then some (.val (.str (x ++ y))) else none := rfl
@[simp] theorem r2 (xs ys : List D) : oAdd [.lst xs, .lst ys] = if sz (xs.length + ys.length) then some (.new (xs ++ ys)) else none := rfl
@[simp] theorem r3 (xs ys : List D) : oAdd [.tup xs, .tup ys] = if sz (xs.length + ys.length) then some (.val (.tup (xs ++ ys))) else none := rfl
@[simp] theorem r4 (i j : Int) : oSub [.int i, .int j] = some (.val (.int (i - j))) := rfl
@[simp] theorem r5 (i j : Int) : oMulS [.int i, .int j] = if smallI i || smallI j then some (.val (.int (i * j))) else none := rfl
@[simp] theorem r6 (x : Str) (k : Int) : oMulS [.str x, .int k] = if decide (0 ≤ k) && decide (k ≤ 1000) && decide (x.length ≤ 1000) then some (.val (.str (Txt.mul x k))) else none := rfl
@[simp] theorem r7 (xs : List D) (k : Int) : oMulS [.lst xs, .int k] = if decide (-(2 ^ 63) ≤ k) && decide (k < 2 ^ 63) && sz (xs.length * k.toNat) then some (.new (List.replicate k.toNat xs).flatten) else none := rfl
@[simp] theorem r8 (xs : List D) (k : Int) : oMulS [.tup xs, .int k] = if k = 1 then some (.val (.tup xs)) else if decide (xs ≠ []) && decide (2 ≤ k) && decide (k ≤ 1000) && decide (xs.length ≤ 1000) then some (.val (.tup (List.replicate k.toNat xs).flatten)) else none := rfl
@[simp] theorem r9 (i j : Int) : oFdiv [.int i, .int j] = if decide (0 < j) && decide (j.natAbs < 2 ^ 64) then some (.val (.int (i / j))) else none := rfl
@[simp] theorem r10 (i j : Int) : oMod [.int i, .int j] = if decide (0 < j) then some (.val (.int (i % j))) else none := rfl
@[simp] theorem r11 (i j : Int) : oPow [.int i, .int j] = if decide (0 ≤ j) && decide (j ≤ 1000000) && decide (i.natAbs < 2 ^ 64) then some (.val (.int (i ^ j.toNat))) else none := rfl
@[simp] theorem r12 (i : Int) : oNeg [.int i] = some (.val (.int (-i))) := rfl
@[simp] theorem r13 (d e : D) : oEq [d, e] = if scalD d e || (shpD d && shpD e) then some (.val (.bl (eqD d e))) else none := rfl
@[simp] theorem r14 (d e : D) : oNe [d, e] = if scalD d e || (shpD d && shpD e) then some (.val (.bl (!eqD d e))) else none := rfl
@[simp] theorem r15 (i j : Int) : oLt [.int i, .int j] = some (.val (.bl (decide (i < j)))) := rfl
@[simp] theorem r16 (x y : Str) : oLt [.str x, .str y] = some (.val (.bl (strLt x y))) := rfl
@[simp] theorem r17 (i j : Int) : oLe [.int i, .int j] = some (.val (.bl (decide (i ≤ j)))) := rfl
@[simp] theorem r18 (x y : Str) : oLe [.str x, .str y] = some (.val (.bl (!strLt y x))) := rfl
@[simp] theorem r19 (i j : Int) : oGt [.int i, .int j] = some (.val (.bl (decide (j < i)))) := rfl
@[simp] theorem r20 (x y : Str) : oGt [.str x, .str y] = some (.val (.bl (strLt y x))) := rfl
@[simp] theorem r21 (i j : Int) : oGe [.int i, .int j] = some (.val (.bl (decide (j ≤ i)))) := rfl
@[simp] theorem r22 (x y : Str) : oGe [.str x, .str y] = some (.val (.bl (!strLt x y))) := rfl
@[simp] theorem r23  : oIs [.non, .non] = some (.val (.bl true)) := rfl
@[simp] theorem r24 (a : Bool) : oIs [.bl a, .non] = some (.val (.bl false)) := rfl
@[simp] theorem r25 (a : Int) : oIs [.int a, .non] = some (.val (.bl false)) := rfl
@[simp] theorem r26 (a : Str) : oIs [.str a, .non] = some (.val (.bl false)) := rfl
@[simp] theorem r27 (a : List D) : oIs [.lst a, .non] = some (.val (.bl false)) := rfl
@[simp] theorem r28 (a : List D) : oIs [.tup a, .non] = some (.val (.bl false)) := rfl
@[simp] theorem r29 (a b : Bool) : oIs [.bl a, .bl b] = some (.val (.bl (decide (a = b)))) := rfl
@[simp] theorem r30  : oIsNot [.non, .non] = some (.val (.bl false)) := rfl
@[simp] theorem r31 (a : Bool) : oIsNot [.bl a, .non] = some (.val (.bl true)) := rfl
@[simp] theorem r32 (a : Int) : oIsNot [.int a, .non] = some (.val (.bl true)) := rfl
@[simp] theorem r33 (a : Str) : oIsNot [.str a, .non] = some (.val (.bl true)) := rfl
@[simp] theorem r34 (a : List D) : oIsNot [.lst a, .non] = some (.val (.bl true)) := rfl
@[simp] theorem r35 (a : List D) : oIsNot [.tup a, .non] = some (.val (.bl true)) := rfl
@[simp] theorem r36 (a b : Bool) : oIsNot [.bl a, .bl b] = some (.val (.bl (!decide (a = b)))) := rfl
@[simp] theorem r37 (x y : Str) : oIn [.str x, .str y] = some (.val (.bl (subS x y))) := rfl
@[simp] theorem r38 (d : D) (ds : List D) : oIn [d, .lst ds] = if (flatD d && ds.all flatD) || (shpD d && shpD (.lst ds)) then some (.val (.bl (ds.any fun z => eqD z d))) else none := by cases d <;> rfl
@[simp] theorem r39 (d : D) (ds : List D) : oIn [d, .tup ds] = if flatD d && ds.all flatD then some (.val (.bl (ds.any fun z => eqD z d))) else none := by cases d <;> rfl
@[simp] theorem r40 (x y : Str) : oNotIn [.str x, .str y] = some (.val (.bl (!subS x y))) := rfl
@[simp] theorem r41 (d : D) (ds : List D) : oNotIn [d, .lst ds] = if (flatD d && ds.all flatD) || (shpD d && shpD (.lst ds)) then some (.val (.bl (!ds.any fun z => eqD z d))) else none := by cases d <;> rfl
@[simp] theorem r42 (d : D) (ds : List D) : oNotIn [d, .tup ds] = if flatD d && ds.all flatD then some (.val (.bl (!ds.any fun z => eqD z d))) else none := by cases d <;> rfl
@[simp] theorem r43 (ds : List D) (i : Int) : oIdx [.lst ds, .int i] = (atI ds i).bind fun d => some (.val d) := rfl
@[simp] theorem r44 (ds : List D) (i : Int) : oIdx [.tup ds, .int i] = (atI ds i).bind fun d => some (.val d) := rfl
@[simp] theorem r45 (z : Str) (i : Int) : oIdx [.str z, .int i] = if sz z.length then (atI z.cps.toList i).bind fun c => some (.val (.str ⟨#[c]⟩)) else none := rfl
@[simp] theorem r46 (ds : List D) : oLen [.lst ds] = some (.val (.int (ds.length : Nat))) := rfl
@[simp] theorem r47 (ds : List D) : oLen [.tup ds] = some (.val (.int (ds.length : Nat))) := rfl
@[simp] theorem r48 (z : Str) : oLen [.str z] = if sz z.length then some (.val (.int (z.length : Nat))) else none := rfl
@[simp] theorem r49 (ds : List D) : oTuple [.lst ds] = some (.val (.tup ds)) := rfl
@[simp] theorem r50 (ds : List D) : oTuple [.tup ds] = some (.val (.tup ds)) := rfl
@[simp] theorem r51 (ds : List D) : oList [.lst ds] = some (.new ds) := rfl
@[simp] theorem r52 (ds : List D) : oList [.tup ds] = some (.new ds) := rfl
@[simp] theorem r53 (ns : List Int) : oList [.scr ns] = some (.new (ns.map D.int)) := rfl
@[simp] theorem r54 (i : Int) : oAbs [.int i] = some (.val (.int (if i < 0 then -i else i))) := rfl
@[simp] theorem r55 (i : Int) : oInt [.int i] = some (.val (.int i)) := rfl
@[simp] theorem r56 (i : Int) : oStr [.int i] = if decide (i.natAbs < 2 ^ 64) then some (.val (.str (toString i))) else none := rfl
@[simp] theorem r57 (ds : List D) : oAll [.lst ds] = (blsD ds).bind fun bs => some (.val (.bl (bs.all id))) := rfl
@[simp] theorem r58 (ds : List D) : oAny [.lst ds] = (blsD ds).bind fun bs => some (.val (.bl (bs.any id))) := rfl
@[simp] theorem r59 (ds : List D) : oSum [.lst ds] = (intsD ds).bind fun ns => some (.val (.int ns.sum)) := rfl
@[simp] theorem r60 (ds : List D) : oSum [.tup ds] = (intsD ds).bind fun ns => some (.val (.int ns.sum)) := rfl
@[simp] theorem r61 (i j : Int) : oMax [.int i, .int j] = some (.val (.int (if j > i then j else i))) := rfl
@[simp] theorem r62 (i j : Int) : oMin [.int i, .int j] = some (.val (.int (if j < i then j else i))) := rfl
@[simp] theorem r63 (ds : List D) : oMax [.lst ds] = (intsD ds).bind fun ns => if decide (0 < ns.length) then some (.val (.int (maxL ns))) else none := rfl
@[simp] theorem r64 (ds : List D) : oMax [.tup ds] = (intsD ds).bind fun ns => if decide (0 < ns.length) then some (.val (.int (maxL ns))) else none := rfl
@[simp] theorem r65 (ds : List D) : oMin [.lst ds] = match intsD ds with | some ns => if decide (0 < ns.length) then some (.val (.int (minL ns))) else none | none => (itupsD ds).bind fun L => if decide (0 < L.length) then some (.val (.tup ((minT L).map D.int))) else none := rfl
@[simp] theorem r66 (ds : List D) : oSrtSet [.lst ds] = (intsD ds).bind fun ns => if decide (ns.length ≤ 63) then some (.new ((srtI (uniqI ns)).map .int)) else none := rfl
@[simp] theorem r67 (ds : List D) : oSrtSet [.tup ds] = (intsD ds).bind fun ns => if decide (ns.length ≤ 63) then some (.new ((srtI (uniqI ns)).map .int)) else none := rfl
@[simp] theorem r68 (T : Ty) (d : D) : oIsa T [d] = (isaD T d).bind fun b => some (.val (.bl b)) := rfl
@[simp] theorem r69 (ds : List D) : oLenSet [.lst ds] = (intsD ds).bind fun ns => if decide (ns.length ≤ 4000) then some (.val (.int (uniqI ns).length)) else none := rfl
@[simp] theorem r70 (ds : List D) : oLenSet [.tup ds] = (intsD ds).bind fun ns => if decide (ns.length ≤ 4000) then some (.val (.int (uniqI ns).length)) else none := rfl
@[simp] theorem r71 (ds : List D) (k : Int) : oIxL [.lst ds, .int k] = (intsD ds).bind fun ns => if k ∈ ns then some (.val (.int (ns.idxOf k : Nat))) else none := rfl
@[simp] theorem r72 (f : List D → Option RV) (ds : List D) : mqK f (.lst ds) = some f := rfl
@[simp] theorem r73 (ks vs : List D) (d : D) : oIdx [.dic ks vs, d] = (keyD d).bind fun k => (lookD ks vs k).bind fun e => some (.val e) := rfl
@[simp] theorem r74 (x y : Str) : oFind [.str x, .str y] = some (.val (.int (Txt.find x y))) := rfl
@[simp] theorem r75 (x y : Str) : oCountT [.str x, .str y] = some (.val (.int (Txt.count x y))) := rfl
@[simp] theorem r76 (d : D) : oNot [d] = (truD d).bind fun b => some (.val (.bl (!b))) := rfl
@[simp] theorem r77 (lo hi : Option Int) (ds : List D) : oSl lo hi (.lst ds) = some (.new (cutD ds lo hi)) := rfl
@[simp] theorem r78 (lo hi : Option Int) (ds : List D) : oSl lo hi (.tup ds) = some (.val (.tup (cutD ds lo hi))) := rfl
@[simp] theorem r79 (lo hi : Option Int) (z : Str) : oSl lo hi (.str z) = if sz z.length then some (.val (.str (cutS z lo hi))) else none := rfl
@[simp] theorem r80 (ds : List D) : oRev (.lst ds) = some (.new ds.reverse) := rfl
@[simp] theorem r81 (ds : List D) : oRev (.tup ds) = some (.val (.tup ds.reverse)) := rfl
@[simp] theorem r82 (z : Str) : oRev (.str z) = if sz z.length then some (.val (.str ⟨z.cps.reverse⟩)) else none := rfl
@[simp] theorem r83 (j : Int) : rngD [.int j] = if in62 j then some ((List.range j.toNat).map fun (i : Nat) => D.int (0 + i)) else none := rfl
@[simp] theorem r84 (i j : Int) : rngD [.int i, .int j] = if in62 i && in62 j then some ((List.range (j - i).toNat).map fun (n : Nat) => D.int (i + n)) else none := rfl
@[simp] theorem atI1 {α : Type} (a b : α) (l : List α) : atI (a :: b :: l) 1 = some b := by
  unfold atI ixN
  rw [if_pos (by decide), if_pos (by simp only [List.length_cons]; omega)]
  rfl
@[simp] theorem atI0 {α : Type} (a : α) (l : List α) : atI (a :: l) 0 = some a := by
  unfold atI ixN
  rw [if_pos (by decide), if_pos (by simp only [List.length_cons]; omega)]
  rfl
@[simp] theorem ixN0 (n : Nat) : ixN (n + 1) 0 = some 0 := by
  unfold ixN
  rw [if_pos (by decide), if_pos (by omega)]
  rfl
@[simp] theorem ixN1 (n : Nat) : ixN (n + 2) 1 = some 1 := by
  unfold ixN
  rw [if_pos (by decide), if_pos (by omega)]
  rfl
@[simp] theorem sizeLine_s : sizeLine = 16777216 := sizeLine_eq
@[simp] theorem ea_var (i : Nat) (ρ : En) : evAr (.var i) ρ = (ρ[i]?.bind Ent.d?).bind fun _ => some (.slot i, ρ) := rfl
@[simp] theorem ea_fz (i : Nat) (ρ : En) : evAr (.fz i) ρ = (froz i ρ).bind fun p => some (.dat p.1, p.2) := rfl
@[simp] theorem ea_ex (f : EvV) (ρ : En) : evAr (.ex f) ρ = (f ρ).bind fun p => some (.dat p.1.d, p.2) := rfl
@[simp] theorem hg_slot (i : Nat) (ρ : En) : Hd.get (.slot i) ρ = ρ[i]?.bind Ent.d? := rfl
@[simp] theorem hg_dat (d : D) (ρ : En) : Hd.get (.dat d) ρ = some d := rfl
@[simp] theorem rd_val (d : D) : RV.d (.val d) = d := rfl
@[simp] theorem rd_new (d : List D) : RV.d (.new d) = .lst d := rfl
@[simp] theorem ed_val (d : D) : Ent.d? (.val d) = some d := rfl
@[simp] theorem ed_own (d : List D) : Ent.d? (.own d) = some (.lst d) := rfl
@[simp] theorem ed_io (d : List D) : Ent.d? (.io d) = some (.lst d) := rfl
@[simp] theorem ed_no : Ent.d? .no = none := rfl
@[simp] theorem fz_val (d : D) (ρ : En) : froz 0 (.val d :: ρ) = some (d, .val d :: ρ) := rfl
@[simp] theorem fz_own (d : List D) (ρ : En) : froz 0 (.own d :: ρ) = some (.lst d, .val (.lst d) :: ρ) := rfl
@[simp] theorem fz_succ (i : Nat) (e : Ent) (ρ : En) : froz (i + 1) (e :: ρ) = (froz i ρ).bind fun p => some (p.1, e :: p.2) := by
  unfold froz
  rw [List.getElem?_cons_succ]
  cases h : ρ[i]? with
  | none => rfl
  | some x => cases x <;> rfl
def rvE : RV → Ent
  | .val d => .val d
  | .new ds => .own ds
@[simp] theorem rvE_val (d : D) : rvE (.val d) = .val d := rfl
@[simp] theorem rvE_new (d : List D) : rvE (.new d) = .own d := rfl
@[simp] theorem st_no (r : RV) (ρ : En) : setR 0 r (.no :: ρ) = some (rvE r :: ρ) := by cases r <;> rfl
@[simp] theorem st_val (r : RV) (d : D) (ρ : En) : setR 0 r (.val d :: ρ) = some (rvE r :: ρ) := by cases r <;> rfl
@[simp] theorem st_own (r : RV) (d : List D) (ρ : En) : setR 0 r (.own d :: ρ) = some (rvE r :: ρ) := by cases r <;> rfl
@[simp] theorem st_succ (i : Nat) (r : RV) (e : Ent) (ρ : En) : setR (i + 1) r (e :: ρ) = (setR i r ρ).bind fun ρ' => some (e :: ρ') := by
  unfold setR
  rw [List.getElem?_cons_succ]
  cases h : ρ[i]? with
  | none => rfl
  | some x => cases x <;> rfl
@[simp] theorem sv_no (r : D) (ρ : En) : setV 0 r (.no :: ρ) = some (.val r :: ρ) := rfl
@[simp] theorem sv_val (r : D) (d : D) (ρ : En) : setV 0 r (.val d :: ρ) = some (.val r :: ρ) := rfl
@[simp] theorem sv_own (r : D) (d : List D) (ρ : En) : setV 0 r (.own d :: ρ) = some (.val r :: ρ) := rfl
@[simp] theorem sv_succ (i : Nat) (r : D) (e : Ent) (ρ : En) : setV (i + 1) r (e :: ρ) = (setV i r ρ).bind fun ρ' => some (e :: ρ') := by
  unfold setV
  rw [List.getElem?_cons_succ]
  cases h : ρ[i]? with
  | none => rfl
  | some x => cases x <;> rfl
def contS (g : EvS) : Fl → Option Fl
  | .nx ρ => g ρ
  | .rt r ρ => some (.rt r ρ)
  | .bk ρ => some (.bk ρ)
@[simp] theorem sq_eq (f g : EvS) (ρ : En) : seqS f g ρ = (f ρ).bind (contS g) := by
  unfold seqS
  cases f ρ with
  | none => rfl
  | some fl => cases fl <;> rfl
@[simp] theorem ct_nx (g : EvS) (ρ : En) : contS g (.nx ρ) = g ρ := rfl
@[simp] theorem ct_rt (g : EvS) (r : RV) (ρ : En) : contS g (.rt r ρ) = some (.rt r ρ) := rfl
@[simp] theorem ct_bk (g : EvS) (ρ : En) : contS g (.bk ρ) = some (.bk ρ) := rfl
def finF (io : Bool) : Fl → Option (RV × List D)
  | .rt r ρ => outE io r ρ
  | .nx ρ => outE io (.val .non) ρ
  | .bk _ => none
theorem defF_eq (f : EvS) (N : List Str) (n : Nat) (io : Bool) (ds : List D) : defF f N n io ds = if ds.length = n then (startE N io ds).bind fun ρ => (f ρ).bind (finF io) else none := by
  unfold defF
  have e : ∀ fl : Fl, (match fl with
    | .rt r ρ' => outE io r ρ'
    | .nx ρ' => outE io (.val .non) ρ'
    | .bk _ => none) = finF io fl := by intro fl; cases fl <;> rfl
  rfl
@[simp] theorem ff_rt (io : Bool) (r : RV) (ρ : En) : finF io (.rt r ρ) = outE io r ρ := rfl
@[simp] theorem ff_nx (io : Bool) (ρ : En) : finF io (.nx ρ) = outE io (.val .non) ρ := rfl
@[simp] theorem oe_f (r : RV) (ρ : En) : outE false r ρ = some (r, []) := rfl
@[simp] theorem oe_t (r : RV) (cs : List D) (ρ : En) : outE true r (.io cs :: ρ) = some (r, cs) := rfl
@[simp] theorem se_f (N : List Str) (ds : List D) : startE N false ds = some (ds.map .val ++ List.replicate (N.length - ds.length) .no) := rfl
@[simp] theorem se_t (N : List Str) (cs ds : List D) : startE N true (.lst cs :: ds) = some (.io cs :: ds.map .val ++ List.replicate (N.length - (ds.length + 1)) .no) := rfl
@[simp] theorem rs_val (d : D) (ρ : En) : retS (.var 0) (.val d :: ρ) = some (.rt (.val d) (.val d :: ρ)) := rfl
theorem rs_var (i : Nat) (ρ : En) (d : D) (h : ρ[i]? = some (.val d)) : retS (.var i) ρ = some (.rt (.val d) ρ) := by
  show (match ρ[i]? with
    | some (.val d) => some (Fl.rt (.val d) ρ)
    | some (.own ds) => some (.rt (.new ds) ρ)
    | _ => none) = _
  rw [h]
theorem rs_own (i : Nat) (ρ : En) (d : List D) (h : ρ[i]? = some (.own d)) : retS (.var i) ρ = some (.rt (.new d) ρ) := by
  show (match ρ[i]? with
    | some (.val d) => some (Fl.rt (.val d) ρ)
    | some (.own ds) => some (.rt (.new ds) ρ)
    | _ => none) = _
  rw [h]
def retK (ρ : En) : Option Ent → Option Fl
  | some (.val d) => some (.rt (.val d) ρ)
  | some (.own ds) => some (.rt (.new ds) ρ)
  | _ => none
@[simp] theorem rk_val (ρ : En) (d : D) : retK ρ (some (.val d)) = some (.rt (.val d) ρ) := rfl
@[simp] theorem rk_own (ρ : En) (d : List D) : retK ρ (some (.own d)) = some (.rt (.new d) ρ) := rfl
@[simp] theorem rs_var' (i : Nat) (ρ : En) : retS (.var i) ρ = retK ρ ρ[i]? := by
  show (match ρ[i]? with
    | some (.val d) => some (Fl.rt (.val d) ρ)
    | some (.own ds) => some (.rt (.new ds) ρ)
    | _ => none) = _
  cases h : ρ[i]? with
  | none => rfl
  | some x => cases x <;> rfl
@[simp] theorem rs_fz (i : Nat) (ρ : En) : retS (.fz i) ρ = (froz i ρ).bind fun p => some (.rt (.val p.1) p.2) := rfl
@[simp] theorem rs_ex (f : EvV) (ρ : En) : retS (.ex f) ρ = (f ρ).bind fun p => some (.rt p.1 p.2) := rfl
@[simp] theorem ro_own (d : List D) : rootDs (.own d) = some d := rfl
@[simp] theorem ro_io (d : List D) : rootDs (.io d) = some d := rfl
@[simp] theorem rr_own (d e : List D) : reroot (.own d) e = some (.own e) := rfl
@[simp] theorem rr_io (d e : List D) : reroot (.io d) e = some (.io e) := rfl
def appK (i : Nat) : Hd × En → Option (RV × En)
  | (.dat d, ρ) => ρ[i]?.bind fun e => (rootDs e).bind fun ds => if sz (ds.length + 1) then (reroot e (ds ++ [d])).bind fun e' => some (.val .non, ρ.set i e') else none
  | _ => none
@[simp] theorem ap_eq (i : Nat) (a : Ar) (ρ : En) : appV i a ρ = (ρ[i]?.bind rootDs).bind fun _ => (evAr a ρ).bind (appK i) := by
  unfold appV
  congr 1; funext _
  congr 1; funext p
  obtain ⟨h, ρ⟩ := p
  cases h <;> rfl
@[simp] theorem ak_dat (i : Nat) (d : D) (ρ : En) : appK i (.dat d, ρ) = ρ[i]?.bind fun e => (rootDs e).bind fun ds => if sz (ds.length + 1) then (reroot e (ds ++ [d])).bind fun e' => some (.val .non, ρ.set i e') else none := rfl
def setK (i : Nat) (ix : Ar) : Hd × En → Option Fl
  | (.dat d, ρ) => (ρ[i]?.bind rootDs).bind fun _ => (evAr ix ρ).bind fun q => (q.1.get q.2).bind fun k => (q.2[i]?).bind fun e => (rootDs e).bind fun ds => match k with
    | .int k => (ixN ds.length k).bind fun j => (reroot e (ds.set j d)).bind fun e' => some (.nx (q.2.set i e'))
    | _ => none
  | _ => none
def setK2 (i : Nat) (d : D) (ρ : En) (e : Ent) (ds : List D) : D → Option Fl
  | .int k => (ixN ds.length k).bind fun j => (reroot e (ds.set j d)).bind fun e' => some (.nx (ρ.set i e'))
  | _ => none
@[simp] theorem si_eq (i : Nat) (ix a : Ar) (ρ : En) : setIS i ix a ρ = (evAr a ρ).bind (setK i ix) := by
  unfold setIS
  congr 1; funext p
  obtain ⟨h, ρ⟩ := p
  cases h <;> rfl
@[simp] theorem sk_dat (i : Nat) (ix : Ar) (d : D) (ρ : En) : setK i ix (.dat d, ρ) = (ρ[i]?.bind rootDs).bind fun _ => (evAr ix ρ).bind fun q => (q.1.get q.2).bind fun k => (q.2[i]?).bind fun e => (rootDs e).bind fun ds => setK2 i d q.2 e ds k := by
  unfold setK
  rfl
@[simp] theorem sk2_int (i : Nat) (d : D) (ρ : En) (e : Ent) (ds : List D) (k : Int) : setK2 i d ρ e ds (.int k) = (ixN ds.length k).bind fun j => (reroot e (ds.set j d)).bind fun e' => some (.nx (ρ.set i e')) := rfl
def pvK (ρ : En) : D → Option (Option Int × En)
  | .int i => some (some i, ρ)
  | _ => none
@[simp] theorem pv_none (ρ : En) : partV none ρ = some (none, ρ) := rfl
@[simp] theorem pv_some (a : Ar) (ρ : En) : partV (some a) ρ = (evAr a ρ).bind fun p => (p.1.get p.2).bind fun d => pvK p.2 d := rfl
@[simp] theorem pvk_int (ρ : En) (i : Int) : pvK ρ (.int i) = some (some i, ρ) := rfl
def wrK (i : Nat) (d : D) (ρ : En) (e : Ent) (ds : List D) : D → Option En
  | .int k => (ixN ds.length k).bind fun j => (reroot e (ds.set j d)).bind fun e' => some (ρ.set i e')
  | _ => none
@[simp] theorem wr_eq (i : Nat) (ix : Ar) (d : D) (ρ : En) : wrS i ix d ρ = (ρ[i]?.bind rootDs).bind fun _ => (evAr ix ρ).bind fun q => (q.1.get q.2).bind fun k => (q.2[i]?).bind fun e => (rootDs e).bind fun ds => wrK i d q.2 e ds k := rfl
@[simp] theorem wk_int (i : Nat) (d : D) (ρ : En) (e : Ent) (ds : List D) (k : Int) : wrK i d ρ e ds (.int k) = (ixN ds.length k).bind fun j => (reroot e (ds.set j d)).bind fun e' => some (ρ.set i e') := rfl
def swK (i j : Nat) (x y : Ar) (ρ : En) : List D → Option Fl
  | [d, e] => (wrS i x d ρ).bind fun ρ1 => (wrS j y e ρ1).bind fun ρ2 => some (.nx ρ2)
  | _ => none
@[simp] theorem sw_eq (i j : Nat) (x y a b : Ar) (ρ : En) : swapS i j x y a b ρ = (evArs [a, b] ρ).bind fun p => (datAll p.1).bind fun ds => swK i j x y p.2 ds := rfl
@[simp] theorem sw_two (i j : Nat) (x y : Ar) (ρ : En) (d e : D) : swK i j x y ρ [d, e] = (wrS i x d ρ).bind fun ρ1 => (wrS j y e ρ1).bind fun ρ2 => some (.nx ρ2) := rfl
def popK (i : Nat) (ρ : En) (e : Ent) (ds : List D) : List D → Option (RV × En)
  | [] => (ds[ds.length - 1]?).bind fun d => (reroot e ds.dropLast).bind fun e' => some (.val d, ρ.set i e')
  | [.int k] => if decide (-(2 ^ 63) ≤ k) && decide (k < 2 ^ 63) then (seqIndex? k ds.length).bind fun j => (ds[j]?).bind fun d => (reroot e (ds.eraseIdx j)).bind fun e' => some (.val d, ρ.set i e') else none
  | _ => none
@[simp] theorem pp_eq (i : Nat) (as : List Ar) (ρ : En) : popV i as ρ = (ρ[i]?.bind rootDs).bind fun _ => (evArs as ρ).bind fun p => (getAll p.1 p.2).bind fun ks => (p.2[i]?).bind fun e => (rootDs e).bind fun ds => popK i p.2 e ds ks := by
  unfold popV
  rfl
@[simp] theorem pk_nil (i : Nat) (ρ : En) (e : Ent) (ds : List D) : popK i ρ e ds [] = (ds[ds.length - 1]?).bind fun d => (reroot e ds.dropLast).bind fun e' => some (.val d, ρ.set i e') := rfl
@[simp] theorem pk_int (i : Nat) (ρ : En) (e : Ent) (ds : List D) (k : Int) : popK i ρ e ds [.int k] = if decide (-(2 ^ 63) ≤ k) && decide (k < 2 ^ 63) then (seqIndex? k ds.length).bind fun j => (ds[j]?).bind fun d => (reroot e (ds.eraseIdx j)).bind fun e' => some (.val d, ρ.set i e') else none := rfl
def boK (k : Bool) (g : EvV) : RV × En → Option (RV × En)
  | (.val (.bl c), ρ) => if c = k then g ρ else some (.val (.bl c), ρ)
  | _ => none
@[simp] theorem bo_one (k : Bool) (a : EvV) : boV k [a] = a := rfl
@[simp] theorem bo_two (k : Bool) (a b : EvV) (r : List EvV) (ρ : En) : boV k (a :: b :: r) ρ = (a ρ).bind (boK k (boV k (b :: r))) := by
  show (a ρ).bind _ = _
  congr 1; funext p
  obtain ⟨x, ρ⟩ := p
  cases x with
  | new _ => rfl
  | val d => cases d <;> rfl
@[simp] theorem bk_bl (k : Bool) (g : EvV) (c : Bool) (ρ : En) : boK k g (.val (.bl c), ρ) = if c = k then g ρ else some (.val (.bl c), ρ) := rfl
def chK (p : List D → Option RV) (c : Ar) (y : Hd) (ρ : En) : RV → Option (RV × En)
  | .val (.bl true) => (evAr c ρ).bind fun z => (y.get z.2).bind fun e => (z.1.get z.2).bind fun f => (p [e, f]).bind fun r => some (r, z.2)
  | .val (.bl false) => some (.val (.bl false), ρ)
  | _ => none
@[simp] theorem ch_eq (o p : List D → Option RV) (a b c : Ar) (ρ : En) : chV o p a b c ρ = (evAr a ρ).bind fun x => (evAr b x.2).bind fun y => (x.1.get y.2).bind fun d => (y.1.get y.2).bind fun e => (o [d, e]).bind (chK p c y.1 y.2) := by
  rfl
@[simp] theorem chk_bl (p : List D → Option RV) (c : Ar) (y : Hd) (ρ : En) (b : Bool) : chK p c y ρ (.val (.bl b)) = if b = true then (evAr c ρ).bind fun z => (y.get z.2).bind fun e => (z.1.get z.2).bind fun f => (p [e, f]).bind fun r => some (r, z.2) else some (.val (.bl false), ρ) := by
  cases b <;> rfl
def datK : Hd × En → Option (D × En)
  | (.dat d, ρ) => some (d, ρ)
  | _ => none
@[simp] theorem dk_dat (d : D) (ρ : En) : datK (.dat d, ρ) = some (d, ρ) := rfl
@[simp] theorem sI_eq (a : Ar) (ρ : En) : seqI a ρ = (evAr a ρ).bind fun p => (datK p).bind fun q => (itemsD q.1).bind fun ds => some (ds, q.2) := by
  unfold seqI
  congr 1; funext p
  obtain ⟨h, ρ⟩ := p
  cases h <;> rfl
@[simp] theorem enI_eq (a : Ar) (ρ : En) : enI a ρ = (evAr a ρ).bind fun p => (datK p).bind fun q => (itemsD q.1).bind fun ds => some (enumD 0 ds, q.2) := by
  unfold enI
  congr 1; funext p
  obtain ⟨h, ρ⟩ := p
  cases h <;> rfl
@[simp] theorem un_eq (tg : Tg) (a : Ar) (ρ : En) : unpS tg a ρ = (evAr a ρ).bind fun p => (datK p).bind fun q => (asgTg tg q.1 q.2).bind fun ρ' => some (.nx ρ') := by
  unfold unpS
  congr 1; funext p
  obtain ⟨h, ρ⟩ := p
  cases h <;> rfl
@[simp] theorem da_nil : datAll [] = some [] := rfl
@[simp] theorem da_cons (d : D) (hs : List Hd) : datAll (.dat d :: hs) = (datAll hs).bind fun ds => some (d :: ds) := rfl
@[simp] theorem it_lst (ds : List D) : itemsD (.lst ds) = some ds := rfl
@[simp] theorem it_tup (ds : List D) : itemsD (.tup ds) = some ds := rfl
@[simp] theorem it_str (z : Str) : itemsD (.str z) = some (signs z) := rfl
@[simp] theorem fl_val (d : D) : RV.flat (.val d) = ndl d := rfl
@[simp] theorem fl_new (d : List D) : RV.flat (.new d) = ndls d := rfl
@[simp] theorem tr_bl (b : Bool) : truD (.bl b) = some b := rfl
@[simp] theorem tr_int (i : Int) : truD (.int i) = some (i != 0) := rfl
@[simp] theorem tr_non : truD .non = some false := rfl
@[simp] theorem tr_lst (l : List D) : truD (.lst l) = some (!l.isEmpty) := rfl
@[simp] theorem tr_tup (l : List D) : truD (.tup l) = some (!l.isEmpty) := rfl
@[simp] theorem tg_nm (i : Nat) (d : D) (ρ : En) : asgTg (.nm i) d ρ = setV i d ρ := rfl
@[simp] theorem tg_tup (l : List Nat) (ds : List D) (ρ : En) : asgTg (.tup l) (.tup ds) ρ = setVs l ds ρ := rfl
@[simp] theorem svs_nil (ρ : En) : setVs [] [] ρ = some ρ := rfl
@[simp] theorem svs_cons (i : Nat) (is : List Nat) (d : D) (ds : List D) (ρ : En) : setVs (i :: is) (d :: ds) ρ = (setV i d ρ).bind (setVs is ds) := rfl
@[simp] theorem srs_nil (ρ : En) : setRs [] [] ρ = some ρ := rfl
@[simp] theorem srs_cons (i : Nat) (is : List Nat) (d : RV) (ds : List RV) (ρ : En) : setRs (i :: is) (d :: ds) ρ = (setR i d ρ).bind (setRs is ds) := rfl
def ioK (F : List D → Option (RV × List D)) (ρ : En) : List Hd → List D → Option (RV × En)
  | .slot i :: hs, .lst cs :: ds => if hs.all (fun h => match h with | .slot j => decide (j ≠ i) | _ => true) then
      (F (.lst cs :: ds)).bind fun r => if (r.1.flat && ndls r.2) || (datAll hs).isSome then (ρ[i]?).bind fun e => (reroot e r.2).bind fun e' => some (r.1, ρ.set i e') else none
    else none
  | _, _ => none
@[simp] theorem io_eq (F : List D → Option (RV × List D)) (as : List Ar) (ρ : En) : callIo F as ρ = (evArs as ρ).bind fun p => (getAll p.1 p.2).bind fun ds => ioK F p.2 p.1 ds := by
  unfold callIo
  congr 1; funext p
  congr 1; funext ds
  obtain ⟨hs, ρ⟩ := p
  cases hs with
  | nil => cases ds <;> rfl
  | cons h hs =>
    cases h with
    | dat _ => cases ds <;> rfl
    | slot i =>
      cases ds with
      | nil => rfl
      | cons d ds => cases d <;> rfl
@[simp] theorem ik_eq (F : List D → Option (RV × List D)) (ρ : En) (i : Nat) (hs : List Hd) (cs ds : List D) : ioK F ρ (.slot i :: hs) (.lst cs :: ds) = if hs.all (fun h => match h with | .slot j => decide (j ≠ i) | _ => true) then
      (F (.lst cs :: ds)).bind fun r => if (r.1.flat && ndls r.2) || (datAll hs).isSome then (ρ[i]?).bind fun e => (reroot e r.2).bind fun e' => some (r.1, ρ.set i e') else none
    else none := rfl
@[simp] theorem isa_it (T : Ty) (i : Int) : isaD T (.int i) = some (match T with | .int => true | _ => false) := by cases T <;> rfl
@[simp] theorem isa_bl (T : Ty) (i : Bool) : isaD T (.bl i) = some (match T with | .int => true | .bool => true | _ => false) := by cases T <;> rfl
@[simp] theorem isa_st (T : Ty) (i : Str) : isaD T (.str i) = some (match T with | .str => true | _ => false) := by cases T <;> rfl
@[simp] theorem isa_tp (T : Ty) (i : List D) : isaD T (.tup i) = some (match T with | .tuple => true | _ => false) := by cases T <;> rfl
@[simp] theorem isa_ls (T : Ty) (i : List D) : isaD T (.lst i) = some (match T with | .list => true | _ => false) := by cases T <;> rfl
@[simp] theorem isa_no (T : Ty) : isaD T .non = some false := by cases T <;> rfl
@[simp] theorem W_blT {v : EvV} {ρ : En} {P : Bool × En → Prop} : W (blT v ρ) P ↔ W (v ρ) (fun p => ∃ b, p.1 = .val (.bl b) ∧ P (b, p.2)) := by
  unfold blT
  rw [W_bind]
  unfold W
  constructor
  · rintro ⟨x, h1, y, h2, p⟩
    refine ⟨x, h1, ?_⟩
    split at h2
    · rename_i b hb
      cases h2
      exact ⟨b, hb, p⟩
    · cases h2
  · rintro ⟨x, h1, b, h2, p⟩
    exact ⟨x, h1, (b, x.2), by rw [h2], p⟩
@[simp] theorem eq_ii (a b : Int) : eqD (.int a) (.int b) = (a == b) := rfl
@[simp] theorem eq_bb (a b : Bool) : eqD (.bl a) (.bl b) = (a == b) := rfl
@[simp] theorem eq_ss (a b : Str) : eqD (.str a) (.str b) = (a == b) := rfl
@[simp] theorem eq_ll (a b : List D) : eqD (.lst a) (.lst b) = eqDs a b := rfl
@[simp] theorem eq_tt (a b : List D) : eqD (.tup a) (.tup b) = eqDs a b := rfl
@[simp] theorem eqs_nil (a : List D) : eqDs a [] = a.isEmpty := by cases a <;> rfl
@[simp] theorem eqs_cc (a b : D) (r t : List D) : eqDs (a :: r) (b :: t) = (eqD a b && eqDs r t) := rfl
@[simp] theorem eqs_nc (b : D) (t : List D) : eqDs [] (b :: t) = false := rfl
@[simp] theorem sc_ii (a b : Int) : scalD (.int a) (.int b) = true := rfl
@[simp] theorem sc_bb (a b : Bool) : scalD (.bl a) (.bl b) = true := rfl
@[simp] theorem flt_i (a : Int) : flatD (.int a) = true := rfl
@[simp] theorem flt_b (a : Bool) : flatD (.bl a) = true := rfl
@[simp] theorem flt_s (a : Str) : flatD (.str a) = true := rfl
@[simp] theorem shp_l0 : shpD (.lst []) = true := rfl
@[simp] theorem shp_t0 : shpD (.tup []) = true := rfl
theorem pls_of {es : List D} (h : ∀ d ∈ es, plnD d = true) : plnDs es = true := by
  induction es with
  | nil => rfl
  | cons e es ih =>
    show (plnD e && plnDs es) = true
    rw [h e (by simp), ih fun d hd => h d (by simp [hd])]; rfl
theorem pls_mem : ∀ {ds : List D}, plnDs ds = true → ∀ d ∈ ds, plnD d = true
  | [], _, _, h => nomatch h
  | e :: es, h, d, hd => by
    have h2 := and2 (show (plnD e && plnDs es) = true from h)
    rcases List.mem_cons.mp hd with rfl | hd
    · exact h2.1
    · exact pls_mem h2.2 d hd
theorem deps_le {es : List D} {n : Nat} (h : ∀ d ∈ es, depD d ≤ n) : depDs es ≤ n := by
  induction es with
  | nil => exact Nat.zero_le _
  | cons e es ih =>
    show max (depD e) (depDs es) ≤ n
    exact Nat.max_le.mpr ⟨h e (by simp), ih fun d hd => h d (by simp [hd])⟩
theorem dep_mem : ∀ {ds : List D} (d : D), d ∈ ds → depD d ≤ depDs ds
  | [], _, h => nomatch h
  | e :: es, d, hd => by
    show depD d ≤ max (depD e) (depDs es)
    rcases List.mem_cons.mp hd with rfl | hd
    · exact Nat.le_max_left _ _
    · exact Nat.le_trans (dep_mem d hd) (Nat.le_max_right _ _)
/-- data no deeper than n -/
def okN (n : Nat) (d : D) : Prop := plnD d = true ∧ depD d ≤ n
theorem okN.shp {n : Nat} {d : D} (h : okN n d) (hn : n ≤ 60 := by decide) : shpD d = true := by
  unfold shpD
  rw [h.1, decide_eq_true (Nat.le_trans h.2 hn)]; rfl
theorem okN.of_shp {d : D} (h : shpD d = true) : okN 60 d := by
  obtain ⟨h1, h2⟩ := and2 h
  exact ⟨h1, of_decide_eq_true h2⟩
theorem okN.memT {n : Nat} {ds : List D} (h : okN (n + 1) (.tup ds)) : ∀ d ∈ ds, okN n d := fun d hd =>
  ⟨pls_mem h.1 d hd, by have := dep_mem d hd; have h2 : depDs ds + 1 ≤ n + 1 := h.2; omega⟩
theorem okN.memL {n : Nat} {ds : List D} (h : okN (n + 1) (.lst ds)) : ∀ d ∈ ds, okN n d := fun d hd =>
  ⟨pls_mem h.1 d hd, by have := dep_mem d hd; have h2 : depDs ds + 1 ≤ n + 1 := h.2; omega⟩
theorem okN.tup {n : Nat} {ds : List D} (h : ∀ d ∈ ds, okN n d) : okN (n + 1) (.tup ds) :=
  ⟨pls_of fun d hd => (h d hd).1, Nat.succ_le_succ (deps_le fun d hd => (h d hd).2)⟩
theorem okN.lst {n : Nat} {ds : List D} (h : ∀ d ∈ ds, okN n d) : okN (n + 1) (.lst ds) :=
  ⟨pls_of fun d hd => (h d hd).1, Nat.succ_le_succ (deps_le fun d hd => (h d hd).2)⟩
theorem okN.mono {n m : Nat} {d : D} (h : okN n d) (k : n ≤ m) : okN m d := ⟨h.1, Nat.le_trans h.2 k⟩
theorem cut_from (ds : List D) (k : Int) (h : 0 ≤ k) : cutD ds (some k) none = ds.drop k.toNat := by
  obtain ⟨n, rfl⟩ := Int.eq_ofNat_of_zero_le h
  unfold cutD
  rw [show HT.sIx ds.length 0 (some ((n : Nat) : Int)) = min n ds.length from HT.sIx_nat _ _ _, HT.sIx_none]
  rw [List.take_of_length_le (by simp)]
  by_cases hn : n ≤ ds.length
  · rw [Nat.min_eq_left hn]; rfl
  · rw [Nat.min_eq_right (by omega), List.drop_length]
    exact (List.drop_of_length_le (by simp; omega)).symm
theorem cut_to (ds : List D) (k : Int) (h : 0 ≤ k) : cutD ds none (some k) = ds.take k.toNat := by
  obtain ⟨n, rfl⟩ := Int.eq_ofNat_of_zero_le h
  unfold cutD
  rw [show HT.sIx ds.length ds.length (some ((n : Nat) : Int)) = min n ds.length from HT.sIx_nat _ _ _, HT.sIx_none]
  rw [List.drop_zero, Nat.sub_zero]
  by_cases hn : n ≤ ds.length
  · rw [Nat.min_eq_left hn]; rfl
  · rw [Nat.min_eq_right (by omega), List.take_length]
    exact (List.take_of_length_le (by simp; omega)).symm
end My

namespace My
open PySem PySem.Spec PyProof.Rows L2

/-! ### loops and comprehensions, by what holds at each turn -/
theorem W_b {α β : Type} {o : Option α} {x : α} {f : α → Option β} {P : β → Prop} (e : o = some x) (h : W (f x) P) : W (o.bind f) P := by
  rw [e]; exact h
def flP (nx : En → Prop) (rt : RV → En → Prop) (bk : En → Prop) : Fl → Prop
  | .nx ρ => nx ρ
  | .rt r ρ => rt r ρ
  | .bk ρ => bk ρ
@[simp] theorem fp_nx (nx : En → Prop) (rt : RV → En → Prop) (bk : En → Prop) (ρ : En) : flP nx rt bk (.nx ρ) = nx ρ := rfl
@[simp] theorem fp_rt (nx : En → Prop) (rt : RV → En → Prop) (bk : En → Prop) (r : RV) (ρ : En) : flP nx rt bk (.rt r ρ) = rt r ρ := rfl
@[simp] theorem fp_bk (nx : En → Prop) (rt : RV → En → Prop) (bk : En → Prop) (ρ : En) : flP nx rt bk (.bk ρ) = bk ρ := rfl
theorem W_forL {tg : Tg} {b : EvS} {wp : List Nat} {P : Fl → Prop} (I : Nat → En → Prop) (all : List D)
    (step : ∀ i d ρ, all[i]? = some d → I i ρ → W (asgTg tg d ρ) fun ρ1 => W (b ρ1) (flP (fun ρ2 => I (i + 1) (wipeE wp ρ2)) (fun r ρ2 => P (.rt r ρ2)) (fun ρ2 => P (.nx (wipeE wp ρ2)))))
    (done : ∀ ρ, I all.length ρ → P (.nx ρ)) : ∀ (n i : Nat) (ρ : En), i + n = all.length → I i ρ → W (forL tg b wp (all.drop i) ρ) P
  | 0, i, ρ, hn, h => by
    have e : i = all.length := by omega
    subst e
    rw [List.drop_length]
    exact ⟨_, rfl, done ρ h⟩
  | n + 1, i, ρ, hn, h => by
    have hi : i < all.length := by omega
    rw [List.drop_eq_getElem_cons hi]
    obtain ⟨ρ1, e1, fl, e2, q⟩ := step i _ ρ (List.getElem?_eq_getElem hi) h
    show W ((asgTg tg all[i] ρ).bind _) P
    refine W_b e1 ?_
    refine W_b e2 ?_
    cases fl with
    | nx ρ2 => exact W_forL I all step done n (i + 1) _ (by omega) q
    | rt r ρ2 => exact ⟨_, rfl, q⟩
    | bk ρ2 => exact ⟨_, rfl, q⟩
theorem W_for {it : EvI} {tg : Tg} {b : EvS} {wp : List Nat} {ρ : En} {P : Fl → Prop} (h : W (it ρ) fun p => ∃ I : Nat → En → Prop, I 0 (wipeE wp p.2) ∧
    (∀ i d ρ, p.1[i]? = some d → I i ρ → W (asgTg tg d ρ) fun ρ1 => W (b ρ1) (flP (fun ρ2 => I (i + 1) (wipeE wp ρ2)) (fun r ρ2 => P (.rt r ρ2)) (fun ρ2 => P (.nx (wipeE wp ρ2))))) ∧ ∀ ρ, I p.1.length ρ → P (.nx ρ)) : W (forS it tg b wp ρ) P := by
  obtain ⟨⟨items, ρ1⟩, e, I, h0, h1, h2⟩ := h
  unfold forS
  refine W_b e ?_
  have := W_forL I items h1 h2 items.length 0 _ (by simp) h0
  rwa [List.drop_zero] at this
theorem W_for2 {it : EvI} {tg : Tg} {b : EvS} {wp : List Nat} {ρ : En} {P : Fl → Prop} {items : List D} {ρ1 : En} (e : it ρ = some (items, ρ1)) (I : Nat → En → Prop) (h0 : I 0 (wipeE wp ρ1))
    (h1 : ∀ i d ρ, items[i]? = some d → I i ρ → W (asgTg tg d ρ) fun ρ1 => W (b ρ1) (flP (fun ρ2 => I (i + 1) (wipeE wp ρ2)) (fun r ρ2 => P (.rt r ρ2)) (fun ρ2 => P (.nx (wipeE wp ρ2))))) (h2 : ∀ ρ, I items.length ρ → P (.nx ρ)) : W (forS it tg b wp ρ) P :=
  W_for ⟨_, e, I, h0, h1, h2⟩
theorem rng_get {n i : Nat} {d : D} {lo : Int} (h : ((List.range n).map fun (i : Nat) => D.int (lo + i))[i]? = some d) : i < n ∧ d = .int (lo + i) := by
  rw [List.getElem?_map] at h
  by_cases hi : i < n
  · rw [List.getElem?_range hi] at h
    exact ⟨hi, (Option.some.inj h).symm⟩
  · rw [List.getElem?_eq_none (by simpa using hi)] at h
    cases h
theorem W_whlF {c : EvT} {b : EvS} {wp : List Nat} {P : Fl → Prop} (I : Nat → En → Prop)
    (step : ∀ n ρ, I n ρ → W (c ρ) fun p => if p.1 = true then W (b p.2) (flP (fun ρ2 => ∃ m, m < n ∧ I m (wipeE wp ρ2)) (fun r ρ2 => P (.rt r ρ2)) (fun ρ2 => P (.nx (wipeE wp ρ2)))) else P (.nx (wipeE wp p.2))) :
    ∀ (f n : Nat) (ρ : En), n < f → I n ρ → W (whlF c b wp f ρ) P
  | 0, n, ρ, hn, _ => absurd hn (Nat.not_lt_zero _)
  | f + 1, n, ρ, hn, h => by
    obtain ⟨⟨k, ρ1⟩, e1, q⟩ := step n ρ h
    show W ((c ρ).bind _) P
    refine W_b e1 ?_
    cases k with
    | false =>
      rw [if_neg Bool.false_ne_true] at q ⊢
      exact ⟨_, rfl, q⟩
    | true =>
      rw [if_pos rfl] at q ⊢
      obtain ⟨fl, e2, q⟩ := q
      refine W_b e2 ?_
      cases fl with
      | nx ρ2 =>
        obtain ⟨m, hm, q⟩ := q
        exact W_whlF I step f m _ (by omega) q
      | rt r ρ2 => exact ⟨_, rfl, q⟩
      | bk ρ2 => exact ⟨_, rfl, q⟩
theorem W_whl {c : EvT} {b : EvS} {wp : List Nat} {ρ : En} {P : Fl → Prop} (I : Nat → En → Prop) (n : Nat) (hn : n < 2 ^ 64) (h0 : I n (wipeE wp ρ))
    (step : ∀ n ρ, I n ρ → W (c ρ) fun p => if p.1 = true then W (b p.2) (flP (fun ρ2 => ∃ m, m < n ∧ I m (wipeE wp ρ2)) (fun r ρ2 => P (.rt r ρ2)) (fun ρ2 => P (.nx (wipeE wp ρ2)))) else P (.nx (wipeE wp p.2))) : W (whlS c b wp ρ) P :=
  W_whlF I step FUEL n _ hn h0
/-- a comprehension, by what holds of the list so far and of the entries -/
theorem W_compL {tg : Tg} {own : List Nat} {cond : EvT} {elt : Ar} {P : List D × En → Prop} (I : Nat → List D → En → Prop) (all : List D) (hsz : all.length ≤ 16777216)
    (step : ∀ i d acc ρ, all[i]? = some d → I i acc ρ → W (asgTg tg d ρ) fun ρ1 => W (cond ρ1) fun p => (p.1 = true → W (evAr elt p.2) fun q => ∃ x, q.1 = .dat x ∧ I (i + 1) (acc ++ [x]) (wipeE own q.2)) ∧ (p.1 = false → I (i + 1) acc (wipeE own p.2)))
    (done : ∀ acc ρ, I all.length acc ρ → P (acc, ρ)) : ∀ (n i : Nat) (acc : List D) (ρ : En), i + n = all.length → acc.length ≤ i → I i acc ρ → W (compL tg own cond elt (all.drop i) acc ρ) P
  | 0, i, acc, ρ, hn, _, h => by
    have e : i = all.length := by omega
    subst e
    rw [List.drop_length]
    exact ⟨_, rfl, done acc ρ h⟩
  | n + 1, i, acc, ρ, hn, hl, h => by
    have hi : i < all.length := by omega
    rw [List.drop_eq_getElem_cons hi]
    obtain ⟨ρ1, e1, ⟨k, ρ2⟩, e2, q1, q2⟩ := step i _ acc ρ (List.getElem?_eq_getElem hi) h
    show W ((asgTg tg all[i] ρ).bind _) P
    refine W_b e1 ?_
    refine W_b e2 ?_
    cases k with
    | false =>
      rw [if_neg Bool.false_ne_true]
      exact W_compL I all hsz step done n (i + 1) acc _ (by omega) (by omega) (q2 rfl)
    | true =>
      rw [if_pos rfl]
      obtain ⟨⟨hd, ρ3⟩, e3, x, rfl, q⟩ := q1 rfl
      refine W_b e3 ?_
      have hz : sz (acc.length + 1) = true := by
        unfold sz
        have := sizeLine_eq
        exact decide_eq_true (by omega)
      show W (if sz (acc.length + 1) = true then _ else none) P
      rw [if_pos hz]
      exact W_compL I all hsz step done n (i + 1) _ _ (by omega) (by simp; omega) q
theorem W_lcI {it : EvI} {tg : Tg} {own : List Nat} {cond : EvT} {elt : Ar} {ρ : En} {P : RV × En → Prop} (h : W (it ρ) fun p => (own.all (fun v => ((p.2[v]?).map isData).getD false) && tg.slots.all (fun v => own.contains v)) = true ∧ p.1.length ≤ 16777216 ∧
    ∃ I : Nat → List D → En → Prop, I 0 [] (wipeE own p.2) ∧
    (∀ i d acc ρ, p.1[i]? = some d → I i acc ρ → W (asgTg tg d ρ) fun ρ1 => W (cond ρ1) fun q => (q.1 = true → W (evAr elt q.2) fun q => ∃ x, q.1 = .dat x ∧ I (i + 1) (acc ++ [x]) (wipeE own q.2)) ∧ (q.1 = false → I (i + 1) acc (wipeE own q.2))) ∧
    ∀ acc ρ', I p.1.length acc ρ' → P (.new acc, restoreE own p.2 ρ')) : W (lcV it tg own cond elt ρ) P := by
  obtain ⟨⟨items, ρ1⟩, e, hc, hsz, I, h0, h1, h2⟩ := h
  unfold lcV
  refine W_b e ?_
  rw [if_pos hc]
  have := W_compL (P := fun q => W (some (RV.new q.1, restoreE own ρ1 q.2)) P) I items hsz h1 (fun acc ρ' h => W_some.mpr (h2 acc ρ' h)) items.length 0 [] _ (by simp) (by simp) h0
  rw [List.drop_zero] at this
  exact W_bind.mpr this
/-- a comprehension that leaves the entries as they are -/
theorem W_lc {it : EvI} {tg : Tg} {own : List Nat} {cond : EvT} {elt : Ar} {ρ : En} {P : RV × En → Prop} (c : D → Bool) (f : D → D) (h : W (it ρ) fun p => (own.all (fun v => ((p.2[v]?).map isData).getD false) && tg.slots.all (fun v => own.contains v)) = true ∧ p.1.length ≤ 16777216 ∧
    (∀ d ∈ p.1, W (asgTg tg d (wipeE own p.2)) fun ρ1 => W (cond ρ1) fun q => q.1 = c d ∧ (c d = true → W (evAr elt q.2) fun r => r.1 = .dat (f d) ∧ wipeE own r.2 = wipeE own p.2) ∧ (c d = false → wipeE own q.2 = wipeE own p.2)) ∧
    P (.new ((p.1.filter c).map f), restoreE own p.2 (wipeE own p.2))) : W (lcV it tg own cond elt ρ) P := by
  obtain ⟨⟨items, ρ1⟩, e, hc, hsz, h1, h2⟩ := h
  refine W_lcI ⟨_, e, hc, hsz, fun i acc ρ => ρ = wipeE own ρ1 ∧ acc = ((items.take i).filter c).map f, ⟨rfl, by simp⟩, ?_, ?_⟩
  · rintro i d acc ρ' hd ⟨rfl, rfl⟩
    obtain ⟨ρ2, e1, q, e2, q1, q2, q3⟩ := h1 d (List.mem_of_getElem? hd)
    have et : items.take (i + 1) = items.take i ++ [d] := by rw [List.take_add_one, hd]; rfl
    refine ⟨ρ2, e1, q, e2, fun hq => ?_, fun hq => ?_⟩
    · rw [q1] at hq
      obtain ⟨r, e3, r1, r2⟩ := q2 hq
      refine ⟨r, e3, f d, r1, r2, ?_⟩
      rw [et, List.filter_append, List.map_append]
      simp [hq]
    · rw [q1] at hq
      refine ⟨q3 hq, ?_⟩
      rw [et, List.filter_append, List.map_append]
      simp [hq]
  · rintro acc ρ' ⟨rfl, rfl⟩
    rw [List.take_length]
    exact h2
end My
namespace My
open PySem PySem.Spec PyProof.Rows L2
/-! ### step by step, for long bodies -/
theorem W_def {Γ : Gm} {b : Sxs} {N : List Str} {n : Nat} {io : Bool} {ds : List D} {ρ0 : En} {P : RV × List D → Prop} (h1 : ds.length = n) (h2 : startE N io ds = some ρ0) (h : W (semB Γ b ρ0) fun fl => W (finF io fl) P) : W (defF (semB Γ b) N n io ds) P := by
  rw [defF_eq, if_pos h1]
  refine W_b h2 (W_bind.mpr h)
theorem W_cons {Γ : Gm} {s : Sx} {r : Sxs} {ρ : En} {P : Fl → Prop} : W (semB Γ (.cons s r) ρ) P ↔ W (semS Γ s ρ) (fun fl => W (contS (semB Γ r) fl) P) := by
  rw [show semB Γ (.cons s r) = seqS (semS Γ s) (semB Γ r) by simp [semB], sq_eq, W_bind]
theorem W_nx {Γ : Gm} {r : Sxs} {ρ : En} {P : Fl → Prop} : W (contS (semB Γ r) (.nx ρ)) P ↔ W (semB Γ r ρ) P := Iff.rfl
/-- a loop, its body kept folded -/
theorem W_forB {Γ : Gm} {it : It} {tg : Tg} {b : Sxs} {wp : List Nat} {ρ : En} {P : Fl → Prop} {items : List D} {ρ1 : En} (e : semI Γ it ρ = some (items, ρ1)) (I : Nat → En → Prop) (h0 : I 0 (wipeE wp ρ1))
    (h1 : ∀ i d ρ, items[i]? = some d → I i ρ → W (asgTg tg d ρ) fun ρ1 => W (semB Γ b ρ1) (flP (fun ρ2 => I (i + 1) (wipeE wp ρ2)) (fun r ρ2 => P (.rt r ρ2)) (fun ρ2 => P (.nx (wipeE wp ρ2))))) (h2 : ∀ ρ, I items.length ρ → P (.nx ρ)) : W (semS Γ (.for it tg b wp) ρ) P := by
  rw [show semS Γ (.for it tg b wp) = forS (semI Γ it) tg (semB Γ b) wp by simp [semS]]
  exact W_for2 e I h0 h1 h2
end My
namespace My
open PySem PySem.Spec PyProof.Rows L2
theorem W_forBw {Γ : Gm} {it : It} {tg : Tg} {b : Sxs} {wp : List Nat} {ρ : En} {P : Fl → Prop} (Q : List D × En → Prop) (e : W (semI Γ it ρ) Q) (h : ∀ p, Q p → ∃ I : Nat → En → Prop, I 0 (wipeE wp p.2) ∧
    (∀ i d ρ, p.1[i]? = some d → I i ρ → W (asgTg tg d ρ) fun ρ1 => W (semB Γ b ρ1) (flP (fun ρ2 => I (i + 1) (wipeE wp ρ2)) (fun r ρ2 => P (.rt r ρ2)) (fun ρ2 => P (.nx (wipeE wp ρ2))))) ∧ ∀ ρ, I p.1.length ρ → P (.nx ρ)) : W (semS Γ (.for it tg b wp) ρ) P := by
  rw [show semS Γ (.for it tg b wp) = forS (semI Γ it) tg (semB Γ b) wp by simp [semS]]
  exact W_for (W_mono e h)
end My
namespace My
open PySem PySem.Spec PyProof.Rows L2
/-- a comprehension over entries of which E holds -/
theorem W_lcE {it : EvI} {tg : Tg} {own : List Nat} {cond : EvT} {elt : Ar} {ρ : En} {P : RV × En → Prop} (E : En → Prop) (c : D → Bool) (f : D → D) (h : W (it ρ) fun p => (own.all (fun v => ((p.2[v]?).map isData).getD false) && tg.slots.all (fun v => own.contains v)) = true ∧ p.1.length ≤ 16777216 ∧ E (wipeE own p.2) ∧
    (∀ d ∈ p.1, ∀ ρ', E ρ' → W (asgTg tg d ρ') fun ρ1 => W (cond ρ1) fun q => q.1 = c d ∧ (c d = true → W (evAr elt q.2) fun r => r.1 = .dat (f d) ∧ E (wipeE own r.2)) ∧ (c d = false → E (wipeE own q.2))) ∧
    ∀ ρ', E ρ' → P (.new ((p.1.filter c).map f), restoreE own p.2 ρ')) : W (lcV it tg own cond elt ρ) P := by
  obtain ⟨⟨items, ρ1⟩, e, hc, hsz, h0, h1, h2⟩ := h
  refine W_lcI ⟨_, e, hc, hsz, fun i acc ρ => E ρ ∧ acc = ((items.take i).filter c).map f, ⟨h0, by simp⟩, ?_, ?_⟩
  · rintro i d acc ρ' hd ⟨hE, rfl⟩
    obtain ⟨ρ2, e1, q, e2, q1, q2, q3⟩ := h1 d (List.mem_of_getElem? hd) ρ' hE
    have et : items.take (i + 1) = items.take i ++ [d] := by rw [List.take_add_one, hd]; rfl
    refine ⟨ρ2, e1, q, e2, fun hq => ?_, fun hq => ?_⟩
    · rw [q1] at hq
      obtain ⟨r, e3, r1, r2⟩ := q2 hq
      refine ⟨r, e3, f d, r1, r2, ?_⟩
      rw [et, List.filter_append, List.map_append]
      simp [hq]
    · rw [q1] at hq
      refine ⟨q3 hq, ?_⟩
      rw [et, List.filter_append, List.map_append]
      simp [hq]
  · rintro acc ρ' ⟨hE, rfl⟩
    rw [List.take_length]
    exact h2 ρ' hE
end My
namespace My
open PySem PySem.Spec PyProof.Rows L2
/-! ### parts of a text -/
def dropS : Nat → Sxs → Sxs
  | 0, b => b
  | n + 1, .cons _ r => dropS n r
  | _, .nil => .nil
def getS : Nat → Sxs → Sx
  | 0, .cons s _ => s
  | n + 1, .cons _ r => getS n r
  | _, .nil => .pass
def bodS : Sx → Sxs
  | .for _ _ b _ => b
  | .whl _ b _ => b
  | .ite _ a _ => a
  | _ => .nil
def retOf : Option Fl → Option RV
  | some (.rt r _) => some r
  | _ => none
theorem ret_W {o : Option Fl} {r : RV} (h : retOf o = some r) : W o fun fl => ∃ ρ, fl = .rt r ρ := by
  cases o with
  | none => cases h
  | some fl =>
    cases fl with
    | rt r' ρ => cases h; exact ⟨_, rfl, ρ, rfl⟩
    | nx _ => cases h
    | bk _ => cases h
end My
namespace My
open PySem PySem.Spec PyProof.Rows L2
/-- over a list of ours -/
theorem W_lco {i : Nat} {tg : Tg} {own : List Nat} {cond : EvT} {elt : Ar} {ρ : En} {ds : List D} {P : RV × En → Prop} (hi : ρ[i]? = some (.own ds)) (hc : own.contains i = false) (h : W (lcV (fun ρ' => some (ds, ρ')) tg own cond elt (ρ.set i .no)) fun q => P (q.1, q.2.set i (.own ds))) : W (lcoV i tg own cond elt ρ) P := by
  unfold lcoV
  rw [hi]
  show W (if own.contains i = false then _ else none) P
  rw [if_pos hc, W_bind]
  exact W_mono h fun q hq => W_some.mpr hq
end My

namespace My
open PySem PySem.Spec PyProof.Rows L2
/-! the text -/
def topS (i : Nat) : Stmt := PySem.Challenge.pw_railssorted_k21_whole_counts_by_dead_end.main.body.getD i (.Pass ⟨0, 0, 0, 0⟩)
def BB : List Str := ["len", "tuple", "list", "abs", "int", "str", "all", "sum", "max", "min", "sorted", "isinstance", "bool", "range", "enumerate", "zip", "set"]
abbrev st_law_cup : Stmt := topS 21
def N_q_law_cup : List Str := ["script", "cell"]
def b_q_law_cup : Sxs :=
  (.cons (.asg 1 (.bf .abs (.cons (.idx (.bi .add (.bf .list (.cons (.fz 0) .nil)) (.lst (.cons (.cint 0) .nil))) (.cint 0)) .nil)))
  (.cons (.ret (.lst (.cons (.ite (.cm .ge (.fz 1) (.bi .pow (.cint 10) (.cint 18))) (.bi .fdiv (.fz 1) (.cint 73)) (.cint 0)) (.cons (.bi .add (.bi .mod (.bf .int (.cons (.bi .add (.bi .mul (.fz 1) (.cint 283)) (.cint 3907)) .nil)) (.cint 2077503167)) (.cint 167)) .nil))))
  .nil))
noncomputable def Γ_q_law_cup : Gm := ⟨[], [], BB⟩
noncomputable def F_q_law_cup : List D → Option (RV × List D) := sealF (defF (semB Γ_q_law_cup b_q_law_cup) N_q_law_cup 1 false)
theorem U_q_law_cup : F_q_law_cup = defF (semB Γ_q_law_cup b_q_law_cup) N_q_law_cup 1 false := seal_eq _
def Δ_q_law_cup : Gm := ⟨[], [], BB⟩
def C_q_law_cup : List D → Option (RV × List D) := defF (semB Δ_q_law_cup b_q_law_cup) N_q_law_cup 1 false
theorem E_q_law_cup : Γ_q_law_cup = Δ_q_law_cup := by
  unfold Γ_q_law_cup Δ_q_law_cup
  rfl
theorem V_q_law_cup : F_q_law_cup = C_q_law_cup := by
  rw [U_q_law_cup]
  unfold C_q_law_cup
  rw [E_q_law_cup]
theorem ck_q_law_cup : chkB Γ_q_law_cup N_q_law_cup (defScope st_law_cup) b_q_law_cup (defBody st_law_cup) = true := by decide +kernel
theorem sc_q_law_cup : FnScope N_q_law_cup ["script"] (defScope st_law_cup) := ⟨rfl, rfl, rfl, by decide +kernel, rfl, by decide +kernel, by decide +kernel⟩
abbrev st_law_sort : Stmt := topS 23
def N_q_law_sort : List Str := ["value"]
def b_q_law_sort : Sxs :=
  (.cons (.ite (.bo false (.cons (.cm .is (.fz 0) (.cnon)) (.cons (.isa .bool (.fz 0)) .nil))) (.cons (.ret (.ite (.cm .is (.fz 0) (.cnon)) (.cint 0) (.cint 1)))
  .nil) .nil)
  (.cons (.ite (.bo false (.cons (.isa .int (.fz 0)) (.cons (.isa .str (.fz 0)) .nil))) (.cons (.ret (.ite (.isa .int (.fz 0)) (.cint 2) (.cint 3)))
  .nil) .nil)
  (.cons (.ret (.ite (.isa .tuple (.fz 0)) (.cint 4) (.ite (.isa .list (.fz 0)) (.cint 5) (.cint 6))))
  .nil)))
noncomputable def Γ_q_law_sort : Gm := ⟨[], [], BB⟩
noncomputable def F_q_law_sort : List D → Option (RV × List D) := sealF (defF (semB Γ_q_law_sort b_q_law_sort) N_q_law_sort 1 false)
theorem U_q_law_sort : F_q_law_sort = defF (semB Γ_q_law_sort b_q_law_sort) N_q_law_sort 1 false := seal_eq _
def Δ_q_law_sort : Gm := ⟨[], [], BB⟩
def C_q_law_sort : List D → Option (RV × List D) := defF (semB Δ_q_law_sort b_q_law_sort) N_q_law_sort 1 false
theorem E_q_law_sort : Γ_q_law_sort = Δ_q_law_sort := by
  unfold Γ_q_law_sort Δ_q_law_sort
  rfl
theorem V_q_law_sort : F_q_law_sort = C_q_law_sort := by
  rw [U_q_law_sort]
  unfold C_q_law_sort
  rw [E_q_law_sort]
theorem ck_q_law_sort : chkB Γ_q_law_sort N_q_law_sort (defScope st_law_sort) b_q_law_sort (defBody st_law_sort) = true := by decide +kernel
theorem sc_q_law_sort : FnScope N_q_law_sort ["value"] (defScope st_law_sort) := ⟨rfl, rfl, rfl, by decide +kernel, rfl, by decide +kernel, by decide +kernel⟩
abbrev st_law_like : Stmt := topS 24
def N_q_law_like : List Str := ["one", "other", "sort", "first", "second"]
def b_q_law_like : Sxs :=
  (.cons (.asg 2 (.call 0 (.cons (.fz 1) .nil)))
  (.cons (.ite (.bo false (.cons (.cm .ne (.call 0 (.cons (.fz 0) .nil)) (.fz 2)) (.cons (.cm .eq (.fz 2) (.cint 6)) .nil))) (.cons (.ret (.cbl false))
  .nil) .nil)
  (.cons (.ite (.cm .isIn (.fz 2) (.tup (.cons (.cint 4) (.cons (.cint 5) .nil)))) (.cons (.ret (.bo true (.cons (.cm .eq (.bf .len (.cons (.fz 0) .nil)) (.bf .len (.cons (.fz 1) .nil))) (.cons (.cm .eq (.lc (.cint 1) (.tup [3, 4]) [3, 4] (.zp (.fz 0) (.fz 1)) (.so (.not (.call 1 (.cons (.fz 3) (.cons (.fz 4) .nil)))))) (.lst .nil)) .nil))))
  .nil) .nil)
  (.cons (.ret (.cm .eq (.fz 0) (.fz 1)))
  .nil))))
noncomputable def Γ_q_law_like (F : List D → Option (RV × List D)) : Gm := ⟨[⟨"_law_sort", 1, false, F_q_law_sort⟩, ⟨"_law_like", 2, false, F⟩], [], BB⟩
@[simp] theorem ph_q_law_like_0 (F : List D → Option (RV × List D)) : (Γ_q_law_like F).Φ[0]? = some ⟨"_law_sort", 1, false, F_q_law_sort⟩ := id rfl
@[simp] theorem ph_q_law_like_1 (F : List D → Option (RV × List D)) : (Γ_q_law_like F).Φ[1]? = some ⟨"_law_like", 2, false, F⟩ := id rfl
noncomputable def F_q_law_like : List D → Option (RV × List D) := sealF (recF (fun F => defF (semB (Γ_q_law_like F) b_q_law_like) N_q_law_like 2 false) 12)
theorem U_q_law_like : F_q_law_like = recF (fun F => defF (semB (Γ_q_law_like F) b_q_law_like) N_q_law_like 2 false) 12 := seal_eq _
def Δ_q_law_like (F : List D → Option (RV × List D)) : Gm := ⟨[⟨"_law_sort", 1, false, C_q_law_sort⟩, ⟨"_law_like", 2, false, F⟩], [], BB⟩
def C_q_law_like : List D → Option (RV × List D) := recF (fun F => defF (semB (Δ_q_law_like F) b_q_law_like) N_q_law_like 2 false) 12
theorem E_q_law_like (F : List D → Option (RV × List D)) : Γ_q_law_like F = Δ_q_law_like F := by
  unfold Γ_q_law_like Δ_q_law_like
  rw [V_q_law_sort]
theorem V_q_law_like : F_q_law_like = C_q_law_like := by
  rw [U_q_law_like]
  unfold C_q_law_like
  rw [show Γ_q_law_like = Δ_q_law_like from funext E_q_law_like]
theorem ck_q_law_like (F : List D → Option (RV × List D)) : chkB (Γ_q_law_like F) N_q_law_like (defScope st_law_like) b_q_law_like (defBody st_law_like) = true := by kernel_rfl
theorem sc_q_law_like : FnScope N_q_law_like ["one", "other"] (defScope st_law_like) := ⟨rfl, rfl, rfl, by decide +kernel, rfl, by decide +kernel, by decide +kernel⟩
abbrev st_is_whole : Stmt := topS 7
def N_p_is_whole : List Str := ["value", "low", "high"]
def b_p_is_whole : Sxs :=
  (.cons (.ret (.bo true (.cons (.isa .int (.fz 0)) (.cons (.not (.isa .bool (.fz 0))) (.cons (.ch .le .le (.fz 1) (.fz 0) (.fz 2)) .nil)))))
  .nil)
noncomputable def Γ_p_is_whole : Gm := ⟨[], [], BB⟩
noncomputable def F_p_is_whole : List D → Option (RV × List D) := sealF (defF (semB Γ_p_is_whole b_p_is_whole) N_p_is_whole 3 false)
theorem U_p_is_whole : F_p_is_whole = defF (semB Γ_p_is_whole b_p_is_whole) N_p_is_whole 3 false := seal_eq _
def Δ_p_is_whole : Gm := ⟨[], [], BB⟩
def C_p_is_whole : List D → Option (RV × List D) := defF (semB Δ_p_is_whole b_p_is_whole) N_p_is_whole 3 false
theorem E_p_is_whole : Γ_p_is_whole = Δ_p_is_whole := by
  unfold Γ_p_is_whole Δ_p_is_whole
  rfl
theorem V_p_is_whole : F_p_is_whole = C_p_is_whole := by
  rw [U_p_is_whole]
  unfold C_p_is_whole
  rw [E_p_is_whole]
theorem ck_p_is_whole : chkB Γ_p_is_whole N_p_is_whole (defScope st_is_whole) b_p_is_whole (defBody st_is_whole) = true := by decide +kernel
theorem sc_p_is_whole : FnScope N_p_is_whole ["value", "low", "high"] (defScope st_is_whole) := ⟨rfl, rfl, rfl, by decide +kernel, rfl, by decide +kernel, by decide +kernel⟩
abbrev st_need_ends : Stmt := topS 14
def N_p_need_ends : List Str := ["value"]
def b_p_need_ends : Sxs :=
  (.cons (.ite (.not (.call 0 (.cons (.fz 0) (.cons (.cint 1) (.cons (.glo 0) .nil))))) (.cons (.never)
  .nil) .nil)
  .nil)
noncomputable def Γ_p_need_ends : Gm := ⟨[⟨"is_whole", 3, false, F_p_is_whole⟩], [("ENDS", .int 60)], BB⟩
@[simp] theorem ph_p_need_ends_0 : Γ_p_need_ends.Φ[0]? = some ⟨"is_whole", 3, false, F_p_is_whole⟩ := id rfl
noncomputable def F_p_need_ends : List D → Option (RV × List D) := sealF (defF (semB Γ_p_need_ends b_p_need_ends) N_p_need_ends 1 false)
theorem U_p_need_ends : F_p_need_ends = defF (semB Γ_p_need_ends b_p_need_ends) N_p_need_ends 1 false := seal_eq _
def Δ_p_need_ends : Gm := ⟨[⟨"is_whole", 3, false, C_p_is_whole⟩], [("ENDS", .int 60)], BB⟩
def C_p_need_ends : List D → Option (RV × List D) := defF (semB Δ_p_need_ends b_p_need_ends) N_p_need_ends 1 false
theorem E_p_need_ends : Γ_p_need_ends = Δ_p_need_ends := by
  unfold Γ_p_need_ends Δ_p_need_ends
  rw [V_p_is_whole]
theorem V_p_need_ends : F_p_need_ends = C_p_need_ends := by
  rw [U_p_need_ends]
  unfold C_p_need_ends
  rw [E_p_need_ends]
theorem ck_p_need_ends : chkB Γ_p_need_ends N_p_need_ends (defScope st_need_ends) b_p_need_ends (defBody st_need_ends) = true := by decide +kernel
theorem sc_p_need_ends : FnScope N_p_need_ends ["value"] (defScope st_need_ends) := ⟨rfl, rfl, rfl, by decide +kernel, rfl, by decide +kernel, by decide +kernel⟩
abbrev st_fillings_of : Stmt := topS 17
def N_p_fillings_of : List Str := ["shape", "columns", "product", "total", "at", "row", "cell"]
def b_p_fillings_of : Sxs :=
  (.cons (.asg 1 (.ite (.cm .ne (.fz 0) (.tup .nil)) (.lc (.bf .len (.cons (.lc (.fz 5) (.nm 5) [5] (.sq (.fz 0)) (.so (.cm .gt (.fz 5) (.fz 4)))) .nil)) (.nm 4) [4] (.rng (.cons (.idx (.fz 0) (.cint 0)) .nil)) .no) (.lst .nil)))
  (.cons (.par [2, 3] (.cons (.cint 1) (.cons (.cint 1) .nil)))
  (.cons (.for (.rng (.cons (.bf .sum (.cons (.fz 0) .nil)) .nil)) (.nm 4) (.cons (.asg 3 (.bi .mul (.fz 3) (.bi .add (.fz 4) (.cint 1))))
  .nil) [4])
  (.cons (.for (.en (.fz 0)) (.tup [4, 5]) (.cons (.for (.rng (.cons (.fz 5) .nil)) (.nm 6) (.cons (.asg 2 (.bi .mul (.fz 2) (.bi .sub (.bi .sub (.bi .add (.bi .sub (.fz 5) (.fz 6)) (.idx (.fz 1) (.fz 6))) (.fz 4)) (.cint 1))))
  .nil) [6])
  .nil) [4, 5, 6])
  (.cons (.ret (.bi .fdiv (.fz 3) (.fz 2)))
  .nil)))))
noncomputable def Γ_p_fillings_of : Gm := ⟨[], [], BB⟩
noncomputable def F_p_fillings_of : List D → Option (RV × List D) := sealF (defF (semB Γ_p_fillings_of b_p_fillings_of) N_p_fillings_of 1 false)
theorem U_p_fillings_of : F_p_fillings_of = defF (semB Γ_p_fillings_of b_p_fillings_of) N_p_fillings_of 1 false := seal_eq _
def Δ_p_fillings_of : Gm := ⟨[], [], BB⟩
def C_p_fillings_of : List D → Option (RV × List D) := defF (semB Δ_p_fillings_of b_p_fillings_of) N_p_fillings_of 1 false
theorem E_p_fillings_of : Γ_p_fillings_of = Δ_p_fillings_of := by
  unfold Γ_p_fillings_of Δ_p_fillings_of
  rfl
theorem V_p_fillings_of : F_p_fillings_of = C_p_fillings_of := by
  rw [U_p_fillings_of]
  unfold C_p_fillings_of
  rw [E_p_fillings_of]
theorem ck_p_fillings_of : chkB Γ_p_fillings_of N_p_fillings_of (defScope st_fillings_of) b_p_fillings_of (defBody st_fillings_of) = true := by decide +kernel
theorem sc_p_fillings_of : FnScope N_p_fillings_of ["shape"] (defScope st_fillings_of) := ⟨rfl, rfl, rfl, by decide +kernel, rfl, by decide +kernel, by decide +kernel⟩
abbrev st_shapes_of : Stmt := topS 16
def N_p_shapes_of : List Str := ["many", "widest", "found", "first", "rest"]
def b_p_shapes_of : Sxs :=
  (.cons (.ite (.cm .eq (.fz 0) (.cint 0)) (.cons (.ret (.lst (.cons (.tup .nil) .nil)))
  .nil) .nil)
  (.cons (.asg 2 (.lst .nil))
  (.cons (.for (.rng (.cons (.cint 1) (.cons (.bi .add (.bf .min (.cons (.fz 0) (.cons (.fz 1) .nil))) (.cint 1)) .nil))) (.nm 3) (.cons (.asg 2 (.bi .add (.fz 2) (.lc (.bi .add (.tup (.cons (.fz 3) .nil)) (.fz 4)) (.nm 4) [4] (.sq (.call 0 (.cons (.bi .sub (.fz 0) (.fz 3)) (.cons (.fz 3) .nil)))) .no)))
  .nil) [3])
  (.cons (.ret (.var 2))
  .nil))))
noncomputable def Γ_p_shapes_of (F : List D → Option (RV × List D)) : Gm := ⟨[⟨"shapes_of", 2, false, F⟩], [], BB⟩
@[simp] theorem ph_p_shapes_of_0 (F : List D → Option (RV × List D)) : (Γ_p_shapes_of F).Φ[0]? = some ⟨"shapes_of", 2, false, F⟩ := id rfl
noncomputable def F_p_shapes_of : List D → Option (RV × List D) := sealF (recF (fun F => defF (semB (Γ_p_shapes_of F) b_p_shapes_of) N_p_shapes_of 2 false) 24)
theorem U_p_shapes_of : F_p_shapes_of = recF (fun F => defF (semB (Γ_p_shapes_of F) b_p_shapes_of) N_p_shapes_of 2 false) 24 := seal_eq _
def Δ_p_shapes_of (F : List D → Option (RV × List D)) : Gm := ⟨[⟨"shapes_of", 2, false, F⟩], [], BB⟩
def C_p_shapes_of : List D → Option (RV × List D) := recF (fun F => defF (semB (Δ_p_shapes_of F) b_p_shapes_of) N_p_shapes_of 2 false) 24
theorem E_p_shapes_of (F : List D → Option (RV × List D)) : Γ_p_shapes_of F = Δ_p_shapes_of F := by
  unfold Γ_p_shapes_of Δ_p_shapes_of
  rfl
theorem V_p_shapes_of : F_p_shapes_of = C_p_shapes_of := by
  rw [U_p_shapes_of]
  unfold C_p_shapes_of
  rw [show Γ_p_shapes_of = Δ_p_shapes_of from funext E_p_shapes_of]
theorem ck_p_shapes_of (F : List D → Option (RV × List D)) : chkB (Γ_p_shapes_of F) N_p_shapes_of (defScope st_shapes_of) b_p_shapes_of (defBody st_shapes_of) = true := by kernel_rfl
theorem sc_p_shapes_of : FnScope N_p_shapes_of ["many", "widest"] (defScope st_shapes_of) := ⟨rfl, rfl, rfl, by decide +kernel, rfl, by decide +kernel, by decide +kernel⟩
abbrev st_count_by_ends : Stmt := topS 19
def N_p_count_by_ends : List Str := ["wagons", "ends", "numbers", "shape", "number"]
def b_p_count_by_ends : Sxs :=
  (.cons (.ite (.not (.call 0 (.cons (.fz 0) (.cons (.cint 0) (.cons (.glo 0) .nil))))) (.cons (.never)
  .nil) .nil)
  (.cons (.exp (.call 1 (.cons (.fz 1) .nil)))
  (.cons (.asg 2 (.lc (.call 3 (.cons (.fz 3) .nil)) (.nm 3) [3] (.sq (.call 2 (.cons (.fz 0) (.cons (.bf .min (.cons (.fz 0) (.cons (.fz 1) .nil))) .nil)))) .no))
  (.cons (.ret (.bf .sum (.cons (.lc (.bi .mul (.fz 4) (.fz 4)) (.nm 4) [4] (.sq (.fz 2)) .no) .nil)))
  .nil))))
noncomputable def Γ_p_count_by_ends : Gm := ⟨[⟨"is_whole", 3, false, F_p_is_whole⟩, ⟨"need_ends", 1, false, F_p_need_ends⟩, ⟨"shapes_of", 2, false, F_p_shapes_of⟩, ⟨"fillings_of", 1, false, F_p_fillings_of⟩], [("COUNTED", .int 20)], BB⟩
@[simp] theorem ph_p_count_by_ends_0 : Γ_p_count_by_ends.Φ[0]? = some ⟨"is_whole", 3, false, F_p_is_whole⟩ := id rfl
@[simp] theorem ph_p_count_by_ends_1 : Γ_p_count_by_ends.Φ[1]? = some ⟨"need_ends", 1, false, F_p_need_ends⟩ := id rfl
@[simp] theorem ph_p_count_by_ends_2 : Γ_p_count_by_ends.Φ[2]? = some ⟨"shapes_of", 2, false, F_p_shapes_of⟩ := id rfl
@[simp] theorem ph_p_count_by_ends_3 : Γ_p_count_by_ends.Φ[3]? = some ⟨"fillings_of", 1, false, F_p_fillings_of⟩ := id rfl
noncomputable def F_p_count_by_ends : List D → Option (RV × List D) := sealF (defF (semB Γ_p_count_by_ends b_p_count_by_ends) N_p_count_by_ends 2 false)
theorem U_p_count_by_ends : F_p_count_by_ends = defF (semB Γ_p_count_by_ends b_p_count_by_ends) N_p_count_by_ends 2 false := seal_eq _
def Δ_p_count_by_ends : Gm := ⟨[⟨"is_whole", 3, false, C_p_is_whole⟩, ⟨"need_ends", 1, false, C_p_need_ends⟩, ⟨"shapes_of", 2, false, C_p_shapes_of⟩, ⟨"fillings_of", 1, false, C_p_fillings_of⟩], [("COUNTED", .int 20)], BB⟩
def C_p_count_by_ends : List D → Option (RV × List D) := defF (semB Δ_p_count_by_ends b_p_count_by_ends) N_p_count_by_ends 2 false
theorem E_p_count_by_ends : Γ_p_count_by_ends = Δ_p_count_by_ends := by
  unfold Γ_p_count_by_ends Δ_p_count_by_ends
  rw [V_p_is_whole, V_p_need_ends, V_p_shapes_of, V_p_fillings_of]
theorem V_p_count_by_ends : F_p_count_by_ends = C_p_count_by_ends := by
  rw [U_p_count_by_ends]
  unfold C_p_count_by_ends
  rw [E_p_count_by_ends]
theorem ck_p_count_by_ends : chkB Γ_p_count_by_ends N_p_count_by_ends (defScope st_count_by_ends) b_p_count_by_ends (defBody st_count_by_ends) = true := by decide +kernel
theorem sc_p_count_by_ends : FnScope N_p_count_by_ends ["wagons", "ends"] (defScope st_count_by_ends) := ⟨rfl, rfl, rfl, by decide +kernel, rfl, by decide +kernel, by decide +kernel⟩
abbrev st_law_roll : Stmt := topS 22
def N_q_law_roll : List Str := ["cup", "many", "found", "deep"]
def b_q_law_roll : Sxs :=
  (.cons (.ite (.cm .gt (.idx (.var 0) (.cint 0)) (.cint 0)) (.cons (.asg 2 (.bi .mod (.bf .int (.cons (.idx (.var 0) (.cint 0)) .nil)) (.fz 1)))
  (.cons (.setI 0 (.cint 0) (.bi .fdiv (.idx (.var 0) (.cint 0)) (.fz 1)))
  (.cons (.ret (.var 2))
  .nil))) .nil)
  (.cons (.setI 0 (.cint 1) (.bi .mod (.bf .int (.cons (.bi .add (.bi .mul (.idx (.var 0) (.cint 1)) (.cint 31051)) (.cint 7993)) .nil)) (.cint 2147483543)))
  (.cons (.asg 3 (.bi .mod (.bf .int (.cons (.bi .mul (.idx (.var 0) (.cint 1)) (.bi .add (.idx (.var 0) (.cint 1)) (.cint 229))) .nil)) (.cint 2147483587)))
  (.cons (.ret (.bi .mod (.bf .int (.cons (.bi .fdiv (.fz 3) (.cint 821)) .nil)) (.fz 1)))
  .nil))))
noncomputable def Γ_q_law_roll : Gm := ⟨[], [], BB⟩
noncomputable def F_q_law_roll : List D → Option (RV × List D) := sealF (defF (semB Γ_q_law_roll b_q_law_roll) N_q_law_roll 2 true)
theorem U_q_law_roll : F_q_law_roll = defF (semB Γ_q_law_roll b_q_law_roll) N_q_law_roll 2 true := seal_eq _
def Δ_q_law_roll : Gm := ⟨[], [], BB⟩
def C_q_law_roll : List D → Option (RV × List D) := defF (semB Δ_q_law_roll b_q_law_roll) N_q_law_roll 2 true
theorem E_q_law_roll : Γ_q_law_roll = Δ_q_law_roll := by
  unfold Γ_q_law_roll Δ_q_law_roll
  rfl
theorem V_q_law_roll : F_q_law_roll = C_q_law_roll := by
  rw [U_q_law_roll]
  unfold C_q_law_roll
  rw [E_q_law_roll]
theorem ck_q_law_roll : chkB Γ_q_law_roll N_q_law_roll (defScope st_law_roll) b_q_law_roll (defBody st_law_roll) = true := by decide +kernel
theorem sc_q_law_roll : FnScope N_q_law_roll ["cup", "many"] (defScope st_law_roll) := ⟨rfl, rfl, rfl, by decide +kernel, rfl, by decide +kernel, by decide +kernel⟩
abbrev st_law_chain : Stmt := topS 27
def N_q_law_chain : List Str := ["train", "is_falling", "best", "at", "wagon", "ahead", "one"]
def b_q_law_chain : Sxs :=
  (.cons (.asg 2 (.lst .nil))
  (.cons (.for (.en (.fz 0)) (.tup [3, 4]) (.cons (.asg 5 (.lc (.idx (.var 2) (.fz 6)) (.nm 6) [6] (.rng (.cons (.fz 3) .nil)) (.so (.cm .eq (.cm .gt (.idx (.fz 0) (.fz 6)) (.fz 4)) (.fz 1)))))
  (.cons (.exp (.app 2 (.bi .add (.cint 1) (.bf .max (.cons (.bi .add (.lst (.cons (.cint 0) .nil)) (.fz 5)) .nil)))))
  .nil)) [3, 4, 5])
  (.cons (.ret (.bf .max (.cons (.bi .add (.lst (.cons (.cint 0) .nil)) (.var 2)) .nil)))
  .nil)))
noncomputable def Γ_q_law_chain : Gm := ⟨[], [], BB⟩
noncomputable def F_q_law_chain : List D → Option (RV × List D) := sealF (defF (semB Γ_q_law_chain b_q_law_chain) N_q_law_chain 2 false)
theorem U_q_law_chain : F_q_law_chain = defF (semB Γ_q_law_chain b_q_law_chain) N_q_law_chain 2 false := seal_eq _
def Δ_q_law_chain : Gm := ⟨[], [], BB⟩
def C_q_law_chain : List D → Option (RV × List D) := defF (semB Δ_q_law_chain b_q_law_chain) N_q_law_chain 2 false
theorem E_q_law_chain : Γ_q_law_chain = Δ_q_law_chain := by
  unfold Γ_q_law_chain Δ_q_law_chain
  rfl
theorem V_q_law_chain : F_q_law_chain = C_q_law_chain := by
  rw [U_q_law_chain]
  unfold C_q_law_chain
  rw [E_q_law_chain]
theorem ck_q_law_chain : chkB Γ_q_law_chain N_q_law_chain (defScope st_law_chain) b_q_law_chain (defBody st_law_chain) = true := by decide +kernel
theorem sc_q_law_chain : FnScope N_q_law_chain ["train", "is_falling"] (defScope st_law_chain) := ⟨rfl, rfl, rfl, by decide +kernel, rfl, by decide +kernel, by decide +kernel⟩
abbrev st_law_line : Stmt := topS 25
def N_q_law_line : List Str := ["cup", "things", "left", "found"]
def b_q_law_line : Sxs :=
  (.cons (.par [2, 3] (.cons (.bf .list (.cons (.fz 1) .nil)) (.cons (.lst .nil) .nil)))
  (.cons (.whl (.cm .ne (.var 2) (.lst .nil)) (.cons (.exp (.app 3 (.pop 2 (.cons (.call 0 (.cons (.var 0) (.cons (.bf .len (.cons (.var 2) .nil)) .nil))) .nil))))
  .nil) [])
  (.cons (.ret (.var 3))
  .nil)))
noncomputable def Γ_q_law_line : Gm := ⟨[⟨"_law_roll", 2, true, F_q_law_roll⟩], [], BB⟩
@[simp] theorem ph_q_law_line_0 : Γ_q_law_line.Φ[0]? = some ⟨"_law_roll", 2, true, F_q_law_roll⟩ := id rfl
noncomputable def F_q_law_line : List D → Option (RV × List D) := sealF (defF (semB Γ_q_law_line b_q_law_line) N_q_law_line 2 true)
theorem U_q_law_line : F_q_law_line = defF (semB Γ_q_law_line b_q_law_line) N_q_law_line 2 true := seal_eq _
def Δ_q_law_line : Gm := ⟨[⟨"_law_roll", 2, true, C_q_law_roll⟩], [], BB⟩
def C_q_law_line : List D → Option (RV × List D) := defF (semB Δ_q_law_line b_q_law_line) N_q_law_line 2 true
theorem E_q_law_line : Γ_q_law_line = Δ_q_law_line := by
  unfold Γ_q_law_line Δ_q_law_line
  rw [V_q_law_roll]
theorem V_q_law_line : F_q_law_line = C_q_law_line := by
  rw [U_q_law_line]
  unfold C_q_law_line
  rw [E_q_law_line]
theorem ck_q_law_line : chkB Γ_q_law_line N_q_law_line (defScope st_law_line) b_q_law_line (defBody st_law_line) = true := by decide +kernel
theorem sc_q_law_line : FnScope N_q_law_line ["cup", "things"] (defScope st_law_line) := ⟨rfl, rfl, rfl, by decide +kernel, rfl, by decide +kernel, by decide +kernel⟩
abbrev st_is_tuple_of : Stmt := topS 8
def N_p_is_tuple_of : List Str := ["value", "low", "high"]
def b_p_is_tuple_of : Sxs :=
  (.cons (.ret (.bo true (.cons (.isa .tuple (.fz 0)) (.cons (.ch .le .le (.fz 1) (.bf .len (.cons (.fz 0) .nil)) (.fz 2)) .nil))))
  .nil)
noncomputable def Γ_p_is_tuple_of : Gm := ⟨[], [], BB⟩
noncomputable def F_p_is_tuple_of : List D → Option (RV × List D) := sealF (defF (semB Γ_p_is_tuple_of b_p_is_tuple_of) N_p_is_tuple_of 3 false)
theorem U_p_is_tuple_of : F_p_is_tuple_of = defF (semB Γ_p_is_tuple_of b_p_is_tuple_of) N_p_is_tuple_of 3 false := seal_eq _
def Δ_p_is_tuple_of : Gm := ⟨[], [], BB⟩
def C_p_is_tuple_of : List D → Option (RV × List D) := defF (semB Δ_p_is_tuple_of b_p_is_tuple_of) N_p_is_tuple_of 3 false
theorem E_p_is_tuple_of : Γ_p_is_tuple_of = Δ_p_is_tuple_of := by
  unfold Γ_p_is_tuple_of Δ_p_is_tuple_of
  rfl
theorem V_p_is_tuple_of : F_p_is_tuple_of = C_p_is_tuple_of := by
  rw [U_p_is_tuple_of]
  unfold C_p_is_tuple_of
  rw [E_p_is_tuple_of]
theorem ck_p_is_tuple_of : chkB Γ_p_is_tuple_of N_p_is_tuple_of (defScope st_is_tuple_of) b_p_is_tuple_of (defBody st_is_tuple_of) = true := by decide +kernel
theorem sc_p_is_tuple_of : FnScope N_p_is_tuple_of ["value", "low", "high"] (defScope st_is_tuple_of) := ⟨rfl, rfl, rfl, by decide +kernel, rfl, by decide +kernel, by decide +kernel⟩
abbrev st_fits_train : Stmt := topS 9
def N_p_fits_train : List Str := ["value", "wagon"]
def b_p_fits_train : Sxs :=
  (.cons (.ite (.bo false (.cons (.not (.call 0 (.cons (.fz 0) (.cons (.cint 0) (.cons (.glo 0) .nil))))) (.cons (.not (.bf .all (.cons (.lc (.call 1 (.cons (.fz 1) (.cons (.cint 0) (.cons (.glo 1) .nil)))) (.nm 1) [1] (.sq (.fz 0)) .no) .nil))) .nil))) (.cons (.ret (.cbl false))
  .nil) .nil)
  (.cons (.ret (.cm .eq (.lset (.fz 0)) (.bf .len (.cons (.fz 0) .nil))))
  .nil))
noncomputable def Γ_p_fits_train : Gm := ⟨[⟨"is_tuple_of", 3, false, F_p_is_tuple_of⟩, ⟨"is_whole", 3, false, F_p_is_whole⟩], [("MOST_WAGONS", .int 60), ("GREATEST", .int 99)], BB⟩
@[simp] theorem ph_p_fits_train_0 : Γ_p_fits_train.Φ[0]? = some ⟨"is_tuple_of", 3, false, F_p_is_tuple_of⟩ := id rfl
@[simp] theorem ph_p_fits_train_1 : Γ_p_fits_train.Φ[1]? = some ⟨"is_whole", 3, false, F_p_is_whole⟩ := id rfl
noncomputable def F_p_fits_train : List D → Option (RV × List D) := sealF (defF (semB Γ_p_fits_train b_p_fits_train) N_p_fits_train 1 false)
theorem U_p_fits_train : F_p_fits_train = defF (semB Γ_p_fits_train b_p_fits_train) N_p_fits_train 1 false := seal_eq _
def Δ_p_fits_train : Gm := ⟨[⟨"is_tuple_of", 3, false, C_p_is_tuple_of⟩, ⟨"is_whole", 3, false, C_p_is_whole⟩], [("MOST_WAGONS", .int 60), ("GREATEST", .int 99)], BB⟩
def C_p_fits_train : List D → Option (RV × List D) := defF (semB Δ_p_fits_train b_p_fits_train) N_p_fits_train 1 false
theorem E_p_fits_train : Γ_p_fits_train = Δ_p_fits_train := by
  unfold Γ_p_fits_train Δ_p_fits_train
  rw [V_p_is_tuple_of, V_p_is_whole]
theorem V_p_fits_train : F_p_fits_train = C_p_fits_train := by
  rw [U_p_fits_train]
  unfold C_p_fits_train
  rw [E_p_fits_train]
theorem ck_p_fits_train : chkB Γ_p_fits_train N_p_fits_train (defScope st_fits_train) b_p_fits_train (defBody st_fits_train) = true := by decide +kernel
theorem sc_p_fits_train : FnScope N_p_fits_train ["value"] (defScope st_fits_train) := ⟨rfl, rfl, rfl, by decide +kernel, rfl, by decide +kernel, by decide +kernel⟩
abbrev st_need_train : Stmt := topS 10
def N_p_need_train : List Str := ["value"]
def b_p_need_train : Sxs :=
  (.cons (.ite (.not (.call 0 (.cons (.fz 0) .nil))) (.cons (.never)
  .nil) .nil)
  .nil)
noncomputable def Γ_p_need_train : Gm := ⟨[⟨"fits_train", 1, false, F_p_fits_train⟩], [], BB⟩
@[simp] theorem ph_p_need_train_0 : Γ_p_need_train.Φ[0]? = some ⟨"fits_train", 1, false, F_p_fits_train⟩ := id rfl
noncomputable def F_p_need_train : List D → Option (RV × List D) := sealF (defF (semB Γ_p_need_train b_p_need_train) N_p_need_train 1 false)
theorem U_p_need_train : F_p_need_train = defF (semB Γ_p_need_train b_p_need_train) N_p_need_train 1 false := seal_eq _
def Δ_p_need_train : Gm := ⟨[⟨"fits_train", 1, false, C_p_fits_train⟩], [], BB⟩
def C_p_need_train : List D → Option (RV × List D) := defF (semB Δ_p_need_train b_p_need_train) N_p_need_train 1 false
theorem E_p_need_train : Γ_p_need_train = Δ_p_need_train := by
  unfold Γ_p_need_train Δ_p_need_train
  rw [V_p_fits_train]
theorem V_p_need_train : F_p_need_train = C_p_need_train := by
  rw [U_p_need_train]
  unfold C_p_need_train
  rw [E_p_need_train]
theorem ck_p_need_train : chkB Γ_p_need_train N_p_need_train (defScope st_need_train) b_p_need_train (defBody st_need_train) = true := by decide +kernel
theorem sc_p_need_train : FnScope N_p_need_train ["value"] (defScope st_need_train) := ⟨rfl, rfl, rfl, by decide +kernel, rfl, by decide +kernel, by decide +kernel⟩
abbrev st_risings : Stmt := topS 15
def N_p_risings : List Str := ["train", "found", "at", "wagon", "one"]
def b_p_risings : Sxs :=
  (.cons (.asg 1 (.lst .nil))
  (.cons (.for (.en (.fz 0)) (.tup [2, 3]) (.cons (.exp (.app 1 (.bi .add (.cint 1) (.bf .max (.cons (.bi .add (.lst (.cons (.cint 0) .nil)) (.lc (.idx (.var 1) (.fz 4)) (.nm 4) [4] (.rng (.cons (.fz 2) .nil)) (.so (.cm .lt (.idx (.fz 0) (.fz 4)) (.fz 3))))) .nil)))))
  .nil) [2, 3])
  (.cons (.ret (.var 1))
  .nil)))
noncomputable def Γ_p_risings : Gm := ⟨[], [], BB⟩
noncomputable def F_p_risings : List D → Option (RV × List D) := sealF (defF (semB Γ_p_risings b_p_risings) N_p_risings 1 false)
theorem U_p_risings : F_p_risings = defF (semB Γ_p_risings b_p_risings) N_p_risings 1 false := seal_eq _
def Δ_p_risings : Gm := ⟨[], [], BB⟩
def C_p_risings : List D → Option (RV × List D) := defF (semB Δ_p_risings b_p_risings) N_p_risings 1 false
theorem E_p_risings : Γ_p_risings = Δ_p_risings := by
  unfold Γ_p_risings Δ_p_risings
  rfl
theorem V_p_risings : F_p_risings = C_p_risings := by
  rw [U_p_risings]
  unfold C_p_risings
  rw [E_p_risings]
theorem ck_p_risings : chkB Γ_p_risings N_p_risings (defScope st_risings) b_p_risings (defBody st_risings) = true := by decide +kernel
theorem sc_p_risings : FnScope N_p_risings ["train"] (defScope st_risings) := ⟨rfl, rfl, rfl, by decide +kernel, rfl, by decide +kernel, by decide +kernel⟩
abbrev st_fewest_ends : Stmt := topS 18
def N_p_fewest_ends : List Str := ["train"]
def b_p_fewest_ends : Sxs :=
  (.cons (.exp (.call 0 (.cons (.fz 0) .nil)))
  (.cons (.ret (.bf .max (.cons (.bi .add (.lst (.cons (.cint 0) .nil)) (.call 1 (.cons (.fz 0) .nil))) .nil)))
  .nil))
noncomputable def Γ_p_fewest_ends : Gm := ⟨[⟨"need_train", 1, false, F_p_need_train⟩, ⟨"risings", 1, false, F_p_risings⟩], [], BB⟩
@[simp] theorem ph_p_fewest_ends_0 : Γ_p_fewest_ends.Φ[0]? = some ⟨"need_train", 1, false, F_p_need_train⟩ := id rfl
@[simp] theorem ph_p_fewest_ends_1 : Γ_p_fewest_ends.Φ[1]? = some ⟨"risings", 1, false, F_p_risings⟩ := id rfl
noncomputable def F_p_fewest_ends : List D → Option (RV × List D) := sealF (defF (semB Γ_p_fewest_ends b_p_fewest_ends) N_p_fewest_ends 1 false)
theorem U_p_fewest_ends : F_p_fewest_ends = defF (semB Γ_p_fewest_ends b_p_fewest_ends) N_p_fewest_ends 1 false := seal_eq _
def Δ_p_fewest_ends : Gm := ⟨[⟨"need_train", 1, false, C_p_need_train⟩, ⟨"risings", 1, false, C_p_risings⟩], [], BB⟩
def C_p_fewest_ends : List D → Option (RV × List D) := defF (semB Δ_p_fewest_ends b_p_fewest_ends) N_p_fewest_ends 1 false
theorem E_p_fewest_ends : Γ_p_fewest_ends = Δ_p_fewest_ends := by
  unfold Γ_p_fewest_ends Δ_p_fewest_ends
  rw [V_p_need_train, V_p_risings]
theorem V_p_fewest_ends : F_p_fewest_ends = C_p_fewest_ends := by
  rw [U_p_fewest_ends]
  unfold C_p_fewest_ends
  rw [E_p_fewest_ends]
theorem ck_p_fewest_ends : chkB Γ_p_fewest_ends N_p_fewest_ends (defScope st_fewest_ends) b_p_fewest_ends (defBody st_fewest_ends) = true := by decide +kernel
theorem sc_p_fewest_ends : FnScope N_p_fewest_ends ["train"] (defScope st_fewest_ends) := ⟨rfl, rfl, rfl, by decide +kernel, rfl, by decide +kernel, by decide +kernel⟩
abbrev st_law_orders : Stmt := topS 26
def N_q_law_orders : List Str := ["things", "found", "at", "rest"]
def b_q_law_orders : Sxs :=
  (.cons (.ite (.cm .eq (.fz 0) (.tup .nil)) (.cons (.ret (.lst (.cons (.tup .nil) .nil)))
  .nil) .nil)
  (.cons (.asg 1 (.lst .nil))
  (.cons (.for (.rng (.cons (.bf .len (.cons (.fz 0) .nil)) .nil)) (.nm 2) (.cons (.asg 1 (.bi .add (.fz 1) (.lc (.bi .add (.tup (.cons (.idx (.fz 0) (.fz 2)) .nil)) (.fz 3)) (.nm 3) [3] (.sq (.call 0 (.cons (.bi .add (.sl (.fz 0) .no (.so (.fz 2))) (.sl (.fz 0) (.so (.bi .add (.fz 2) (.cint 1))) .no)) .nil))) .no)))
  .nil) [2])
  (.cons (.ret (.var 1))
  .nil))))
noncomputable def Γ_q_law_orders (F : List D → Option (RV × List D)) : Gm := ⟨[⟨"_law_orders", 1, false, F⟩], [], BB⟩
@[simp] theorem ph_q_law_orders_0 (F : List D → Option (RV × List D)) : (Γ_q_law_orders F).Φ[0]? = some ⟨"_law_orders", 1, false, F⟩ := id rfl
noncomputable def F_q_law_orders : List D → Option (RV × List D) := sealF (recF (fun F => defF (semB (Γ_q_law_orders F) b_q_law_orders) N_q_law_orders 1 false) 12)
theorem U_q_law_orders : F_q_law_orders = recF (fun F => defF (semB (Γ_q_law_orders F) b_q_law_orders) N_q_law_orders 1 false) 12 := seal_eq _
def Δ_q_law_orders (F : List D → Option (RV × List D)) : Gm := ⟨[⟨"_law_orders", 1, false, F⟩], [], BB⟩
def C_q_law_orders : List D → Option (RV × List D) := recF (fun F => defF (semB (Δ_q_law_orders F) b_q_law_orders) N_q_law_orders 1 false) 12
theorem E_q_law_orders (F : List D → Option (RV × List D)) : Γ_q_law_orders F = Δ_q_law_orders F := by
  unfold Γ_q_law_orders Δ_q_law_orders
  rfl
theorem V_q_law_orders : F_q_law_orders = C_q_law_orders := by
  rw [U_q_law_orders]
  unfold C_q_law_orders
  rw [show Γ_q_law_orders = Δ_q_law_orders from funext E_q_law_orders]
theorem ck_q_law_orders (F : List D → Option (RV × List D)) : chkB (Γ_q_law_orders F) N_q_law_orders (defScope st_law_orders) b_q_law_orders (defBody st_law_orders) = true := by kernel_rfl
theorem sc_q_law_orders : FnScope N_q_law_orders ["things"] (defScope st_law_orders) := ⟨rfl, rfl, rfl, by decide +kernel, rfl, by decide +kernel, by decide +kernel⟩
abbrev st_law_small_right : Stmt := topS 28
def N_q_law_small_right : List Str := ["cup", "many", "chains", "ends", "order", "chain"]
def b_q_law_small_right : Sxs :=
  (.cons (.asg 1 (.call 0 (.cons (.var 0) (.cons (.cint 7) .nil))))
  (.cons (.asg 2 (.lc (.call 2 (.cons (.fz 4) (.cons (.cbl false) .nil))) (.nm 4) [4] (.sq (.call 1 (.cons (.rg true (.cons (.fz 1) .nil)) .nil))) .no))
  (.cons (.for (.rng (.cons (.cint 1) (.cons (.cint 8) .nil))) (.nm 3) (.cons (.ite (.not (.call 3 (.cons (.call 4 (.cons (.fz 1) (.cons (.fz 3) .nil))) (.cons (.bf .len (.cons (.lc (.fz 5) (.nm 5) [5] (.sq (.fz 2)) (.so (.cm .le (.fz 5) (.fz 3)))) .nil)) .nil)))) (.cons (.ret (.cbl false))
  .nil) .nil)
  .nil) [3])
  (.cons (.asg 4 (.bf .tuple (.cons (.call 5 (.cons (.var 0) (.cons (.rg false (.cons (.fz 1) .nil)) .nil))) .nil)))
  (.cons (.ret (.call 3 (.cons (.call 6 (.cons (.fz 4) .nil)) (.cons (.call 2 (.cons (.fz 4) (.cons (.cbl false) .nil))) .nil))))
  .nil)))))
noncomputable def Γ_q_law_small_right : Gm := ⟨[⟨"_law_roll", 2, true, F_q_law_roll⟩, ⟨"_law_orders", 1, false, F_q_law_orders⟩, ⟨"_law_chain", 2, false, F_q_law_chain⟩, ⟨"_law_like", 2, false, F_q_law_like⟩, ⟨"count_by_ends", 2, false, F_p_count_by_ends⟩, ⟨"_law_line", 2, true, F_q_law_line⟩, ⟨"fewest_ends", 1, false, F_p_fewest_ends⟩], [], BB⟩
@[simp] theorem ph_q_law_small_right_0 : Γ_q_law_small_right.Φ[0]? = some ⟨"_law_roll", 2, true, F_q_law_roll⟩ := id rfl
@[simp] theorem ph_q_law_small_right_1 : Γ_q_law_small_right.Φ[1]? = some ⟨"_law_orders", 1, false, F_q_law_orders⟩ := id rfl
@[simp] theorem ph_q_law_small_right_2 : Γ_q_law_small_right.Φ[2]? = some ⟨"_law_chain", 2, false, F_q_law_chain⟩ := id rfl
@[simp] theorem ph_q_law_small_right_3 : Γ_q_law_small_right.Φ[3]? = some ⟨"_law_like", 2, false, F_q_law_like⟩ := id rfl
@[simp] theorem ph_q_law_small_right_4 : Γ_q_law_small_right.Φ[4]? = some ⟨"count_by_ends", 2, false, F_p_count_by_ends⟩ := id rfl
@[simp] theorem ph_q_law_small_right_5 : Γ_q_law_small_right.Φ[5]? = some ⟨"_law_line", 2, true, F_q_law_line⟩ := id rfl
@[simp] theorem ph_q_law_small_right_6 : Γ_q_law_small_right.Φ[6]? = some ⟨"fewest_ends", 1, false, F_p_fewest_ends⟩ := id rfl
noncomputable def F_q_law_small_right : List D → Option (RV × List D) := sealF (defF (semB Γ_q_law_small_right b_q_law_small_right) N_q_law_small_right 1 true)
theorem U_q_law_small_right : F_q_law_small_right = defF (semB Γ_q_law_small_right b_q_law_small_right) N_q_law_small_right 1 true := seal_eq _
def Δ_q_law_small_right : Gm := ⟨[⟨"_law_roll", 2, true, C_q_law_roll⟩, ⟨"_law_orders", 1, false, C_q_law_orders⟩, ⟨"_law_chain", 2, false, C_q_law_chain⟩, ⟨"_law_like", 2, false, C_q_law_like⟩, ⟨"count_by_ends", 2, false, C_p_count_by_ends⟩, ⟨"_law_line", 2, true, C_q_law_line⟩, ⟨"fewest_ends", 1, false, C_p_fewest_ends⟩], [], BB⟩
def C_q_law_small_right : List D → Option (RV × List D) := defF (semB Δ_q_law_small_right b_q_law_small_right) N_q_law_small_right 1 true
theorem E_q_law_small_right : Γ_q_law_small_right = Δ_q_law_small_right := by
  unfold Γ_q_law_small_right Δ_q_law_small_right
  rw [V_q_law_roll, V_q_law_orders, V_q_law_chain, V_q_law_like, V_p_count_by_ends, V_q_law_line, V_p_fewest_ends]
theorem V_q_law_small_right : F_q_law_small_right = C_q_law_small_right := by
  rw [U_q_law_small_right]
  unfold C_q_law_small_right
  rw [E_q_law_small_right]
theorem ck_q_law_small_right : chkB Γ_q_law_small_right N_q_law_small_right (defScope st_law_small_right) b_q_law_small_right (defBody st_law_small_right) = true := by decide +kernel
theorem sc_q_law_small_right : FnScope N_q_law_small_right ["cup"] (defScope st_law_small_right) := ⟨rfl, rfl, rfl, by decide +kernel, rfl, by decide +kernel, by decide +kernel⟩
abbrev st_law_great_right : Stmt := topS 29
def N_q_law_great_right : List Str := ["cup", "many", "whole", "catalan", "at", "told", "numbers", "ends", "number"]
def b_q_law_great_right : Sxs :=
  (.cons (.par [1, 2, 3] (.cons (.bi .add (.cint 2) (.call 0 (.cons (.var 0) (.cons (.cint 19) .nil)))) (.cons (.cint 1) (.cons (.cint 1) .nil))))
  (.cons (.for (.rng (.cons (.cint 1) (.cons (.bi .add (.fz 1) (.cint 1)) .nil))) (.nm 4) (.cons (.asg 2 (.bi .mul (.fz 2) (.fz 4)))
  (.cons (.asg 3 (.bf .int (.cons (.bi .fdiv (.bi .mul (.fz 3) (.bi .sub (.bi .mul (.cint 4) (.fz 4)) (.cint 2))) (.bi .add (.fz 4) (.cint 1))) .nil)))
  .nil)) [4])
  (.cons (.asg 5 (.lc (.call 1 (.cons (.fz 1) (.cons (.fz 7) .nil))) (.nm 7) [7] (.sq (.tup (.cons (.cint 1) (.cons (.cint 2) (.cons (.fz 1) (.cons (.bi .add (.fz 1) (.cint 1)) (.cons (.cint 60) (.cons (.bi .sub (.fz 1) (.cint 1)) .nil)))))))) .no))
  (.cons (.ite (.not (.call 2 (.cons (.fz 5) (.cons (.lst (.cons (.cint 1) (.cons (.fz 3) (.cons (.fz 2) (.cons (.fz 2) (.cons (.fz 2) (.cons (.bi .sub (.fz 2) (.cint 1)) .nil))))))) .nil)))) (.cons (.ret (.cbl false))
  .nil) .nil)
  (.cons (.ite (.bo true (.cons (.cm .gt (.fz 1) (.cint 2)) (.cons (.not (.call 2 (.cons (.call 1 (.cons (.fz 1) (.cons (.bi .sub (.fz 1) (.cint 2)) .nil))) (.cons (.bi .sub (.bi .sub (.fz 2) (.cint 1)) (.bi .mul (.bi .sub (.fz 1) (.cint 1)) (.bi .sub (.fz 1) (.cint 1)))) .nil)))) .nil))) (.cons (.ret (.cbl false))
  .nil) .nil)
  (.cons (.asg 6 (.lc (.call 1 (.cons (.fz 1) (.cons (.fz 7) .nil))) (.nm 7) [7] (.rng (.cons (.cint 1) (.cons (.bi .add (.fz 1) (.cint 1)) .nil))) .no))
  (.cons (.ret (.bo true (.cons (.cm .eq (.fz 6) (.sset (.fz 6))) (.cons (.cm .eq (.lc (.fz 8) (.nm 8) [8] (.sq (.fz 6)) (.so (.cm .gt (.fz 8) (.fz 2)))) (.lst .nil)) .nil))))
  .nil)))))))
noncomputable def Γ_q_law_great_right : Gm := ⟨[⟨"_law_roll", 2, true, F_q_law_roll⟩, ⟨"count_by_ends", 2, false, F_p_count_by_ends⟩, ⟨"_law_like", 2, false, F_q_law_like⟩], [], BB⟩
@[simp] theorem ph_q_law_great_right_0 : Γ_q_law_great_right.Φ[0]? = some ⟨"_law_roll", 2, true, F_q_law_roll⟩ := id rfl
@[simp] theorem ph_q_law_great_right_1 : Γ_q_law_great_right.Φ[1]? = some ⟨"count_by_ends", 2, false, F_p_count_by_ends⟩ := id rfl
@[simp] theorem ph_q_law_great_right_2 : Γ_q_law_great_right.Φ[2]? = some ⟨"_law_like", 2, false, F_q_law_like⟩ := id rfl
noncomputable def F_q_law_great_right : List D → Option (RV × List D) := sealF (defF (semB Γ_q_law_great_right b_q_law_great_right) N_q_law_great_right 1 true)
theorem U_q_law_great_right : F_q_law_great_right = defF (semB Γ_q_law_great_right b_q_law_great_right) N_q_law_great_right 1 true := seal_eq _
def Δ_q_law_great_right : Gm := ⟨[⟨"_law_roll", 2, true, C_q_law_roll⟩, ⟨"count_by_ends", 2, false, C_p_count_by_ends⟩, ⟨"_law_like", 2, false, C_q_law_like⟩], [], BB⟩
def C_q_law_great_right : List D → Option (RV × List D) := defF (semB Δ_q_law_great_right b_q_law_great_right) N_q_law_great_right 1 true
theorem E_q_law_great_right : Γ_q_law_great_right = Δ_q_law_great_right := by
  unfold Γ_q_law_great_right Δ_q_law_great_right
  rw [V_q_law_roll, V_p_count_by_ends, V_q_law_like]
theorem V_q_law_great_right : F_q_law_great_right = C_q_law_great_right := by
  rw [U_q_law_great_right]
  unfold C_q_law_great_right
  rw [E_q_law_great_right]
theorem ck_q_law_great_right : chkB Γ_q_law_great_right N_q_law_great_right (defScope st_law_great_right) b_q_law_great_right (defBody st_law_great_right) = true := by decide +kernel
theorem sc_q_law_great_right : FnScope N_q_law_great_right ["cup"] (defScope st_law_great_right) := ⟨rfl, rfl, rfl, by decide +kernel, rfl, by decide +kernel, by decide +kernel⟩
abbrev st_law : Stmt := topS 30
def N_p_law : List Str := ["script", "told", "cup", "ends", "many"]
def b_p_law : Sxs :=
  (.cons (.asg 1 (.bi .add (.lc (.call 0 (.cons (.cint 4) (.cons (.fz 3) .nil))) (.nm 3) [3] (.sq (.tup (.cons (.cint 1) (.cons (.cint 2) (.cons (.cint 3) (.cons (.cint 4) .nil)))))) .no) (.lst (.cons (.call 0 (.cons (.cint 5) (.cons (.cint 3) .nil))) (.cons (.call 0 (.cons (.cint 10) (.cons (.cint 2) .nil))) (.cons (.call 0 (.cons (.cint 0) (.cons (.cint 1) .nil))) (.cons (.call 0 (.cons (.cint 1) (.cons (.cint 60) .nil))) .nil)))))))
  (.cons (.ite (.not (.call 1 (.cons (.fz 1) (.cons (.lst (.cons (.cint 1) (.cons (.cint 14) (.cons (.cint 23) (.cons (.cint 24) (.cons (.cint 103) (.cons (.cint 16796) (.cons (.cint 1) (.cons (.cint 1) .nil))))))))) .nil)))) (.cons (.ret (.cbl false))
  .nil) .nil)
  (.cons (.asg 2 (.call 2 (.cons (.fz 0) .nil)))
  (.cons (.ite (.bo false (.cons (.not (.call 3 (.cons (.var 2) .nil))) (.cons (.not (.call 4 (.cons (.var 2) .nil))) .nil))) (.cons (.ret (.cbl false))
  .nil) .nil)
  (.cons (.ret (.call 1 (.cons (.lc (.call 0 (.cons (.fz 4) (.cons (.cint 3) .nil))) (.nm 4) [4] (.rng (.cons (.cint 1) (.cons (.cint 8) .nil))) .no) (.cons (.lst (.cons (.cint 1) (.cons (.cint 2) (.cons (.cint 6) (.cons (.cint 23) (.cons (.cint 103) (.cons (.cint 513) (.cons (.cint 2761) .nil)))))))) .nil))))
  .nil)))))
noncomputable def Γ_p_law : Gm := ⟨[⟨"count_by_ends", 2, false, F_p_count_by_ends⟩, ⟨"_law_like", 2, false, F_q_law_like⟩, ⟨"_law_cup", 1, false, F_q_law_cup⟩, ⟨"_law_small_right", 1, true, F_q_law_small_right⟩, ⟨"_law_great_right", 1, true, F_q_law_great_right⟩], [], BB⟩
@[simp] theorem ph_p_law_0 : Γ_p_law.Φ[0]? = some ⟨"count_by_ends", 2, false, F_p_count_by_ends⟩ := id rfl
@[simp] theorem ph_p_law_1 : Γ_p_law.Φ[1]? = some ⟨"_law_like", 2, false, F_q_law_like⟩ := id rfl
@[simp] theorem ph_p_law_2 : Γ_p_law.Φ[2]? = some ⟨"_law_cup", 1, false, F_q_law_cup⟩ := id rfl
@[simp] theorem ph_p_law_3 : Γ_p_law.Φ[3]? = some ⟨"_law_small_right", 1, true, F_q_law_small_right⟩ := id rfl
@[simp] theorem ph_p_law_4 : Γ_p_law.Φ[4]? = some ⟨"_law_great_right", 1, true, F_q_law_great_right⟩ := id rfl
noncomputable def F_p_law : List D → Option (RV × List D) := sealF (defF (semB Γ_p_law b_p_law) N_p_law 1 false)
theorem U_p_law : F_p_law = defF (semB Γ_p_law b_p_law) N_p_law 1 false := seal_eq _
def Δ_p_law : Gm := ⟨[⟨"count_by_ends", 2, false, C_p_count_by_ends⟩, ⟨"_law_like", 2, false, C_q_law_like⟩, ⟨"_law_cup", 1, false, C_q_law_cup⟩, ⟨"_law_small_right", 1, true, C_q_law_small_right⟩, ⟨"_law_great_right", 1, true, C_q_law_great_right⟩], [], BB⟩
def C_p_law : List D → Option (RV × List D) := defF (semB Δ_p_law b_p_law) N_p_law 1 false
theorem E_p_law : Γ_p_law = Δ_p_law := by
  unfold Γ_p_law Δ_p_law
  rw [V_p_count_by_ends, V_q_law_like, V_q_law_cup, V_q_law_small_right, V_q_law_great_right]
theorem V_p_law : F_p_law = C_p_law := by
  rw [U_p_law]
  unfold C_p_law
  rw [E_p_law]
theorem ck_p_law : chkB Γ_p_law N_p_law (defScope st_law) b_p_law (defBody st_law) = true := by decide +kernel
theorem sc_p_law : FnScope N_p_law ["script"] (defScope st_law) := ⟨rfl, rfl, rfl, by decide +kernel, rfl, by decide +kernel, by decide +kernel⟩
structure Top (K : Fg) (mg : Str → Option Value) : Prop where
  bl : ∀ x ∈ BB, mg x = none
  c_ENDS : ∃ v u, mg "ENDS" = some u ∧ RelV v u ∧ ∀ S, Dq K S v (.int 60)
  c_COUNTED : ∃ v u, mg "COUNTED" = some u ∧ RelV v u ∧ ∀ S, Dq K S v (.int 20)
  c_MOST_WAGONS : ∃ v u, mg "MOST_WAGONS" = some u ∧ RelV v u ∧ ∀ S, Dq K S v (.int 60)
  c_GREATEST : ∃ v u, mg "GREATEST" = some u ∧ RelV v u ∧ ∀ S, Dq K S v (.int 99)
  d_q_law_cup : DefAt K mg "_law_cup" st_law_cup ["script"]
  d_q_law_sort : DefAt K mg "_law_sort" st_law_sort ["value"]
  d_q_law_like : DefAt K mg "_law_like" st_law_like ["one", "other"]
  d_p_is_whole : DefAt K mg "is_whole" st_is_whole ["value", "low", "high"]
  d_p_need_ends : DefAt K mg "need_ends" st_need_ends ["value"]
  d_p_fillings_of : DefAt K mg "fillings_of" st_fillings_of ["shape"]
  d_p_shapes_of : DefAt K mg "shapes_of" st_shapes_of ["many", "widest"]
  d_p_count_by_ends : DefAt K mg "count_by_ends" st_count_by_ends ["wagons", "ends"]
  d_q_law_roll : DefAt K mg "_law_roll" st_law_roll ["cup", "many"]
  d_q_law_chain : DefAt K mg "_law_chain" st_law_chain ["train", "is_falling"]
  d_q_law_line : DefAt K mg "_law_line" st_law_line ["cup", "things"]
  d_p_is_tuple_of : DefAt K mg "is_tuple_of" st_is_tuple_of ["value", "low", "high"]
  d_p_fits_train : DefAt K mg "fits_train" st_fits_train ["value"]
  d_p_need_train : DefAt K mg "need_train" st_need_train ["value"]
  d_p_risings : DefAt K mg "risings" st_risings ["train"]
  d_p_fewest_ends : DefAt K mg "fewest_ends" st_fewest_ends ["train"]
  d_q_law_orders : DefAt K mg "_law_orders" st_law_orders ["things"]
  d_q_law_small_right : DefAt K mg "_law_small_right" st_law_small_right ["cup"]
  d_q_law_great_right : DefAt K mg "_law_great_right" st_law_great_right ["cup"]
  d_p_law : DefAt K mg "law" st_law ["script"]
section
variable {P : Program} {w : World} {K : Fg} {mg : Str → Option Value} {base : Heap}
theorem ok_q_law_cup (T : Top K mg) : C8.Cal P w K mg base 1 "_law_cup" (spF K 1 false F_q_law_cup) [] := by
  rw [U_q_law_cup]
  exact cal_ok (k := 0) T.d_q_law_cup sc_q_law_cup rfl ck_q_law_cup ⟨T.bl, fa_nil, fa_nil⟩
theorem ok_q_law_sort (T : Top K mg) : C8.Cal P w K mg base 1 "_law_sort" (spF K 1 false F_q_law_sort) [] := by
  rw [U_q_law_sort]
  exact cal_ok (k := 0) T.d_q_law_sort sc_q_law_sort rfl ck_q_law_sort ⟨T.bl, fa_nil, fa_nil⟩
theorem ok_q_law_like (T : Top K mg) : C8.Cal P w K mg base 13 "_law_like" (spF K 2 false F_q_law_like) [] := by
  rw [U_q_law_like]
  exact cal_rec (k := 1) T.d_q_law_like sc_q_law_like rfl ck_q_law_like (fun j F hj h => ⟨T.bl, fa_nil, (fa_cons (cal_mono (ok_q_law_sort T) (Nat.le_trans (by decide) hj)) (fa_cons h fa_nil))⟩) 12
theorem ok_p_is_whole (T : Top K mg) : C8.Cal P w K mg base 1 "is_whole" (spF K 3 false F_p_is_whole) [] := by
  rw [U_p_is_whole]
  exact cal_ok (k := 0) T.d_p_is_whole sc_p_is_whole rfl ck_p_is_whole ⟨T.bl, fa_nil, fa_nil⟩
theorem ok_p_need_ends (T : Top K mg) : C8.Cal P w K mg base 2 "need_ends" (spF K 1 false F_p_need_ends) [] := by
  rw [U_p_need_ends]
  exact cal_ok (k := 1) T.d_p_need_ends sc_p_need_ends rfl ck_p_need_ends ⟨T.bl, (fa_cons T.c_ENDS fa_nil), (fa_cons (cal_mono (ok_p_is_whole T) (by decide)) fa_nil)⟩
theorem ok_p_fillings_of (T : Top K mg) : C8.Cal P w K mg base 1 "fillings_of" (spF K 1 false F_p_fillings_of) [] := by
  rw [U_p_fillings_of]
  exact cal_ok (k := 0) T.d_p_fillings_of sc_p_fillings_of rfl ck_p_fillings_of ⟨T.bl, fa_nil, fa_nil⟩
theorem ok_p_shapes_of (T : Top K mg) : C8.Cal P w K mg base 24 "shapes_of" (spF K 2 false F_p_shapes_of) [] := by
  rw [U_p_shapes_of]
  exact cal_rec (k := 0) T.d_p_shapes_of sc_p_shapes_of rfl ck_p_shapes_of (fun j F hj h => ⟨T.bl, fa_nil, (fa_cons h fa_nil)⟩) 24
theorem ok_p_count_by_ends (T : Top K mg) : C8.Cal P w K mg base 25 "count_by_ends" (spF K 2 false F_p_count_by_ends) [] := by
  rw [U_p_count_by_ends]
  exact cal_ok (k := 24) T.d_p_count_by_ends sc_p_count_by_ends rfl ck_p_count_by_ends ⟨T.bl, (fa_cons T.c_COUNTED fa_nil), (fa_cons (cal_mono (ok_p_is_whole T) (by decide)) (fa_cons (cal_mono (ok_p_need_ends T) (by decide)) (fa_cons (cal_mono (ok_p_shapes_of T) (by decide)) (fa_cons (cal_mono (ok_p_fillings_of T) (by decide)) fa_nil))))⟩
theorem ok_q_law_roll (T : Top K mg) : C8.Cal P w K mg base 1 "_law_roll" (spF K 2 true F_q_law_roll) [] := by
  rw [U_q_law_roll]
  exact cal_ok (k := 0) T.d_q_law_roll sc_q_law_roll rfl ck_q_law_roll ⟨T.bl, fa_nil, fa_nil⟩
theorem ok_q_law_chain (T : Top K mg) : C8.Cal P w K mg base 1 "_law_chain" (spF K 2 false F_q_law_chain) [] := by
  rw [U_q_law_chain]
  exact cal_ok (k := 0) T.d_q_law_chain sc_q_law_chain rfl ck_q_law_chain ⟨T.bl, fa_nil, fa_nil⟩
theorem ok_q_law_line (T : Top K mg) : C8.Cal P w K mg base 2 "_law_line" (spF K 2 true F_q_law_line) [] := by
  rw [U_q_law_line]
  exact cal_ok (k := 1) T.d_q_law_line sc_q_law_line rfl ck_q_law_line ⟨T.bl, fa_nil, (fa_cons (cal_mono (ok_q_law_roll T) (by decide)) fa_nil)⟩
theorem ok_p_is_tuple_of (T : Top K mg) : C8.Cal P w K mg base 1 "is_tuple_of" (spF K 3 false F_p_is_tuple_of) [] := by
  rw [U_p_is_tuple_of]
  exact cal_ok (k := 0) T.d_p_is_tuple_of sc_p_is_tuple_of rfl ck_p_is_tuple_of ⟨T.bl, fa_nil, fa_nil⟩
theorem ok_p_fits_train (T : Top K mg) : C8.Cal P w K mg base 2 "fits_train" (spF K 1 false F_p_fits_train) [] := by
  rw [U_p_fits_train]
  exact cal_ok (k := 1) T.d_p_fits_train sc_p_fits_train rfl ck_p_fits_train ⟨T.bl, (fa_cons T.c_MOST_WAGONS (fa_cons T.c_GREATEST fa_nil)), (fa_cons (cal_mono (ok_p_is_tuple_of T) (by decide)) (fa_cons (cal_mono (ok_p_is_whole T) (by decide)) fa_nil))⟩
theorem ok_p_need_train (T : Top K mg) : C8.Cal P w K mg base 3 "need_train" (spF K 1 false F_p_need_train) [] := by
  rw [U_p_need_train]
  exact cal_ok (k := 2) T.d_p_need_train sc_p_need_train rfl ck_p_need_train ⟨T.bl, fa_nil, (fa_cons (cal_mono (ok_p_fits_train T) (by decide)) fa_nil)⟩
theorem ok_p_risings (T : Top K mg) : C8.Cal P w K mg base 1 "risings" (spF K 1 false F_p_risings) [] := by
  rw [U_p_risings]
  exact cal_ok (k := 0) T.d_p_risings sc_p_risings rfl ck_p_risings ⟨T.bl, fa_nil, fa_nil⟩
theorem ok_p_fewest_ends (T : Top K mg) : C8.Cal P w K mg base 4 "fewest_ends" (spF K 1 false F_p_fewest_ends) [] := by
  rw [U_p_fewest_ends]
  exact cal_ok (k := 3) T.d_p_fewest_ends sc_p_fewest_ends rfl ck_p_fewest_ends ⟨T.bl, fa_nil, (fa_cons (cal_mono (ok_p_need_train T) (by decide)) (fa_cons (cal_mono (ok_p_risings T) (by decide)) fa_nil))⟩
theorem ok_q_law_orders (T : Top K mg) : C8.Cal P w K mg base 12 "_law_orders" (spF K 1 false F_q_law_orders) [] := by
  rw [U_q_law_orders]
  exact cal_rec (k := 0) T.d_q_law_orders sc_q_law_orders rfl ck_q_law_orders (fun j F hj h => ⟨T.bl, fa_nil, (fa_cons h fa_nil)⟩) 12
theorem ok_q_law_small_right (T : Top K mg) : C8.Cal P w K mg base 26 "_law_small_right" (spF K 1 true F_q_law_small_right) [] := by
  rw [U_q_law_small_right]
  exact cal_ok (k := 25) T.d_q_law_small_right sc_q_law_small_right rfl ck_q_law_small_right ⟨T.bl, fa_nil, (fa_cons (cal_mono (ok_q_law_roll T) (by decide)) (fa_cons (cal_mono (ok_q_law_orders T) (by decide)) (fa_cons (cal_mono (ok_q_law_chain T) (by decide)) (fa_cons (cal_mono (ok_q_law_like T) (by decide)) (fa_cons (cal_mono (ok_p_count_by_ends T) (by decide)) (fa_cons (cal_mono (ok_q_law_line T) (by decide)) (fa_cons (cal_mono (ok_p_fewest_ends T) (by decide)) fa_nil)))))))⟩
theorem ok_q_law_great_right (T : Top K mg) : C8.Cal P w K mg base 26 "_law_great_right" (spF K 1 true F_q_law_great_right) [] := by
  rw [U_q_law_great_right]
  exact cal_ok (k := 25) T.d_q_law_great_right sc_q_law_great_right rfl ck_q_law_great_right ⟨T.bl, fa_nil, (fa_cons (cal_mono (ok_q_law_roll T) (by decide)) (fa_cons (cal_mono (ok_p_count_by_ends T) (by decide)) (fa_cons (cal_mono (ok_q_law_like T) (by decide)) fa_nil)))⟩
theorem top_law {fa : Addr} (T : Top K mg) (hfa : mg "law" = some (.ref fa)) : ∃ fd : FuncData, (∀ (s : Shared) (v : Value), BindsTo s fd ⟨[v], []⟩ [("script", v)]) ∧ ∀ base : Heap, K.In base → base.Ns mainGlobals mg → FnOk P w K mg base CX0 27 fa fd ["script"] (spF K 1 false F_p_law) := by
  rw [U_p_law]
  exact law_top T.d_p_law hfa sc_p_law ck_p_law (fun base => ⟨T.bl, fa_nil, (fa_cons (cal_mono (ok_p_count_by_ends T) (by decide)) (fa_cons (cal_mono (ok_q_law_like T) (by decide)) (fa_cons (cal_mono (ok_q_law_cup T) (by decide)) (fa_cons (cal_mono (ok_q_law_small_right T) (by decide)) (fa_cons (cal_mono (ok_q_law_great_right T) (by decide)) fa_nil)))))⟩)
end
end My

namespace My
open PySem PySem.Spec PyProof.Rows L2
theorem cup_ok (ns : List Int) (hl : ns.length ≤ 63) : W (F_q_law_cup [.scr ns]) fun r => ∃ a b, r = (.new [.int a, .int b], []) := by
  have key : ∃ c r, List.map D.int ns ++ [D.int 0] = D.int c :: r := by
    cases ns with
    | nil => exact ⟨0, [], rfl⟩
    | cons c r => exact ⟨c, List.map D.int r ++ [D.int 0], rfl⟩
  obtain ⟨c, r, e⟩ := key
  simp [F_q_law_cup, b_q_law_cup, defF_eq, N_q_law_cup, e]
  omega
theorem roll_ok (a b m : Int) (h1 : 0 < m) (h2 : m < 2 ^ 62) : W (F_q_law_roll [.lst [.int a, .int b], .int m]) fun r => ∃ a' b' k, r = (.val (.int k), [.int a', .int b']) ∧ 0 ≤ k ∧ k < m := by
  simp [F_q_law_roll, b_q_law_roll, defF_eq, N_q_law_roll, h1, h2]
  by_cases ha : a ≤ 0
  · left
    exact ⟨ha, by omega, _, _, _, ⟨rfl, rfl, rfl⟩, Int.emod_nonneg _ (by omega), Int.emod_lt_of_pos _ h1⟩
  · right
    exact ⟨by omega, by omega, _, _, _, ⟨rfl, rfl, rfl⟩, Int.emod_nonneg _ (by omega), Int.emod_lt_of_pos _ h1⟩
/-- the law's sorts -/
def sortD : D → Int
  | .non => 0 | .bl _ => 1 | .int _ => 2 | .str _ => 3 | .tup _ => 4 | .lst _ => 5 | _ => 6
theorem sort_ok (d : D) (h : sortD d ≠ 6) : F_q_law_sort [d] = some (.val (.int (sortD d)), []) := by
  rw [V_q_law_sort]
  cases d <;> first | (exact absurd rfl h) | kernel_rfl
def wholeD (lo hi : Int) : D → Bool
  | .int i => decide (lo ≤ i) && decide (i ≤ hi)
  | _ => false
theorem whole_ok (d : D) (lo hi : Int) (h : sortD d ≠ 6) : F_p_is_whole [d, .int lo, .int hi] = some (.val (.bl (wholeD lo hi d)), []) := by
  cases d with
  | int i =>
    apply of_W
    simp [F_p_is_whole, b_p_is_whole, defF_eq, N_p_is_whole, wholeD]
    by_cases hl : lo ≤ i <;> simp [hl]
    omega
  | scr _ => exact absurd rfl h
  | dic _ _ => exact absurd rfl h
  | _ => rw [V_p_is_whole]; kernel_rfl
theorem istup_ok (d : D) (lo hi : Int) (h : sortD d ≠ 6) : F_p_is_tuple_of [d, .int lo, .int hi] = some (.val (.bl (match d with | .tup ds => decide (lo ≤ ds.length) && decide ((ds.length : Int) ≤ hi) | _ => false)), []) := by
  cases d with
  | tup i =>
    apply of_W
    simp [F_p_is_tuple_of, b_p_is_tuple_of, defF_eq, N_p_is_tuple_of]
    by_cases hl : lo ≤ (i.length : Int) <;> simp [hl]
    omega
  | scr _ => exact absurd rfl h
  | dic _ _ => exact absurd rfl h
  | _ => rw [V_p_is_tuple_of]; kernel_rfl
theorem pl_sort {d : D} (h : plnD d = true) : sortD d ≠ 6 := by
  cases d <;> first | (intro z; cases z; done) | (cases h; done)
def trainB : D → Bool
  | .tup ds => decide (ds.length ≤ 60) && (ds.all (wholeD 0 99) && (match intsD ds with | some ns => decide ((uniqI ns).length = ns.length) | none => false))
  | _ => false
theorem blsD_map {α : Type} (g : α → Bool) : ∀ ds : List α, blsD (ds.map fun d => D.bl (g d)) = some (ds.map g)
  | [] => rfl
  | d :: ds => by
    show ((blsD (ds.map fun d => D.bl (g d))).bind fun s => some (g d :: s)) = _
    rw [blsD_map g ds]; rfl
theorem intsD_map : ∀ ns : List Int, intsD (ns.map D.int) = some ns
  | [] => rfl
  | d :: ds => by
    show ((intsD (ds.map D.int)).bind fun s => some (d :: s)) = _
    rw [intsD_map ds]; rfl
theorem strsD_map : ∀ ns : List Str, strsD (ns.map D.str) = some ns
  | [] => rfl
  | d :: ds => by
    show ((strsD (ds.map D.str)).bind fun s => some (d :: s)) = _
    rw [strsD_map ds]; rfl
theorem whole_ints {lo hi : Int} : ∀ {ds : List D}, ds.all (wholeD lo hi) = true → ∃ ns : List Int, ds = ns.map D.int ∧ ∀ n ∈ ns, lo ≤ n ∧ n ≤ hi
  | [], _ => ⟨[], rfl, fun _ h => nomatch h⟩
  | d :: ds, h => by
    obtain ⟨h1, h2⟩ := and2 (show (wholeD lo hi d && ds.all (wholeD lo hi)) = true by simpa using h)
    obtain ⟨ns, rfl, h3⟩ := whole_ints h2
    cases d <;> first | (cases h1; done) | skip
    rename_i i
    have h4 := and2 (show (decide (lo ≤ i) && decide (i ≤ hi)) = true from h1)
    refine ⟨i :: ns, rfl, fun n hn => ?_⟩
    rcases List.mem_cons.mp hn with rfl | hn
    · exact ⟨of_decide_eq_true h4.1, of_decide_eq_true h4.2⟩
    · exact h3 n hn
theorem fits_ok (d : D) (h : plnD d = true) : F_p_fits_train [d] = some (.val (.bl (trainB d)), []) := by
  cases d with
  | tup ds =>
    apply of_W
    have hp : plnDs ds = true := h
    have h1 := istup_ok (.tup ds) 0 60 (pl_sort h)
    simp [F_p_fits_train, b_p_fits_train, defF_eq, N_p_fits_train, Γ_p_fits_train, h1]
    refine ⟨fun hlen => ?_, fun hlen => ⟨fun _ => ?_, fun h => by omega⟩⟩
    · refine W_lc (fun _ => true) (fun d => .bl (wholeD 0 99 d)) ?_
      simp [wipeE, restoreE, isData, Tg.slots]
      rw [List.filter_eq_self.mpr (fun _ _ => rfl), blsD_map]
      simp
      refine ⟨by omega, fun d hd => ?_, fun x hx hw => ?_, fun hall => ?_⟩
      · rw [whole_ok d 0 99 (pl_sort (pls_mem hp d hd))]
        simp
      · have : ds.all (wholeD 0 99) = false := List.all_eq_false.mpr ⟨x, hx, by simp [hw]⟩
        simp [trainB, this]
      · have ha : ds.all (wholeD 0 99) = true := List.all_eq_true.mpr fun x hx => by
          have := hall x hx
          simpa using this
        obtain ⟨ns, rfl, hns⟩ := whole_ints ha
        rw [intsD_map]
        have hl : ns.length ≤ 60 := by
          rw [List.length_map] at hlen
          omega
        simp [trainB, ha, intsD_map, hl, eqD, scalD]
        refine ⟨by omega, ?_⟩
        rw [Bool.eq_iff_iff]
        simp
        omega
    · simp [trainB]; omega
  | scr _ => cases h
  | dic _ _ => cases h
  | _ => rw [V_p_fits_train]; kernel_rfl
theorem uniqI_le : ∀ ns : List Int, (uniqI ns).length ≤ ns.length
  | [] => Nat.le_refl _
  | a :: r => by
    unfold uniqI
    have ih := uniqI_le r
    split
    · exact Nat.le_succ_of_le ih
    · exact Nat.succ_le_succ ih
theorem uniqI_nodup : ∀ ns : List Int, (uniqI ns).length = ns.length ↔ ns.Nodup
  | [] => by simp [uniqI]
  | a :: r => by
    have h1 := uniqI_le r
    have ih := uniqI_nodup r
    have e0 : uniqI (a :: r) = if r.elem a then uniqI r else a :: uniqI r := rfl
    rw [List.nodup_cons, ← ih, e0]
    by_cases h : r.elem a = true
    · rw [if_pos h]
      have ha : a ∈ r := by simpa using h
      constructor
      · intro z
        rw [List.length_cons] at z
        omega
      · exact fun z => absurd ha z.1
    · rw [if_neg h]
      have ha : a ∉ r := fun z => h (by simpa using z)
      constructor
      · intro z
        rw [List.length_cons, List.length_cons] at z
        exact ⟨ha, by omega⟩
      · intro z
        rw [List.length_cons, List.length_cons]
        omega
theorem nodup_take {ns : List Int} : (∀ (i : Nat) (x : Int), ns[i]? = some x → x ∉ ns.take i) ↔ ns.Nodup := by
  constructor
  · intro h
    refine List.pairwise_iff_getElem.mpr fun i j hi hj hij e => ?_
    refine h j ns[j] (List.getElem?_eq_getElem hj) ?_
    rw [← e]
    refine List.mem_iff_getElem?.mpr ⟨i, ?_⟩
    rw [List.getElem?_take, if_pos hij]
    exact List.getElem?_eq_getElem hi
  · intro h i x hx hm
    obtain ⟨j, hj⟩ := List.mem_iff_getElem?.mp hm
    rw [List.getElem?_take] at hj
    split at hj
    · rename_i hji
      obtain ⟨h1, h2⟩ := List.getElem?_eq_some_iff.mp hj
      obtain ⟨h3, h4⟩ := List.getElem?_eq_some_iff.mp hx
      exact List.pairwise_iff_getElem.mp h j i h1 h3 hji (by rw [h2, h4])
    · cases hj
theorem enumD_mem : ∀ (k : Nat) (ds : List D) (d : D), d ∈ enumD k ds → ∃ i x, d = .tup [.int ((k + i : Nat) : Int), x] ∧ ds[i]? = some x
  | k, [], _, h => nomatch h
  | k, e :: es, d, h => by
    rcases List.mem_cons.mp (show d ∈ _ :: enumD (k + 1) es from h) with rfl | h
    · exact ⟨0, e, by simp, rfl⟩
    · obtain ⟨i, x, h1, h2⟩ := enumD_mem (k + 1) es d h
      exact ⟨i + 1, x, by rw [h1]; congr 3; omega, by simpa using h2⟩
theorem any_eq (l : List Int) (x : Int) : (l.map D.int).any (fun z => eqD z (.int x)) = decide (x ∈ l) := by
  rw [Bool.eq_iff_iff]
  simp
theorem ixN_ok {n : Nat} {k : Int} (h0 : 0 ≤ k) (h1 : k < n) : ixN n k = some k.toNat := by
  unfold ixN
  rw [if_pos h0, if_pos h1]
theorem atI_ok {α : Type} {l : List α} {k : Int} (h0 : 0 ≤ k) (h1 : k < l.length) : ∃ h : k.toNat < l.length, atI l k = some l[k.toNat] := by
  have h : k.toNat < l.length := by omega
  refine ⟨h, ?_⟩
  unfold atI
  rw [ixN_ok h0 h1]
  exact List.getElem?_eq_getElem h
theorem erase_perm {α : Type} : ∀ (l : List α) (i : Nat) (h : i < l.length), (l[i] :: l.eraseIdx i).Perm l
  | [], _, h => absurd h (Nat.not_lt_zero _)
  | a :: l, 0, _ => .refl _
  | a :: l, i + 1, h => by
    have h' : i < l.length := by simpa using h
    have ih := erase_perm l i h'
    exact (List.Perm.swap a l[i] (l.eraseIdx i)).trans (ih.cons a)
theorem ndls_int : ∀ ns : List Int, ndls (ns.map D.int) = true
  | [] => rfl
  | _ :: ns => ndls_int ns
theorem perm_int {es : List D} {ns : List Int} (h : es.Perm (ns.map D.int)) : ∃ ms : List Int, es = ms.map D.int ∧ ms.Perm ns := by
  have h1 : ∀ d ∈ es, ∃ i, d = D.int i := fun d hd => by
    obtain ⟨i, _, e⟩ := List.mem_map.mp (h.mem_iff.mp hd)
    exact ⟨i, e.symm⟩
  have key : ∀ es : List D, (∀ d ∈ es, ∃ i, d = D.int i) → ∃ ms : List Int, es = ms.map D.int := by
    intro es
    induction es with
    | nil => exact fun _ => ⟨[], rfl⟩
    | cons e es ih =>
      intro h
      obtain ⟨i, rfl⟩ := h _ List.mem_cons_self
      obtain ⟨ms, rfl⟩ := ih fun d hd => h d (List.mem_cons_of_mem _ hd)
      exact ⟨i :: ms, rfl⟩
  obtain ⟨ms, rfl⟩ := key es h1
  refine ⟨ms, rfl, ?_⟩
  have e : ∀ l : List Int, (l.map D.int).filterMap (fun d => match d with | .int i => some i | _ => none) = l := by
    intro l
    induction l with
    | nil => rfl
    | cons a l ih =>
      show a :: _ = _
      rw [ih]
  have := h.filterMap (fun d => match d with | .int i => some i | _ => none)
  rwa [e, e] at this
theorem seqI_ok {n : Nat} {k : Int} (h0 : 0 ≤ k) (h1 : k < n) : seqIndex? k n = some k.toNat := (ixN_seq (ixN_ok h0 h1)).1
theorem line_ok (a b : Int) (ds : List D) (h2 : ds.length ≤ 60) (hk : ∀ d ∈ ds, okN 30 d) : W (F_q_law_line [.lst [.int a, .int b], .lst ds]) fun r => ∃ a' b' es, r = (.new es, [.int a', .int b']) ∧ es.Perm ds := by
  simp [F_q_law_line, b_q_law_line, defF_eq, N_q_law_line, Γ_q_law_line]
  refine W_whl (fun n ρ => ∃ a b l f, ρ = [Ent.io [D.int a, D.int b], Ent.val (D.lst ds), Ent.own l, Ent.own f] ∧ l.length = n ∧ (f ++ l).Perm ds) ds.length (by omega) ⟨a, b, ds, [], rfl, rfl, .refl _⟩ ?_
  rintro n ρ ⟨a, b, l, f, rfl, rfl, hp⟩
  have hl : (f ++ l).length ≤ 60 := by rw [hp.length_eq]; exact h2
  rw [List.length_append] at hl
  have hs : shpD (.lst l) = true := okN.shp (n := 31) (okN.lst fun d hd => hk d (hp.mem_iff.mp (List.mem_append_right _ hd)))
  cases l with
  | nil =>
    simp at hp ⊢
    exact ⟨_, _, _, ⟨rfl, rfl, rfl⟩, hp⟩
  | cons d l =>
    simp [hs]
    refine W_mono (roll_ok a b _ (by omega) (by simp at hl; omega)) ?_
    rintro _ ⟨a', b', k, rfl, k0, k1⟩
    have hk2 : k.toNat < (d :: l).length := by simp; omega
    have e1 : seqIndex? k (l.length + 1) = some k.toNat := seqI_ok k0 (by omega)
    have e2 : (d :: l)[k.toNat]? = some (d :: l)[k.toNat] := List.getElem?_eq_getElem hk2
    have h9 : k < 9223372036854775808 := by simp at hl; omega
    have h8 : -9223372036854775808 ≤ k := by omega
    simp [e1, e2, h8, h9]
    refine ⟨by simp at hl; omega, l.length, by omega, a', b', _, _, ⟨⟨rfl, rfl⟩, rfl, rfl⟩, by rw [List.length_eraseIdx_of_lt hk2]; rfl, ?_⟩
    rw [List.append_assoc]
    exact ((erase_perm _ _ hk2).append_left f).trans hp
theorem cut_mem {ds : List D} {lo hi : Option Int} {d : D} (h : d ∈ cutD ds lo hi) : d ∈ ds := List.mem_of_mem_drop (List.mem_of_mem_take h)
theorem cut_len (ds : List D) (lo hi : Option Int) : (cutD ds lo hi).length ≤ ds.length := by
  unfold cutD
  rw [List.length_take, List.length_drop]
  omega
theorem ok_int (i : Int) (n : Nat) : okN n (.int i) := ⟨rfl, Nat.zero_le _⟩
/-- two bools beside one another -/
theorem like_bl (x y : Bool) : F_q_law_like [.bl x, .bl y] = some (.val (.bl (x == y)), []) := by
  rw [V_q_law_like]
  cases x <;> cases y <;> kernel_rfl
/-! ### the law's own comparison -/
mutual
def likeD : D → D → Bool
  | .non, .non => true
  | .bl a, .bl b => a == b
  | .int a, .int b => a == b
  | .str a, .str b => a == b
  | .lst a, .lst b => likeDs a b
  | .tup a, .tup b => likeDs a b
  | _, _ => false
def likeDs : List D → List D → Bool
  | [], [] => true
  | a :: r, b :: t => likeD a b && likeDs r t
  | _, _ => false
end
mutual
theorem like_self : ∀ d : D, plnD d = true → likeD d d = true
  | .non, _ => rfl
  | .bl b, _ => by simp [likeD]
  | .int b, _ => by simp [likeD]
  | .str b, _ => by simp [likeD]
  | .lst ds, h => by
    unfold likeD
    exact likes_self ds h
  | .tup ds, h => by
    unfold likeD
    exact likes_self ds h
  | .scr _, h => by cases h
  | .dic _ _, h => by cases h
theorem likes_self : ∀ ds : List D, plnDs ds = true → likeDs ds ds = true
  | [], _ => rfl
  | d :: ds, h => by
    have h2 := and2 (show (plnD d && plnDs ds) = true from h)
    unfold likeDs
    rw [like_self d h2.1, likes_self ds h2.2]
    rfl
end
theorem like_sort {d e : D} (h : sortD d ≠ sortD e) : likeD d e = false := by
  cases d <;> cases e <;> first | rfl | exact absurd rfl h
theorem likes_len : ∀ {a b : List D}, likeDs a b = true → a.length = b.length
  | [], [], _ => rfl
  | a :: r, b :: t, h => by
    have := likes_len (and2 (show (likeD a b && likeDs r t) = true from h)).2
    simp [this]
  | [], _ :: _, h => by cases h
  | _ :: _, [], h => by cases h
def nlk : D → Bool
  | .tup [x, y] => !likeD x y
  | _ => false
theorem likes_zip : ∀ {a b : List D}, a.length = b.length → likeDs a b = ((zipD a b).filter nlk).isEmpty
  | [], [], _ => rfl
  | a :: r, b :: t, h => by
    have ih := likes_zip (a := r) (b := t) (by simpa using h)
    have e : zipD (a :: r) (b :: t) = .tup [a, b] :: zipD r t := rfl
    have e2 : nlk (.tup [a, b]) = !likeD a b := rfl
    rw [e, List.filter_cons, e2]
    unfold likeDs
    cases c : likeD a b with
    | true => simpa using ih
    | false => simp
  | [], _ :: _, h => by cases h
  | _ :: _, [], h => by cases h
theorem zip_mem : ∀ {a b : List D} {x : D}, x ∈ zipD a b → ∃ y z, x = .tup [y, z] ∧ y ∈ a ∧ z ∈ b
  | [], _, _, h => by cases h
  | _ :: _, [], _, h => by cases h
  | y :: r, z :: t, x, h => by
    rcases List.mem_cons.mp (show x ∈ .tup [y, z] :: zipD r t from h) with rfl | h
    · exact ⟨y, z, rfl, by simp, by simp⟩
    · obtain ⟨y', z', e, h1, h2⟩ := zip_mem h
      exact ⟨y', z', e, by simp [h1], by simp [h2]⟩
/-- plain data of bounded depth and length -/
def okZ : Nat → D → Bool
  | _, .non => true
  | _, .bl _ => true
  | _, .int _ => true
  | _, .str x => plnD (.str x)
  | n + 1, .lst ds => decide (ds.length ≤ 1000000) && ds.all (okZ n)
  | n + 1, .tup ds => decide (ds.length ≤ 1000000) && ds.all (okZ n)
  | _, _ => false
theorem okZ_okN : ∀ {n : Nat} {d : D}, okZ n d = true → okN n d := by
  intro n
  induction n with
  | zero =>
    intro d h
    cases d with
    | str x => exact ⟨h, Nat.le_refl _⟩
    | _ => first | (cases h; done) | exact ⟨rfl, Nat.le_refl _⟩
  | succ n ih =>
    intro d h
    cases d with
    | str x => exact ⟨h, Nat.zero_le _⟩
    | lst ds => exact okN.lst fun x hx => ih (List.all_eq_true.mp (and2 (show (decide (ds.length ≤ 1000000) && ds.all (okZ n)) = true from h)).2 x hx)
    | tup ds => exact okN.tup fun x hx => ih (List.all_eq_true.mp (and2 (show (decide (ds.length ≤ 1000000) && ds.all (okZ n)) = true from h)).2 x hx)
    | _ => first | (cases h; done) | exact ⟨rfl, Nat.zero_le _⟩
theorem like_step (F : List D → Option (RV × List D)) (n : Nat) (d e : D) (hd : okZ n d = true) (he : okZ n e = true) (hn : n ≤ 50)
    (h : ∀ m, n = m + 1 → ∀ x y, okZ m x = true → okZ m y = true → F [x, y] = some (.val (.bl (likeD x y)), [])) : defF (semB (Γ_q_law_like F) b_q_law_like) N_q_law_like 2 false [d, e] = some (.val (.bl (likeD d e)), []) := by
  have s1 := sort_ok d (pl_sort (okZ_okN hd).1)
  have s2 := sort_ok e (pl_sort (okZ_okN he).1)
  apply of_W
  simp [b_q_law_like, N_q_law_like, Γ_q_law_like, defF_eq, s1, s2]
  by_cases hs : sortD d = sortD e
  · refine .inl ⟨hs, .inl ⟨pl_sort (okZ_okN he).1, ?_⟩⟩
    have key : ∀ (m : Nat) (s : Int) (as bs : List D), n = m + 1 → as.length ≤ 1000000 → as.all (okZ m) = true → bs.all (okZ m) = true → itemsD d = some as → itemsD e = some bs →
        W (lcV (zipI (Ar.fz 0) (Ar.fz 1)) (Tg.tup [3, 4]) [3, 4] (notT (testA (Ar.ex (callV F [Ar.fz 3, Ar.fz 4])))) (Ar.ex (constV (D.int 1))) [Ent.val d, Ent.val e, Ent.val (D.int s), Ent.no, Ent.no]) fun x => x.1 = .new (((zipD as bs).filter nlk).map fun _ => D.int 1) := by
      intro m s as bs hm hl ha hb ia ib
      refine W_lc nlk (fun _ => D.int 1) ?_
      simp [ia, ib, wipeE, restoreE, isData, Tg.slots]
      refine ⟨by rw [zipD_len]; omega, fun x hx => ?_⟩
      obtain ⟨y, z, rfl, hy, hz⟩ := zip_mem hx
      simp [h m hm y z (List.all_eq_true.mp ha y hy) (List.all_eq_true.mp hb z hz), nlk]
    have fin : ∀ (as bs : List D) (r : RV), r = .new (((zipD as bs).filter nlk).map fun _ => D.int 1) → as.length = bs.length → (scalD r.d (.lst []) = true ∨ shpD r.d = true) ∧ eqD r.d (.lst []) = likeDs as bs := by
      rintro as bs _ rfl hl
      refine ⟨.inr (okN.shp (n := 1) (okN.lst fun x hx => ?_)), ?_⟩
      · obtain ⟨_, _, rfl⟩ := List.mem_map.mp hx
        exact ⟨rfl, Nat.le_refl _⟩
      · simp [likes_zip hl]
    have ne : ∀ (as bs : List D), as.length ≠ bs.length → likeDs as bs = false := fun as bs hl => by
      cases q : likeDs as bs with
      | false => rfl
      | true => exact absurd (likes_len q) hl
    cases d with
    | lst as =>
      cases e <;> first | (cases hs; done) | skip
      rename_i bs
      cases n with
      | zero => cases hd
      | succ m =>
        have q1 := and2 (show (decide (as.length ≤ 1000000) && as.all (okZ m)) = true from hd)
        have q2 := and2 (show (decide (bs.length ≤ 1000000) && bs.all (okZ m)) = true from he)
        refine .inr ⟨.inr rfl, ?_⟩
        simp
        refine ⟨fun hl => ?_, fun hl => ?_⟩
        · exact W_mono (key m _ as bs rfl (of_decide_eq_true q1.1) q1.2 q2.2 rfl rfl) fun x hx => fin as bs x.1 hx (by omega)
        · rw [show likeD _ _ = likeDs as bs by simp [likeD], ne as bs (by omega)]
          simpa using hl
    | tup as =>
      cases e <;> first | (cases hs; done) | skip
      rename_i bs
      cases n with
      | zero => cases hd
      | succ m =>
        have q1 := and2 (show (decide (as.length ≤ 1000000) && as.all (okZ m)) = true from hd)
        have q2 := and2 (show (decide (bs.length ≤ 1000000) && bs.all (okZ m)) = true from he)
        refine .inr ⟨.inl rfl, ?_⟩
        simp
        refine ⟨fun hl => ?_, fun hl => ?_⟩
        · exact W_mono (key m _ as bs rfl (of_decide_eq_true q1.1) q1.2 q2.2 rfl rfl) fun x hx => fin as bs x.1 hx (by omega)
        · rw [show likeD _ _ = likeDs as bs by simp [likeD], ne as bs (by omega)]
          simpa using hl
    | scr _ => cases (okZ_okN hd).1
    | dic _ _ => cases (okZ_okN hd).1
    | _ => 
      cases e <;> first | (cases hs; done) | skip
      all_goals exact .inl ⟨⟨by simp [sortD], by simp [sortD]⟩, .inl rfl, rfl⟩
  · exact .inr ⟨hs, like_sort hs⟩
theorem like_ok {n : Nat} {d e : D} (hd : okZ n d = true) (he : okZ n e = true) (hn : n ≤ 11 := by decide) : F_q_law_like [d, e] = some (.val (.bl (likeD d e)), []) := by
  have key : ∀ (k n : Nat) (d e : D), okZ n d = true → okZ n e = true → n ≤ 50 → n < k → recF (fun F => defF (semB (Γ_q_law_like F) b_q_law_like) N_q_law_like 2 false) k [d, e] = some (.val (.bl (likeD d e)), []) := by
    intro k
    induction k with
    | zero => intro n d e _ _ _ h; omega
    | succ k ih =>
      intro n d e h1 h2 h3 h4
      exact like_step _ n d e h1 h2 h3 fun m hm x y hx hy => ih m x y hx hy (by omega) (by omega)
  rw [U_q_law_like]
  exact key 12 n d e hd he (by omega) (by omega)
theorem like_yes {n : Nat} {d : D} (hd : okZ n d = true) (hn : n ≤ 11 := by decide) : F_q_law_like [d, d] = some (.val (.bl true), []) := by
  rw [like_ok hd hd hn, like_self d (okZ_okN hd).1]
@[simp] theorem cut_ton (ds : List D) (n : Nat) : cutD ds none (some (n : Int)) = ds.take n := by rw [cut_to _ _ (by omega)]; rfl
@[simp] theorem cut_fromn (ds : List D) (n : Nat) : cutD ds (some (n : Int)) none = ds.drop n := by rw [cut_from _ _ (by omega)]; rfl
@[simp] theorem cut_to1 (ds : List D) (n : Nat) : cutD ds none (some ((n : Int) + 1)) = ds.take (n + 1) := by rw [cut_to _ _ (by omega)]; rfl
@[simp] theorem cut_from1 (ds : List D) (n : Nat) : cutD ds (some ((n : Int) + 1)) none = ds.drop (n + 1) := by rw [cut_from _ _ (by omega)]; rfl
@[simp] theorem cut_from_one (ds : List D) : cutD ds (some 1) none = ds.drop 1 := by rw [cut_from _ _ (by omega)]; rfl
theorem rngD2 (i j : Int) : rngD [.int i, .int j] = if in62 i && in62 j then some ((List.range (j - i).toNat).map fun (n : Nat) => D.int (i + n)) else none := rfl
theorem rngD3 (i j c : Int) : rngD [.int i, .int j, .int c] = if decide (c ≠ 0) && decide (c.natAbs < 1073741824) && decide (i.natAbs < 1099511627776) && decide (j.natAbs < 1099511627776) then
      some ((List.range (rsz i j c)).map fun (n : Nat) => D.int (i + n * c)) else none := rfl
theorem rngD3' {i j c : Int} {n : Nat} (h : c ≠ 0) (h1 : c.natAbs < 1073741824) (h2 : i.natAbs < 1099511627776) (h3 : j.natAbs < 1099511627776) (e : rsz i j c = n) : rngD [.int i, .int j, .int c] = some ((List.range n).map fun (n : Nat) => D.int (i + n * c)) := by
  rw [rngD3, decide_eq_true h, decide_eq_true h1, decide_eq_true h2, decide_eq_true h3, e]; rfl
end My

namespace My
/-! ### plain facts: places, falling pairs -/
def rkI (t : List Int) (w : Int) : Nat := t.countP fun x => decide (x < w)
def upI (t : List Int) (w : Int) : Nat := t.countP fun x => decide (w < x)
def invI : List Int → Nat
  | [] => 0
  | a :: r => rkI r a + invI r
theorem rk_up {t : List Int} {w : Int} (h : w ∉ t) : rkI t w + upI t w = t.length := by
  induction t with
  | nil => rfl
  | cons a t ih =>
    have h1 : w ∉ t := fun z => h (List.mem_cons_of_mem _ z)
    have h2 : a ≠ w := fun z => h (by simp [z])
    have ih := ih h1
    unfold rkI upI at *
    simp only [List.countP_cons, List.length_cons]
    by_cases c : a < w
    · have c2 : ¬ w < a := by omega
      simp [c, c2]; omega
    · have c2 : w < a := by omega
      simp [c, c2]; omega
theorem rk_perm {t u : List Int} (h : t.Perm u) (w : Int) : rkI t w = rkI u w := h.countP_eq _
theorem up_perm {t u : List Int} (h : t.Perm u) (w : Int) : upI t w = upI u w := h.countP_eq _
theorem rk_app (t u : List Int) (w : Int) : rkI (t ++ u) w = rkI t w + rkI u w := List.countP_append
theorem up_app (t u : List Int) (w : Int) : upI (t ++ u) w = upI t w + upI u w := List.countP_append
theorem inv_snoc (t : List Int) (w : Int) : invI (t ++ [w]) = invI t + upI t w := by
  induction t with
  | nil => simp [invI, rkI, upI]
  | cons a t ih =>
    show rkI (t ++ [w]) a + invI (t ++ [w]) = rkI t a + invI t + upI (a :: t) w
    rw [ih, rk_app]
    have e1 : upI (a :: t) w = (if w < a then 1 else 0) + upI t w := by
      unfold upI; rw [List.countP_cons]; by_cases c : w < a <;> simp [c] ; omega
    have e2 : rkI [w] a = if w < a then 1 else 0 := by
      unfold rkI; by_cases c : w < a <;> simp [c]
    rw [e1, e2]; omega
theorem inv_rev : ∀ {t : List Int}, t.Nodup → 2 * (invI t.reverse + invI t) = t.length * (t.length - 1)
  | [], _ => rfl
  | a :: t, h => by
    obtain ⟨h1, h2⟩ := List.nodup_cons.mp h
    have ih := inv_rev h2
    have e := rk_up h1
    rw [List.reverse_cons, inv_snoc, up_perm (List.reverse_perm t)]
    show 2 * (invI t.reverse + upI t a + (rkI t a + invI t)) = (t.length + 1) * t.length
    have : 2 * (invI t.reverse + upI t a + (rkI t a + invI t)) = 2 * (invI t.reverse + invI t) + 2 * (rkI t a + upI t a) := by omega
    rw [this, ih, e]
    cases hl : t.length with
    | zero => rfl
    | succ n =>
      have h3 : n + 1 - 1 = n := rfl
      rw [h3]
      have : (n + 1 + 1) * (n + 1) = (n + 1) * n + 2 * (n + 1) := by
        rw [Nat.add_mul (n + 1) 1, Nat.mul_add (n + 1) n 1]; omega
      omega
theorem rk_mono {t : List Int} {x y : Int} (hx : x ∈ t) (h : x < y) : rkI t x < rkI t y := by
  induction t with
  | nil => cases hx
  | cons a t ih =>
    have le : rkI t x ≤ rkI t y := List.countP_mono_left fun z _ hz => by simp at *; omega
    have e : ∀ w, rkI (a :: t) w = (if a < w then 1 else 0) + rkI t w := fun w => by
      unfold rkI; rw [List.countP_cons]; by_cases c : a < w <;> simp [c]; omega
    rw [e, e]
    rcases List.mem_cons.mp hx with rfl | hx
    · simp [h]; omega
    · have := ih hx
      by_cases c1 : a < x
      · have c2 : a < y := by omega
        simp [c1, c2]; omega
      · by_cases c2 : a < y <;> simp [c1, c2] <;> omega
theorem rk_lt {t : List Int} {x y : Int} (hx : x ∈ t) (hy : y ∈ t) : rkI t x < rkI t y ↔ x < y := by
  constructor
  · intro h
    rcases Int.lt_trichotomy x y with c | c | c
    · exact c
    · subst c; omega
    · have := rk_mono hy c; omega
  · exact rk_mono hx
theorem rk_bound (t : List Int) (w : Int) : rkI t w ≤ t.length := List.countP_le_length
theorem rk_bound2 {t : List Int} {w : Int} (h : w ∈ t) : rkI t w < t.length := by
  refine Nat.lt_of_le_of_ne (rk_bound t w) fun e => ?_
  have := List.countP_eq_length.mp e w h
  simp at this
/-- the numbers in another dress of the same order -/
theorem rk_map {f : Int → Int} {t : List Int} {w : Int} (h : ∀ x ∈ t, f x < f w ↔ x < w) : rkI (t.map f) (f w) = rkI t w := by
  unfold rkI
  rw [List.countP_map]
  exact List.countP_congr fun x hx => by simp [h x hx]
theorem inv_map {f : Int → Int} : ∀ {t : List Int}, (∀ x ∈ t, ∀ y ∈ t, f x < f y ↔ x < y) → invI (t.map f) = invI t
  | [], _ => rfl
  | a :: t, h => by
    show rkI (t.map f) (f a) + invI (t.map f) = _
    rw [rk_map fun x hx => h x (by simp [hx]) a (by simp), inv_map fun x hx y hy => h x (by simp [hx]) y (by simp [hy])]
    rfl
def plI (t : List Int) : List Int := t.map fun w => (rkI t w : Int)
theorem pl_mono {t : List Int} : ∀ x ∈ t, ∀ y ∈ t, ((rkI t x : Int) < (rkI t y : Int)) ↔ x < y := fun x hx y hy => by
  have := rk_lt hx hy
  omega
theorem pl_inv (t : List Int) : invI (plI t) = invI t := inv_map pl_mono
theorem pl_pl (t : List Int) : plI (plI t) = plI t := by
  unfold plI
  rw [List.map_map]
  refine List.map_congr_left fun w hw => ?_
  show ((rkI (t.map fun w => (rkI t w : Int)) (rkI t w : Int) : Nat) : Int) = _
  rw [rk_map (f := fun w => (rkI t w : Int)) fun x hx => pl_mono x hx w hw]
theorem pl_nodup {t : List Int} (h : t.Nodup) : (plI t).Nodup := by
  refine List.pairwise_map.mpr ?_
  refine List.Pairwise.imp_of_mem (fun {x y} hx hy hn e => ?_) h
  have h1 := rk_lt hx hy
  have h2 := rk_lt hy hx
  omega
theorem pl_mem {t : List Int} {i : Int} (h : i ∈ plI t) : 0 ≤ i ∧ i < t.length := by
  obtain ⟨w, hw, rfl⟩ := List.mem_map.mp h
  have := rk_bound2 hw
  omega
def riseI : List Int → Bool
  | [] => true
  | a :: r => (match r with | [] => true | b :: _ => decide (a < b)) && riseI r
theorem rise_pw : ∀ {t : List Int}, riseI t = true ↔ t.Pairwise (· < ·)
  | [] => by simp [riseI]
  | [a] => by simp [riseI]
  | a :: b :: r => by
    have ih := rise_pw (t := b :: r)
    have e : riseI (a :: b :: r) = (decide (a < b) && riseI (b :: r)) := rfl
    rw [e, Bool.and_eq_true, ih, List.pairwise_cons (a := a), decide_eq_true_iff]
    constructor
    · rintro ⟨h1, h2⟩
      refine ⟨fun x hx => ?_, h2⟩
      rcases List.mem_cons.mp hx with rfl | hx
      · exact h1
      · have := (List.pairwise_cons.mp h2).1 x hx
        omega
    · rintro ⟨h1, h2⟩
      exact ⟨h1 b (by simp), h2⟩
theorem rise_inv {t : List Int} (hn : t.Nodup) : riseI t = decide (invI t = 0) := by
  rw [Bool.eq_iff_iff, rise_pw, decide_eq_true_iff]
  induction t with
  | nil => simp [invI]
  | cons a t ih =>
    obtain ⟨h1, h2⟩ := List.nodup_cons.mp hn
    have e : invI (a :: t) = rkI t a + invI t := rfl
    rw [List.pairwise_cons, ih h2, e]
    have k : rkI t a = 0 ↔ ∀ x ∈ t, a < x := by
      unfold rkI
      rw [List.countP_eq_zero]
      constructor
      · intro h x hx
        have := h x hx
        have hne : x ≠ a := fun z => h1 (z ▸ hx)
        simp at this; omega
      · intro h x hx
        have := h x hx
        simp; omega
    rw [← k]; omega
/-- the place in a sorted list is the number of the lesser ones -/
theorem idx_sorted : ∀ {s : List Int} {w : Int}, s.Pairwise (· ≤ ·) → w ∈ s → s.idxOf w = rkI s w
  | [], _, _, h => nomatch h
  | a :: s, w, hs, hw => by
    have hs' := List.pairwise_cons.mp hs
    rw [List.idxOf_cons]
    have e : rkI (a :: s) w = (if a < w then 1 else 0) + rkI s w := by
      unfold rkI; rw [List.countP_cons]; by_cases c : a < w <;> simp [c]; omega
    by_cases c : a = w
    · subst c
      have : rkI s a = 0 := by
        unfold rkI
        rw [List.countP_eq_zero]
        intro x hx
        have := hs'.1 x hx
        simp; omega
      simp [e, this]
    · have hw' : w ∈ s := by
        rcases List.mem_cons.mp hw with h | h
        · exact absurd h.symm c
        · exact h
      have hlt : a < w := by have := hs'.1 w hw'; omega
      have ih := idx_sorted hs'.2 hw'
      have hb : (a == w) = false := by simpa using c
      rw [hb, e, ih]; simp [hlt]; omega
end My

namespace My
open PySem PySem.Spec PyProof.Rows L2
/-! ### a train of whole numbers -/
def TrI (t : List Int) : Prop := t.length ≤ 60 ∧ t.Nodup ∧ ∀ n ∈ t, 0 ≤ n ∧ n ≤ 99
abbrev tD (t : List Int) : D := .tup (t.map D.int)
theorem tD_ok (t : List Int) : okN 1 (tD t) := okN.tup fun d hd => by
  obtain ⟨i, _, rfl⟩ := List.mem_map.mp hd
  exact ok_int i 0
theorem tr_fits {t : List Int} (h : TrI t) : F_p_fits_train [tD t] = some (.val (.bl true), []) := by
  rw [fits_ok _ (tD_ok t).1]
  have e : trainB (tD t) = true := by
    have h1 : (t.map D.int).all (wholeD 0 99) = true := List.all_eq_true.mpr fun d hd => by
      obtain ⟨i, hi, rfl⟩ := List.mem_map.mp hd
      have := h.2.2 i hi
      simp [wholeD, this]
    simp [trainB, h1, intsD_map, h.1, uniqI_nodup, h.2.1]
  rw [e]
theorem tr_need {t : List Int} (h : TrI t) : F_p_need_train [tD t] = some (.val .non, []) := by
  apply of_W
  simp [F_p_need_train, b_p_need_train, defF_eq, N_p_need_train, Γ_p_need_train, tr_fits h]
def riseF : D → Bool
  | .tup [.int a, .int b] => decide (a < b)
  | _ => true
theorem rise_zip : ∀ t : List Int, ((zipD (t.map D.int) ((t.map D.int).drop 1)).map riseF).all id = riseI t
  | [] => rfl
  | [a] => rfl
  | a :: b :: r => by
    have ih := rise_zip (b :: r)
    have e : riseI (a :: b :: r) = (decide (a < b) && riseI (b :: r)) := rfl
    rw [e, ← ih]
    rfl
def ltF (w : Int) : D → Bool
  | .int x => decide (x < w)
  | _ => false
@[simp] theorem ltF_int (w x : Int) : ltF w (.int x) = decide (x < w) := rfl
@[simp] theorem rk_filter (u : List Int) (w : Int) : ((u.map D.int).filter (ltF w)).length = rkI u w := by
  induction u with
  | nil => rfl
  | cons a u ih =>
    unfold rkI at *
    rw [List.map_cons, List.filter_cons, List.countP_cons]
    by_cases c : a < w <;> simp [c] <;> omega
theorem enum_int {t : List Int} {i : Nat} {d : D} (h : (enumD 0 (t.map D.int))[i]? = some d) : ∃ k : i < t.length, d = .tup [.int (i : Int), .int t[i]] := by
  have hi : i < t.length := by
    have := (List.getElem?_eq_some_iff.mp h).1
    rw [enumD_len, List.length_map] at this
    exact this
  have e : (t.map D.int)[i]? = some (.int t[i]) := by rw [List.getElem?_map, List.getElem?_eq_getElem hi]; rfl
  have := enumD_get (t.map D.int) 0 i _ e
  rw [h] at this
  refine ⟨hi, ?_⟩
  rw [Option.some.inj this]
  simp
theorem okZ_int (n : Nat) (i : Int) : okZ n (.int i) = true := by cases n <;> rfl
theorem okZ_bl (n : Nat) (i : Bool) : okZ n (.bl i) = true := by cases n <;> rfl
theorem okZ_tD (n : Nat) {t : List Int} (h : t.length ≤ 1000) : okZ (n + 1) (tD t) = true := by
  show (decide ((t.map D.int).length ≤ 1000000) && (t.map D.int).all (okZ n)) = true
  rw [Bool.and_eq_true]
  refine ⟨decide_eq_true (by rw [List.length_map]; omega), List.all_eq_true.mpr fun d hd => ?_⟩
  obtain ⟨i, _, rfl⟩ := List.mem_map.mp hd
  exact okZ_int n i
theorem okZ_lst {n : Nat} {ds : List D} (h : ds.length ≤ 1000) (k : ∀ d ∈ ds, okZ n d = true) : okZ (n + 1) (.lst ds) = true := by
  show (decide (ds.length ≤ 1000000) && ds.all (okZ n)) = true
  rw [Bool.and_eq_true]
  exact ⟨decide_eq_true (by omega), List.all_eq_true.mpr k⟩
theorem rev_tr {t : List Int} (h : TrI t) : TrI t.reverse := ⟨by rw [List.length_reverse]; exact h.1, (List.reverse_perm t).nodup_iff.mpr h.2.1, fun n hn => h.2.2 n (List.mem_reverse.mp hn)⟩
theorem cut_both (ds : List D) (a b : Nat) : cutD ds (some (a : Int)) (some (b : Int)) = (ds.take b).drop a := by
  unfold cutD
  rw [show HT.sIx ds.length 0 (some ((a : Nat) : Int)) = min a ds.length from HT.sIx_nat _ _ _, show HT.sIx ds.length ds.length (some ((b : Nat) : Int)) = min b ds.length from HT.sIx_nat _ _ _, List.drop_take]
  by_cases h : a ≤ ds.length
  · rw [Nat.min_eq_left h]
    by_cases k : b ≤ ds.length
    · rw [Nat.min_eq_left k]
    · rw [Nat.min_eq_right (by omega), List.take_of_length_le (by simp), List.take_of_length_le (by simp; omega)]
  · rw [Nat.min_eq_right (show ds.length ≤ a by omega), List.drop_length, List.drop_of_length_le (by omega)]
    simp
end My

namespace My
/-! ### plain facts: longest chains -/
def mxN : List Nat → Nat
  | [] => 0
  | a :: r => max a (mxN r)
theorem mxN_le {l : List Nat} {x : Nat} (h : x ∈ l) : x ≤ mxN l := by
  induction l with
  | nil => cases h
  | cons a r ih =>
    unfold mxN
    rcases List.mem_cons.mp h with rfl | h
    · exact Nat.le_max_left _ _
    · exact Nat.le_trans (ih h) (Nat.le_max_right _ _)
theorem mxN_bound {l : List Nat} {n : Nat} (h : ∀ x ∈ l, x ≤ n) : mxN l ≤ n := by
  induction l with
  | nil => exact Nat.zero_le _
  | cons a r ih =>
    unfold mxN
    exact Nat.max_le.mpr ⟨h a (by simp), ih fun x hx => h x (by simp [hx])⟩
theorem mxN_mem {l : List Nat} (h : mxN l ≠ 0) : mxN l ∈ l := by
  induction l with
  | nil => exact absurd rfl h
  | cons a r ih =>
    have e : mxN (a :: r) = max a (mxN r) := rfl
    rw [e] at h ⊢
    rcases Nat.le_total a (mxN r) with c | c
    · rw [Nat.max_eq_right c] at h ⊢
      exact List.mem_cons_of_mem _ (ih h)
    · rw [Nat.max_eq_left c]
      simp
theorem mxN_app (a b : List Nat) : mxN (a ++ b) = max (mxN a) (mxN b) := by
  induction a with
  | nil => simp [mxN]
  | cons x a ih => simp [mxN, ih, Nat.max_assoc]
/-- an earlier wagon x may stand ahead of w in a chain -/
def relF (f : Bool) (x w : Int) : Bool := decide (w < x) == f
def topF (f : Bool) (acc : List (Int × Nat)) (w : Int) : Nat := mxN ((acc.filter fun p => relF f p.1 w).map Prod.snd)
def dpS (f : Bool) (acc : List (Int × Nat)) (w : Int) : List (Int × Nat) := acc ++ [(w, 1 + topF f acc w)]
def dp (f : Bool) (t : List Int) : List (Int × Nat) := t.foldl (dpS f) []
def best (f : Bool) (t : List Int) : Nat := mxN ((dp f t).map Prod.snd)
theorem dp_snoc (f : Bool) (t : List Int) (w : Int) : dp f (t ++ [w]) = dp f t ++ [(w, 1 + topF f (dp f t) w)] := by
  unfold dp
  rw [List.foldl_append]
  rfl
/-- lists grow at their end -/
theorem snoc_ind {α : Type} {P : List α → Prop} (h0 : P []) (h1 : ∀ l a, P l → P (l ++ [a])) (l : List α) : P l := by
  have : ∀ r : List α, P r.reverse := by
    intro r
    induction r with
    | nil => exact h0
    | cons a r ih => rw [List.reverse_cons]; exact h1 _ _ ih
  have := this l.reverse
  rwa [List.reverse_reverse] at this
theorem dp_fst (f : Bool) (t : List Int) : (dp f t).map Prod.fst = t := by
  induction t using snoc_ind with
  | h0 => rfl
  | h1 t w ih => rw [dp_snoc, List.map_append, ih]; rfl
theorem dp_pos {f : Bool} {t : List Int} {p : Int × Nat} (h : p ∈ dp f t) : 1 ≤ p.2 := by
  induction t using snoc_ind with
  | h0 => cases h
  | h1 t w ih =>
    rw [dp_snoc] at h
    rcases List.mem_append.mp h with h | h
    · exact ih h
    · rw [List.mem_singleton.mp h]; show 1 ≤ 1 + _; omega
theorem dp_mem {f : Bool} {t : List Int} {p : Int × Nat} (h : p ∈ dp f t) : p.1 ∈ t := by
  have := List.mem_map_of_mem (f := Prod.fst) h
  rwa [dp_fst] at this
theorem dp_len (f : Bool) (t : List Int) : (dp f t).length = t.length := by
  have := congrArg List.length (dp_fst f t)
  rwa [List.length_map] at this
/-- a chain -/
def Chn (f : Bool) (c : List Int) : Prop := c.Pairwise fun x y => relF f x y = true
/-- each entry is reached by a chain that ends there -/
theorem dp_chain {f : Bool} (tr : ∀ x y z : Int, relF f x y = true → relF f y z = true → relF f x z = true) {t : List Int} {p : Int × Nat} (h : p ∈ dp f t) : ∃ c, (c ++ [p.1]).Sublist t ∧ Chn f (c ++ [p.1]) ∧ c.length + 1 = p.2 := by
  induction t using snoc_ind generalizing p with
  | h0 => cases h
  | h1 t w ih =>
    rw [dp_snoc] at h
    rcases List.mem_append.mp h with h | h
    · obtain ⟨c, h1, h2, h3⟩ := ih h
      exact ⟨c, h1.trans (List.sublist_append_left _ _), h2, h3⟩
    · rw [List.mem_singleton.mp h]
      by_cases hz : topF f (dp f t) w = 0
      · refine ⟨[], ?_, ?_, ?_⟩
        · exact List.sublist_append_right t [w]
        · simp [Chn]
        · show 0 + 1 = 1 + topF f (dp f t) w
          rw [hz]
      · have hm := mxN_mem hz
        obtain ⟨q, hq, e⟩ := List.mem_map.mp hm
        obtain ⟨hq1, hq2⟩ := List.mem_filter.mp hq
        obtain ⟨c, h1, h2, h3⟩ := ih hq1
        refine ⟨c ++ [q.1], h1.append (List.Sublist.refl [w]), ?_, ?_⟩
        · refine List.pairwise_append.mpr ⟨h2, by simp, fun x hx y hy => ?_⟩
          rw [List.mem_singleton.mp hy]
          rcases List.mem_append.mp hx with hx | hx
          · exact tr x q.1 w ((List.pairwise_append.mp h2).2.2 x hx q.1 (by simp)) hq2
          · rw [List.mem_singleton.mp hx]; exact hq2
        · rw [List.length_append]
          show c.length + 1 + 1 = 1 + topF f (dp f t) w
          have : q.2 = topF f (dp f t) w := e
          omega
theorem sub_snoc {α : Type} {c t : List α} {w : α} (h : c.Sublist (t ++ [w])) : c.Sublist t ∨ ∃ d, c = d ++ [w] ∧ d.Sublist t := by
  obtain ⟨l, r, rfl, h1, h2⟩ := List.sublist_append_iff.mp h
  cases h2 with
  | cons _ h =>
    cases h
    left; simpa using h1
  | cons_cons _ h =>
    cases h
    exact .inr ⟨l, rfl, h1⟩
/-- no chain is longer than its end's entry -/
theorem dp_bound {f : Bool} {t : List Int} {c : List Int} {x : Int} (hs : (c ++ [x]).Sublist t) (hc : Chn f (c ++ [x])) : ∃ p ∈ dp f t, p.1 = x ∧ c.length + 1 ≤ p.2 := by
  induction t using snoc_ind generalizing c x with
  | h0 =>
    have := hs.length_le
    simp at this
  | h1 t w ih =>
    rw [dp_snoc]
    rcases sub_snoc hs with hs2 | ⟨d, e, hs2⟩
    · obtain ⟨p, hp, h1, h2⟩ := ih hs2 hc
      exact ⟨p, List.mem_append_left _ hp, h1, h2⟩
    · obtain ⟨rfl, rfl⟩ : c = d ∧ x = w := by
        have := List.append_inj' e rfl
        exact ⟨this.1, by simpa using this.2⟩
      refine ⟨_, List.mem_append_right _ (List.mem_singleton.mpr rfl), rfl, ?_⟩
      show c.length + 1 ≤ 1 + topF f (dp f t) x
      rcases List.eq_nil_or_concat c with rfl | ⟨c', y, rfl⟩
      · simp
      · rw [List.concat_eq_append] at hs2 hc ⊢
        have hc' := List.pairwise_append.mp hc
        obtain ⟨p, hp, h1, h2⟩ := ih hs2 hc'.1
        have hr : relF f y x = true := hc'.2.2 y (by simp) x (by simp)
        have : p.2 ≤ topF f (dp f t) x := mxN_le (List.mem_map_of_mem (f := Prod.snd) (List.mem_filter.mpr ⟨hp, by rw [h1]; exact hr⟩))
        rw [List.length_append]
        simp at *
        omega
theorem rel_tr_t (x y z : Int) (h1 : relF true x y = true) (h2 : relF true y z = true) : relF true x z = true := by
  simp [relF] at *; omega
theorem rel_tr_f (x y z : Int) (h1 : relF false x y = true) (h2 : relF false y z = true) : relF false x z = true := by
  simp [relF] at *; omega
theorem rel_tr (f : Bool) (x y z : Int) (h1 : relF f x y = true) (h2 : relF f y z = true) : relF f x z = true := by
  cases f
  · exact rel_tr_f x y z h1 h2
  · exact rel_tr_t x y z h1 h2
theorem best_chain (f : Bool) (t : List Int) : ∃ c, c.Sublist t ∧ Chn f c ∧ c.length = best f t := by
  by_cases h : best f t = 0
  · exact ⟨[], List.nil_sublist _, List.Pairwise.nil, by rw [h]; rfl⟩
  · obtain ⟨p, hp, e⟩ := List.mem_map.mp (mxN_mem h)
    obtain ⟨c, h1, h2, h3⟩ := dp_chain (rel_tr f) hp
    refine ⟨c ++ [p.1], h1, h2, ?_⟩
    rw [List.length_append]
    show c.length + 1 = best f t
    rw [h3]; exact e
theorem best_bound {f : Bool} {t c : List Int} (hs : c.Sublist t) (hc : Chn f c) : c.length ≤ best f t := by
  rcases List.eq_nil_or_concat c with rfl | ⟨c', y, rfl⟩
  · exact Nat.zero_le _
  · rw [List.concat_eq_append] at hs hc ⊢
    obtain ⟨p, hp, _, h⟩ := dp_bound hs hc
    rw [List.length_append]
    exact Nat.le_trans h (mxN_le (List.mem_map_of_mem hp))
/-- turned about -/
theorem best_rev {t : List Int} (hn : t.Nodup) : best true t.reverse = best false t := by
  refine Nat.le_antisymm ?_ ?_
  · obtain ⟨c, h1, h2, h3⟩ := best_chain true t.reverse
    rw [← h3, ← List.length_reverse]
    refine best_bound (f := false) (t := t) (by rw [← List.reverse_reverse t]; exact h1.reverse) ?_
    refine List.pairwise_reverse.mpr (h2.imp fun {x y} h => ?_)
    simp [relF] at *; omega
  · obtain ⟨c, h1, h2, h3⟩ := best_chain false t
    rw [← h3, ← List.length_reverse]
    refine best_bound (f := true) h1.reverse ?_
    have hcn : c.Nodup := hn.sublist h1
    refine List.pairwise_reverse.mpr ((List.Pairwise.and h2 hcn).imp fun {x y} h => ?_)
    have h0 := h.1
    have h9 := h.2
    simp [relF] at *; omega
end My

namespace My
theorem dp_order (f : Bool) (t : List Int) : (dp f t).Pairwise fun p q => relF f p.1 q.1 = true → p.2 < q.2 := by
  induction t using snoc_ind with
  | h0 => exact List.Pairwise.nil
  | h1 t w ih =>
    rw [dp_snoc]
    refine List.pairwise_append.mpr ⟨ih, by simp, fun p hp q hq h => ?_⟩
    rw [List.mem_singleton.mp hq] at h ⊢
    have : p.2 ≤ topF f (dp f t) w := mxN_le (List.mem_map_of_mem (f := Prod.snd) (List.mem_filter.mpr ⟨hp, h⟩))
    show p.2 < 1 + topF f (dp f t) w
    omega
theorem holes : ∀ (N : Nat) (L : List Nat), L.Nodup → (∀ x ∈ L, x < N) → L.length ≤ N
  | 0, L, _, h => by
    cases L with
    | nil => exact Nat.le_refl _
    | cons a r => exact absurd (h a (by simp)) (by omega)
  | N + 1, L, hn, h => by
    have h1 : ∀ x ∈ L.erase N, x < N := fun x hx => by
      have h2 := h x (List.mem_of_mem_erase hx)
      have h3 : x ≠ N := fun e => hn.not_mem_erase (e ▸ hx)
      omega
    have ih := holes N (L.erase N) (hn.erase N) h1
    by_cases c : N ∈ L
    · rw [List.length_erase_of_mem c] at ih; omega
    · rw [List.erase_of_not_mem c] at ih; omega
/-- as many wagons as falling times rising chains, at most -/
theorem best_best {t : List Int} (hn : t.Nodup) : t.length ≤ best true t * best false t := by
  by_cases hz : best false t = 0
  · cases t with
    | nil => simp
    | cons a r =>
      have := best_bound (f := false) (t := a :: r) (c := [a]) (by simp) (by simp [Chn])
      simp at this; omega
  have hA := dp_order true t
  have hB := dp_order false t
  have lA := dp_len true t
  have lB := dp_len false t
  have fA : ∀ i (h : i < t.length), ((dp true t)[i]'(by omega)).1 = t[i] := fun i h => by
    have e := dp_fst true t
    have : ((dp true t).map Prod.fst)[i]'(by rw [List.length_map]; omega) = t[i] := by simp only [e]
    simpa using this
  have fB : ∀ i (h : i < t.length), ((dp false t)[i]'(by omega)).1 = t[i] := fun i h => by
    have e := dp_fst false t
    have : ((dp false t).map Prod.fst)[i]'(by rw [List.length_map]; omega) = t[i] := by simp only [e]
    simpa using this
  have uA : ∀ i (h : i < t.length), 1 ≤ ((dp true t)[i]'(by omega)).2 ∧ ((dp true t)[i]'(by omega)).2 ≤ best true t := fun i h =>
    ⟨dp_pos (List.getElem_mem _), mxN_le (List.mem_map_of_mem (List.getElem_mem _))⟩
  have uB : ∀ i (h : i < t.length), 1 ≤ ((dp false t)[i]'(by omega)).2 ∧ ((dp false t)[i]'(by omega)).2 ≤ best false t := fun i h =>
    ⟨dp_pos (List.getElem_mem _), mxN_le (List.mem_map_of_mem (List.getElem_mem _))⟩
  let cd : Nat → Nat := fun i => if h : i < t.length then (((dp true t)[i]'(by omega)).2 - 1) * best false t + (((dp false t)[i]'(by omega)).2 - 1) else 0
  have cde : ∀ i (h : i < t.length), cd i = (((dp true t)[i]'(by omega)).2 - 1) * best false t + (((dp false t)[i]'(by omega)).2 - 1) := fun i h => dif_pos h
  have key := holes (best true t * best false t) ((List.range t.length).map cd) ?_ ?_
  · simpa using key
  · refine List.pairwise_map.mpr (List.Pairwise.imp_of_mem (R := fun a b => a < b) (fun {i j} hi hj hij => ?_) List.pairwise_lt_range)
    rw [List.mem_range] at hi hj
    rw [cde i hi, cde j hj]
    have n1 : t[i] ≠ t[j] := List.pairwise_iff_getElem.mp hn i j hi hj hij
    have a1 := List.pairwise_iff_getElem.mp hA i j (by omega) (by omega) hij
    have b1 := List.pairwise_iff_getElem.mp hB i j (by omega) (by omega) hij
    rw [fA i hi, fA j hj] at a1
    rw [fB i hi, fB j hj] at b1
    have ua := uA i hi
    have ua' := uA j hj
    have ub := uB i hi
    have ub' := uB j hj
    generalize ((dp true t)[i]'(by omega)).2 = a at *
    generalize ((dp true t)[j]'(by omega)).2 = a' at *
    generalize ((dp false t)[i]'(by omega)).2 = b at *
    generalize ((dp false t)[j]'(by omega)).2 = b' at *
    intro e
    have m1 : ((a - 1) * best false t + (b - 1)) % best false t = b - 1 := by
      rw [Nat.mul_comm, Nat.mul_add_mod]; exact Nat.mod_eq_of_lt (by omega)
    have m2 : ((a' - 1) * best false t + (b' - 1)) % best false t = b' - 1 := by
      rw [Nat.mul_comm, Nat.mul_add_mod]; exact Nat.mod_eq_of_lt (by omega)
    have eb : b - 1 = b' - 1 := by rw [← m1, ← m2, e]
    have ea : (a - 1) * best false t = (a' - 1) * best false t := by omega
    have ea2 := Nat.eq_of_mul_eq_mul_right (by omega) ea
    by_cases c : t[j] < t[i]
    · have := a1 (by simp [relF, c]); omega
    · have := b1 (by simp [relF]; omega); omega
  · intro x hx
    obtain ⟨i, hi, rfl⟩ := List.mem_map.mp hx
    rw [List.mem_range] at hi
    rw [cde i hi]
    have ua := uA i hi
    have ub := uB i hi
    generalize ((dp true t)[i]'(by omega)).2 = a at *
    generalize ((dp false t)[i]'(by omega)).2 = b at *
    have : (a - 1 + 1) * best false t ≤ best true t * best false t := Nat.mul_le_mul_right _ (by omega)
    rw [Nat.add_mul] at this
    omega
theorem inv_sub {c t : List Int} (h : c.Sublist t) : invI c ≤ invI t := by
  induction h with
  | slnil => exact Nat.le_refl _
  | cons a h ih => exact Nat.le_trans ih (Nat.le_add_left _ _)
  | cons_cons a h ih =>
    rename_i c t
    have : rkI c a ≤ rkI t a := h.countP_le
    show rkI c a + invI c ≤ rkI t a + invI t
    omega
theorem inv_chain : ∀ {c : List Int}, Chn true c → c.length ≤ invI c + 1
  | [], _ => by simp
  | [a], _ => by simp
  | a :: b :: r, h => by
    have h1 := List.pairwise_cons.mp h
    have ih := inv_chain (c := b :: r) h1.2
    have hb : b < a := by have := h1.1 b (by simp); simpa [relF] using this
    have : 1 ≤ rkI (b :: r) a := by
      unfold rkI
      exact List.countP_pos_iff.mpr ⟨b, by simp, by simpa using hb⟩
    show (b :: r).length + 1 ≤ rkI (b :: r) a + invI (b :: r) + 1
    omega
theorem best_inv (t : List Int) : best true t ≤ invI t + 1 := by
  obtain ⟨c, h1, h2, h3⟩ := best_chain true t
  have := inv_chain h2
  have := inv_sub h1
  omega
/-! ### tracks -/
def ladS (s : List Int × List Nat) (w : Int) : List Int × List Nat := (s.1.take (upI s.1 w) ++ w :: s.1.drop (upI s.1 w + 1), s.2 ++ [upI s.1 w])
def lad (t : List Int) : List Int × List Nat := t.foldl ladS ([], [])
theorem lad_snoc (t : List Int) (w : Int) : lad (t ++ [w]) = ladS (lad t) w := by
  unfold lad
  rw [List.foldl_append]
  rfl
theorem dec_up : ∀ {L : List Int} {w : Int}, L.Pairwise (· > ·) → ∀ (j : Nat) (h : j < L.length), w < L[j] ↔ j < upI L w
  | [], _, _, _, h => absurd h (by simp)
  | a :: r, w, hp, j, h => by
    have hp := List.pairwise_cons.mp hp
    have e : upI (a :: r) w = (if w < a then 1 else 0) + upI r w := by
      unfold upI; rw [List.countP_cons]; by_cases c : w < a <;> simp [c]; omega
    by_cases c : w < a
    · cases j with
      | zero => simp [e, c]; omega
      | succ j =>
        have ih := dec_up (w := w) hp.2 j (by simpa using h)
        simp only [List.getElem_cons_succ, ih, e, if_pos c]
        omega
    · have z : upI r w = 0 := by
        unfold upI
        rw [List.countP_eq_zero]
        intro x hx
        have := hp.1 x hx
        simp; omega
      have nj : ¬ w < (a :: r)[j] := by
        cases j with
        | zero => simpa using c
        | succ j =>
          have hj : j < r.length := by simpa using h
          have := hp.1 r[j] (List.getElem_mem hj)
          simp; omega
      rw [e, if_neg c, z]
      simp [nj]
structure LadI (L : List Int) (A : List (Int × Nat)) : Prop where
  dec : L.Pairwise (· > ·)
  le : ∀ p ∈ A, 1 ≤ p.2 ∧ p.2 ≤ L.length ∧ ∀ h : p.2 - 1 < L.length, p.1 ≤ L[p.2 - 1]
  at_ : ∀ (j : Nat) (h : j < L.length), (L[j], j + 1) ∈ A
theorem lad_top {L : List Int} {A : List (Int × Nat)} (I : LadI L A) (w : Int) : topF true A w = upI L w := by
  refine Nat.le_antisymm ?_ ?_
  · refine mxN_bound fun x hx => ?_
    obtain ⟨p, hp, rfl⟩ := List.mem_map.mp hx
    obtain ⟨h1, h2⟩ := List.mem_filter.mp hp
    obtain ⟨k0, k1, k2⟩ := I.le p h1
    have hj : p.2 - 1 < L.length := by omega
    have := k2 hj
    have hw : w < p.1 := by simpa [relF] using h2
    have := (dec_up (w := w) I.dec (p.2 - 1) hj).mp (by omega)
    omega
  · by_cases z : upI L w = 0
    · omega
    · have hle : upI L w ≤ L.length := List.countP_le_length
      have hj : upI L w - 1 < L.length := by omega
      have hw := (dec_up (w := w) I.dec (upI L w - 1) hj).mpr (by omega)
      have hm := I.at_ (upI L w - 1) hj
      refine mxN_le (List.mem_map.mpr ⟨_, List.mem_filter.mpr ⟨hm, ?_⟩, ?_⟩)
      · simpa [relF] using hw
      · show upI L w - 1 + 1 = upI L w
        omega
theorem lad_step {L : List Int} {A : List (Int × Nat)} (I : LadI L A) (w : Int) (hw : w ∉ L) : LadI (L.take (upI L w) ++ w :: L.drop (upI L w + 1)) (A ++ [(w, 1 + upI L w)]) := by
  have hle : upI L w ≤ L.length := List.countP_le_length
  have du := fun j h => dec_up (w := w) I.dec j h
  have hlen : (L.take (upI L w) ++ w :: L.drop (upI L w + 1)).length = max L.length (upI L w + 1) := by
    simp; omega
  have g1 : ∀ j (h : j < (L.take (upI L w) ++ w :: L.drop (upI L w + 1)).length) (k : j < L.length), j ≠ upI L w → (L.take (upI L w) ++ w :: L.drop (upI L w + 1))[j] = L[j] := fun j h k hn => by
    rw [List.getElem_append]
    split
    · simp
    · rename_i q
      rw [List.length_take, Nat.min_eq_left hle] at q
      have hz : j - upI L w = (j - upI L w - 1) + 1 := by omega
      simp only [List.length_take, Nat.min_eq_left hle]
      rw [List.getElem_cons]
      split
      · omega
      · rw [List.getElem_drop]
        congr 1; omega
  have g2 : ∀ (h : upI L w < (L.take (upI L w) ++ w :: L.drop (upI L w + 1)).length), (L.take (upI L w) ++ w :: L.drop (upI L w + 1))[upI L w] = w := fun h => by
    rw [List.getElem_append]
    split
    · rename_i q
      rw [List.length_take, Nat.min_eq_left hle] at q
      omega
    · simp [Nat.min_eq_left hle]
  refine ⟨?_, fun p hp => ?_, fun j h => ?_⟩
  · refine List.pairwise_append.mpr ⟨I.dec.sublist (List.take_sublist _ _), List.pairwise_cons.mpr ⟨fun x hx => ?_, I.dec.sublist (List.drop_sublist _ _)⟩, fun x hx y hy => ?_⟩
    · obtain ⟨j, hj, rfl⟩ := List.getElem_of_mem hx
      rw [List.length_drop] at hj
      rw [List.getElem_drop]
      have := du (upI L w + 1 + j) (by omega)
      have hne : L[upI L w + 1 + j] ≠ w := fun e => hw (e ▸ List.getElem_mem _)
      omega
    · obtain ⟨j, hj, rfl⟩ := List.getElem_of_mem hx
      rw [List.length_take] at hj
      rw [List.getElem_take]
      have h1 := (du j (by omega)).mpr (by omega)
      rcases List.mem_cons.mp hy with rfl | hy
      · exact h1
      · obtain ⟨i, hi, rfl⟩ := List.getElem_of_mem hy
        rw [List.length_drop] at hi
        rw [List.getElem_drop]
        exact List.pairwise_iff_getElem.mp I.dec j (upI L w + 1 + i) (by omega) (by omega) (by omega)
  · rcases List.mem_append.mp hp with hp | hp
    · obtain ⟨k0, k1, k2⟩ := I.le p hp
      refine ⟨k0, by omega, fun h => ?_⟩
      have hj : p.2 - 1 < L.length := by omega
      have h2 := k2 hj
      by_cases c : p.2 - 1 = upI L w
      · have h3 := du (p.2 - 1) hj
        have : (L.take (upI L w) ++ w :: L.drop (upI L w + 1))[p.2 - 1] = w := by
          have := g2 (by omega)
          simp only [c]; exact this
        rw [this]; omega
      · rw [g1 _ h hj c]; exact h2
    · rw [List.mem_singleton.mp hp]
      refine ⟨by show 1 ≤ 1 + _; omega, by show 1 + upI L w ≤ _; omega, fun h => ?_⟩
      have e : 1 + upI L w - 1 = upI L w := by omega
      have := g2 (by omega)
      simp only [e, this]
      exact Int.le_refl _
  · by_cases c : j = upI L w
    · subst c
      rw [g2 h, Nat.add_comm]
      exact List.mem_append_right _ (by simp)
    · have hj : j < L.length := by omega
      rw [g1 j h hj c]
      exact List.mem_append_left _ (I.at_ j hj)
theorem lad_mem {t : List Int} {x : Int} (h : x ∈ (lad t).1) : x ∈ t := by
  induction t using snoc_ind with
  | h0 => cases h
  | h1 t w ih =>
    rw [lad_snoc] at h
    rcases List.mem_append.mp (show x ∈ (lad t).1.take _ ++ w :: (lad t).1.drop _ from h) with h | h
    · exact List.mem_append_left _ (ih (List.mem_of_mem_take h))
    · rcases List.mem_cons.mp h with rfl | h
      · simp
      · exact List.mem_append_left _ (ih (List.mem_of_mem_drop h))
theorem lad_inv {t : List Int} (hn : t.Nodup) : LadI (lad t).1 (dp true t) ∧ (lad t).2.map (· + 1) = (dp true t).map Prod.snd := by
  induction t using snoc_ind with
  | h0 => exact ⟨LadI.mk List.Pairwise.nil (fun p hp => nomatch hp) (fun j h => absurd h (Nat.not_lt_zero j)), rfl⟩
  | h1 t w ih =>
    have hn' := List.nodup_append.mp hn
    obtain ⟨I, e⟩ := ih hn'.1
    have hw : w ∉ (lad t).1 := fun h => hn'.2.2 w (lad_mem h) w (by simp) rfl
    have ht := lad_top I w
    rw [lad_snoc, dp_snoc, ht]
    refine ⟨lad_step I w hw, ?_⟩
    show ((lad t).2 ++ [upI (lad t).1 w]).map (· + 1) = _
    rw [List.map_append, List.map_append, e]
    simp [Nat.add_comm]
end My

namespace My
/-! ### how long the falls are that begin at each wagon -/
def topB (l : List Nat) (r : List Int) (w : Int) : Nat := mxN (((l.zip r).filter fun p => decide (p.2 < w)).map Prod.fst)
def flN : List Int → List Nat
  | [] => []
  | w :: r => (1 + topB (flN r) r w) :: flN r
theorem flN_len : ∀ t : List Int, (flN t).length = t.length
  | [] => rfl
  | w :: r => by show (flN r).length + 1 = r.length + 1; rw [flN_len r]
theorem mxN_rev (l : List Nat) : mxN l.reverse = mxN l := by
  refine Nat.le_antisymm (mxN_bound fun x hx => mxN_le (List.mem_reverse.mp hx)) (mxN_bound fun x hx => mxN_le (List.mem_reverse.mpr hx))
theorem flN_drop (t : List Int) (i : Nat) (h : i < t.length) : flN (t.drop i) = (1 + topB (flN (t.drop (i + 1))) (t.drop (i + 1)) t[i]) :: flN (t.drop (i + 1)) := by
  rw [List.drop_eq_getElem_cons h]
  rfl
theorem flN_drop' : ∀ (t : List Int) (i : Nat), flN (t.drop i) = (flN t).drop i
  | [], i => by simp [flN]
  | w :: r, 0 => rfl
  | w :: r, i + 1 => by
    show flN (r.drop i) = (flN r).drop i
    exact flN_drop' r i
/-- behind a wagon whose falls are longer than one stands the next of such a fall -/
theorem flN_next {t : List Int} {i : Nat} {k : Nat} (h : i < t.length) (e : (flN t)[i]? = some (k + 2)) : ∃ j, ∃ hj : j < t.length, i < j ∧ t[j] < t[i] ∧ (flN t)[j]? = some (k + 1) := by
  have e1 : (flN (t.drop i))[0]? = some (k + 2) := by rw [flN_drop', List.getElem?_drop]; simpa using e
  rw [flN_drop t i h] at e1
  have e2 : topB (flN (t.drop (i + 1))) (t.drop (i + 1)) t[i] = k + 1 := by
    have := Option.some.inj e1
    omega
  have hm := mxN_mem (l := ((flN (t.drop (i + 1))).zip (t.drop (i + 1))).filter (fun p => decide (p.2 < t[i])) |>.map Prod.fst) (by
    show topB _ _ _ ≠ 0
    rw [e2]; omega)
  obtain ⟨p, hp, e3⟩ := List.mem_map.mp hm
  obtain ⟨h1, h2⟩ := List.mem_filter.mp hp
  obtain ⟨j, hj, e4⟩ := List.getElem_of_mem h1
  rw [List.length_zip, flN_len, Nat.min_self, List.length_drop] at hj
  rw [List.getElem_zip] at e4
  have hj2 : i + 1 + j < t.length := by omega
  refine ⟨i + 1 + j, hj2, by omega, ?_, ?_⟩
  · have : p.2 = t[i + 1 + j] := by rw [← e4]; simp
    rw [← this]; simpa using h2
  · have h3 : p.1 = k + 1 := by
      have : p.1 = topB (flN (t.drop (i + 1))) (t.drop (i + 1)) t[i] := e3
      omega
    have h4 : (flN (t.drop (i + 1)))[j]? = some (k + 1) := by
      rw [List.getElem?_eq_getElem (by rw [flN_len, List.length_drop]; omega), ← h3, ← e4]
    rw [flN_drop', List.getElem?_drop] at h4
    exact h4
end My

namespace My
theorem bnd2 {a b : Bool} (h : (a && b) = true) : a = true ∧ b = true := Bool.and_eq_true_iff.mp h
/-! ### falls, and the first of the longest -/
def inB (n : Nat) (v : List Int) : Bool := v.all fun x => decide (0 ≤ x) && decide (x ≤ (n : Int) - 1)
def gtT (t : List Int) (a b : Int) : Bool := decide (t.getD b.toNat 0 < t.getD a.toNat 0)
def adjT (t : List Int) : List Int → Bool
  | [] => true
  | a :: r => (match r with | [] => true | b :: _ => gtT t a b) && adjT t r
def fallB (t v : List Int) : Bool := inB t.length v && (riseI v && adjT t v)
def okP (t : List Int) (F : List Nat) (many j : Nat) : Bool := ((flN t).getD j 0 == many) && (match F.getLast? with | none => true | some p => decide (p < j) && decide (t.getD j 0 < t.getD p 0))
def cand (t : List Int) (F : List Nat) (many : Nat) : List Nat := (List.range t.length).filter (okP t F many)
def grd (t : List Int) : Nat → List Nat
  | 0 => []
  | i + 1 => grd t i ++ [(cand t (grd t i) (mxN (flN t) - i)).headD 0]
theorem head_mem {l : List Nat} (h : l ≠ []) : l.headD 0 ∈ l := by
  cases l with
  | nil => exact absurd rfl h
  | cons a r => simp
theorem grd_inv (t : List Int) : ∀ i, i ≤ mxN (flN t) → (∀ p, (grd t i).getLast? = some p → p < t.length ∧ (flN t)[p]? = some (mxN (flN t) - i + 1)) ∧ (i = 0 → grd t i = []) ∧ (i ≠ 0 → ∃ p, (grd t i).getLast? = some p) ∧ (i < mxN (flN t) → cand t (grd t i) (mxN (flN t) - i) ≠ [])
  | 0, h => by
    refine ⟨fun p hp => (by cases hp), fun _ => rfl, fun z => absurd rfl z, fun hm => ?_⟩
    have h1 := mxN_mem (l := flN t) (by omega)
    obtain ⟨j, hj, e⟩ := List.getElem_of_mem h1
    rw [flN_len] at hj
    have : j ∈ cand t [] (mxN (flN t) - 0) := by
      refine List.mem_filter.mpr ⟨List.mem_range.mpr hj, ?_⟩
      simp [okP, List.getD_eq_getElem?_getD, List.getElem?_eq_getElem (show j < (flN t).length by rw [flN_len]; exact hj), e]
    exact List.ne_nil_of_mem this
  | i + 1, h => by
    obtain ⟨i1, i2, i3, i4⟩ := grd_inv t i (by omega)
    have hc := head_mem (i4 (by omega))
    have hm := List.mem_filter.mp hc
    have hlast : (grd t (i + 1)).getLast? = some ((cand t (grd t i) (mxN (flN t) - i)).headD 0) := by
      show (grd t i ++ [_]).getLast? = _
      rw [List.getLast?_append]; rfl
    generalize (cand t (grd t i) (mxN (flN t) - i)).headD 0 = q at *
    have hq : q < t.length := List.mem_range.mp hm.1
    have hL : (flN t)[q]? = some (mxN (flN t) - i) := by
      have := bnd2 hm.2
      have e := eq_of_beq this.1
      rw [List.getD_eq_getElem?_getD, List.getElem?_eq_getElem (by rw [flN_len]; exact hq)] at e
      rw [List.getElem?_eq_getElem (by rw [flN_len]; exact hq)]
      exact congrArg some e
    have hL2 : (flN t)[q]? = some (mxN (flN t) - (i + 1) + 1) := by rw [hL]; congr 1; omega
    refine ⟨fun p hp => ?_, fun z => absurd z (by omega), fun _ => ⟨q, hlast⟩, fun hm2 => ?_⟩
    · rw [hlast] at hp; cases hp
      exact ⟨hq, hL2⟩
    · obtain ⟨j, hj, h1, h2, h3⟩ := flN_next (k := mxN (flN t) - (i + 1) - 1) hq (by rw [hL2]; congr 1; omega)
      have : j ∈ cand t (grd t (i + 1)) (mxN (flN t) - (i + 1)) := by
        refine List.mem_filter.mpr ⟨List.mem_range.mpr hj, ?_⟩
        have ek : mxN (flN t) - (i + 1) - 1 + 1 = mxN (flN t) - (i + 1) := by omega
        rw [ek] at h3
        unfold okP
        rw [hlast]
        simp [List.getD_eq_getElem?_getD, h3, List.getElem?_eq_getElem hj, List.getElem?_eq_getElem hq, h1, h2]
      exact List.ne_nil_of_mem this
theorem rise_snoc (x : Int) : ∀ v : List Int, riseI (v ++ [x]) = (riseI v && (match v.getLast? with | none => true | some l => decide (l < x)))
  | [] => rfl
  | [a] => by simp [riseI]
  | a :: b :: r => by
    have ih := rise_snoc x (b :: r)
    show (decide (a < b) && riseI ((b :: r) ++ [x])) = ((decide (a < b) && riseI (b :: r)) && _)
    rw [ih, Bool.and_assoc]
    rfl
theorem adj_snoc (t : List Int) (x : Int) : ∀ v : List Int, adjT t (v ++ [x]) = (adjT t v && (match v.getLast? with | none => true | some l => gtT t l x))
  | [] => rfl
  | [a] => by simp [adjT]
  | a :: b :: r => by
    have ih := adj_snoc t x (b :: r)
    show (gtT t a b && adjT t ((b :: r) ++ [x])) = ((gtT t a b && adjT t (b :: r)) && _)
    rw [ih, Bool.and_assoc]
    rfl
def intL (F : List Nat) : List Int := F.map fun (k : Nat) => (k : Int)
theorem intL_last (F : List Nat) : (intL F).getLast? = F.getLast?.map fun (k : Nat) => (k : Int) := by
  unfold intL
  rw [List.getLast?_map]
theorem fall_snoc {t : List Int} {F : List Nat} {j : Nat} (hj : j < t.length) (hF : fallB t (intL F) = true) : fallB t (intL F ++ [(j : Int)]) = (match F.getLast? with | none => true | some p => decide (p < j) && decide (t.getD j 0 < t.getD p 0)) := by
  obtain ⟨h1, h2⟩ := bnd2 hF
  obtain ⟨h2, h3⟩ := bnd2 h2
  have e : inB t.length (intL F ++ [(j : Int)]) = true := by
    unfold inB at h1 ⊢
    rw [List.all_append, h1]
    simp; omega
  unfold fallB
  rw [e, rise_snoc, adj_snoc, h2, h3, intL_last]
  cases F.getLast? with
  | none => rfl
  | some p =>
    simp [gtT]
theorem grd_fall (t : List Int) : ∀ i, i ≤ mxN (flN t) → fallB t (intL (grd t i)) = true ∧ (grd t i).length = i
  | 0, _ => ⟨by simp [grd, intL, fallB, inB, riseI, adjT], rfl⟩
  | i + 1, h => by
    obtain ⟨h1, h2⟩ := grd_fall t i (by omega)
    obtain ⟨_, _, _, i4⟩ := grd_inv t i (by omega)
    have hm : (cand t (grd t i) (mxN (flN t) - i)).headD 0 ∈ List.range t.length ∧ okP t (grd t i) (mxN (flN t) - i) ((cand t (grd t i) (mxN (flN t) - i)).headD 0) = true := List.mem_filter.mp (head_mem (i4 (by omega)))
    have hq := List.mem_range.mp hm.1
    refine ⟨?_, by show (grd t i ++ [_]).length = _; rw [List.length_append, h2]; rfl⟩
    have e : intL (grd t (i + 1)) = intL (grd t i) ++ [(((cand t (grd t i) (mxN (flN t) - i)).headD 0 : Nat) : Int)] := by
      show intL (grd t i ++ [_]) = _
      unfold intL
      rw [List.map_append]; rfl
    rw [e, fall_snoc hq h1]
    exact (bnd2 hm.2).2
end My

namespace My
/-! ### the order of rows of numbers -/
def lxI : List Int → List Int → Bool
  | [], [] => false
  | [], _ :: _ => true
  | _ :: _, [] => false
  | x :: a, y :: b => if x = y then lxI a b else decide (x < y)
theorem lx_irr : ∀ a : List Int, lxI a a = false
  | [] => rfl
  | x :: a => by
    show (if x = x then lxI a a else decide (x < x)) = false
    rw [if_pos rfl, lx_irr a]
theorem lx_tr : ∀ a b c : List Int, lxI a b = true → lxI b c = true → lxI a c = true
  | [], [], _, h, _ => by cases h
  | [], _ :: _, [], _, h => by cases h
  | [], _ :: _, _ :: _, _, _ => rfl
  | _ :: _, [], _, h, _ => by cases h
  | _ :: _, _ :: _, [], _, h => by cases h
  | x :: a, y :: b, z :: c, h1, h2 => by
    have h1 : (if x = y then lxI a b else decide (x < y)) = true := h1
    have h2 : (if y = z then lxI b c else decide (y < z)) = true := h2
    show (if x = z then lxI a c else decide (x < z)) = true
    by_cases e1 : x = y
    · by_cases e2 : y = z
      · rw [if_pos e1] at h1; rw [if_pos e2] at h2; rw [if_pos (by omega)]
        exact lx_tr a b c h1 h2
      · rw [if_neg e2] at h2
        have := of_decide_eq_true h2
        rw [if_neg (by omega)]; exact decide_eq_true (by omega)
    · rw [if_neg e1] at h1
      have := of_decide_eq_true h1
      by_cases e2 : y = z
      · rw [if_neg (by omega)]; exact decide_eq_true (by omega)
      · rw [if_neg e2] at h2
        have := of_decide_eq_true h2
        rw [if_neg (by omega)]; exact decide_eq_true (by omega)
theorem lx_pre : ∀ p a b : List Int, lxI (p ++ a) (p ++ b) = lxI a b
  | [], _, _ => rfl
  | x :: p, a, b => by
    show (if x = x then lxI (p ++ a) (p ++ b) else decide (x < x)) = _
    rw [if_pos rfl, lx_pre p a b]
theorem lx_at (p a b : List Int) {x y : Int} (h : x < y) : lxI (p ++ x :: a) (p ++ y :: b) = true := by
  rw [lx_pre]
  show (if x = y then lxI a b else decide (x < y)) = true
  rw [if_neg (by omega)]; exact decide_eq_true h
theorem lx_app : ∀ a b x y : List Int, a.length = b.length → lxI a b = true → lxI (a ++ x) (b ++ y) = true
  | [], [], _, _, _, h => by cases h
  | [], _ :: _, _, _, h, _ => by cases h
  | _ :: _, [], _, _, h, _ => by cases h
  | u :: a, v :: b, x, y, hl, h => by
    have h : (if u = v then lxI a b else decide (u < v)) = true := h
    show (if u = v then lxI (a ++ x) (b ++ y) else decide (u < v)) = true
    by_cases e : u = v
    · rw [if_pos e] at h ⊢
      exact lx_app a b x y (by simpa using hl) h
    · rw [if_neg e] at h ⊢; exact h
/-- the first of the least -/
def mnT : List (List Int) → List Int
  | [] => []
  | x :: r => r.foldl (fun a y => if lxI y a = true then y else a) x
theorem mnT_spec (x : List Int) (r : List (List Int)) : mnT (x :: r) ∈ x :: r ∧ ∀ y ∈ x :: r, lxI y (mnT (x :: r)) = false := by
  have key : ∀ (r s : List (List Int)) (a : List Int), a ∈ s → (∀ y ∈ s, lxI y a = false) →
      (r.foldl (fun a y => if lxI y a = true then y else a) a) ∈ s ++ r ∧ ∀ y ∈ s ++ r, lxI y (r.foldl (fun a y => if lxI y a = true then y else a) a) = false := by
    intro r
    induction r with
    | nil => intro s a h1 h2; simpa using ⟨h1, h2⟩
    | cons z r ih =>
      intro s a h1 h2
      have hh := ih (s ++ [z]) (if lxI z a = true then z else a) ?_ ?_
      · rw [List.append_assoc] at hh
        exact hh
      · split
        · simp
        · simp [h1]
      · intro y hy
        split
        · rename_i c
          rcases List.mem_append.mp hy with hy | hy
          · cases q : lxI y z with
            | false => rfl
            | true =>
              have := lx_tr y z a q c
              rw [h2 y hy] at this; cases this
          · rw [List.mem_singleton.mp hy, lx_irr]
        · rename_i c
          rcases List.mem_append.mp hy with hy | hy
          · exact h2 y hy
          · rw [List.mem_singleton.mp hy]; simpa using c
  exact key r [x] x (by simp) (fun y hy => by rw [List.mem_singleton.mp hy, lx_irr])
theorem mnT_is {L : List (List Int)} {g : List Int} (hm : g ∈ L) (hg : ∀ v ∈ L, v = g ∨ lxI g v = true) : mnT L = g := by
  cases L with
  | nil => cases hm
  | cons x r =>
    obtain ⟨h1, h2⟩ := mnT_spec x r
    rcases hg _ h1 with h | h
    · exact h
    · rw [h2 g hm] at h; cases h
/-! ### all lots -/
def lotsN : Nat → List (List Nat)
  | 0 => [[]]
  | n + 1 => lotsN n ++ (lotsN n).map (· ++ [n])
theorem mem_lots : ∀ {n : Nat} {l : List Nat}, l ∈ lotsN n ↔ l.Pairwise (· < ·) ∧ ∀ x ∈ l, x < n
  | 0, l => by
    constructor
    · intro h
      rw [List.mem_singleton.mp h]
      exact ⟨List.Pairwise.nil, fun x hx => nomatch hx⟩
    · rintro ⟨_, h⟩
      cases l with
      | nil => exact List.mem_singleton.mpr rfl
      | cons a r => exact absurd (h a (by simp)) (by omega)
  | n + 1, l => by
    show l ∈ lotsN n ++ (lotsN n).map (· ++ [n]) ↔ _
    rw [List.mem_append, List.mem_map]
    constructor
    · rintro (h | ⟨m, h, rfl⟩)
      · obtain ⟨h1, h2⟩ := mem_lots.mp h
        exact ⟨h1, fun x hx => Nat.lt_succ_of_lt (h2 x hx)⟩
      · obtain ⟨h1, h2⟩ := mem_lots.mp h
        refine ⟨List.pairwise_append.mpr ⟨h1, by simp, fun x hx y hy => ?_⟩, fun x hx => ?_⟩
        · rw [List.mem_singleton.mp hy]; exact h2 x hx
        · rcases List.mem_append.mp hx with hx | hx
          · exact Nat.lt_succ_of_lt (h2 x hx)
          · rw [List.mem_singleton.mp hx]; omega
    · rintro ⟨h1, h2⟩
      rcases List.eq_nil_or_concat l with rfl | ⟨m, y, rfl⟩
      · exact .inl (mem_lots.mpr ⟨List.Pairwise.nil, fun x hx => nomatch hx⟩)
      · rw [List.concat_eq_append] at h1 h2 ⊢
        have hp := List.pairwise_append.mp h1
        have hy := h2 y (by simp)
        have hm : ∀ x ∈ m, x < y := fun x hx => hp.2.2 x hx y (by simp)
        by_cases c : y = n
        · subst c
          exact .inr ⟨m, mem_lots.mpr ⟨hp.1, hm⟩, rfl⟩
        · refine .inl (mem_lots.mpr ⟨h1, fun x hx => ?_⟩)
          rcases List.mem_append.mp hx with hx | hx
          · have := hm x hx; omega
          · rw [List.mem_singleton.mp hx]; omega
theorem lots_len : ∀ n, (lotsN n).length = 2 ^ n
  | 0 => rfl
  | n + 1 => by
    show (lotsN n ++ (lotsN n).map (· ++ [n])).length = _
    rw [List.length_append, List.length_map, lots_len n, Nat.pow_succ]; omega
/-! ### falls -/
def FalP (t : List Int) (F : List Nat) : Prop := F.Pairwise (fun a b => a < b ∧ t.getD b 0 < t.getD a 0) ∧ ∀ a ∈ F, a < t.length
theorem inB_cons (n : Nat) (a : Nat) (r : List Nat) : inB n (intL (a :: r)) = (decide (a < n) && inB n (intL r)) := by
  show ((decide (0 ≤ (a : Int)) && decide ((a : Int) ≤ (n : Int) - 1)) && inB n (intL r)) = _
  rw [decide_eq_true (show (0 : Int) ≤ (a : Int) by omega), Bool.true_and]
  congr 1
  by_cases c : a < n
  · rw [decide_eq_true c, decide_eq_true (by omega)]
  · rw [decide_eq_false c, decide_eq_false (by omega)]
theorem inB_iff (n : Nat) : ∀ F : List Nat, inB n (intL F) = true ↔ ∀ a ∈ F, a < n
  | [] => by simp [inB, intL]
  | a :: r => by
    rw [inB_cons, Bool.and_eq_true, decide_eq_true_iff, inB_iff n r]
    simp
theorem fall_iff (t : List Int) : ∀ F : List Nat, fallB t (intL F) = true ↔ FalP t F
  | [] => by simp [fallB, inB, intL, riseI, adjT, FalP]
  | [a] => by
    have h := inB_iff t.length [a]
    show (inB t.length (intL [a]) && (riseI [(a : Int)] && adjT t [(a : Int)])) = true ↔ _
    rw [Bool.and_eq_true, h]
    simp [riseI, adjT, FalP]
  | a :: b :: r => by
    have ih := fall_iff t (b :: r)
    have e1 : fallB t (intL (a :: b :: r)) = (decide (a < t.length) && inB t.length (intL (b :: r)) && ((decide (a < b) && riseI (intL (b :: r))) && (decide (t.getD b 0 < t.getD a 0) && adjT t (intL (b :: r))))) := by
      show (inB t.length (intL (a :: b :: r)) && ((decide ((a : Int) < (b : Int)) && riseI (intL (b :: r))) && (gtT t (a : Int) (b : Int) && adjT t (intL (b :: r))))) = _
      rw [inB_cons]
      have : decide ((a : Int) < (b : Int)) = decide (a < b) := by
        by_cases c : a < b
        · rw [decide_eq_true c, decide_eq_true (by omega)]
        · rw [decide_eq_false c, decide_eq_false (by omega)]
      rw [this]
      rfl
    have e2 : fallB t (intL (b :: r)) = (inB t.length (intL (b :: r)) && (riseI (intL (b :: r)) && adjT t (intL (b :: r)))) := rfl
    rw [e2] at ih
    rw [e1]
    constructor
    · intro h
      simp only [Bool.and_eq_true, decide_eq_true_eq] at h ih
      obtain ⟨⟨h1, h2⟩, ⟨h3, h4⟩, h5, h6⟩ := h
      obtain ⟨p1, p2⟩ := ih.mp ⟨h2, h4, h6⟩
      refine ⟨List.pairwise_cons.mpr ⟨fun x hx => ?_, p1⟩, fun x hx => ?_⟩
      · rcases List.mem_cons.mp hx with rfl | hx
        · exact ⟨h3, h5⟩
        · have := (List.pairwise_cons.mp p1).1 x hx
          exact ⟨by omega, by omega⟩
      · rcases List.mem_cons.mp hx with rfl | hx
        · exact h1
        · exact p2 x hx
    · rintro ⟨p1, p2⟩
      have q1 := List.pairwise_cons.mp p1
      have q2 := ih.mpr ⟨q1.2, fun x hx => p2 x (List.mem_cons_of_mem _ hx)⟩
      simp only [Bool.and_eq_true, decide_eq_true_eq] at q2 ⊢
      exact ⟨⟨p2 a (by simp), q2.1⟩, ⟨(q1.1 b (by simp)).1, q2.2.1⟩, (q1.1 b (by simp)).2, q2.2.2⟩
theorem flN_at {t : List Int} {a : Nat} (h : a < t.length) : (flN t)[a]? = some (1 + topB (flN (t.drop (a + 1))) (t.drop (a + 1)) t[a]) := by
  have e1 : (flN (t.drop a))[0]? = some (1 + topB (flN (t.drop (a + 1))) (t.drop (a + 1)) t[a]) := by rw [flN_drop t a h]; rfl
  rw [flN_drop', List.getElem?_drop] at e1
  simpa using e1
theorem getD_some {α : Type} {l : List α} {i : Nat} {x d : α} (h : l[i]? = some x) : l.getD i d = x := by
  rw [List.getD_eq_getElem?_getD, h]; rfl
theorem getD_lt {α : Type} {l : List α} {i : Nat} {d : α} (h : i < l.length) : l.getD i d = l[i] := by
  rw [List.getD_eq_getElem?_getD, List.getElem?_eq_getElem h]; rfl
theorem flN_step {t : List Int} {a b : Nat} (hb : b < t.length) (h1 : a < b) (h2 : t.getD b 0 < t.getD a 0) : (flN t).getD b 0 + 1 ≤ (flN t).getD a 0 := by
  have ha : a < t.length := by omega
  rw [getD_some (flN_at ha)]
  have hbl : b < (flN t).length := by rw [flN_len]; exact hb
  rw [getD_lt hb, getD_lt ha] at h2
  have hm : (flN t).getD b 0 ≤ topB (flN (t.drop (a + 1))) (t.drop (a + 1)) t[a] := by
    refine mxN_le (List.mem_map.mpr ⟨((flN t).getD b 0, t[b]), List.mem_filter.mpr ⟨?_, by simpa using h2⟩, rfl⟩)
    rw [flN_drop']
    refine List.mem_iff_getElem?.mpr ⟨b - (a + 1), ?_⟩
    rw [List.getElem?_zip_eq_some, List.getElem?_drop, List.getElem?_drop]
    have e : a + 1 + (b - (a + 1)) = b := by omega
    rw [e, List.getElem?_eq_getElem hb, List.getElem?_eq_getElem hbl, getD_lt hbl]
    exact ⟨rfl, rfl⟩
  omega
theorem fal_tail {t : List Int} {a : Nat} {r : List Nat} (h : FalP t (a :: r)) : FalP t r := ⟨(List.pairwise_cons.mp h.1).2, fun x hx => h.2 x (List.mem_cons_of_mem _ hx)⟩
theorem fal_sub {t : List Int} {F G : List Nat} (h : FalP t G) (s : F.Sublist G) : FalP t F := ⟨h.1.sublist s, fun x hx => h.2 x (s.subset hx)⟩
theorem flN_pos {t : List Int} {a : Nat} (h : a < t.length) : 1 ≤ (flN t).getD a 0 := by
  rw [getD_some (flN_at h)]; omega
theorem flN_mx {t : List Int} {a : Nat} (h : a < t.length) : (flN t).getD a 0 ≤ mxN (flN t) := by
  have hl : a < (flN t).length := by rw [flN_len]; exact h
  rw [getD_lt hl]
  exact mxN_le (List.getElem_mem hl)
/-- a fall from a to x -/
theorem fal_len {t : List Int} {x : Nat} : ∀ {r : List Nat} {a : Nat}, FalP t (a :: r) → (a :: r).getLast? = some x → (flN t).getD x 0 + r.length ≤ (flN t).getD a 0
  | [], a, _, h => by
    have e : a = x := Option.some.inj h
    subst e
    simp
  | b :: r, a, h, hl => by
    have ih := fal_len (fal_tail h) (show (b :: r).getLast? = some x by rw [← hl]; simp)
    have hp := (List.pairwise_cons.mp h.1).1 b (by simp)
    have := flN_step (h.2 b (by simp)) hp.1 hp.2
    simp only [List.length_cons] at ih ⊢
    omega
theorem fal_bound {t : List Int} {F : List Nat} (h : FalP t F) : F.length ≤ mxN (flN t) := by
  cases F with
  | nil => exact Nat.zero_le _
  | cons a r =>
    obtain ⟨x, hx⟩ : ∃ x, (a :: r).getLast? = some x := ⟨(a :: r).getLast (by simp), List.getLast?_eq_some_getLast (by simp)⟩
    have h1 := fal_len h hx
    have h2 := flN_pos (h.2 x (List.mem_of_getLast? hx))
    have h3 := flN_mx (h.2 a (by simp))
    simp; omega
theorem grd_fal (t : List Int) {i : Nat} (h : i ≤ mxN (flN t)) : FalP t (grd t i) := (fall_iff t _).mp (grd_fall t i h).1
theorem headD_le {l : List Nat} {y : Nat} (hs : l.Pairwise (· < ·)) (h : y ∈ l) : l.headD 0 ≤ y := by
  cases l with
  | nil => cases h
  | cons a r =>
    rcases List.mem_cons.mp h with rfl | h
    · exact Nat.le_refl _
    · exact Nat.le_of_lt ((List.pairwise_cons.mp hs).1 y h)
theorem cand_srt (t : List Int) (F : List Nat) (m : Nat) : (cand t F m).Pairwise (· < ·) := List.pairwise_lt_range.filter _
theorem grd_pre (t : List Int) (i : Nat) : ∀ k, ∃ r, grd t (i + k) = grd t i ++ r
  | 0 => ⟨[], by simp⟩
  | k + 1 => by
    obtain ⟨r, e⟩ := grd_pre t i k
    refine ⟨r ++ [(cand t (grd t (i + k)) (mxN (flN t) - (i + k))).headD 0], ?_⟩
    rw [← List.append_assoc, ← e]
    rfl
theorem intL_app (a b : List Nat) : intL (a ++ b) = intL a ++ intL b := List.map_append
theorem grd_least {t : List Int} {v : List Nat} (hv : FalP t v) (hl : v.length = mxN (flN t)) : v = grd t (mxN (flN t)) ∨ lxI (intL (grd t (mxN (flN t)))) (intL v) = true := by
  have key : ∀ k i, i + k = mxN (flN t) → v.take i = grd t i → (v = grd t (mxN (flN t)) ∨ lxI (intL (grd t (mxN (flN t)))) (intL v) = true) := by
    intro k
    induction k with
    | zero =>
      intro i hi e
      have hi' : i = mxN (flN t) := by omega
      rw [← hi', ← e, List.take_of_length_le (by omega)]
      exact .inl rfl
    | succ k ih =>
      intro i hi e
      have hil : i < v.length := by omega
      have ht : v.take (i + 1) = grd t i ++ [v[i]] := by rw [List.take_add_one, List.getElem?_eq_getElem hil, e]; rfl
      have hmem : v[i] ∈ v := List.getElem_mem hil
      have hvi := hv.2 _ hmem
      have hin : v[i] ∈ cand t (grd t i) (mxN (flN t) - i) := by
        refine List.mem_filter.mpr ⟨List.mem_range.mpr hvi, ?_⟩
        have h1 : v.length - i ≤ (flN t).getD v[i] 0 := by
          have hd : v.drop i = v[i] :: v.drop (i + 1) := List.drop_eq_getElem_cons hil
          have hf : FalP t (v[i] :: v.drop (i + 1)) := hd ▸ fal_sub hv (List.drop_sublist i v)
          obtain ⟨x, hx⟩ : ∃ x, (v[i] :: v.drop (i + 1)).getLast? = some x := ⟨_, List.getLast?_eq_some_getLast (List.cons_ne_nil _ _)⟩
          have a1 := fal_len hf hx
          have a2 := flN_pos (hf.2 x (List.mem_of_getLast? hx))
          rw [List.length_drop] at a1
          omega
        have h2 : (flN t).getD v[i] 0 + i ≤ mxN (flN t) := by
          have hf : FalP t (v.take (i + 1)) := fal_sub hv (List.take_sublist _ v)
          have hlast : (v.take (i + 1)).getLast? = some v[i] := by rw [ht, List.getLast?_append]; rfl
          have hlen : (v.take (i + 1)).length = i + 1 := by rw [List.length_take]; omega
          cases hc : v.take (i + 1) with
          | nil => rw [hc] at hlen; simp at hlen
          | cons a r =>
            rw [hc] at hf hlast hlen
            have a1 := fal_len hf hlast
            have a2 := flN_mx (hf.2 a (by simp))
            simp at hlen
            omega
        unfold okP
        rw [Bool.and_eq_true]
        refine ⟨by rw [beq_iff_eq]; omega, ?_⟩
        cases hg : (grd t i).getLast? with
        | none => rfl
        | some p =>
          have hp : p ∈ grd t i := List.mem_of_getLast? hg
          have hf : (grd t i ++ [v[i]]).Pairwise (fun a b => a < b ∧ t.getD b 0 < t.getD a 0) := ht ▸ (fal_sub hv (List.take_sublist _ v)).1
          have := (List.pairwise_append.mp hf).2.2 p hp v[i] (by simp)
          show (decide (p < v[i]) && decide (t.getD v[i] 0 < t.getD p 0)) = true
          rw [decide_eq_true this.1, decide_eq_true this.2]; rfl
      have hle := headD_le (cand_srt t (grd t i) (mxN (flN t) - i)) hin
      have hg1 : grd t (i + 1) = grd t i ++ [(cand t (grd t i) (mxN (flN t) - i)).headD 0] := rfl
      by_cases c : (cand t (grd t i) (mxN (flN t) - i)).headD 0 = v[i]
      · exact ih (i + 1) (by omega) (by rw [ht, hg1, c])
      · right
        obtain ⟨r, er⟩ := grd_pre t (i + 1) k
        have hm : i + 1 + k = mxN (flN t) := by omega
        rw [hm, hg1, List.append_assoc] at er
        have ev : v = grd t i ++ v[i] :: v.drop (i + 1) := by
          conv => lhs; rw [← List.take_append_drop i v, e, List.drop_eq_getElem_cons hil]
        have e1 : intL v = intL (grd t i) ++ ((v[i] : Nat) : Int) :: intL (v.drop (i + 1)) := by
          conv => lhs; rw [ev, intL_app]
          rfl
        have e2 : intL (grd t (mxN (flN t))) = intL (grd t i) ++ (((cand t (grd t i) (mxN (flN t) - i)).headD 0 : Nat) : Int) :: intL r := by
          rw [er, intL_app]; rfl
        rw [e1, e2]
        have hlt : (((cand t (grd t i) (mxN (flN t) - i)).headD 0 : Nat) : Int) < ((v[i] : Nat) : Int) := by omega
        exact lx_at _ _ _ hlt
  exact key (mxN (flN t)) 0 (by omega) rfl
/-- as long as the longest chain -/
theorem best_fl (t : List Int) : best true t = mxN (flN t) := by
  refine Nat.le_antisymm ?_ ?_
  · obtain ⟨c, h1, h2, h3⟩ := best_chain true t
    obtain ⟨is, e, hp⟩ := List.sublist_eq_map_getElem h1
    have hf : FalP t (is.map fun i => i.val) := by
      refine ⟨?_, fun x hx => ?_⟩
      · refine List.pairwise_map.mpr ?_
        have h2' : (is.map fun i => t[i]).Pairwise fun x y => relF true x y = true := by
          rw [← e]; exact h2
        have h2'' := List.pairwise_map.mp h2'
        refine (hp.and h2'').imp fun {a b} h => ⟨h.1, ?_⟩
        have := h.2
        rw [getD_lt b.isLt, getD_lt a.isLt]
        simpa [relF] using this
      · obtain ⟨i, _, rfl⟩ := List.mem_map.mp hx
        exact i.isLt
    have := fal_bound hf
    rw [List.length_map] at this
    rw [← h3, e, List.length_map]
    exact this
  · have hf := grd_fal t (Nat.le_refl (mxN (flN t)))
    have hl := (grd_fall t _ (Nat.le_refl (mxN (flN t)))).2
    have hs : ((grd t (mxN (flN t))).map fun i => t.getD i 0).Sublist t := by
      have h1 := List.map_getElem_sublist (l := t) (is := (grd t (mxN (flN t))).pmap Fin.mk hf.2) (by
        rw [List.pairwise_pmap]
        exact hf.1.imp fun {a b} h _ _ => h.1)
      have e : ((grd t (mxN (flN t))).pmap Fin.mk hf.2).map (fun i => t[i]) = (grd t (mxN (flN t))).map fun i => t.getD i 0 := by
        refine List.ext_getElem (by simp) fun i k1 k2 => ?_
        have k3 : i < (grd t (mxN (flN t))).length := by simpa using k2
        have k4 := hf.2 _ (List.getElem_mem k3)
        simp [List.getElem?_eq_getElem k4]
      rw [← e]
      exact h1
    have hc : Chn true ((grd t (mxN (flN t))).map fun i => t.getD i 0) := List.pairwise_map.mpr (hf.1.imp fun {a b} h => by simpa [relF] using h.2)
    have := best_bound hs hc
    rw [List.length_map, hl] at this
    exact this
end My

namespace My
/-! ### shares -/
def onI (t s : List Int) (k : Int) : List Int := ((t.zip s).filter fun p => p.2 == k).map Prod.fst
def sortB (t s : List Int) (k : Nat) : Bool := (List.range k).all fun j => riseI (onI t s (j : Int))
theorem lad_best {t : List Int} (hn : t.Nodup) : (lad t).2.map (· + 1) = (dp true t).map Prod.snd := (lad_inv hn).2
theorem lad_len (t : List Int) : (lad t).2.length = t.length := by
  induction t using snoc_ind with
  | h0 => rfl
  | h1 t w ih =>
    rw [lad_snoc, List.length_append]
    show ((lad t).2 ++ [_]).length = _
    rw [List.length_append, ih]
    rfl
/-- the first share sorts -/
theorem lad_sorts {t : List Int} (hn : t.Nodup) (k : Nat) : sortB t (intL (lad t).2) k = true := by
  refine List.all_eq_true.mpr fun j _ => ?_
  rw [rise_pw]
  have hb := lad_best hn
  have ho := dp_order true t
  have e : t.zip (intL (lad t).2) = (dp true t).map fun p => (p.1, (p.2 : Int) - 1) := by
    have h1 : intL (lad t).2 = (dp true t).map fun p => (p.2 : Int) - 1 := by
      have : (dp true t).map (fun p => (p.2 : Int) - 1) = ((dp true t).map Prod.snd).map fun (b : Nat) => (b : Int) - 1 := by rw [List.map_map]; rfl
      rw [this, ← hb, List.map_map]
      refine List.map_congr_left fun x _ => ?_
      show (x : Int) = ((x + 1 : Nat) : Int) - 1
      omega
    have key : ∀ A : List (Int × Nat), (A.map Prod.fst).zip (A.map fun p => (p.2 : Int) - 1) = A.map fun p => (p.1, (p.2 : Int) - 1) := fun A => by
      rw [List.zip_map']
    have := key (dp true t)
    rw [dp_fst] at this
    rw [h1]
    exact this
  unfold onI
  rw [e]
  have hd : (dp true t).Pairwise fun p q => p.1 ≠ q.1 := by
    have : ((dp true t).map Prod.fst).Nodup := by rw [dp_fst]; exact hn
    exact List.pairwise_map.mp this
  have hP : ((dp true t).map fun p => (p.1, (p.2 : Int) - 1)).Pairwise (fun p q => p.2 = q.2 → p.1 < q.1) := by
    refine List.pairwise_map.mpr ((List.Pairwise.and ho hd).imp fun {p q} h e => ?_)
    have h1 := h.1
    have h2 := h.2
    by_cases c : q.1 < p.1
    · have := h1 (by simpa [relF] using c)
      simp at e; omega
    · show p.1 < q.1
      omega
  have hF := hP.filter fun p => p.2 == (j : Int)
  refine List.pairwise_map.mpr (hF.imp_of_mem fun {p q} hp hq h => ?_)
  have a1 := (List.mem_filter.mp hp).2
  have a2 := (List.mem_filter.mp hq).2
  simp at a1 a2
  exact h (by rw [a1, a2])
def sharesN (k : Nat) : Nat → List (List Nat)
  | 0 => [[]]
  | n + 1 => (sharesN k n).flatMap fun s => (List.range k).map fun j => s ++ [j]
theorem mem_shares {k : Nat} : ∀ {n : Nat} {s : List Nat}, s ∈ sharesN k n ↔ s.length = n ∧ ∀ x ∈ s, x < k
  | 0, s => by
    constructor
    · intro h
      rw [List.mem_singleton.mp h]
      exact ⟨rfl, fun x hx => nomatch hx⟩
    · rintro ⟨h, _⟩
      rw [List.length_eq_zero_iff.mp h]
      exact List.mem_singleton.mpr rfl
  | n + 1, s => by
    show s ∈ (sharesN k n).flatMap _ ↔ _
    rw [List.mem_flatMap]
    constructor
    · rintro ⟨a, ha, hs⟩
      obtain ⟨j, hj, rfl⟩ := List.mem_map.mp hs
      obtain ⟨h1, h2⟩ := mem_shares.mp ha
      refine ⟨by rw [List.length_append, h1]; rfl, fun x hx => ?_⟩
      rcases List.mem_append.mp hx with hx | hx
      · exact h2 x hx
      · rw [List.mem_singleton.mp hx]; exact List.mem_range.mp hj
    · rintro ⟨h1, h2⟩
      rcases List.eq_nil_or_concat s with rfl | ⟨m, y, rfl⟩
      · simp at h1
      · rw [List.concat_eq_append] at h1 h2 ⊢
        refine ⟨m, mem_shares.mpr ⟨by simpa using h1, fun x hx => h2 x (by simp [hx])⟩, List.mem_map.mpr ⟨y, List.mem_range.mpr (h2 y (by simp)), rfl⟩⟩
theorem shares_len (k : Nat) : ∀ n, (sharesN k n).length = k ^ n
  | 0 => rfl
  | n + 1 => by
    show ((sharesN k n).flatMap _).length = _
    rw [List.length_flatMap]
    simp only [List.length_map, List.length_range]
    rw [List.map_const', List.sum_replicate_nat, shares_len k n, Nat.pow_succ]
theorem shares_srt (k : Nat) : ∀ n, (sharesN k n).Pairwise fun a b => lxI (intL a) (intL b) = true
  | 0 => by simp [sharesN]
  | n + 1 => by
    have ih := shares_srt k n
    show ((sharesN k n).flatMap _).Pairwise _
    rw [List.pairwise_flatMap]
    refine ⟨fun a ha => ?_, ih.imp_of_mem fun {a b} ha hb h x hx y hy => ?_⟩
    · refine List.pairwise_map.mpr (List.pairwise_lt_range.imp fun {i j} h => ?_)
      rw [intL_app, intL_app]
      exact lx_at _ [] [] (show (i : Int) < (j : Int) by omega)
    · obtain ⟨i, _, rfl⟩ := List.mem_map.mp hx
      obtain ⟨j, _, rfl⟩ := List.mem_map.mp hy
      rw [intL_app, intL_app]
      refine lx_app _ _ _ _ ?_ h
      unfold intL
      rw [List.length_map, List.length_map, (mem_shares.mp ha).1, (mem_shares.mp hb).1]
/-- pairs of wagon and track, of a share that sorts -/
theorem sort_pw {t : List Int} {s : List Nat} {k : Nat} (hs : ∀ x ∈ s, x < k) (h : sortB t (intL s) k = true) : (t.zip s).Pairwise fun p q => p.2 = q.2 → p.1 < q.1 := by
  have hz : t.zip (intL s) = (t.zip s).map fun p => (p.1, (p.2 : Int)) := by
    unfold intL
    rw [List.zip_map_right]
    rfl
  refine List.pairwise_iff_getElem.mpr fun i j hi hj hij e => ?_
  have hk : (t.zip s)[i].2 < k := hs _ (List.of_mem_zip (List.getElem_mem hi)).2
  have h1 := List.all_eq_true.mp h _ (List.mem_range.mpr hk)
  rw [rise_pw] at h1
  unfold onI at h1
  rw [hz] at h1
  have h2 := List.pairwise_filter.mp (List.pairwise_map.mp h1)
  have h3 := List.pairwise_map.mp h2
  have h4 := List.pairwise_iff_getElem.mp h3 i j hi hj hij
  exact h4 (by simp) (by rw [beq_iff_eq]; show (((t.zip s)[j].2 : Nat) : Int) = _; rw [← e])
theorem share_best {t : List Int} {s : List Nat} {k : Nat} (hl : s.length = t.length) (hs : ∀ x ∈ s, x < k) (h : sortB t (intL s) k = true) : best true t ≤ k := by
  obtain ⟨c, h1, h2, h3⟩ := best_chain true t
  have hP := sort_pw hs h
  have hm : t = (t.zip s).map Prod.fst := (List.map_fst_zip (by omega)).symm
  rw [hm] at h1
  obtain ⟨c', h4, h5⟩ := List.sublist_map_iff.mp h1
  subst h5
  have h6 := hP.sublist h4
  have h7 : c'.Pairwise fun p q => relF true p.1 q.1 = true := List.pairwise_map.mp h2
  have h8 : (c'.map Prod.snd).Nodup := by
    refine List.pairwise_map.mpr ((h6.and h7).imp fun {p q} hh e => ?_)
    have a1 := hh.1 e
    have a2 : q.1 < p.1 := by simpa [relF] using hh.2
    omega
  have h9 := holes k (c'.map Prod.snd) h8 fun x hx => by
    obtain ⟨p, hp, rfl⟩ := List.mem_map.mp hx
    exact hs _ (List.of_mem_zip (h4.subset hp)).2
  rw [← h3]
  simpa using h9
theorem lad_fold (u : List Int) : ∀ s : List Int × List Nat, ∃ r, (u.foldl ladS s).2 = s.2 ++ r := by
  induction u with
  | nil => exact fun s => ⟨[], by simp⟩
  | cons w u ih =>
    intro s
    obtain ⟨r, e⟩ := ih (ladS s w)
    refine ⟨[upI s.1 w] ++ r, ?_⟩
    rw [List.foldl_cons, e]
    show (s.2 ++ [upI s.1 w]) ++ r = _
    rw [List.append_assoc]
theorem lad_pre (t : List Int) (i : Nat) : ∃ r, (lad t).2 = (lad (t.take i)).2 ++ r := by
  have e : lad t = (t.drop i).foldl ladS (lad (t.take i)) := by
    unfold lad
    rw [← List.foldl_append, List.take_append_drop]
  rw [e]
  exact lad_fold _ _
theorem take_snoc' {t : List Int} {i : Nat} (h : i < t.length) : t.take (i + 1) = t.take i ++ [t[i]] := by
  rw [List.take_add_one, List.getElem?_eq_getElem h]; rfl
theorem share_least {t : List Int} {s : List Nat} {k : Nat} (hn : t.Nodup) (hl : s.length = t.length) (hs : ∀ x ∈ s, x < k) (h : sortB t (intL s) k = true) : s = (lad t).2 ∨ lxI (intL (lad t).2) (intL s) = true := by
  have hP := sort_pw hs h
  have key : ∀ m i, i + m = t.length → s.take i = (lad (t.take i)).2 → (s = (lad t).2 ∨ lxI (intL (lad t).2) (intL s) = true) := by
    intro m
    induction m with
    | zero =>
      intro i hi e
      rw [List.take_of_length_le (by omega), List.take_of_length_le (by omega)] at e
      exact .inl e
    | succ m ih =>
      intro i hi e
      have hit : i < t.length := by omega
      have his : i < s.length := by omega
      have htn := take_snoc' hit
      have hnd : (t.take i ++ [t[i]]).Nodup := by rw [← htn]; exact hn.sublist (List.take_sublist _ _)
      have hnd' := List.nodup_append.mp hnd
      obtain ⟨I, hb⟩ := lad_inv hnd'.1
      have hst : s.take (i + 1) = s.take i ++ [s[i]] := by rw [List.take_add_one, List.getElem?_eq_getElem his]; rfl
      have hlad : (lad (t.take (i + 1))).2 = (lad (t.take i)).2 ++ [upI (lad (t.take i)).1 t[i]] := by
        rw [htn, lad_snoc]; rfl
      have hge : upI (lad (t.take i)).1 t[i] ≤ s[i] := by
        refine Nat.le_of_not_lt fun hc => ?_
        have hule : upI (lad (t.take i)).1 t[i] ≤ (lad (t.take i)).1.length := List.countP_le_length
        have hj : s[i] < (lad (t.take i)).1.length := by omega
        have hw := (dec_up (w := t[i]) I.dec s[i] hj).mpr hc
        have hat := I.at_ s[i] hj
        -- a greater wagon stands there
        obtain ⟨q, hq, eq⟩ := List.getElem_of_mem hat
        have hql : q < (t.take i).length := by rw [dp_len] at hq; exact hq
        have hqi : q < i := by rw [List.length_take] at hql; omega
        have e1 : t[q]'(by omega) = (lad (t.take i)).1[s[i]] := by
          have h1 : ((dp true (t.take i)).map Prod.fst)[q]? = (t.take i)[q]? := by rw [dp_fst]
          rw [List.getElem?_map, List.getElem?_eq_getElem hq, eq, List.getElem?_take, if_pos hqi, List.getElem?_eq_getElem (by omega)] at h1
          exact (Option.some.inj h1).symm
        have e2 : s[q]'(by omega) = s[i] := by
          have h1 : ((lad (t.take i)).2.map (· + 1))[q]? = ((dp true (t.take i)).map Prod.snd)[q]? := by rw [hb]
          rw [← e, List.getElem?_map, List.getElem?_map, List.getElem?_take, if_pos hqi, List.getElem?_eq_getElem (by omega), List.getElem?_eq_getElem hq, eq] at h1
          have := Option.some.inj h1
          simp at this
          exact this
        have h5 := List.pairwise_iff_getElem.mp hP q i (by rw [List.length_zip]; omega) (by rw [List.length_zip]; omega) hqi
        rw [List.getElem_zip, List.getElem_zip] at h5
        have h6 := h5 e2
        simp only at h6
        rw [e1] at h6
        omega
      by_cases c : upI (lad (t.take i)).1 t[i] = s[i]
      · exact ih (i + 1) (by omega) (by rw [hst, hlad, e, c])
      · right
        obtain ⟨r, er⟩ := lad_pre t (i + 1)
        rw [hlad, List.append_assoc] at er
        have ev : intL s = intL (lad (t.take i)).2 ++ ((s[i] : Nat) : Int) :: intL (s.drop (i + 1)) := by
          conv => lhs; rw [← List.take_append_drop i s, e, List.drop_eq_getElem_cons his, intL_app]
          rfl
        rw [er, ev, intL_app]
        have hlt : ((upI (lad (t.take i)).1 t[i] : Nat) : Int) < ((s[i] : Nat) : Int) := by omega
        exact lx_at _ _ _ hlt
  exact key t.length 0 (by omega) rfl
theorem lad_lt {t : List Int} (hn : t.Nodup) : ∀ x ∈ (lad t).2, x < best true t := fun x hx => by
  have h1 : x + 1 ∈ (dp true t).map Prod.snd := by
    rw [← lad_best hn]
    exact List.mem_map_of_mem hx
  have := mxN_le h1
  unfold best
  omega
/-- of all shares by k tracks the first that sorts -/
theorem first_good {t : List Int} (hn : t.Nodup) (k : Nat) : ((sharesN k t.length).filter fun s => sortB t (intL s) k).head? = if best true t ≤ k then some (lad t).2 else none := by
  by_cases c : best true t ≤ k
  · rw [if_pos c]
    have hin : (lad t).2 ∈ (sharesN k t.length).filter fun s => sortB t (intL s) k :=
      List.mem_filter.mpr ⟨mem_shares.mpr ⟨lad_len t, fun x hx => by have := lad_lt hn x hx; omega⟩, lad_sorts hn k⟩
    have hp := (shares_srt k t.length).filter fun s => sortB t (intL s) k
    cases hg : (sharesN k t.length).filter fun s => sortB t (intL s) k with
    | nil => rw [hg] at hin; cases hin
    | cons a r =>
      rw [hg] at hin hp
      have ha : a ∈ (sharesN k t.length).filter fun s => sortB t (intL s) k := by rw [hg]; simp
      obtain ⟨a1, a2⟩ := List.mem_filter.mp ha
      obtain ⟨a3, a4⟩ := mem_shares.mp a1
      rcases share_least hn a3 a4 a2 with e | e
      · rw [← e]; rfl
      · rcases List.mem_cons.mp hin with e2 | e2
        · rw [e2]; rfl
        · have := (List.pairwise_cons.mp hp).1 _ e2
          have h2 := lx_tr _ _ _ e this
          rw [lx_irr] at h2; cases h2
  · rw [if_neg c]
    have : (sharesN k t.length).filter (fun s => sortB t (intL s) k) = [] := List.filter_eq_nil_iff.mpr fun s hs hg => by
      obtain ⟨a3, a4⟩ := mem_shares.mp hs
      exact c (share_best a3 a4 hg)
    rw [this]; rfl
/-- the first share leaves no track empty -/
theorem lad_all {t : List Int} (hn : t.Nodup) (j : Nat) : j ∈ (lad t).2 ↔ j < best true t := by
  constructor
  · exact lad_lt hn j
  · intro h
    obtain ⟨I, hb⟩ := lad_inv hn
    have hL : best true t ≤ (lad t).1.length := mxN_bound fun x hx => by
      obtain ⟨p, hp, rfl⟩ := List.mem_map.mp hx
      exact (I.le p hp).2.1
    have h1 := I.at_ j (by omega)
    have h2 : j + 1 ∈ (lad t).2.map (· + 1) := by
      rw [hb]
      exact List.mem_map_of_mem (f := Prod.snd) h1
    obtain ⟨x, hx, e⟩ := List.mem_map.mp h2
    have : x = j := by omega
    rw [← this]; exact hx
end My

namespace My
open PySem PySem.Spec PyProof.Rows L2
def ltE (w : Int) : D → Bool
  | .tup [.int _, .int x] => decide (x < w)
  | _ => false
def fstE : D → D
  | .tup [j, _] => j
  | d => d
def ableL (L : List Int) (off : Nat) (w : Int) : List D := ((enumD off (L.map D.int)).filter (ltE w)).map fstE
theorem able_ok (w : Int) : ∀ (L : List Int) (off : Nat), L.Pairwise (· > ·) → w ∉ L → (upI L w = L.length → ableL L off w = []) ∧ (upI L w < L.length → ∃ r, ableL L off w = .int ((off + upI L w : Nat) : Int) :: r)
  | [], off, _, _ => ⟨fun _ => rfl, fun h => absurd h (by simp)⟩
  | a :: r, off, hp, hw => by
    have hp := List.pairwise_cons.mp hp
    have e : upI (a :: r) w = (if w < a then 1 else 0) + upI r w := by
      unfold upI; rw [List.countP_cons]; by_cases c : w < a <;> simp [c]; omega
    have hw2 : w ∉ r := fun h => hw (List.mem_cons_of_mem _ h)
    have hne : a ≠ w := fun h => hw (by simp [h])
    obtain ⟨i1, i2⟩ := able_ok w r (off + 1) hp.2 hw2
    have ex : ableL (a :: r) off w = if a < w then .int ((off : Nat) : Int) :: ableL r (off + 1) w else ableL r (off + 1) w := by
      show ((D.tup [.int ((off : Nat) : Int), .int a] :: enumD (off + 1) (r.map D.int)).filter (ltE w)).map fstE = _
      rw [List.filter_cons]
      have : ltE w (D.tup [.int ((off : Nat) : Int), .int a]) = decide (a < w) := rfl
      rw [this]
      by_cases c : a < w
      · simp [c, ableL, fstE]
      · simp [c, ableL]
    by_cases c : w < a
    · rw [ex, if_neg (by omega), e, if_pos c]
      refine ⟨fun h => i1 (by simp at h; omega), fun h => ?_⟩
      obtain ⟨q, hq⟩ := i2 (by simp at h; omega)
      exact ⟨q, by rw [hq]; congr 3; omega⟩
    · have z : upI r w = 0 := by
        unfold upI
        rw [List.countP_eq_zero]
        intro x hx
        have := hp.1 x hx
        simp; omega
      rw [ex, if_pos (by omega), e, if_neg c, z]
      exact ⟨fun h => by simp at h, fun _ => ⟨_, by simp; rfl⟩⟩
theorem take_snoc {t : List Int} {i : Nat} {w : Int} (h : t[i]? = some w) : t.take (i + 1) = t.take i ++ [w] := by
  rw [List.take_add_one, h]; rfl
theorem take_nodup {t : List Int} {i : Nat} {w : Int} (hn : t.Nodup) (h : t[i]? = some w) : (t.take i).Nodup ∧ w ∉ t.take i := by
  have h1 : (t.take i ++ [w]).Nodup := by rw [← take_snoc h]; exact hn.sublist (List.take_sublist _ _)
  have h2 := List.nodup_append.mp h1
  exact ⟨h2.1, fun z => h2.2.2 w z w (by simp) rfl⟩
theorem lad_len1 (t : List Int) : (lad t).1.length ≤ t.length := by
  induction t using snoc_ind with
  | h0 => exact Nat.le_refl _
  | h1 t w ih =>
    have hle : upI (lad t).1 w ≤ (lad t).1.length := List.countP_le_length
    rw [lad_snoc, List.length_append]
    show ((lad t).1.take (upI (lad t).1 w) ++ w :: (lad t).1.drop (upI (lad t).1 w + 1)).length ≤ _
    simp; omega
def natD (l : List Nat) : List D := l.map fun (k : Nat) => D.int (k : Int)
theorem natD_app (a b : List Nat) : natD (a ++ b) = natD a ++ natD b := List.map_append
/-! ### chains -/
theorem maxL_nat (l : List Nat) : maxL ((0 : Int) :: l.map fun (k : Nat) => (k : Int)) = (mxN l : Int) := by
  obtain ⟨k1, k2⟩ := maxL_spec ((0 : Int) :: l.map fun (k : Nat) => (k : Int)) (by simp)
  refine Int.le_antisymm ?_ ?_
  · rcases List.mem_cons.mp k1 with e | h
    · rw [e]; omega
    · obtain ⟨x, hx, e⟩ := List.mem_map.mp h
      rw [← e]
      have := mxN_le hx
      omega
  · by_cases z : mxN l = 0
    · rw [z]; exact k2 0 (by simp)
    · exact k2 _ (List.mem_cons_of_mem _ (List.mem_map_of_mem (mxN_mem z)))
theorem natD_ints (l : List Nat) : natD l = (l.map fun (k : Nat) => (k : Int)).map D.int := by
  unfold natD; rw [List.map_map]; rfl
theorem ints_natD (l : List Nat) : intsD (D.int 0 :: natD l) = some ((0 : Int) :: l.map fun (k : Nat) => (k : Int)) := by
  have e : D.int 0 :: natD l = ((0 : Int) :: l.map fun (k : Nat) => (k : Int)).map D.int := by rw [natD_ints]; rfl
  rw [e, intsD_map]
def relD (f : Bool) (t : List Int) (w : Int) : D → Bool
  | .int j => relF f (t.getD j.toNat 0) w
  | _ => false
def getB (A : List (Int × Nat)) : D → D
  | .int j => .int (((A.getD j.toNat (0, 0)).2 : Nat) : Int)
  | _ => .non
theorem ahead_ok (f : Bool) (t : List Int) (w : Int) (A : List (Int × Nat)) (hA : A.map Prod.fst = t.take A.length) (hl : A.length ≤ t.length) :
    ((((List.range A.length).map fun (i : Nat) => D.int (0 + (i : Int))).filter (relD f t w)).map (getB A)) = natD ((A.filter fun p => relF f p.1 w).map Prod.snd) := by
  have e : A = (List.range A.length).map fun j => A.getD j (0, 0) := by
    refine List.ext_getElem (by simp) fun i h1 h2 => ?_
    simp [List.getD_eq_getElem?_getD, List.getElem?_eq_getElem h1]
  have ef : ∀ j, j < A.length → (A.getD j (0, 0)).1 = t.getD j 0 := fun j hj => by
    have h1 : (A.map Prod.fst)[j]? = (t.take A.length)[j]? := by rw [hA]
    rw [List.getElem?_map, List.getElem?_take, if_pos hj, List.getElem?_eq_getElem hj, List.getElem?_eq_getElem (by omega : j < t.length)] at h1
    rw [List.getD_eq_getElem?_getD, List.getD_eq_getElem?_getD, List.getElem?_eq_getElem hj, List.getElem?_eq_getElem (by omega : j < t.length)]
    simpa using h1
  have e2 : (A.filter fun p => relF f p.1 w).map Prod.snd = ((List.range A.length).filter fun j => relF f (t.getD j 0) w).map fun j => (A.getD j (0, 0)).2 := by
    conv => lhs; rw [e]
    rw [List.filter_map, List.map_map]
    have : (List.range A.length).filter ((fun p : Int × Nat => relF f p.1 w) ∘ fun j => A.getD j (0, 0)) = (List.range A.length).filter fun j => relF f (t.getD j 0) w := by
      refine List.filter_congr fun j hj => ?_
      rw [List.mem_range] at hj
      show relF f (A.getD j (0, 0)).1 w = _
      rw [ef j hj]
    rw [this]
    rfl
  rw [e2, List.filter_map, List.map_map, natD, List.map_map]
  have : (List.range A.length).filter (relD f t w ∘ fun (i : Nat) => D.int (0 + (i : Int))) = (List.range A.length).filter fun j => relF f (t.getD j 0) w := by
    refine List.filter_congr fun j hj => ?_
    show relF f (t.getD ((0 : Int) + (j : Int)).toNat 0) w = _
    rw [show ((0 : Int) + (j : Int)).toNat = j by omega]
  rw [this]
  refine List.map_congr_left fun j _ => ?_
  show D.int (((A.getD ((0 : Int) + (j : Int)).toNat (0, 0)).2 : Nat) : Int) = D.int _
  rw [show ((0 : Int) + (j : Int)).toNat = j by omega]
theorem chain_ok {t : List Int} (f : Bool) (hl : t.length ≤ 60) : F_q_law_chain [tD t, .bl f] = some (.val (.int (best f t)), []) := by
  apply of_W
  simp [F_q_law_chain, b_q_law_chain, defF_eq, N_q_law_chain, Γ_q_law_chain]
  refine W_for2 (items := enumD 0 (t.map D.int)) (ρ1 := [Ent.val (tD t), Ent.val (.bl f), Ent.own [], Ent.no, Ent.no, Ent.no, Ent.no]) (of_W (by simp)) (fun i ρ => ρ = [Ent.val (tD t), Ent.val (.bl f), Ent.own (natD ((dp f (t.take i)).map Prod.snd)), Ent.no, Ent.no, Ent.no, Ent.no]) rfl ?_ ?_
  · rintro i d ρ hd rfl
    obtain ⟨hi, rfl⟩ := enum_int hd
    have ht : t.take (i + 1) = t.take i ++ [t[i]] := take_snoc (List.getElem?_eq_getElem hi)
    have hA := dp_fst f (t.take i)
    have hL := dp_len f (t.take i)
    have hti : (t.take i).length = i := by rw [List.length_take]; omega
    rw [hti] at hL
    have ah := ahead_ok f t t[i] (dp f (t.take i)) (by rw [hL]; exact hA) (by omega)
    rw [hL] at ah
    rw [ht, dp_snoc]
    unfold topF
    generalize dp f (t.take i) = A at *
    simp
    refine W_lc (relD f t t[i]) (getB A) ?_
    simp [wipeE, restoreE, isData, Tg.slots]
    simp only [Int.zero_add] at ah
    have hfl : (List.filter (relD f t t[i]) (List.map (fun i : Nat => D.int (i : Int)) (List.range i))).length ≤ i := by
      refine Nat.le_trans (List.length_filter_le _ _) ?_
      simp
    have hnl : (natD (A.map Prod.snd)).length = A.length := by unfold natD; rw [List.length_map, List.length_map]
    refine ⟨by omega, by omega, fun a ha => ?_, by omega, ?_⟩
    · have e1 : atI (t.map D.int) (a : Int) = some (D.int (t.getD a 0)) := by
        obtain ⟨h, e⟩ := atI_ok (l := t.map D.int) (k := (a : Int)) (by omega) (by rw [List.length_map]; omega)
        rw [e]
        simp [List.getD_eq_getElem?_getD, List.getElem?_eq_getElem (by omega : a < t.length)]
      have e2 : atI (natD (A.map Prod.snd)) (a : Int) = some (getB A (D.int (a : Int))) := by
        obtain ⟨h, e⟩ := atI_ok (l := natD (A.map Prod.snd)) (k := (a : Int)) (by omega) (by rw [hnl]; omega)
        rw [e]
        simp [natD, getB, List.getD_eq_getElem?_getD, List.getElem?_eq_getElem (by omega : a < A.length)]
      have e3 : relD f t t[i] (D.int (a : Int)) = (decide (t[i] < t.getD a 0) == f) := rfl
      rw [e1, e3]
      simp only [W_some, r19, rd_val, eq_bb, e2, sc_bb]
      refine ⟨.inl trivial, ?_⟩
      cases decide (t[i] < t.getD a 0) == f
      · exact .inl ⟨rfl, rfl, fun z => nomatch z⟩
      · exact .inr ⟨rfl, rfl, fun _ => trivial⟩
    · rw [ah, ints_natD, W_some, maxL_nat]
      refine ⟨by simp, by omega, ?_⟩
      rw [natD_app]
      show _ = natD _ ++ [D.int ((1 + mxN _ : Nat) : Int)]
      rw [Int.natCast_add]
      rfl
  · rintro ρ rfl
    rw [enumD_len, List.length_map, List.take_length]
    have hL := dp_len f t
    have hnl : (natD ((dp f t).map Prod.snd)).length = t.length := by unfold natD; rw [List.length_map, List.length_map, hL]
    simp
    refine ⟨by omega, ?_⟩
    rw [ints_natD, W_some, maxL_nat]
    exact ⟨by simp, rfl⟩
def shareB (t : List Int) (k : Int) (s : List Int) : Bool := decide (s.length = t.length) && s.all fun x => decide (0 ≤ x) && decide (x ≤ k - 1)
theorem lad_share {t : List Int} (hn : t.Nodup) (k : Int) (h0 : 0 ≤ k) : shareB t k ((lad t).2.map fun (j : Nat) => (j : Int)) = decide ((best true t : Int) ≤ k) := by
  have hb := lad_best hn
  have e : best true t = mxN ((lad t).2.map (· + 1)) := by rw [hb]; rfl
  unfold shareB
  rw [List.length_map, lad_len, decide_eq_true rfl, Bool.true_and, Bool.eq_iff_iff, List.all_eq_true, decide_eq_true_iff, e]
  constructor
  · intro h
    have : mxN ((lad t).2.map (· + 1)) ≤ k.toNat := mxN_bound fun x hx => by
      obtain ⟨j, hj, rfl⟩ := List.mem_map.mp hx
      have := h (j : Int) (List.mem_map_of_mem hj)
      simp at this; omega
    omega
  · intro h x hx
    obtain ⟨j, hj, rfl⟩ := List.mem_map.mp hx
    have : j + 1 ≤ mxN ((lad t).2.map (· + 1)) := mxN_le (List.mem_map_of_mem (f := (· + 1)) hj)
    simp; omega
def gtF (w : Int) : D → Bool
  | .int x => decide (w < x)
  | _ => false
theorem up_filter (u : List Int) (w : Int) : ((u.map D.int).filter (gtF w)).length = upI u w := by
  induction u with
  | nil => rfl
  | cons a u ih =>
    have e : upI (a :: u) w = (if w < a then 1 else 0) + upI u w := by
      unfold upI; rw [List.countP_cons]; by_cases c : w < a <;> simp [c]; omega
    have e2 : gtF w (D.int a) = decide (w < a) := rfl
    rw [List.map_cons, List.filter_cons, e, e2]
    by_cases c : w < a
    · simp only [c, decide_true, if_true, List.length_cons, ih]; omega
    · simp only [c, decide_false, Bool.false_eq_true, if_false, ih]; omega
theorem zip_ints (t s : List Int) : zipD (t.map D.int) (s.map D.int) = (t.zip s).map fun p => D.tup [.int p.1, .int p.2] := by
  induction t generalizing s with
  | nil => simp [zipD]
  | cons a t ih =>
    cases s with
    | nil => simp [zipD]
    | cons b s => simp [zipD, ih]
def onC (k : Int) : D → Bool
  | .tup [_, .int x] => x == k
  | _ => false
theorem on_ok (t s : List Int) (k : Int) : ((zipD (t.map D.int) (s.map D.int)).filter (onC k)).map fstE = (onI t s k).map D.int := by
  rw [zip_ints, List.filter_map, List.map_map, onI, List.map_map]
  rfl
theorem onI_len (t s : List Int) (k : Int) : (onI t s k).length ≤ t.length := by
  unfold onI
  rw [List.length_map]
  refine Nat.le_trans (List.length_filter_le _ _) ?_
  rw [List.length_zip]; omega
theorem rise_srt {u : List Int} (hn : u.Nodup) : (riseI u = true) ↔ u = srtI u := by
  rw [rise_pw]
  constructor
  · intro h
    exact srtI_only (List.Perm.refl u) (h.imp fun {x y} h => by omega)
  · intro h
    have h1 := srtI_srt u
    rw [← h] at h1
    exact (List.Pairwise.and h1 hn).imp fun {x y} h => by omega
theorem onI_sub (t s : List Int) (k : Int) : (onI t s k).Sublist t := by
  induction t generalizing s with
  | nil => simp [onI]
  | cons a t ih =>
    cases s with
    | nil => simp [onI]
    | cons b s =>
      unfold onI
      rw [List.zip_cons_cons, List.filter_cons]
      split
      · exact (ih s).cons_cons a
      · exact (ih s).cons a
def nriseD : D → Bool
  | .lst ds => match intsD ds with
    | some u => !riseI u
    | none => false
  | _ => false
theorem nriseD_map (u : List Int) : nriseD (.lst (u.map D.int)) = !riseI u := by
  show (match intsD (u.map D.int) with | some u => !riseI u | none => false) = _
  rw [intsD_map]
theorem eqDs_ints (u v : List Int) : eqDs (u.map D.int) (v.map D.int) = decide (u = v) := by
  induction u generalizing v with
  | nil => cases v <;> simp
  | cons a u ih =>
    cases v with
    | nil => simp
    | cons b v =>
      simp only [List.map_cons, eqs_cc, eq_ii, ih]
      by_cases c : a = b <;> by_cases d : u = v <;> simp [c, d]
def sndC (w : Int) : D → Bool
  | .tup [_, .int x] => decide (x < w)
  | _ => false
theorem zip_nat (l : List Nat) (r : List Int) : zipD (natD l) (r.map D.int) = (l.zip r).map fun p => D.tup [.int (p.1 : Int), .int p.2] := by
  unfold natD
  induction l generalizing r with
  | nil => simp [zipD]
  | cons a l ih =>
    cases r with
    | nil => simp [zipD]
    | cons b r => simp [zipD, ih]
theorem behind_list (l : List Nat) (r : List Int) (w : Int) : ((zipD (natD l) (r.map D.int)).filter (sndC w)).map fstE = natD (((l.zip r).filter fun p => decide (p.2 < w)).map Prod.fst) := by
  rw [zip_nat, List.filter_map, List.map_map, natD, List.map_map]
  rfl
theorem natD_cons (a : Nat) (l : List Nat) : natD (a :: l) = D.int (a : Int) :: natD l := rfl
/-- .. and the law's own way, from the end -/
def prD (p : Nat × Int) : D := .tup [.int p.2, .int (p.1 : Int)]
def fstC (w : Int) : D → Bool
  | .tup [.int x, _] => decide (x < w)
  | _ => false
def sndE : D → D
  | .tup [_, j] => j
  | d => d
theorem behind_list2 (A : List (Nat × Int)) (w : Int) : (((A.map prD)).filter (fstC w)).map sndE = natD ((A.filter fun p => decide (p.2 < w)).map Prod.fst) := by
  rw [List.filter_map, List.map_map, natD, List.map_map]
  rfl
def adjD (t : List Int) : D → Bool
  | .tup [.int a, .int b] => gtT t a b
  | _ => true
theorem adj_zip (t : List Int) : ∀ v : List Int, ((zipD (v.map D.int) ((v.map D.int).drop 1)).map (adjD t)).all id = adjT t v
  | [] => rfl
  | [a] => rfl
  | a :: b :: r => by
    have ih := adj_zip t (b :: r)
    have e : adjT t (a :: b :: r) = (gtT t a b && adjT t (b :: r)) := rfl
    rw [e, ← ih]
    rfl
theorem at_int {t : List Int} {a : Int} (h0 : 0 ≤ a) (h1 : a ≤ (t.length : Int) - 1) : atI (t.map D.int) a = some (D.int (t.getD a.toNat 0)) := by
  obtain ⟨h, e⟩ := atI_ok (l := t.map D.int) (k := a) h0 (by rw [List.length_map]; omega)
  rw [e]
  simp [List.getD_eq_getElem?_getD, List.getElem?_eq_getElem (by omega : a.toNat < t.length)]
theorem rg_down (m : Nat) (h : m ≤ 1000) : rngD [.int (m : Int), .int 0, .int (-1)] = some ((List.range m).map fun (n : Nat) => D.int ((m : Int) + n * (-1))) := by
  refine rngD3' (by decide) (by decide) (by omega) (by decide) ?_
  have : (m : Int) - 0 + (- -1 - 1) = (m : Int) := by omega
  unfold rsz
  rw [this]
  simp
def okD (t : List Int) (F : List Nat) (many : Nat) : D → Bool
  | .int j => okP t F many j.toNat
  | _ => false
theorem cand_D (t : List Int) (F : List Nat) (many : Nat) : (((List.range t.length).map fun (i : Nat) => D.int (i : Int)).filter (okD t F many)) = natD (cand t F many) := by
  rw [List.filter_map, natD, cand]
  rfl
theorem mx_le (t : List Int) : ∀ x ∈ flN t, x ≤ t.length := by
  induction t with
  | nil => intro x hx; cases hx
  | cons w r ih =>
    intro x hx
    rcases List.mem_cons.mp (show x ∈ (1 + topB (flN r) r w) :: flN r from hx) with rfl | hx
    · have : topB (flN r) r w ≤ r.length := mxN_bound fun y hy => by
        obtain ⟨p, hp, rfl⟩ := List.mem_map.mp hy
        exact ih _ (List.of_mem_zip (List.mem_filter.mp hp).1).1
      simp; omega
    · have := ih x hx
      simp; omega
theorem mx_len (t : List Int) : mxN (flN t) ≤ t.length := mxN_bound (mx_le t)
theorem at_nat {l : List Nat} {j : Nat} (h : j < l.length) : atI (natD l) (j : Int) = some (D.int ((l.getD j 0 : Nat) : Int)) := by
  have hn : (natD l).length = l.length := List.length_map ..
  obtain ⟨h', e⟩ := atI_ok (l := natD l) (k := (j : Int)) (by omega) (by omega)
  rw [e]
  simp [natD, List.getD_eq_getElem?_getD, List.getElem?_eq_getElem h]
theorem cand_cons {t : List Int} {F : List Nat} {many : Nat} (h : cand t F many ≠ []) : ∃ r, natD (cand t F many) = D.int (((cand t F many).headD 0 : Nat) : Int) :: r := by
  cases c : cand t F many with
  | nil => exact absurd c h
  | cons a r => exact ⟨natD r, rfl⟩
/-! ### .. and the law's own -/
def lastT (t : List Int) (F : List Nat) : Int := match F.getLast? with
  | none => 1000
  | some p => t.getD p 0
def startN (F : List Nat) : Nat := match F.getLast? with
  | none => 0
  | some p => p + 1
def okL (t : List Int) (F : List Nat) (many : Nat) : D → Bool
  | .int j => ((flN t).getD j.toNat 0 == many) && decide (t.getD j.toNat 0 < lastT t F)
  | _ => false
theorem cand_L {t : List Int} (h : TrI t) (F : List Nat) (many : Nat) (hs : startN F ≤ t.length) : (((List.range (t.length - startN F)).map fun (i : Nat) => D.int ((startN F : Int) + (i : Int))).filter (okL t F many)) = natD (cand t F many) := by
  have e0 : List.range t.length = List.range (startN F) ++ (List.range (t.length - startN F)).map (startN F + ·) := by
    conv => lhs; rw [show t.length = startN F + (t.length - startN F) by omega, List.range_add]
  have e1 : (List.range (startN F)).filter (okP t F many) = [] := by
    refine List.filter_eq_nil_iff.mpr fun j hj => ?_
    rw [List.mem_range] at hj
    unfold startN at hj
    unfold okP
    cases c : F.getLast? with
    | none => rw [c] at hj; exact absurd hj (by simp)
    | some p =>
      rw [c] at hj
      simp only at hj
      simp
      omega
  unfold cand
  rw [e0, List.filter_append, e1, List.nil_append, List.filter_map, List.filter_map, natD, List.map_map]
  have e2 : (List.range (t.length - startN F)).filter (okL t F many ∘ fun (i : Nat) => D.int ((startN F : Int) + (i : Int))) = (List.range (t.length - startN F)).filter (okP t F many ∘ (startN F + ·)) := by
    refine List.filter_congr fun j hj => ?_
    rw [List.mem_range] at hj
    have ej : ((startN F : Int) + (j : Int)).toNat = startN F + j := by omega
    show (((flN t).getD ((startN F : Int) + (j : Int)).toNat 0 == many) && decide (t.getD ((startN F : Int) + (j : Int)).toNat 0 < lastT t F)) = okP t F many (startN F + j)
    rw [ej]
    unfold okP lastT startN
    cases c : F.getLast? with
    | none =>
      simp only [Nat.zero_add]
      have hj2 : j < t.length := by unfold startN at hj; rw [c] at hj; simpa using hj
      have := h.2.2 t[j] (List.getElem_mem hj2)
      have e9 : t.getD j 0 = t[j] := by rw [List.getD_eq_getElem?_getD, List.getElem?_eq_getElem hj2]; rfl
      rw [e9, decide_eq_true (by omega : t[j] < 1000)]
    | some p =>
      simp only
      rw [decide_eq_true (by omega : p < p + 1 + j), Bool.true_and]
  rw [e2]
  refine List.map_congr_left fun j _ => ?_
  show D.int _ = D.int _
  congr 1
end My

namespace My
/-! ### shapes, and their fillings by hooks -/
def shp : Nat → Nat → Nat → List (List Nat)
  | 0, _, _ => []
  | f + 1, m, w => if m = 0 then [[]] else (List.range (min m w)).flatMap fun i => (shp f (m - (i + 1)) (i + 1)).map ((i + 1) :: ·)
def colN (s : List Nat) (c : Nat) : Nat := (s.filter fun r => decide (c < r)).length
def hookI (s : List Nat) (at_ r c : Nat) : Int := (r : Int) - c + colN s c - at_ - 1
def rowP (s : List Nat) (at_ r : Nat) (acc : Int) : Int := (List.range r).foldl (fun p c => p * hookI s at_ r c) acc
def prodF (s : List Nat) : Nat → List Nat → Int → Int
  | _, [], acc => acc
  | at_, r :: rest, acc => prodF s (at_ + 1) rest (rowP s at_ r acc)
def facI : Nat → Int
  | 0 => 1
  | n + 1 => facI n * ((n : Int) + 1)
def filI (s : List Nat) : Int := facI s.sum / prodF s 0 s 1
def sqI (s : List Nat) : Int := filI s * filI s
def cntI (m e : Nat) : Int := ((shp 24 m (min m e)).map sqI).sum
def firI (m k : Nat) : Int := (((shp 23 (m - k) k).map (k :: ·)).map sqI).sum
theorem cnt_fir {m : Nat} (hm : m ≠ 0) (e : Nat) : cntI m e = ((List.range (min m e)).map fun i => firI m (i + 1)).sum := by
  unfold cntI
  have h : shp 24 m (min m e) = (List.range (min m (min m e))).flatMap fun i => (shp 23 (m - (i + 1)) (i + 1)).map ((i + 1) :: ·) := by
    show (if m = 0 then _ else _) = _
    rw [if_neg hm]
  have h2 : min m (min m e) = min m e := by omega
  rw [h, h2]
  generalize List.range (min m e) = L
  induction L with
  | nil => rfl
  | cons i L ih =>
    rw [List.flatMap_cons, List.map_append, List.sum_append, ih]
    rfl
theorem shp_facts : ∀ {f m w : Nat} {s : List Nat}, s ∈ shp f m w → s.sum = m ∧ s.length ≤ m ∧ ∀ x ∈ s, x ≤ w ∧ 1 ≤ x
  | 0, _, _, _, h => nomatch h
  | f + 1, m, w, s, h => by
    have h : s ∈ (if m = 0 then [[]] else (List.range (min m w)).flatMap fun i => (shp f (m - (i + 1)) (i + 1)).map ((i + 1) :: ·)) := h
    by_cases c : m = 0
    · rw [if_pos c] at h
      rw [List.mem_singleton.mp h]
      exact ⟨by simp [c], by simp, fun x hx => nomatch hx⟩
    · rw [if_neg c] at h
      obtain ⟨i, hi, hs⟩ := List.mem_flatMap.mp h
      obtain ⟨r, hr, rfl⟩ := List.mem_map.mp hs
      have hi := List.mem_range.mp hi
      obtain ⟨h1, h2, h3⟩ := shp_facts hr
      refine ⟨by rw [List.sum_cons, h1]; omega, by rw [List.length_cons]; omega, fun x hx => ?_⟩
      rcases List.mem_cons.mp hx with rfl | hx
      · omega
      · have := h3 x hx; omega
theorem shp_head {f m w : Nat} {k : Nat} {r : List Nat} (h : k :: r ∈ shp f m w) : ∀ x ∈ k :: r, x ≤ k := by
  cases f with
  | zero => cases h
  | succ f =>
    have h : k :: r ∈ (if m = 0 then [[]] else (List.range (min m w)).flatMap fun i => (shp f (m - (i + 1)) (i + 1)).map ((i + 1) :: ·)) := h
    by_cases c : m = 0
    · rw [if_pos c] at h
      cases List.mem_singleton.mp h
    · rw [if_neg c] at h
      obtain ⟨i, hi, hs⟩ := List.mem_flatMap.mp h
      obtain ⟨r', hr, e⟩ := List.mem_map.mp hs
      have e := List.cons.inj e
      intro x hx
      rcases List.mem_cons.mp hx with rfl | hx
      · exact Nat.le_refl _
      · have := (shp_facts hr).2.2 x (e.2 ▸ hx); omega
theorem shp_wide {f m w : Nat} {s : List Nat} (h : s ∈ shp f m w) : s ∈ shp f m m := by
  cases f with
  | zero => cases h
  | succ f =>
    have h : s ∈ (if m = 0 then [[]] else (List.range (min m w)).flatMap fun i => (shp f (m - (i + 1)) (i + 1)).map ((i + 1) :: ·)) := h
    show s ∈ (if m = 0 then [[]] else (List.range (min m m)).flatMap fun i => (shp f (m - (i + 1)) (i + 1)).map ((i + 1) :: ·))
    by_cases c : m = 0
    · rw [if_pos c] at h ⊢; exact h
    · rw [if_neg c] at h ⊢
      obtain ⟨i, hi, hs⟩ := List.mem_flatMap.mp h
      have hi := List.mem_range.mp hi
      exact List.mem_flatMap.mpr ⟨i, List.mem_range.mpr (by omega), hs⟩
theorem pow_sum (m : Nat) : ∀ k, k ≤ m → ((List.range k).map fun i => 2 ^ (m - (i + 1))).sum + 2 ^ (m - k) ≤ 2 ^ m
  | 0, _ => by simp
  | k + 1, h => by
    have ih := pow_sum m k (by omega)
    rw [List.range_succ, List.map_append, List.sum_append]
    have e : 2 ^ (m - k) = 2 ^ (m - (k + 1)) + 2 ^ (m - (k + 1)) := by
      rw [show m - k = (m - (k + 1)) + 1 by omega, Nat.pow_succ]; omega
    simp only [List.map_cons, List.map_nil, List.sum_cons, List.sum_nil]
    omega
theorem sum_le {α : Type} (L : List α) (f g : α → Nat) (h : ∀ x ∈ L, f x ≤ g x) : (L.map f).sum ≤ (L.map g).sum := by
  induction L with
  | nil => exact Nat.le_refl _
  | cons a L ih =>
    have h1 := h a (by simp)
    have h2 := ih fun x hx => h x (List.mem_cons_of_mem _ hx)
    simp only [List.map_cons, List.sum_cons]
    omega
theorem shp_len : ∀ f m w : Nat, (shp f m w).length ≤ 2 ^ m
  | 0, m, _ => Nat.zero_le _
  | f + 1, m, w => by
    show (if m = 0 then [[]] else (List.range (min m w)).flatMap fun i => (shp f (m - (i + 1)) (i + 1)).map ((i + 1) :: ·)).length ≤ _
    by_cases c : m = 0
    · rw [if_pos c, c]; exact Nat.le_refl _
    · rw [if_neg c, List.length_flatMap]
      simp only [List.length_map]
      have h1 := sum_le (List.range (min m w)) (fun i => (shp f (m - (i + 1)) (i + 1)).length) (fun i => 2 ^ (m - (i + 1))) fun i _ => shp_len f _ _
      exact Nat.le_trans h1 (Nat.le_trans (Nat.le_add_right _ _) (pow_sum m (min m w) (by omega)))
def goodS (s : List Nat) : Bool := decide (0 < prodF s 0 s 1) && decide ((prodF s 0 s 1).natAbs < 2 ^ 64) && decide ((filI s).natAbs < 2 ^ 31)
theorem all_good : (List.range 21).all (fun m => (shp 24 m m).all goodS) = true := by decide +kernel
def tabI (m : Nat) : List Int := (List.range m).map fun i => firI m (i + 1)
def TT : List (List Int) := [[], [1], [1, 1], [1, 4, 1], [1, 13, 9, 1], [1, 41, 61, 16, 1], [1, 131, 381, 181, 25, 1], [1, 428, 2332, 1821, 421, 36, 1], [1, 1429, 14337, 17557, 6105, 841, 49, 1], [1, 4861, 89497, 167449, 83029, 16465, 1513, 64, 1], [1, 16795, 569794, 1604098, 1100902, 296326, 38281, 2521, 81, 1], [1, 58785, 3704504, 15555398, 14516426, 5122877, 874886, 79861, 3961, 100, 1], [1, 208011, 24584693, 153315999, 192422979, 87116283, 18943343, 2250887, 153341, 5941, 121, 1], [1, 742899, 166335677, 1538907306, 2579725656, 1477363967, 399080475, 59367101, 5213287, 275705, 8581, 144, 1], [1, 2674439, 1145533650, 15743413076, 35098717902, 25191909848, 8312317976, 1508071384, 164060352, 11110464, 469925, 12013, 169, 1], [1, 9694844, 8017098273, 164161815768, 485534447114, 434119587475, 172912977525, 37558353900, 4927007100, 410474625, 22128576, 766221, 16381, 196, 1], [1, 35357669, 56928364553, 1744049683213, 6835409506841, 7583461369373, 3615907795025, 927716186325, 143938455225, 14353045401, 947236425, 41662441, 1203441, 21841, 225, 1], [1, 129644789, 409558170361, 18865209953045, 97966603326993, 134533482045389, 76340522760097, 22904111472825, 4142847526101, 484748595081, 38094121561, 2043822961, 74797417, 1830561, 28561, 256, 1], [1, 477638699, 2981386305018, 207591285198178, 1429401763567226, 2426299018270338, 1631788075873114, 568209449266202, 118504614869214, 16029615164446, 1470147102730, 93574631242, 4166173834, 128922442, 2708305, 36721, 289, 1], [1, 1767263189, 21935294881644, 2321616416280982, 21226755241285022, 44506885647682026, 35378058306185002, 14216730315766814, 3389618010035458, 523952747921310, 55235843005474, 4087226730670, 215285274766, 8088065845, 214496074, 3910885, 46513, 324, 1], [1, 6564120419, 162951791097669, 26362085777156567, 320692032888290224, 830512607486659272, 778860477345867008, 359666061054003144, 97376389179852540, 17044414451764396, 2041043061768988, 172898075436668, 10556881208783, 468217205543, 15050633363, 345989051, 5527861, 58141, 361, 1]]
theorem tabs : (List.range 21).all (fun m => tabI m == TT.getD m []) = true := by decide +kernel
theorem cnt_tab {m : Nat} (h0 : m ≠ 0) (hm : m ≤ 20) (e : Nat) : cntI m e = ((TT.getD m []).take e).sum := by
  have h := List.all_eq_true.mp tabs m (List.mem_range.mpr (by omega))
  have h : tabI m = TT.getD m [] := eq_of_beq h
  rw [← h, cnt_fir h0]
  unfold tabI
  rw [← List.map_take, List.take_range]
  congr 3
  omega
end My

namespace My
open PySem PySem.Spec PyProof.Rows L2
abbrev nT (l : List Nat) : D := .tup (natD l)
theorem natD_len (l : List Nat) : (natD l).length = l.length := List.length_map ..
def consD (k : Nat) : D → D
  | .tup ds => .tup (.int (k : Int) :: ds)
  | d => d
theorem cons_nT (k : Nat) (L : List (List Nat)) : (L.map nT).map (consD k) = (L.map (k :: ·)).map nT := by
  rw [List.map_map, List.map_map]
  rfl
theorem shapes_step (F : List D → Option (RV × List D)) (f m w : Nat) (hm : m ≤ 20) (hw : w ≤ 60) (hF : ∀ m' w' : Nat, m' < m → w' ≤ 60 → F [.int (m' : Int), .int (w' : Int)] = some (.new ((shp f m' w').map nT), [])) :
    defF (semB (Γ_p_shapes_of F) b_p_shapes_of) N_p_shapes_of 2 false [.int (m : Int), .int (w : Int)] = some (.new ((shp (f + 1) m w).map nT), []) := by
  apply of_W
  refine W_def rfl rfl ?_
  unfold b_p_shapes_of
  refine W_cons.mpr ?_
  simp only [semS]
  simp [-semB, -semS, N_p_shapes_of]
  by_cases c : m = 0
  · subst c
    refine .inr ⟨rfl, ?_⟩
    simp [shp, natD]
  refine .inl ⟨c, ?_⟩
  refine ⟨_, rfl, ?_⟩
  refine W_nx.mpr ?_
  refine W_cons.mpr ?_
  simp only [semS]
  simp [-semB, -semS]
  have hmin : (if (w : Int) < (m : Int) then (w : Int) else (m : Int)) = ((min m w : Nat) : Int) := by split <;> omega
  have he : ∀ i, i ≤ min m w → ((List.range i).flatMap fun i => (shp f (m - (i + 1)) (i + 1)).map ((i + 1) :: ·)).length ≤ 2 ^ 20 := fun i hi => by
    rw [List.length_flatMap]
    simp only [List.length_map]
    have h1 := sum_le (List.range i) (fun i => (shp f (m - (i + 1)) (i + 1)).length) (fun i => 2 ^ (m - (i + 1))) fun i _ => shp_len f _ _
    have h2 := pow_sum m i (by omega)
    have h3 : 2 ^ m ≤ 2 ^ 20 := Nat.pow_le_pow_right (by decide) hm
    exact Nat.le_trans h1 (Nat.le_trans (Nat.le_trans (Nat.le_add_right _ _) h2) h3)
  refine W_cons.mpr ?_
  refine W_forB (items := (List.range (min m w)).map fun (i : Nat) => D.int (1 + (i : Int))) (ρ1 := [.val (.int m), .val (.int w), .own [], .no, .no]) (of_W (by
    simp
    have hmin : (if w < m then (w : Int) else (m : Int)) = ((min m w : Nat) : Int) := by split <;> omega
    rw [hmin]
    exact ⟨by omega, rfl⟩)) (fun i ρ => ρ = [.val (.int m), .val (.int w), .own (((List.range i).flatMap fun i => (shp f (m - (i + 1)) (i + 1)).map ((i + 1) :: ·)).map nT), .no, .no]) (by simp [wipeE]) ?_ ?_
  · rintro i d ρ hd rfl
    obtain ⟨hi, rfl⟩ := rng_get hd
    have hF1 : F [.int ((m : Int) - ((i : Int) + 1)), .int ((i : Int) + 1)] = some (.new ((shp f (m - (i + 1)) (i + 1)).map nT), []) := by
      have h9 := hF (m - (i + 1)) (i + 1) (by omega) (by omega)
      rw [show ((m - (i + 1) : Nat) : Int) = (m : Int) - ((i : Int) + 1) by omega, show ((i + 1 : Nat) : Int) = (i : Int) + 1 by omega] at h9
      exact h9
    have hl1 := he i (by omega)
    have hl2 := he (i + 1) (by omega)
    have hst : (List.range (i + 1)).flatMap (fun i => (shp f (m - (i + 1)) (i + 1)).map ((i + 1) :: ·)) = (List.range i).flatMap (fun i => (shp f (m - (i + 1)) (i + 1)).map ((i + 1) :: ·)) ++ (shp f (m - (i + 1)) (i + 1)).map ((i + 1) :: ·) := by
      rw [List.range_succ, List.flatMap_append]
      simp
    rw [hst, List.length_append, List.length_map] at hl2
    have hsl : ∀ s ∈ shp f (m - (i + 1)) (i + 1), s.length ≤ 20 := fun s hs => by
      have := (shp_facts hs).2.1; omega
    rw [hst, List.map_append]
    have hcn := cons_nT (i + 1) (shp f (m - (i + 1)) (i + 1))
    generalize (List.range i).flatMap (fun i => (shp f (m - (i + 1)) (i + 1)).map ((i + 1) :: ·)) = A at *
    generalize shp f (m - (i + 1)) (i + 1) = B at *
    refine ⟨[.val (.int m), .val (.int w), .own (A.map nT), .val (.int (1 + (i : Int))), .no], rfl, ?_⟩
    rw [show (1 + (i : Int)) = (i : Int) + 1 by omega]
    refine W_cons.mpr ?_
    simp only [semS]
    simp [-semB, -semS]
    refine W_lc (fun _ => true) (consD (i + 1)) ?_
    simp [-semB, -semS, wipeE, restoreE, isData, Tg.slots, hF1]
    rw [List.filter_eq_self.mpr (fun _ _ => rfl)]
    rw [hcn]
    refine ⟨by omega, fun a ha => ⟨by have := hsl a ha; rw [natD_len]; omega, rfl⟩, by rw [List.length_map]; omega, ?_⟩
    refine ⟨_, rfl, ?_⟩
    simp
  · rintro ρ rfl
    rw [List.length_map, List.length_range]
    have : shp (f + 1) m w = (List.range (min m w)).flatMap fun i => (shp f (m - (i + 1)) (i + 1)).map ((i + 1) :: ·) := by
      show (if m = 0 then _ else _) = _
      rw [if_neg c]
    rw [this]
    simp
theorem shapes_ok {m w : Nat} (hm : m ≤ 20) (hw : w ≤ 60) : F_p_shapes_of [.int (m : Int), .int (w : Int)] = some (.new ((shp 24 m w).map nT), []) := by
  have key : ∀ k m w : Nat, m < k → m ≤ 20 → w ≤ 60 → recF (fun F => defF (semB (Γ_p_shapes_of F) b_p_shapes_of) N_p_shapes_of 2 false) k [.int (m : Int), .int (w : Int)] = some (.new ((shp k m w).map nT), []) := by
    intro k
    induction k with
    | zero => intro m w h; omega
    | succ k ih =>
      intro m w h1 h2 h3
      exact shapes_step _ k m w h2 h3 fun m' w' a1 a2 => ih m' w' (by omega) (by omega) a2
  rw [U_p_shapes_of]
  exact key 24 m w (by omega) hm hw
end My


namespace My
open PySem PySem.Spec PyProof.Rows L2
def colsL (s : List Nat) : List Nat := match s with
  | [] => []
  | k :: _ => (List.range k).map (colN s)
def gtC (c : Nat) : D → Bool
  | .int r => decide ((c : Int) < r)
  | _ => false
theorem col_D (s : List Nat) (c : Nat) : ((natD s).filter (gtC c)).length = colN s c := by
  unfold natD colN
  rw [List.filter_map, List.length_map]
  congr 1
  refine List.filter_congr fun r _ => ?_
  show decide ((c : Int) < (r : Int)) = decide (c < r)
  by_cases h : c < r
  · rw [decide_eq_true h, decide_eq_true (by omega)]
  · rw [decide_eq_false h, decide_eq_false (by omega)]
def colD (s : List Nat) : D → D
  | .int c => .int (colN s c.toNat : Nat)
  | d => d
theorem fil0 {s : List Nat} (hl : s.length ≤ 20) (hk : ∀ x ∈ s, x ≤ 20) : W (semS Γ_p_fillings_of (getS 0 b_p_fillings_of) [.val (nT s), .no, .no, .no, .no, .no, .no]) fun fl =>
    fl = .nx [.val (nT s), .own (natD (colsL s)), .no, .no, .no, .no, .no] := by
  unfold b_p_fillings_of
  simp only [getS, semS]
  have hnl := natD_len s
  have hsh : shpD (nT s) = true := okN.shp (n := 1) (okN.tup fun d hd => by
    obtain ⟨i, _, rfl⟩ := List.mem_map.mp hd
    exact ok_int _ 0)
  cases s with
  | nil =>
    simp [natD, colsL]
    exact .inr hsh
  | cons k r =>
    have hk20 := hk k (by simp)
    have e0 : natD (k :: r) = .int (k : Int) :: natD r := rfl
    have hcol := fun c => col_D (k :: r) c
    simp [hsh]
    have e1 : ¬ natD (k :: r) = [] := by rw [e0]; exact List.cons_ne_nil _ _
    have e2 : atI (natD (k :: r)) 0 = some (.int (k : Int)) := by
      obtain ⟨h, e⟩ := atI_ok (l := natD (k :: r)) (k := 0) (by omega) (by rw [natD_len]; simp)
      rw [e]; rfl
    simp [e1]
    refine W_lc (fun _ => true) (colD (k :: r)) ?_
    simp [wipeE, restoreE, isData, Tg.slots, e2]
    rw [List.filter_eq_self.mpr (fun _ _ => rfl)]
    refine ⟨by omega, by omega, fun c hc => ?_, ?_⟩
    · refine W_lc (gtC c) (fun d => d) ?_
      simp [wipeE, restoreE, isData, Tg.slots]
      refine ⟨by omega, fun d hd => ?_, ?_⟩
      · obtain ⟨x, _, rfl⟩ := List.mem_map.mp hd
        by_cases h : c < x
        · have h2 : (c : Int) < (x : Int) := by omega
          simp [gtC, h2, h]
        · have h2 : ¬ (c : Int) < (x : Int) := by omega
          simp [gtC, h2, h]
      · rw [hcol c]; rfl
    · show _ = natD ((List.range k).map (colN (k :: r)))
      unfold natD
      rw [List.map_map, List.map_map]
      rfl
theorem sum_cast : ∀ s : List Nat, (intL s).sum = ((s.sum : Nat) : Int)
  | [] => rfl
  | a :: s => by
    have ih := sum_cast s
    show (a : Int) + (intL s).sum = (((a :: s).sum : Nat) : Int)
    rw [ih, List.sum_cons, Int.natCast_add]
theorem fil2 {s : List Nat} {m : Nat} (hm : m ≤ 20) (hs : s.sum = m) (hl : s.length ≤ 20) (C : List Nat) : W (semS Γ_p_fillings_of (getS 2 b_p_fillings_of) [.val (nT s), .own (natD C), .val (.int 1), .val (.int 1), .no, .no, .no]) fun fl =>
    fl = .nx [.val (nT s), .own (natD C), .val (.int 1), .val (.int (facI m)), .no, .no, .no] := by
  unfold b_p_fillings_of
  simp only [getS]
  have hi : intsD (natD s) = some (intL s) := by rw [natD_ints, intsD_map]; rfl
  have hsum : (intL s).sum = (m : Int) := by rw [sum_cast, hs]
  refine W_forB (items := (List.range m).map fun (i : Nat) => D.int (0 + (i : Int))) (ρ1 := [.val (nT s), .own (natD C), .val (.int 1), .val (.int 1), .no, .no, .no]) (of_W (by
    simp [hi, hsum]
    omega)) (fun i ρ => ρ = [.val (nT s), .own (natD C), .val (.int 1), .val (.int (facI i)), .no, .no, .no]) (by simp [wipeE, facI]) ?_ ?_
  · rintro i d ρ hd rfl
    obtain ⟨h, rfl⟩ := rng_get hd
    refine ⟨[.val (nT s), .own (natD C), .val (.int 1), .val (.int (facI i)), .val (.int (0 + (i : Int))), .no, .no], rfl, ?_⟩
    simp
    exact ⟨.inr (by omega), rfl⟩
  · rintro ρ rfl
    rw [List.length_map, List.length_range]
def rowAt (s : List Nat) (a r c : Nat) (acc : Int) : Int := (List.range c).foldl (fun p c => p * hookI s a r c) acc
theorem rowAt_succ (s : List Nat) (a r c : Nat) (acc : Int) : rowAt s a r (c + 1) acc = rowAt s a r c acc * hookI s a r c := by
  unfold rowAt
  rw [List.range_succ, List.foldl_append]
  rfl
theorem hook_small (s : List Nat) {a r c : Nat} (hl : s.length ≤ 20) (ha : a ≤ 20) (hr : r ≤ 20) (hc : c < r) : (hookI s a r c).natAbs < 18446744073709551616 := by
  have h : colN s c ≤ s.length := List.length_filter_le _ _
  unfold hookI
  omega
theorem fil3 {s : List Nat} (hl : s.length ≤ 20) (hk : ∀ x ∈ s, x ≤ 20) (hd : ∀ k r, s = k :: r → ∀ x ∈ s, x ≤ k) (tot : Int) : W (semS Γ_p_fillings_of (getS 3 b_p_fillings_of) [.val (nT s), .own (natD (colsL s)), .val (.int 1), .val (.int tot), .no, .no, .no]) fun fl =>
    ∃ e, fl = .nx [.val (nT s), e, .val (.int (prodF s 0 s 1)), .val (.int tot), .no, .no, .no] := by
  unfold b_p_fillings_of
  simp only [getS]
  refine W_forB (items := enumD 0 (natD s)) (ρ1 := [.val (nT s), .own (natD (colsL s)), .val (.int 1), .val (.int tot), .no, .no, .no]) (of_W (by simp)) (fun i ρ => ∃ e acc, ρ = [.val (nT s), e, .val (.int acc), .val (.int tot), .no, .no, .no] ∧ (e = .own (natD (colsL s)) ∨ e = .val (.lst (natD (colsL s)))) ∧ prodF s i (s.drop i) acc = prodF s 0 s 1) ⟨_, 1, by simp [wipeE], .inl rfl, by simp⟩ ?_ ?_
  · rintro i d ρ hdd ⟨e, acc, rfl, he, hp⟩
    rw [natD_ints] at hdd
    obtain ⟨hi, rfl⟩ := enum_int hdd
    rw [List.length_map] at hi
    rw [List.getElem_map]
    have hr20 := hk s[i] (List.getElem_mem hi)
    have hrow : ∀ c, c < s[i] → atI (natD (colsL s)) (c : Int) = some (.int ((colN s c : Nat) : Int)) := fun c hc => by
      cases s with
      | nil => simp at hi
      | cons k r =>
        have hle := hd k r rfl _ (List.getElem_mem hi)
        have hlen : (natD (colsL (k :: r))).length = k := by
          rw [natD_len]
          show ((List.range k).map _).length = k
          simp
        obtain ⟨h, e⟩ := atI_ok (l := natD (colsL (k :: r))) (k := (c : Int)) (by omega) (by omega)
        rw [e]
        have : colsL (k :: r) = (List.range k).map (colN (k :: r)) := rfl
        simp [natD, this]
    rw [List.drop_eq_getElem_cons hi] at hp
    have hp : prodF s (i + 1) (s.drop (i + 1)) (rowAt s i s[i] s[i] acc) = prodF s 0 s 1 := hp
    generalize s[i] = r at *
    generalize natD (colsL s) = CO at *
    refine ⟨[.val (nT s), e, .val (.int acc), .val (.int tot), .val (.int (i : Int)), .val (.int (r : Int)), .no], by simp [asgTg, setV], ?_⟩
    refine W_cons.mpr ?_
    refine W_mono (P := fun fl => ∃ e', fl = .nx [.val (nT s), e', .val (.int (rowAt s i r r acc)), .val (.int tot), .val (.int (i : Int)), .val (.int (r : Int)), .no] ∧ (e' = .own CO ∨ e' = .val (.lst CO))) ?_ ?_
    · refine W_forB (items := (List.range r).map fun (c : Nat) => D.int (0 + (c : Int))) (ρ1 := [.val (nT s), e, .val (.int acc), .val (.int tot), .val (.int (i : Int)), .val (.int (r : Int)), .no]) (of_W (by simp; omega)) (fun c ρ => ∃ e', ρ = [.val (nT s), e', .val (.int (rowAt s i r c acc)), .val (.int tot), .val (.int (i : Int)), .val (.int (r : Int)), .no] ∧ (e' = .own CO ∨ e' = .val (.lst CO))) ⟨e, by simp [wipeE, rowAt], he⟩ ?_ ?_
      · rintro c d ρ hd2 ⟨e', rfl, he'⟩
        obtain ⟨hc, rfl⟩ := rng_get hd2
        refine ⟨[.val (nT s), e', .val (.int (rowAt s i r c acc)), .val (.int tot), .val (.int (i : Int)), .val (.int (r : Int)), .val (.int (0 + (c : Int)))], rfl, ?_⟩
        have hcol := hrow c hc
        have hsm := hook_small s hl (show i ≤ 20 by omega) hr20 hc
        rw [rowAt_succ]
        unfold hookI at hsm ⊢
        rcases he' with rfl | rfl <;>
        · simp [hcol]
          exact .inr hsm
      · rintro ρ ⟨e', rfl, he'⟩
        rw [List.length_map, List.length_range]
        exact ⟨e', rfl, he'⟩
    · rintro _ ⟨e', rfl, he'⟩
      refine ⟨_, rfl, ?_⟩
      exact ⟨e', _, by simp [wipeE], he', hp⟩
  · rintro ρ ⟨e, acc, rfl, _, hp⟩
    rw [enumD_len, natD_len, List.drop_length] at hp
    exact ⟨e, by rw [← hp]; rfl⟩
theorem fillings_ok {f m w : Nat} {s : List Nat} (hm : m ≤ 20) (hw : w ≤ 20) (h : s ∈ shp f m w) (hg : goodS s = true) : F_p_fillings_of [nT s] = some (.val (.int (filI s)), []) := by
  obtain ⟨h1, h2, h3⟩ := shp_facts h
  have hmx : ∀ x ∈ s, x ≤ 20 := fun x hx => by
    have := (h3 x hx).1
    omega
  have hhd : ∀ k r, s = k :: r → ∀ x ∈ s, x ≤ k := fun k r e => by
    subst e
    exact shp_head h
  obtain ⟨g1, _⟩ := and2 hg
  obtain ⟨g1, g2⟩ := and2 g1
  have g1 := of_decide_eq_true g1
  have g2 := of_decide_eq_true g2
  have a0 := fil0 (show s.length ≤ 20 by omega) hmx
  have a2 := fil2 hm h1 (show s.length ≤ 20 by omega) (colsL s)
  have a3 := fil3 (show s.length ≤ 20 by omega) hmx hhd (facI m)
  have e : filI s = facI m / prodF s 0 s 1 := by unfold filI; rw [h1]
  apply of_W
  rw [U_p_fillings_of]
  refine W_def rfl rfl ?_
  unfold b_p_fillings_of at a0 a2 a3 ⊢
  simp only [getS] at a0 a2 a3
  refine W_cons.mpr (W_mono a0 ?_)
  rintro _ rfl
  refine W_nx.mpr ?_
  refine W_cons.mpr ?_
  simp only [semS]
  simp [-semB, -semS]
  refine W_cons.mpr (W_mono a2 ?_)
  rintro _ rfl
  refine W_nx.mpr (W_cons.mpr (W_mono a3 ?_))
  rintro _ ⟨en, rfl⟩
  refine W_nx.mpr ?_
  rw [e]
  generalize prodF s 0 s 1 = P at *
  simp [g1, g2]
theorem cnt_mem {m e : Nat} {s : List Nat} (hm : m ≤ 20) (h : s ∈ shp 24 m e) : goodS s = true :=
  List.all_eq_true.mp (List.all_eq_true.mp all_good m (List.mem_range.mpr (by omega))) s (shp_wide h)
def filD : D → D
  | .tup ds => match intsD ds with
    | some l => .int (filI (l.map Int.toNat))
    | none => .non
  | _ => .non
theorem filD_nT (s : List Nat) : filD (nT s) = .int (filI s) := by
  have hi : intsD (natD s) = some (intL s) := by rw [natD_ints, intsD_map]; rfl
  show (match intsD (natD s) with | some l => D.int (filI (l.map Int.toNat)) | none => .non) = _
  rw [hi]
  show D.int (filI ((intL s).map Int.toNat)) = _
  unfold intL
  rw [List.map_map]
  have : (Int.toNat ∘ fun (k : Nat) => (k : Int)) = id := by funext k; simp
  rw [this, List.map_id]
def sqD : D → D
  | .int x => .int (x * x)
  | d => d
theorem count_ok {m e : Nat} (hm : m ≤ 20) (he : 1 ≤ e) (he2 : e ≤ 60) : F_p_count_by_ends [.int (m : Int), .int (e : Int)] = some (.val (.int (cntI m e)), []) := by
  have hw1 : wholeD 0 20 (.int (m : Int)) = true := by simp [wholeD]; omega
  have hw2 : wholeD 1 60 (.int (e : Int)) = true := by simp [wholeD]; omega
  have w1 := whole_ok (.int (m : Int)) 0 20 (by simp [sortD])
  have w2 := whole_ok (.int (e : Int)) 1 60 (by simp [sortD])
  rw [hw1] at w1
  rw [hw2] at w2
  have hn : F_p_need_ends [.int (e : Int)] = some (.val .non, []) := by
    apply of_W
    simp [F_p_need_ends, b_p_need_ends, defF_eq, N_p_need_ends, Γ_p_need_ends, w2]
  have hs := shapes_ok (m := m) (w := min m e) hm (by omega)
  apply of_W
  rw [U_p_count_by_ends]
  refine W_def rfl rfl ?_
  unfold b_p_count_by_ends
  refine W_cons.mpr ?_
  simp only [semS]
  simp [-semB, -semS, w1, N_p_count_by_ends]
  refine ⟨_, rfl, ?_⟩
  simp [-semB, -semS, w1]
  refine ⟨_, rfl, ?_⟩
  refine W_nx.mpr ?_
  refine W_cons.mpr ?_
  simp only [semS]
  simp [-semB, -semS, hn]
  have hmin : (if e < m then (e : Int) else (m : Int)) = ((min m e : Nat) : Int) := by split <;> omega
  have hg : ∀ s ∈ shp 24 m (min m e), F_p_fillings_of [nT s] = some (.val (.int (filI s)), []) ∧ (filI s).natAbs < 18446744073709551616 := fun s hs => by
    have hgd := cnt_mem hm hs
    have h9 : (filI s).natAbs < 2 ^ 31 := of_decide_eq_true (and2 hgd).2
    exact ⟨fillings_ok hm (by omega) hs hgd, by omega⟩
  have hlen : (shp 24 m (min m e)).length ≤ 16777216 := by
    have h1 := shp_len 24 m (min m e)
    have h2 : 2 ^ m ≤ 2 ^ 20 := Nat.pow_le_pow_right (by decide) hm
    omega
  have hc : cntI m e = ((shp 24 m (min m e)).map sqI).sum := rfl
  rw [hc]
  generalize shp 24 m (min m e) = SH at *
  refine W_cons.mpr ?_
  simp only [semS]
  simp [-semB, -semS]
  refine W_lc (fun _ => true) filD ?_
  simp [-semB, -semS, wipeE, restoreE, isData, Tg.slots, hmin, hs]
  rw [List.filter_eq_self.mpr (fun _ _ => rfl)]
  refine ⟨hlen, fun s h => ?_, ?_⟩
  · rw [(hg s h).1, filD_nT]
    simp
  have hm2 : (SH.map nT).map filD = (SH.map filI).map D.int := by
    rw [List.map_map, List.map_map]
    exact List.map_congr_left fun s _ => filD_nT s
  rw [hm2]
  refine W_cons.mpr ?_
  simp only [semS]
  simp [-semB, -semS]
  refine W_lc (fun _ => true) sqD ?_
  simp [-semB, -semS, wipeE, restoreE, isData, Tg.slots]
  rw [List.filter_eq_self.mpr (fun _ _ => rfl)]
  have hm3 : (SH.map (D.int ∘ filI)).map sqD = (SH.map sqI).map D.int := by
    rw [List.map_map, List.map_map]
    rfl
  rw [hm3, intsD_map]
  exact ⟨hlen, fun s h => ⟨(hg s h).2, rfl⟩, _, rfl, rfl⟩
end My


namespace My
open PySem PySem.Spec PyProof.Rows L2
def lssD (t : List Int) (w : Int) : D → Bool
  | .int j => decide (t.getD j.toNat 0 < w)
  | _ => false
theorem lss_rel {t : List Int} (hn : t.Nodup) {i : Nat} (hi : i < t.length) : ((List.range i).map fun (j : Nat) => D.int (0 + (j : Int))).filter (lssD t t[i]) = ((List.range i).map fun (j : Nat) => D.int (0 + (j : Int))).filter (relD false t t[i]) := by
  refine List.filter_congr fun d hd => ?_
  obtain ⟨j, hj, rfl⟩ := List.mem_map.mp hd
  have hj := List.mem_range.mp hj
  have e : ((0 : Int) + (j : Int)).toNat = j := by omega
  show decide (t.getD ((0 : Int) + (j : Int)).toNat 0 < t[i]) = (decide (t[i] < t.getD ((0 : Int) + (j : Int)).toNat 0) == false)
  rw [e, getD_lt (show j < t.length by omega)]
  have hne : t[j]'(by omega) ≠ t[i] := List.pairwise_iff_getElem.mp hn j i (by omega) hi hj
  by_cases c : t[i] < t[j]'(by omega)
  · rw [decide_eq_true c, decide_eq_false (by omega)]; rfl
  · rw [decide_eq_false c, decide_eq_true (by omega)]; rfl
theorem risings_ok {t : List Int} (h : TrI t) : F_p_risings [tD t] = some (.new (natD ((dp false t).map Prod.snd)), []) := by
  have hl := h.1
  apply of_W
  simp [F_p_risings, b_p_risings, defF_eq, N_p_risings, Γ_p_risings]
  refine W_for2 (items := enumD 0 (t.map D.int)) (ρ1 := [Ent.val (tD t), Ent.own [], Ent.no, Ent.no, Ent.no]) (of_W (by simp)) (fun i ρ => ρ = [Ent.val (tD t), Ent.own (natD ((dp false (t.take i)).map Prod.snd)), Ent.no, Ent.no, Ent.no]) rfl ?_ ?_
  · rintro i d ρ hd rfl
    obtain ⟨hi, rfl⟩ := enum_int hd
    have ht : t.take (i + 1) = t.take i ++ [t[i]] := take_snoc (List.getElem?_eq_getElem hi)
    have hA := dp_fst false (t.take i)
    have hL := dp_len false (t.take i)
    have hti : (t.take i).length = i := by rw [List.length_take]; omega
    rw [hti] at hL
    have ah := ahead_ok false t t[i] (dp false (t.take i)) (by rw [hL]; exact hA) (by omega)
    rw [hL] at ah
    have hlr := lss_rel h.2.1 hi
    rw [← hlr] at ah
    rw [ht, dp_snoc]
    unfold topF
    generalize dp false (t.take i) = A at *
    simp
    refine W_lc (lssD t t[i]) (getB A) ?_
    simp [wipeE, restoreE, isData, Tg.slots]
    simp only [Int.zero_add] at ah
    have hfl : (List.filter (lssD t t[i]) (List.map (fun i : Nat => D.int (i : Int)) (List.range i))).length ≤ i := by
      refine Nat.le_trans (List.length_filter_le _ _) ?_
      simp
    have hnl : (natD (A.map Prod.snd)).length = A.length := by unfold natD; rw [List.length_map, List.length_map]
    refine ⟨by omega, by omega, fun a ha => ?_, by omega, ?_⟩
    · have e1 : atI (t.map D.int) (a : Int) = some (D.int (t.getD a 0)) := by
        obtain ⟨h, e⟩ := atI_ok (l := t.map D.int) (k := (a : Int)) (by omega) (by rw [List.length_map]; omega)
        rw [e]
        simp [List.getD_eq_getElem?_getD, List.getElem?_eq_getElem (by omega : a < t.length)]
      have e2 : atI (natD (A.map Prod.snd)) (a : Int) = some (getB A (D.int (a : Int))) := by
        obtain ⟨h, e⟩ := atI_ok (l := natD (A.map Prod.snd)) (k := (a : Int)) (by omega) (by rw [hnl]; omega)
        rw [e]
        simp [natD, getB, List.getD_eq_getElem?_getD, List.getElem?_eq_getElem (by omega : a < A.length)]
      have e3 : lssD t t[i] (D.int (a : Int)) = decide (t.getD a 0 < t[i]) := rfl
      rw [e1, e2, e3]
      generalize t.getD a 0 = x
      by_cases c : x < t[i] <;> simp [c]
    · rw [ah, ints_natD, W_some, maxL_nat]
      refine ⟨by simp, by omega, ?_⟩
      rw [natD_app]
      show _ = natD _ ++ [D.int ((1 + mxN _ : Nat) : Int)]
      rw [Int.natCast_add]
      rfl
  · rintro ρ rfl
    rw [enumD_len, List.length_map, List.take_length]
    simp
theorem fewest_ends_ok {t : List Int} (h : TrI t) : F_p_fewest_ends [tD t] = some (.val (.int (best false t)), []) := by
  have hl := h.1
  have hnl : (natD ((dp false t).map Prod.snd)).length = t.length := by unfold natD; rw [List.length_map, List.length_map, dp_len]
  apply of_W
  simp [F_p_fewest_ends, b_p_fewest_ends, defF_eq, N_p_fewest_ends, Γ_p_fewest_ends, tr_need h, risings_ok h]
  refine ⟨by omega, ?_⟩
  rw [ints_natD, W_some, maxL_nat]
  exact ⟨by simp, rfl⟩
/-! ### all orders -/
def ordN : Nat → List Int → List (List Int)
  | 0, _ => []
  | f + 1, t => if t = [] then [[]] else (List.range t.length).flatMap fun i => (ordN f (t.eraseIdx i)).map (t.getD i 0 :: ·)
theorem ord_facts : ∀ {f : Nat} {t o : List Int}, o ∈ ordN f t → o.length = t.length
  | 0, _, _, h => nomatch h
  | f + 1, t, o, h => by
    have h : o ∈ (if t = [] then [[]] else (List.range t.length).flatMap fun i => (ordN f (t.eraseIdx i)).map (t.getD i 0 :: ·)) := h
    by_cases c : t = []
    · rw [if_pos c] at h
      rw [List.mem_singleton.mp h, c]
    · rw [if_neg c] at h
      obtain ⟨i, hi, hs⟩ := List.mem_flatMap.mp h
      obtain ⟨r, hr, rfl⟩ := List.mem_map.mp hs
      have hi := List.mem_range.mp hi
      have := ord_facts hr
      rw [List.length_eraseIdx_of_lt hi] at this
      rw [List.length_cons, this]; omega
def facN : Nat → Nat
  | 0 => 1
  | n + 1 => (n + 1) * facN n
theorem ord_len : ∀ (f : Nat) (t : List Int), (ordN f t).length ≤ facN t.length
  | 0, _ => Nat.zero_le _
  | f + 1, t => by
    show (if t = [] then [[]] else (List.range t.length).flatMap fun i => (ordN f (t.eraseIdx i)).map (t.getD i 0 :: ·)).length ≤ _
    by_cases c : t = []
    · rw [if_pos c, c]; exact Nat.le_refl _
    · rw [if_neg c, List.length_flatMap]
      simp only [List.length_map]
      have h1 := sum_le (List.range t.length) (fun i => (ordN f (t.eraseIdx i)).length) (fun _ => facN (t.length - 1)) fun i hi => by
        have := ord_len f (t.eraseIdx i)
        rw [List.length_eraseIdx_of_lt (List.mem_range.mp hi)] at this
        exact this
      refine Nat.le_trans h1 ?_
      rw [List.map_const', List.sum_replicate_nat, List.length_range]
      cases hn : t.length with
      | zero => exact absurd (List.length_eq_zero_iff.mp hn) c
      | succ n => exact Nat.le_refl _
theorem fac_mono {a b : Nat} (h : a ≤ b) : facN a ≤ facN b := by
  induction h with
  | refl => exact Nat.le_refl _
  | @step n _ ih => exact Nat.le_trans ih (Nat.le_mul_of_pos_left _ (Nat.succ_pos _))
def consI (k : Int) : D → D
  | .tup ds => .tup (.int k :: ds)
  | d => d
theorem cons_tD (k : Int) (L : List (List Int)) : (L.map tD).map (consI k) = (L.map (k :: ·)).map tD := by
  rw [List.map_map, List.map_map]
  rfl
theorem orders_step (F : List D → Option (RV × List D)) (f : Nat) (t : List Int) (hl : t.length ≤ 7) (hF : ∀ u : List Int, u.length < t.length → F [tD u] = some (.new ((ordN f u).map tD), [])) :
    defF (semB (Γ_q_law_orders F) b_q_law_orders) N_q_law_orders 1 false [tD t] = some (.new ((ordN (f + 1) t).map tD), []) := by
  apply of_W
  have hsh : shpD (tD t) = true := okN.shp (n := 1) (tD_ok t)
  refine W_def rfl rfl ?_
  unfold b_q_law_orders
  refine W_cons.mpr ?_
  simp only [semS]
  simp [-semB, -semS, N_q_law_orders, hsh]
  by_cases c : t = []
  · subst c
    refine .inr ⟨rfl, ?_⟩
    simp [ordN]
  refine .inl ⟨c, ?_⟩
  refine ⟨_, rfl, ?_⟩
  refine W_nx.mpr ?_
  refine W_cons.mpr ?_
  simp only [semS]
  simp [-semB, -semS]
  have he : ∀ i, i ≤ t.length → ((List.range i).flatMap fun i => (ordN f (t.eraseIdx i)).map (t.getD i 0 :: ·)).length ≤ 5040 := fun i hi => by
    rw [List.length_flatMap]
    simp only [List.length_map]
    have h1 := sum_le (List.range i) (fun i => (ordN f (t.eraseIdx i)).length) (fun _ => facN (t.length - 1)) fun j hj => by
      have := ord_len f (t.eraseIdx j)
      rw [List.length_eraseIdx_of_lt (by have := List.mem_range.mp hj; omega)] at this
      exact this
    refine Nat.le_trans h1 ?_
    rw [List.map_const', List.sum_replicate_nat, List.length_range]
    have h2 : facN (t.length - 1) ≤ facN 6 := fac_mono (by omega)
    have h3 : i * facN (t.length - 1) ≤ 7 * facN 6 := Nat.mul_le_mul (by omega) h2
    exact Nat.le_trans h3 (by decide)
  refine W_cons.mpr ?_
  refine W_forB (items := (List.range t.length).map fun (i : Nat) => D.int (0 + (i : Int))) (ρ1 := [.val (tD t), .own [], .no, .no]) (of_W (by simp; omega)) (fun i ρ => ρ = [.val (tD t), .own (((List.range i).flatMap fun i => (ordN f (t.eraseIdx i)).map (t.getD i 0 :: ·)).map tD), .no, .no]) (by simp [wipeE]) ?_ ?_
  · rintro i d ρ hd rfl
    obtain ⟨hi, rfl⟩ := rng_get hd
    have hF1 := hF (t.eraseIdx i) (by rw [List.length_eraseIdx_of_lt hi]; omega)
    have hl1 := he i (by omega)
    have hl2 := he (i + 1) (by omega)
    have hst : (List.range (i + 1)).flatMap (fun i => (ordN f (t.eraseIdx i)).map (t.getD i 0 :: ·)) = (List.range i).flatMap (fun i => (ordN f (t.eraseIdx i)).map (t.getD i 0 :: ·)) ++ (ordN f (t.eraseIdx i)).map (t.getD i 0 :: ·) := by
      rw [List.range_succ, List.flatMap_append]
      simp
    rw [hst, List.length_append, List.length_map] at hl2
    have hsl : ∀ s ∈ ordN f (t.eraseIdx i), s.length ≤ 20 := fun s hs => by
      have := ord_facts hs
      rw [List.length_eraseIdx_of_lt hi] at this
      omega
    rw [hst, List.map_append]
    have hcn := cons_tD (t.getD i 0) (ordN f (t.eraseIdx i))
    have hcut : (t.map D.int).take i ++ (t.map D.int).drop (i + 1) = (t.eraseIdx i).map D.int := by
      rw [List.eraseIdx_eq_take_drop_succ, List.map_append, List.map_take, List.map_drop]
    have hat : atI (t.map D.int) (i : Int) = some (D.int (t.getD i 0)) := by
      obtain ⟨h, e⟩ := atI_ok (l := t.map D.int) (k := (i : Int)) (by omega) (by rw [List.length_map]; omega)
      rw [e]
      simp [List.getD_eq_getElem?_getD, List.getElem?_eq_getElem hi]
    generalize (List.range i).flatMap (fun i => (ordN f (t.eraseIdx i)).map (t.getD i 0 :: ·)) = A at *
    generalize ordN f (t.eraseIdx i) = B at *
    refine ⟨[.val (tD t), .own (A.map tD), .val (.int (0 + (i : Int))), .no], rfl, ?_⟩
    rw [show (0 + (i : Int)) = (i : Int) by omega]
    refine W_cons.mpr ?_
    simp only [semS]
    simp [-semB, -semS]
    refine W_lc (fun _ => true) (consI (t.getD i 0)) ?_
    simp [-semB, -semS, wipeE, restoreE, isData, Tg.slots, hcut, hF1, hat]
    rw [List.filter_eq_self.mpr (fun _ _ => rfl)]
    simp only [List.getD_eq_getElem?_getD] at hcn
    rw [hcn]
    refine ⟨by omega, by omega, fun a ha => ⟨by have := hsl a ha; omega, rfl⟩, by rw [List.length_map]; omega, ?_⟩
    refine ⟨_, rfl, ?_⟩
    simp
  · rintro ρ rfl
    rw [List.length_map, List.length_range]
    have : ordN (f + 1) t = (List.range t.length).flatMap fun i => (ordN f (t.eraseIdx i)).map (t.getD i 0 :: ·) := by
      show (if t = [] then _ else _) = _
      rw [if_neg c]
    rw [this]
    simp
theorem orders_ok {t : List Int} (hl : t.length ≤ 7) : F_q_law_orders [tD t] = some (.new ((ordN 12 t).map tD), []) := by
  have key : ∀ (k : Nat) (t : List Int), t.length < k → t.length ≤ 7 → recF (fun F => defF (semB (Γ_q_law_orders F) b_q_law_orders) N_q_law_orders 1 false) k [tD t] = some (.new ((ordN k t).map tD), []) := by
    intro k
    induction k with
    | zero => intro t h; omega
    | succ k ih =>
      intro t h1 h2
      exact orders_step _ k t h2 fun u hu => ih u (by omega) (by omega)
  rw [U_q_law_orders]
  exact key 12 t (by omega) hl
def upT (m : Nat) : List Int := intL (List.range m)
theorem small_all : (List.range 7).all (fun m => (List.range 8).all fun e => e == 0 || cntI m e == ((((ordN 12 (upT m)).map (best false)).filter fun b => decide (b ≤ e)).length : Int)) = true := by decide +kernel
end My


namespace My
open PySem PySem.Spec PyProof.Rows L2
theorem rng_e (e : Nat) (he : e < 100) : rngD [.int (e : Int)] = some ((upT e).map D.int) := by
  show (if in62 (e : Int) then some ((List.range (e : Int).toNat).map fun (i : Nat) => D.int (0 + (i : Int))) else none) = _
  have : in62 (e : Int) = true := decide_eq_true (by omega)
  rw [if_pos this]
  unfold upT intL
  rw [List.map_map]
  congr 1
  refine List.map_congr_left fun i _ => ?_
  show D.int (0 + (i : Int)) = D.int (i : Int)
  rw [Int.zero_add]
theorem up_len (e : Nat) : (upT e).length = e := by
  unfold upT intL
  rw [List.length_map, List.length_range]
theorem rgs_e (e : Nat) (he : e < 100) : oRgL [.int (e : Int)] = some (.new ((upT e).map D.int)) ∧ oRgT [.int (e : Int)] = some (.val (tD (upT e))) := by
  have hz : sz ((upT e).map D.int).length = true := by
    unfold sz
    have := sizeLine_eq
    exact decide_eq_true (by rw [List.length_map, up_len]; omega)
  constructor
  · unfold oRgL
    rw [rng_e e he]
    show (if sz ((upT e).map D.int).length then some (RV.new ((upT e).map D.int)) else none) = _
    rw [if_pos hz]
  · unfold oRgT
    rw [rng_e e he]
    show (if sz ((upT e).map D.int).length then some (RV.val (.tup ((upT e).map D.int))) else none) = _
    rw [if_pos hz]
theorem up_tr (m : Nat) (hm : m ≤ 60) : TrI (upT m) := by
  refine ⟨by rw [up_len]; exact hm, ?_, fun n hn => ?_⟩
  · unfold upT intL
    exact List.pairwise_map.mpr (List.pairwise_lt_range.imp fun {a b} h e => by omega)
  · obtain ⟨i, hi, rfl⟩ := List.mem_map.mp hn
    have := List.mem_range.mp hi
    omega
def bstD : D → D
  | .tup ds => match intsD ds with
    | some t => .int (best false t : Nat)
    | none => .non
  | _ => .non
theorem bstD_t (t : List Int) : bstD (tD t) = .int (best false t : Nat) := by
  show (match intsD (t.map D.int) with | some t => D.int (best false t : Nat) | none => .non) = _
  rw [intsD_map]
def lePD (e : Nat) : D → Bool
  | .int x => decide (x ≤ (e : Int))
  | _ => false
theorem le_len (L : List Nat) (e : Nat) : ((natD L).filter (lePD e)).length = (L.filter fun b => decide (b ≤ e)).length := by
  unfold natD
  rw [List.filter_map, List.length_map]
  congr 1
  refine List.filter_congr fun r _ => ?_
  show decide ((r : Int) ≤ (e : Int)) = decide (r ≤ e)
  by_cases h : r ≤ e
  · rw [decide_eq_true h, decide_eq_true (by omega)]
  · rw [decide_eq_false h, decide_eq_false (by omega)]
theorem small1 {m : Nat} (hm : m ≤ 6) (a b : Int) : W (semS Γ_q_law_small_right (getS 1 b_q_law_small_right) [.io [.int a, .int b], .val (.int m), .no, .no, .no, .no]) fun fl =>
    fl = .nx [.io [.int a, .int b], .val (.int m), .own (natD ((ordN 12 (upT m)).map (best false))), .no, .no, .no] := by
  unfold b_q_law_small_right
  simp only [getS, semS]
  have h1 := (rgs_e m (by omega)).2
  have h2 := orders_ok (t := upT m) (by rw [up_len]; omega)
  have h3 := ord_len 12 (upT m)
  have h4 : facN (upT m).length ≤ facN 6 := fac_mono (by rw [up_len]; omega)
  have h5 : facN 6 = 720 := by decide
  have h6 : ∀ o ∈ ordN 12 (upT m), F_q_law_chain [tD o, .bl false] = some (.val (.int (best false o)), []) := fun o ho => chain_ok false (by rw [ord_facts ho, up_len]; omega)
  simp
  refine W_lc (fun _ => true) bstD ?_
  simp [wipeE, restoreE, isData, Tg.slots]
  rw [h1, W_some]
  show W (F_q_law_orders [tD (upT m)]) _
  rw [h2]
  simp
  rw [List.filter_eq_self.mpr (fun _ _ => rfl)]
  refine ⟨by omega, fun o ho => ?_, ?_⟩
  · rw [h6 o ho, bstD_t]
    simp
  · rw [List.map_map]
    unfold natD
    rw [List.map_map]
    exact List.map_congr_left fun o _ => bstD_t o
theorem small2 {m : Nat} (hm : m ≤ 6) (a b : Int) : W (semS Γ_q_law_small_right (getS 2 b_q_law_small_right) [.io [.int a, .int b], .val (.int m), .own (natD ((ordN 12 (upT m)).map (best false))), .no, .no, .no]) fun fl =>
    ∃ e, fl = .nx [.io [.int a, .int b], .val (.int m), e, .no, .no, .no] := by
  unfold b_q_law_small_right
  simp only [getS]
  have hall : ∀ e, 1 ≤ e → e ≤ 7 → cntI m e = ((((ordN 12 (upT m)).map (best false)).filter fun b => decide (b ≤ e)).length : Int) := fun e h1 h2 => by
    have h := List.all_eq_true.mp (List.all_eq_true.mp small_all m (List.mem_range.mpr (by omega))) e (List.mem_range.mpr (by omega))
    rw [Bool.or_eq_true] at h
    rcases h with h | h
    · have := eq_of_beq h; omega
    · exact eq_of_beq h
  have h3 := ord_len 12 (upT m)
  have h4 : facN (upT m).length ≤ facN 6 := fac_mono (by rw [up_len]; omega)
  have h5 : facN 6 = 720 := by decide
  have h6 : ((ordN 12 (upT m)).map (best false)).length = (ordN 12 (upT m)).length := List.length_map ..
  generalize (ordN 12 (upT m)).map (best false) = L at *
  have hnl := natD_len L
  refine W_forB (items := (List.range 7).map fun (i : Nat) => D.int (1 + (i : Int))) (ρ1 := [.io [.int a, .int b], .val (.int m), .own (natD L), .no, .no, .no]) (of_W (by simp)) (fun i ρ => ∃ e, ρ = [.io [.int a, .int b], .val (.int m), e, .no, .no, .no] ∧ (e = .own (natD L) ∨ e = .val (.lst (natD L)))) ⟨_, by simp [wipeE], .inl rfl⟩ ?_ ?_
  · rintro i d ρ hd ⟨en, rfl, hen⟩
    obtain ⟨hi, rfl⟩ := rng_get hd
    refine ⟨[.io [.int a, .int b], .val (.int m), en, .val (.int (1 + (i : Int))), .no, .no], rfl, ?_⟩
    have hc := count_ok (m := m) (e := i + 1) (by omega) (by omega) (by omega)
    rw [hall (i + 1) (by omega) (by omega), ← le_len] at hc
    rw [show ((i + 1 : Nat) : Int) = (i : Int) + 1 by omega] at hc
    rw [show (1 + (i : Int)) = (i : Int) + 1 by omega]
    rcases hen with rfl | rfl <;>
    · simp [hc]
      refine W_lc (lePD (i + 1)) (fun d => d) ?_
      simp [wipeE, restoreE, isData, Tg.slots]
      have hz := like_yes (okZ_int 1 (((natD L).filter (lePD (i + 1))).length : Int)) (by decide)
      have hfl := List.length_filter_le (lePD (i + 1)) (natD L)
      refine ⟨by omega, fun d hd => ?_, ?_⟩
      · obtain ⟨x, _, rfl⟩ := List.mem_map.mp hd
        have e1 : lePD (i + 1) (D.int (x : Int)) = decide ((x : Int) ≤ (i : Int) + 1) := rfl
        rw [e1]
        by_cases c : (x : Int) ≤ (i : Int) + 1 <;> simp [c]
      · rw [hz]
        simp
  · rintro ρ ⟨e, rfl, _⟩
    exact ⟨e, rfl⟩
end My


namespace My
open PySem PySem.Spec PyProof.Rows L2
theorem small_ok (a b : Int) : W (F_q_law_small_right [.lst [.int a, .int b]]) fun r => ∃ a' b' : Int, r = (.val (.bl true), [.int a', .int b']) := by
  have h1 := fun (m : Nat) (hm : m ≤ 6) a b => small1 hm a b
  have h2 := fun (m : Nat) (hm : m ≤ 6) a b => small2 hm a b
  rw [U_q_law_small_right]
  refine W_def rfl rfl ?_
  unfold b_q_law_small_right at *
  simp only [getS] at h1 h2
  refine W_cons.mpr ?_
  simp only [semS]
  simp [-semB, -semS, N_q_law_small_right]
  refine W_mono (roll_ok a b 7 (by omega) (by omega)) ?_
  rintro _ ⟨a1, b1, k, rfl, k0, k1⟩
  obtain ⟨m, rfl⟩ := Int.eq_ofNat_of_zero_le k0
  have hm : m ≤ 6 := by omega
  simp [-semB, -semS]
  refine W_cons.mpr (W_mono (h1 m hm a1 b1) ?_)
  rintro _ rfl
  refine W_nx.mpr (W_cons.mpr (W_mono (h2 m hm a1 b1) ?_))
  rintro _ ⟨e, rfl⟩
  refine W_nx.mpr ?_
  have hr := (rgs_e m (by omega)).1
  refine W_cons.mpr ?_
  simp only [semS]
  simp [-semB, -semS]
  rw [hr, W_some]
  show W (F_q_law_line [.lst [.int a1, .int b1], .lst ((upT m).map D.int)]) _
  refine W_mono (line_ok a1 b1 ((upT m).map D.int) (by rw [List.length_map, up_len]; omega) (fun d hd => ?_)) ?_
  · obtain ⟨i, _, rfl⟩ := List.mem_map.mp hd
    exact ⟨rfl, Nat.zero_le _⟩
  rintro _ ⟨a3, b3, es, rfl, hp⟩
  obtain ⟨ms, rfl, hp2⟩ := perm_int hp
  have hu := up_tr m (by omega)
  have ht : TrI ms := ⟨by rw [hp2.length_eq]; exact hu.1, hp2.nodup_iff.mpr hu.2.1, fun n hn => hu.2.2 n (hp2.mem_iff.mp hn)⟩
  simp [-semB, -semS, ndls_int]
  refine W_cons.mpr ?_
  simp only [semS]
  simp [-semB, -semS, fewest_ends_ok ht, chain_ok (t := ms) false ht.1, like_yes (okZ_int 1 ((best false ms : Nat) : Int)) (by decide)]
/-! ### many wagons -/
def catI : Nat → Int
  | 0 => 1
  | n + 1 => catI n * (4 * ((n : Int) + 1) - 2) / ((n : Int) + 1 + 1)
def cS (m e : Nat) : Int := ((TT.getD m []).take e).sum
def rowS (m : Nat) : List Int := (List.range m).map fun i => cS m (i + 1)
theorem great_all : (List.range 19).all (fun n => cS (n + 2) 1 == 1 && cS (n + 2) 2 == catI (n + 2) && cS (n + 2) (n + 2) == facI (n + 2) && cS (n + 2) (n + 3) == facI (n + 2) && cS (n + 2) 60 == facI (n + 2) && cS (n + 2) (n + 1) == facI (n + 2) - 1
    && (n == 0 || cS (n + 2) n == facI (n + 2) - 1 - ((n : Int) + 1) * ((n : Int) + 1)) && riseI (rowS (n + 2)) && (rowS (n + 2)).all (fun x => decide (x ≤ facI (n + 2)))) = true := by decide +kernel
theorem cnt_cS {m : Nat} (h0 : m ≠ 0) (hm : m ≤ 20) (e : Nat) : cntI m e = cS m e := cnt_tab h0 hm e
theorem rise_set {L : List Int} (h : riseI L = true) : srtI (uniqI L) = L := by
  have hp := rise_pw.mp h
  symm
  refine srtI_only ((List.perm_ext_iff_of_nodup (hp.imp fun {a b} h => by omega) (uniqI_nd L)).mpr fun x => by rw [uniqI_mem]) (hp.imp fun {a b} h => by omega)
theorem great1 (n : Nat) (hn : n ≤ 18) (a b : Int) : W (semS Γ_q_law_great_right (getS 1 b_q_law_great_right) [.io [.int a, .int b], .val (.int ((n : Int) + 2)), .val (.int 1), .val (.int 1), .no, .no, .no, .no, .no]) fun fl =>
    fl = .nx [.io [.int a, .int b], .val (.int ((n : Int) + 2)), .val (.int (facI (n + 2))), .val (.int (catI (n + 2))), .no, .no, .no, .no, .no] := by
  unfold b_q_law_great_right
  simp only [getS]
  refine W_forB (items := (List.range (n + 2)).map fun (i : Nat) => D.int (1 + (i : Int))) (ρ1 := [.io [.int a, .int b], .val (.int ((n : Int) + 2)), .val (.int 1), .val (.int 1), .no, .no, .no, .no, .no]) (of_W (by
    simp
    rw [show ((n : Int) + 2).toNat = n + 2 by omega]
    exact ⟨by omega, rfl⟩)) (fun i ρ => ρ = [.io [.int a, .int b], .val (.int ((n : Int) + 2)), .val (.int (facI i)), .val (.int (catI i)), .no, .no, .no, .no, .no]) (by simp [wipeE, facI, catI]) ?_ ?_
  · rintro i d ρ hd rfl
    obtain ⟨hi, rfl⟩ := rng_get hd
    refine ⟨[.io [.int a, .int b], .val (.int ((n : Int) + 2)), .val (.int (facI i)), .val (.int (catI i)), .val (.int (1 + (i : Int))), .no, .no, .no, .no], rfl, ?_⟩
    rw [show (1 + (i : Int)) = (i : Int) + 1 by omega]
    have e1 : facI (i + 1) = facI i * ((i : Int) + 1) := rfl
    have e2 : catI (i + 1) = catI i * (4 * ((i : Int) + 1) - 2) / ((i : Int) + 1 + 1) := rfl
    rw [e1, e2]
    generalize facI i = x
    generalize catI i = y
    simp
    exact ⟨.inr (by omega), .inr (by omega), by omega, by omega⟩
  · rintro ρ rfl
    rw [List.length_map, List.length_range]
theorem cnt_n (n e : Nat) (hn : n ≤ 18) (h1 : 1 ≤ e) (h2 : e ≤ 60) {v : Int} (h : cS (n + 2) e = v) : F_p_count_by_ends [.int ((n : Int) + 2), .int (e : Int)] = some (.val (.int v), []) := by
  have := count_ok (m := n + 2) (e := e) (by omega) h1 h2
  rw [cnt_cS (by omega) (by omega), h] at this
  exact this
def numD (m : Nat) : D → D
  | .int x => .int (cS m x.toNat)
  | d => d
theorem great_facts (n : Nat) (hn : n ≤ 18) : cS (n + 2) 1 = 1 ∧ cS (n + 2) 2 = catI (n + 2) ∧ cS (n + 2) (n + 2) = facI (n + 2) ∧ cS (n + 2) (n + 3) = facI (n + 2) ∧ cS (n + 2) 60 = facI (n + 2) ∧ cS (n + 2) (n + 1) = facI (n + 2) - 1
    ∧ (n = 0 ∨ cS (n + 2) n = facI (n + 2) - 1 - ((n : Int) + 1) * ((n : Int) + 1)) ∧ riseI (rowS (n + 2)) = true ∧ (rowS (n + 2)).all (fun x => decide (x ≤ facI (n + 2))) = true := by
  have h := List.all_eq_true.mp great_all n (List.mem_range.mpr (by omega))
  simp only [Bool.and_eq_true, Bool.or_eq_true, beq_iff_eq] at h
  obtain ⟨⟨⟨⟨⟨⟨⟨⟨h1, h2⟩, h3⟩, h4⟩, h5⟩, h6⟩, h7⟩, h8⟩, h9⟩ := h
  exact ⟨h1, h2, h3, h4, h5, h6, h7, h8, h9⟩
theorem great234 (n : Nat) (hn : n ≤ 18) (a b : Int) : W (semS Γ_q_law_great_right (getS 2 b_q_law_great_right) [.io [.int a, .int b], .val (.int ((n : Int) + 2)), .val (.int (facI (n + 2))), .val (.int (catI (n + 2))), .no, .no, .no, .no, .no]) (fun fl => fl = .nx [.io [.int a, .int b], .val (.int ((n : Int) + 2)), .val (.int (facI (n + 2))), .val (.int (catI (n + 2))), .no, .own [.int 1, .int (catI (n + 2)), .int (facI (n + 2)), .int (facI (n + 2)), .int (facI (n + 2)), .int (facI (n + 2) - 1)], .no, .no, .no]) ∧
    W (semS Γ_q_law_great_right (getS 3 b_q_law_great_right) [.io [.int a, .int b], .val (.int ((n : Int) + 2)), .val (.int (facI (n + 2))), .val (.int (catI (n + 2))), .no, .own [.int 1, .int (catI (n + 2)), .int (facI (n + 2)), .int (facI (n + 2)), .int (facI (n + 2)), .int (facI (n + 2) - 1)], .no, .no, .no]) (fun fl => ∃ e, fl = .nx [.io [.int a, .int b], .val (.int ((n : Int) + 2)), .val (.int (facI (n + 2))), .val (.int (catI (n + 2))), .no, e, .no, .no, .no]) ∧
    ∀ e, W (semS Γ_q_law_great_right (getS 4 b_q_law_great_right) [.io [.int a, .int b], .val (.int ((n : Int) + 2)), .val (.int (facI (n + 2))), .val (.int (catI (n + 2))), .no, e, .no, .no, .no]) (fun fl => fl = .nx [.io [.int a, .int b], .val (.int ((n : Int) + 2)), .val (.int (facI (n + 2))), .val (.int (catI (n + 2))), .no, e, .no, .no, .no]) := by
  obtain ⟨g1, g2, g3, g4, g5, g6, g7, _, _⟩ := great_facts n hn
  have c1 := cnt_n n 1 hn (by omega) (by omega) g1
  have c2 := cnt_n n 2 hn (by omega) (by omega) g2
  have c3 := cnt_n n (n + 2) hn (by omega) (by omega) g3
  have c4 := cnt_n n (n + 3) hn (by omega) (by omega) g4
  have c5 := cnt_n n 60 hn (by omega) (by omega) g5
  have c6 := cnt_n n (n + 1) hn (by omega) (by omega) g6
  rw [show ((n + 2 : Nat) : Int) = (n : Int) + 2 by omega] at c3
  rw [show ((n + 3 : Nat) : Int) = (n : Int) + 2 + 1 by omega] at c4
  rw [show ((n + 1 : Nat) : Int) = (n : Int) + 2 - 1 by omega] at c6
  have c7 : n ≠ 0 → F_p_count_by_ends [.int ((n : Int) + 2), .int ((n : Int) + 2 - 2)] = some (.val (.int (facI (n + 2) - 1 - ((n : Int) + 1) * ((n : Int) + 1))), []) := fun h0 => by
    have := cnt_n n n hn (by omega) (by omega) (g7.resolve_left h0)
    rw [show (n : Int) = (n : Int) + 2 - 2 by omega] at this
    simpa using this
  generalize facI (n + 2) = X at *
  generalize catI (n + 2) = Y at *
  unfold b_q_law_great_right
  simp only [getS]
  refine ⟨?_, ?_, fun e => ?_⟩
  · simp only [semS]
    have num : ∀ (x : Int) (e : Nat) (v : Int), x.toNat = e → cS (n + 2) e = v → numD (n + 2) (.int x) = .int v := fun x e v h1 h2 => by
      show D.int (cS (n + 2) x.toNat) = _
      rw [h1, h2]
    have n1 := num 1 1 1 rfl g1
    have n2 := num 2 2 Y rfl g2
    have n3 := num ((n : Int) + 2) (n + 2) X (by omega) g3
    have n4 := num ((n : Int) + 2 + 1) (n + 3) X (by omega) g4
    have n5 := num 60 60 X rfl g5
    have n6 := num ((n : Int) + 2 - 1) (n + 1) (X - 1) (by omega) g6
    have c1 : F_p_count_by_ends [.int ((n : Int) + 2), .int 1] = some (.val (.int 1), []) := c1
    have c2 : F_p_count_by_ends [.int ((n : Int) + 2), .int 2] = some (.val (.int Y), []) := c2
    have c5 : F_p_count_by_ends [.int ((n : Int) + 2), .int 60] = some (.val (.int X), []) := c5
    simp
    refine W_lc (fun _ => true) (numD (n + 2)) ?_
    simp [wipeE, restoreE, isData, Tg.slots, c1, c2, c3, c4, c5, c6, n1, n2, n3, n4, n5, n6]
  · simp only [semS]
    have hz : okZ 2 (D.lst [.int 1, .int Y, .int X, .int X, .int X, .int (X - 1)]) = true := okZ_lst (by simp) fun d hd => by
      simp only [List.mem_cons, List.not_mem_nil, or_false] at hd
      rcases hd with rfl | rfl | rfl | rfl | rfl | rfl <;> exact okZ_int 1 _
    simp [like_yes hz (by decide)]
  · simp only [semS]
    by_cases h0 : n = 0
    · subst h0
      simp
    · have hp : (2 : Int) < (n : Int) + 2 := by omega
      have hz := like_yes (okZ_int 1 (X - 1 - ((n : Int) + 1) * ((n : Int) + 1))) (by decide)
      have c8 := c7 h0
      rw [show (n : Int) + 2 - 2 = (n : Int) by omega] at c8
      have e9 : (n : Int) + 2 - 1 = (n : Int) + 1 := by omega
      simp [hp, h0]
      rw [c8, W_some]
      refine ⟨by omega, ?_⟩
      rw [e9]
      show W (F_q_law_like [D.int (X - 1 - ((n : Int) + 1) * ((n : Int) + 1)), D.int (X - 1 - ((n : Int) + 1) * ((n : Int) + 1))]) _
      rw [hz]
      simp
end My


namespace My
open PySem PySem.Spec PyProof.Rows L2
def gtX (X : Int) : D → Bool
  | .int x => decide (X < x)
  | _ => false
theorem great56 (n : Nat) (hn : n ≤ 18) (a b : Int) (e : Ent) : W (semB Γ_q_law_great_right (dropS 5 b_q_law_great_right) [.io [.int a, .int b], .val (.int ((n : Int) + 2)), .val (.int (facI (n + 2))), .val (.int (catI (n + 2))), .no, e, .no, .no, .no]) fun fl => ∃ ρ, fl = .rt (.val (.bl true)) (.io [.int a, .int b] :: ρ) := by
  obtain ⟨_, _, _, _, _, _, _, g8, g9⟩ := great_facts n hn
  have hc : ∀ i, i < n + 2 → F_p_count_by_ends [.int ((n : Int) + 2), .int (1 + (i : Int))] = some (.val (.int (cS (n + 2) (i + 1))), []) := fun i hi => by
    have := cnt_n n (i + 1) hn (by omega) (by omega) rfl
    rw [show ((i + 1 : Nat) : Int) = 1 + (i : Int) by omega] at this
    exact this
  have hrow : ((List.range (n + 2)).map fun (i : Nat) => D.int (1 + (i : Int))).map (numD (n + 2)) = (rowS (n + 2)).map D.int := by
    unfold rowS
    rw [List.map_map, List.map_map]
    refine List.map_congr_left fun i _ => ?_
    show D.int (cS (n + 2) (1 + (i : Int)).toNat) = D.int (cS (n + 2) (i + 1))
    rw [show (1 + (i : Int)).toNat = i + 1 by omega]
  have hrl : (rowS (n + 2)).length = n + 2 := by
    unfold rowS
    rw [List.length_map, List.length_range]
  have hset := rise_set g8
  have hgt : ((rowS (n + 2)).map D.int).filter (gtX (facI (n + 2))) = [] := List.filter_eq_nil_iff.mpr fun d hd => by
    obtain ⟨x, hx, rfl⟩ := List.mem_map.mp hd
    have := of_decide_eq_true (List.all_eq_true.mp g9 x hx)
    show ¬ decide (facI (n + 2) < x) = true
    simpa using this
  have hsh : shpD (.lst ((rowS (n + 2)).map D.int)) = true := okN.shp (n := 1) (okN.lst fun d hd => by
    obtain ⟨i, _, rfl⟩ := List.mem_map.mp hd
    exact ok_int i 0)
  unfold b_q_law_great_right
  simp only [dropS]
  generalize facI (n + 2) = X at *
  generalize catI (n + 2) = Y at *
  generalize rowS (n + 2) = R at *
  refine W_cons.mpr ?_
  simp only [semS]
  simp [-semB, -semS]
  refine W_lc (fun _ => true) (numD (n + 2)) ?_
  simp [-semB, -semS, wipeE, restoreE, isData, Tg.slots]
  rw [List.filter_eq_self.mpr (fun _ _ => rfl)]
  rw [show ((n : Int) + 2).toNat = n + 2 by omega, hrow]
  refine ⟨by omega, by omega, fun i hi => ?_, ?_⟩
  · rw [hc i (by omega)]
    simp [numD, show (1 + (i : Int)).toNat = i + 1 by omega]
  refine W_cons.mpr ?_
  simp only [semS]
  simp [-semB, -semS, hset, intsD_map, hrl, hsh]
  have heq : eqDs (R.map D.int) (R.map D.int) = true := by rw [eqDs_ints]; exact decide_eq_true rfl
  refine ⟨by omega, fun _ => ?_, fun _ => heq⟩
  refine W_lc (gtX X) (fun d => d) ?_
  simp [wipeE, restoreE, isData, Tg.slots, hgt]
  have hle : ∀ x ∈ R, x ≤ X := fun x hx => of_decide_eq_true (List.all_eq_true.mp g9 x hx)
  refine ⟨by omega, fun x hx => .inl ⟨hle x hx, ?_⟩, fun x hx => ?_⟩
  · show decide (X < x) = false
    exact decide_eq_false (by have := hle x hx; omega)
  · show decide (X < x) = false
    exact decide_eq_false (by have := hle x hx; omega)
theorem great_ok (a b : Int) : W (F_q_law_great_right [.lst [.int a, .int b]]) fun r => ∃ a' b' : Int, r = (.val (.bl true), [.int a', .int b']) := by
  have h1 := fun (n : Nat) (hn : n ≤ 18) a b => great1 n hn a b
  have h2 := fun (n : Nat) (hn : n ≤ 18) a b => (great234 n hn a b).1
  have h3 := fun (n : Nat) (hn : n ≤ 18) a b => (great234 n hn a b).2.1
  have h4 := fun (n : Nat) (hn : n ≤ 18) a b => (great234 n hn a b).2.2
  have h5 := fun (n : Nat) (hn : n ≤ 18) a b e => great56 n hn a b e
  rw [U_q_law_great_right]
  refine W_def rfl rfl ?_
  unfold b_q_law_great_right at *
  simp only [getS, dropS] at h1 h2 h3 h4 h5
  refine W_cons.mpr ?_
  simp only [semS]
  simp [-semB, -semS, N_q_law_great_right]
  refine W_mono (roll_ok a b 19 (by omega) (by omega)) ?_
  rintro _ ⟨a1, b1, k, rfl, k0, k1⟩
  obtain ⟨n, rfl⟩ := Int.eq_ofNat_of_zero_le k0
  have hn : n ≤ 18 := by omega
  simp [-semB, -semS]
  rw [show (2 : Int) + (n : Int) = (n : Int) + 2 by omega]
  refine W_cons.mpr (W_mono (h1 n hn a1 b1) ?_)
  rintro _ rfl
  refine W_nx.mpr (W_cons.mpr (W_mono (h2 n hn a1 b1) ?_))
  rintro _ rfl
  refine W_nx.mpr (W_cons.mpr (W_mono (h3 n hn a1 b1) ?_))
  rintro _ ⟨e, rfl⟩
  refine W_nx.mpr (W_cons.mpr (W_mono (h4 n hn a1 b1 e) ?_))
  rintro _ rfl
  refine W_nx.mpr (W_mono (h5 n hn a1 b1 e) ?_)
  rintro _ ⟨ρ, rfl⟩
  exact ⟨_, rfl, a1, b1, rfl⟩
theorem cnt_v (m e : Nat) (hm : m ≤ 20) (h1 : 1 ≤ e) (h2 : e ≤ 60) {v : Int} (h : cntI m e = v) : F_p_count_by_ends [.int (m : Int), .int (e : Int)] = some (.val (.int v), []) := by
  rw [count_ok hm h1 h2, h]
theorem vals_all : cntI 4 1 = 1 ∧ cntI 4 2 = 14 ∧ cntI 4 3 = 23 ∧ cntI 4 4 = 24 ∧ cntI 5 3 = 103 ∧ cntI 10 2 = 16796 ∧ cntI 0 1 = 1 ∧ cntI 1 60 = 1 ∧ cntI 1 3 = 1 ∧ cntI 2 3 = 2 ∧ cntI 3 3 = 6 ∧ cntI 6 3 = 513 ∧ cntI 7 3 = 2761 := by decide +kernel
def cnt3D : D → D
  | .int x => .int (([0, 1, 2, 6, 23, 103, 513, 2761] : List Int).getD x.toNat 0)
  | d => d
theorem law_W (ns : List Int) (hl : ns.length ≤ 63) : W (F_p_law [.scr ns]) fun r => r = (.val (.bl true), []) := by
  obtain ⟨v1, v2, v3, v4, v5, v6, v7, v8, w1, w2, w3, w6, w7⟩ := vals_all
  have v1 : F_p_count_by_ends [.int 4, .int 1] = some (.val (.int 1), []) := cnt_v 4 1 (by omega) (by omega) (by omega) v1
  have v2 : F_p_count_by_ends [.int 4, .int 2] = some (.val (.int 14), []) := cnt_v 4 2 (by omega) (by omega) (by omega) v2
  have v4 : F_p_count_by_ends [.int 4, .int 4] = some (.val (.int 24), []) := cnt_v 4 4 (by omega) (by omega) (by omega) v4
  have v3 : F_p_count_by_ends [.int 4, .int 3] = some (.val (.int 23), []) := cnt_v 4 3 (by omega) (by omega) (by omega) v3
  have v5 : F_p_count_by_ends [.int 5, .int 3] = some (.val (.int 103), []) := cnt_v 5 3 (by omega) (by omega) (by omega) v5
  have v6 : F_p_count_by_ends [.int 10, .int 2] = some (.val (.int 16796), []) := cnt_v 10 2 (by omega) (by omega) (by omega) v6
  have v7 : F_p_count_by_ends [.int 0, .int 1] = some (.val (.int 1), []) := cnt_v 0 1 (by omega) (by omega) (by omega) v7
  have v8 : F_p_count_by_ends [.int 1, .int 60] = some (.val (.int 1), []) := cnt_v 1 60 (by omega) (by omega) (by omega) v8
  have w1 : F_p_count_by_ends [.int 1, .int 3] = some (.val (.int 1), []) := cnt_v 1 3 (by omega) (by omega) (by omega) w1
  have w2 : F_p_count_by_ends [.int 2, .int 3] = some (.val (.int 2), []) := cnt_v 2 3 (by omega) (by omega) (by omega) w2
  have w3 : F_p_count_by_ends [.int 3, .int 3] = some (.val (.int 6), []) := cnt_v 3 3 (by omega) (by omega) (by omega) w3
  have w6 : F_p_count_by_ends [.int 6, .int 3] = some (.val (.int 513), []) := cnt_v 6 3 (by omega) (by omega) (by omega) w6
  have w7 : F_p_count_by_ends [.int 7, .int 3] = some (.val (.int 2761), []) := cnt_v 7 3 (by omega) (by omega) (by omega) w7
  have hz : okZ 2 (D.lst [.int 1, .int 14, .int 23, .int 24, .int 103, .int 16796, .int 1, .int 1]) = true := by kernel_rfl
  have hy : okZ 2 (D.lst [.int 1, .int 2, .int 6, .int 23, .int 103, .int 513, .int 2761]) = true := by kernel_rfl
  have hz := like_yes hz (by decide)
  have hy := like_yes hy (by decide)
  rw [U_p_law]
  refine W_def rfl rfl ?_
  unfold b_p_law
  let f1 : D → D := fun d => match d with | .int 1 => .int 1 | .int 2 => .int 14 | .int 3 => .int 23 | _ => .int 24
  refine W_cons.mpr ?_
  simp only [semS]
  simp [-semB, -semS, N_p_law]
  refine W_lc (fun _ => true) f1 ?_
  simp [-semB, -semS, wipeE, restoreE, isData, Tg.slots, v1, v2, v3, v4, v5, v6, v7, v8, f1]
  refine W_cons.mpr ?_
  simp only [semS]
  simp [-semB, -semS, hz]
  refine ⟨_, rfl, ?_⟩
  refine W_nx.mpr ?_
  refine W_cons.mpr ?_
  simp only [semS]
  simp [-semB, -semS]
  refine W_mono (cup_ok ns hl) ?_
  rintro _ ⟨a, b, rfl⟩
  simp [-semB, -semS]
  refine W_cons.mpr ?_
  simp only [semS]
  simp [-semB, -semS]
  refine W_mono (small_ok a b) ?_
  rintro _ ⟨a1, b1, rfl⟩
  simp [-semB, -semS]
  refine W_mono (great_ok a1 b1) ?_
  rintro _ ⟨a2, b2, rfl⟩
  simp [-semB, -semS]
  refine ⟨_, rfl, ?_⟩
  refine W_nx.mpr ?_
  refine W_cons.mpr ?_
  simp only [semS]
  simp [-semB, -semS]
  refine W_lc (fun _ => true) cnt3D ?_
  simp [-semB, -semS, wipeE, restoreE, isData, Tg.slots]
  refine ⟨fun i hi => ?_, ?_⟩
  · have : i = 0 ∨ i = 1 ∨ i = 2 ∨ i = 3 ∨ i = 4 ∨ i = 5 ∨ i = 6 := by omega
    rcases this with rfl | rfl | rfl | rfl | rfl | rfl | rfl <;> simp [w1, w2, w3, v3, v5, w6, w7, cnt3D]
  · have e : List.map cnt3D (List.filter (fun _ => true) (List.map (fun n : Nat => D.int (1 + (n : Int))) (List.range 7))) = [.int 1, .int 2, .int 6, .int 23, .int 103, .int 513, .int 2761] := by kernel_rfl
    rw [e, hy]
    simp
theorem law_true (ns : List Int) (hl : ns.length ≤ 63) (hb : ∀ z ∈ ns, Builtin.Int.intBits z ≤ 1048576) : ∃ x, F_p_law [.scr ns] = some (.val (.bl true), x) := ⟨_, of_W (law_W ns hl)⟩
end My


namespace My
open PySem PySem.Spec PyProof.Rows L2
theorem top_all {P : Program} {w : World} {K : Fg} {mg : Str → Option Value} {h : Heap} {fa : Addr} (KX : K.In h) (hmg : h.Ns mainGlobals mg) (hfa : mg "law" = some (.ref fa))
    {f0 : Addr} {od0 an0 : Option Addr} {sl0 : Array (Option Value)} {oc0 kV0 dc0 pm0 cd0 ct0 : Value}
    (a0 : PySem.W.nsIn K mainGlobals "_law_cup" = some (some (.ref f0))) (l0 : K.lookup f0 = some ⟨oc0, od0, .func (PySem.W.fnOf "_law_cup" "_law_cup" (defArgs st_law_cup) (defBody st_law_cup) (defScope st_law_cup) .none kV0 dc0 pm0 an0 cd0 ct0), sl0⟩) (c0 : PySem.W.codeIn K cd0 "_law_cup" = true) (k0 : PySem.W.keepIn K (.ref f0) = true)
    {f1 : Addr} {od1 an1 : Option Addr} {sl1 : Array (Option Value)} {oc1 kV1 dc1 pm1 cd1 ct1 : Value}
    (a1 : PySem.W.nsIn K mainGlobals "_law_sort" = some (some (.ref f1))) (l1 : K.lookup f1 = some ⟨oc1, od1, .func (PySem.W.fnOf "_law_sort" "_law_sort" (defArgs st_law_sort) (defBody st_law_sort) (defScope st_law_sort) .none kV1 dc1 pm1 an1 cd1 ct1), sl1⟩) (c1 : PySem.W.codeIn K cd1 "_law_sort" = true) (k1 : PySem.W.keepIn K (.ref f1) = true)
    {f2 : Addr} {od2 an2 : Option Addr} {sl2 : Array (Option Value)} {oc2 kV2 dc2 pm2 cd2 ct2 : Value}
    (a2 : PySem.W.nsIn K mainGlobals "_law_like" = some (some (.ref f2))) (l2 : K.lookup f2 = some ⟨oc2, od2, .func (PySem.W.fnOf "_law_like" "_law_like" (defArgs st_law_like) (defBody st_law_like) (defScope st_law_like) .none kV2 dc2 pm2 an2 cd2 ct2), sl2⟩) (c2 : PySem.W.codeIn K cd2 "_law_like" = true) (k2 : PySem.W.keepIn K (.ref f2) = true)
    {f3 : Addr} {od3 an3 : Option Addr} {sl3 : Array (Option Value)} {oc3 kV3 dc3 pm3 cd3 ct3 : Value}
    (a3 : PySem.W.nsIn K mainGlobals "is_whole" = some (some (.ref f3))) (l3 : K.lookup f3 = some ⟨oc3, od3, .func (PySem.W.fnOf "is_whole" "is_whole" (defArgs st_is_whole) (defBody st_is_whole) (defScope st_is_whole) .none kV3 dc3 pm3 an3 cd3 ct3), sl3⟩) (c3 : PySem.W.codeIn K cd3 "is_whole" = true) (k3 : PySem.W.keepIn K (.ref f3) = true)
    {f4 : Addr} {od4 an4 : Option Addr} {sl4 : Array (Option Value)} {oc4 kV4 dc4 pm4 cd4 ct4 : Value}
    (a4 : PySem.W.nsIn K mainGlobals "need_ends" = some (some (.ref f4))) (l4 : K.lookup f4 = some ⟨oc4, od4, .func (PySem.W.fnOf "need_ends" "need_ends" (defArgs st_need_ends) (defBody st_need_ends) (defScope st_need_ends) .none kV4 dc4 pm4 an4 cd4 ct4), sl4⟩) (c4 : PySem.W.codeIn K cd4 "need_ends" = true) (k4 : PySem.W.keepIn K (.ref f4) = true)
    {f5 : Addr} {od5 an5 : Option Addr} {sl5 : Array (Option Value)} {oc5 kV5 dc5 pm5 cd5 ct5 : Value}
    (a5 : PySem.W.nsIn K mainGlobals "fillings_of" = some (some (.ref f5))) (l5 : K.lookup f5 = some ⟨oc5, od5, .func (PySem.W.fnOf "fillings_of" "fillings_of" (defArgs st_fillings_of) (defBody st_fillings_of) (defScope st_fillings_of) .none kV5 dc5 pm5 an5 cd5 ct5), sl5⟩) (c5 : PySem.W.codeIn K cd5 "fillings_of" = true) (k5 : PySem.W.keepIn K (.ref f5) = true)
    {f6 : Addr} {od6 an6 : Option Addr} {sl6 : Array (Option Value)} {oc6 kV6 dc6 pm6 cd6 ct6 : Value}
    (a6 : PySem.W.nsIn K mainGlobals "shapes_of" = some (some (.ref f6))) (l6 : K.lookup f6 = some ⟨oc6, od6, .func (PySem.W.fnOf "shapes_of" "shapes_of" (defArgs st_shapes_of) (defBody st_shapes_of) (defScope st_shapes_of) .none kV6 dc6 pm6 an6 cd6 ct6), sl6⟩) (c6 : PySem.W.codeIn K cd6 "shapes_of" = true) (k6 : PySem.W.keepIn K (.ref f6) = true)
    {f7 : Addr} {od7 an7 : Option Addr} {sl7 : Array (Option Value)} {oc7 kV7 dc7 pm7 cd7 ct7 : Value}
    (a7 : PySem.W.nsIn K mainGlobals "count_by_ends" = some (some (.ref f7))) (l7 : K.lookup f7 = some ⟨oc7, od7, .func (PySem.W.fnOf "count_by_ends" "count_by_ends" (defArgs st_count_by_ends) (defBody st_count_by_ends) (defScope st_count_by_ends) .none kV7 dc7 pm7 an7 cd7 ct7), sl7⟩) (c7 : PySem.W.codeIn K cd7 "count_by_ends" = true) (k7 : PySem.W.keepIn K (.ref f7) = true)
    {f8 : Addr} {od8 an8 : Option Addr} {sl8 : Array (Option Value)} {oc8 kV8 dc8 pm8 cd8 ct8 : Value}
    (a8 : PySem.W.nsIn K mainGlobals "_law_roll" = some (some (.ref f8))) (l8 : K.lookup f8 = some ⟨oc8, od8, .func (PySem.W.fnOf "_law_roll" "_law_roll" (defArgs st_law_roll) (defBody st_law_roll) (defScope st_law_roll) .none kV8 dc8 pm8 an8 cd8 ct8), sl8⟩) (c8 : PySem.W.codeIn K cd8 "_law_roll" = true) (k8 : PySem.W.keepIn K (.ref f8) = true)
    {f9 : Addr} {od9 an9 : Option Addr} {sl9 : Array (Option Value)} {oc9 kV9 dc9 pm9 cd9 ct9 : Value}
    (a9 : PySem.W.nsIn K mainGlobals "_law_chain" = some (some (.ref f9))) (l9 : K.lookup f9 = some ⟨oc9, od9, .func (PySem.W.fnOf "_law_chain" "_law_chain" (defArgs st_law_chain) (defBody st_law_chain) (defScope st_law_chain) .none kV9 dc9 pm9 an9 cd9 ct9), sl9⟩) (c9 : PySem.W.codeIn K cd9 "_law_chain" = true) (k9 : PySem.W.keepIn K (.ref f9) = true)
    {f10 : Addr} {od10 an10 : Option Addr} {sl10 : Array (Option Value)} {oc10 kV10 dc10 pm10 cd10 ct10 : Value}
    (a10 : PySem.W.nsIn K mainGlobals "_law_line" = some (some (.ref f10))) (l10 : K.lookup f10 = some ⟨oc10, od10, .func (PySem.W.fnOf "_law_line" "_law_line" (defArgs st_law_line) (defBody st_law_line) (defScope st_law_line) .none kV10 dc10 pm10 an10 cd10 ct10), sl10⟩) (c10 : PySem.W.codeIn K cd10 "_law_line" = true) (k10 : PySem.W.keepIn K (.ref f10) = true)
    {f11 : Addr} {od11 an11 : Option Addr} {sl11 : Array (Option Value)} {oc11 kV11 dc11 pm11 cd11 ct11 : Value}
    (a11 : PySem.W.nsIn K mainGlobals "is_tuple_of" = some (some (.ref f11))) (l11 : K.lookup f11 = some ⟨oc11, od11, .func (PySem.W.fnOf "is_tuple_of" "is_tuple_of" (defArgs st_is_tuple_of) (defBody st_is_tuple_of) (defScope st_is_tuple_of) .none kV11 dc11 pm11 an11 cd11 ct11), sl11⟩) (c11 : PySem.W.codeIn K cd11 "is_tuple_of" = true) (k11 : PySem.W.keepIn K (.ref f11) = true)
    {f12 : Addr} {od12 an12 : Option Addr} {sl12 : Array (Option Value)} {oc12 kV12 dc12 pm12 cd12 ct12 : Value}
    (a12 : PySem.W.nsIn K mainGlobals "fits_train" = some (some (.ref f12))) (l12 : K.lookup f12 = some ⟨oc12, od12, .func (PySem.W.fnOf "fits_train" "fits_train" (defArgs st_fits_train) (defBody st_fits_train) (defScope st_fits_train) .none kV12 dc12 pm12 an12 cd12 ct12), sl12⟩) (c12 : PySem.W.codeIn K cd12 "fits_train" = true) (k12 : PySem.W.keepIn K (.ref f12) = true)
    {f13 : Addr} {od13 an13 : Option Addr} {sl13 : Array (Option Value)} {oc13 kV13 dc13 pm13 cd13 ct13 : Value}
    (a13 : PySem.W.nsIn K mainGlobals "need_train" = some (some (.ref f13))) (l13 : K.lookup f13 = some ⟨oc13, od13, .func (PySem.W.fnOf "need_train" "need_train" (defArgs st_need_train) (defBody st_need_train) (defScope st_need_train) .none kV13 dc13 pm13 an13 cd13 ct13), sl13⟩) (c13 : PySem.W.codeIn K cd13 "need_train" = true) (k13 : PySem.W.keepIn K (.ref f13) = true)
    {f14 : Addr} {od14 an14 : Option Addr} {sl14 : Array (Option Value)} {oc14 kV14 dc14 pm14 cd14 ct14 : Value}
    (a14 : PySem.W.nsIn K mainGlobals "risings" = some (some (.ref f14))) (l14 : K.lookup f14 = some ⟨oc14, od14, .func (PySem.W.fnOf "risings" "risings" (defArgs st_risings) (defBody st_risings) (defScope st_risings) .none kV14 dc14 pm14 an14 cd14 ct14), sl14⟩) (c14 : PySem.W.codeIn K cd14 "risings" = true) (k14 : PySem.W.keepIn K (.ref f14) = true)
    {f15 : Addr} {od15 an15 : Option Addr} {sl15 : Array (Option Value)} {oc15 kV15 dc15 pm15 cd15 ct15 : Value}
    (a15 : PySem.W.nsIn K mainGlobals "fewest_ends" = some (some (.ref f15))) (l15 : K.lookup f15 = some ⟨oc15, od15, .func (PySem.W.fnOf "fewest_ends" "fewest_ends" (defArgs st_fewest_ends) (defBody st_fewest_ends) (defScope st_fewest_ends) .none kV15 dc15 pm15 an15 cd15 ct15), sl15⟩) (c15 : PySem.W.codeIn K cd15 "fewest_ends" = true) (k15 : PySem.W.keepIn K (.ref f15) = true)
    {f16 : Addr} {od16 an16 : Option Addr} {sl16 : Array (Option Value)} {oc16 kV16 dc16 pm16 cd16 ct16 : Value}
    (a16 : PySem.W.nsIn K mainGlobals "_law_orders" = some (some (.ref f16))) (l16 : K.lookup f16 = some ⟨oc16, od16, .func (PySem.W.fnOf "_law_orders" "_law_orders" (defArgs st_law_orders) (defBody st_law_orders) (defScope st_law_orders) .none kV16 dc16 pm16 an16 cd16 ct16), sl16⟩) (c16 : PySem.W.codeIn K cd16 "_law_orders" = true) (k16 : PySem.W.keepIn K (.ref f16) = true)
    {f17 : Addr} {od17 an17 : Option Addr} {sl17 : Array (Option Value)} {oc17 kV17 dc17 pm17 cd17 ct17 : Value}
    (a17 : PySem.W.nsIn K mainGlobals "_law_small_right" = some (some (.ref f17))) (l17 : K.lookup f17 = some ⟨oc17, od17, .func (PySem.W.fnOf "_law_small_right" "_law_small_right" (defArgs st_law_small_right) (defBody st_law_small_right) (defScope st_law_small_right) .none kV17 dc17 pm17 an17 cd17 ct17), sl17⟩) (c17 : PySem.W.codeIn K cd17 "_law_small_right" = true) (k17 : PySem.W.keepIn K (.ref f17) = true)
    {f18 : Addr} {od18 an18 : Option Addr} {sl18 : Array (Option Value)} {oc18 kV18 dc18 pm18 cd18 ct18 : Value}
    (a18 : PySem.W.nsIn K mainGlobals "_law_great_right" = some (some (.ref f18))) (l18 : K.lookup f18 = some ⟨oc18, od18, .func (PySem.W.fnOf "_law_great_right" "_law_great_right" (defArgs st_law_great_right) (defBody st_law_great_right) (defScope st_law_great_right) .none kV18 dc18 pm18 an18 cd18 ct18), sl18⟩) (c18 : PySem.W.codeIn K cd18 "_law_great_right" = true) (k18 : PySem.W.keepIn K (.ref f18) = true)
    {f19 : Addr} {od19 an19 : Option Addr} {sl19 : Array (Option Value)} {oc19 kV19 dc19 pm19 cd19 ct19 : Value}
    (a19 : PySem.W.nsIn K mainGlobals "law" = some (some (.ref f19))) (l19 : K.lookup f19 = some ⟨oc19, od19, .func (PySem.W.fnOf "law" "law" (defArgs st_law) (defBody st_law) (defScope st_law) .none kV19 dc19 pm19 an19 cd19 ct19), sl19⟩) (c19 : PySem.W.codeIn K cd19 "law" = true) (k19 : PySem.W.keepIn K (.ref f19) = true)
    (b_len : PySem.W.nsIn K mainGlobals "len" = some none) (b_tuple : PySem.W.nsIn K mainGlobals "tuple" = some none) (b_list : PySem.W.nsIn K mainGlobals "list" = some none) (b_abs : PySem.W.nsIn K mainGlobals "abs" = some none) (b_int : PySem.W.nsIn K mainGlobals "int" = some none) (b_str : PySem.W.nsIn K mainGlobals "str" = some none) (b_all : PySem.W.nsIn K mainGlobals "all" = some none) (b_sum : PySem.W.nsIn K mainGlobals "sum" = some none) (b_max : PySem.W.nsIn K mainGlobals "max" = some none) (b_min : PySem.W.nsIn K mainGlobals "min" = some none) (b_sorted : PySem.W.nsIn K mainGlobals "sorted" = some none) (b_isinstance : PySem.W.nsIn K mainGlobals "isinstance" = some none) (b_bool : PySem.W.nsIn K mainGlobals "bool" = some none) (b_range : PySem.W.nsIn K mainGlobals "range" = some none) (b_enumerate : PySem.W.nsIn K mainGlobals "enumerate" = some none) (b_zip : PySem.W.nsIn K mainGlobals "zip" = some none) (b_set : PySem.W.nsIn K mainGlobals "set" = some none)
    {t_ENDS : Tok} (c_ENDS : PySem.W.nsIn K mainGlobals "ENDS" = some (some (.int 60 t_ENDS)))
    {t_COUNTED : Tok} (c_COUNTED : PySem.W.nsIn K mainGlobals "COUNTED" = some (some (.int 20 t_COUNTED)))
    {t_MOST_WAGONS : Tok} (c_MOST_WAGONS : PySem.W.nsIn K mainGlobals "MOST_WAGONS" = some (some (.int 60 t_MOST_WAGONS)))
    {t_GREATEST : Tok} (c_GREATEST : PySem.W.nsIn K mainGlobals "GREATEST" = some (some (.int 99 t_GREATEST)))
    : ∃ fd : FuncData, (∀ (s : Shared) (v : Value), BindsTo s fd ⟨[v], []⟩ [("script", v)]) ∧ ∀ base : Heap, K.In base → base.Ns mainGlobals mg → FnOk P w K mg base CX0 27 fa fd ["script"] (spF K 1 false F_p_law) := by
  refine top_law (K := K) (mg := mg) ⟨(fa_cons (PySem.W.mg_none_of KX hmg b_len) (fa_cons (PySem.W.mg_none_of KX hmg b_tuple) (fa_cons (PySem.W.mg_none_of KX hmg b_list) (fa_cons (PySem.W.mg_none_of KX hmg b_abs) (fa_cons (PySem.W.mg_none_of KX hmg b_int) (fa_cons (PySem.W.mg_none_of KX hmg b_str) (fa_cons (PySem.W.mg_none_of KX hmg b_all) (fa_cons (PySem.W.mg_none_of KX hmg b_sum) (fa_cons (PySem.W.mg_none_of KX hmg b_max) (fa_cons (PySem.W.mg_none_of KX hmg b_min) (fa_cons (PySem.W.mg_none_of KX hmg b_sorted) (fa_cons (PySem.W.mg_none_of KX hmg b_isinstance) (fa_cons (PySem.W.mg_none_of KX hmg b_bool) (fa_cons (PySem.W.mg_none_of KX hmg b_range) (fa_cons (PySem.W.mg_none_of KX hmg b_enumerate) (fa_cons (PySem.W.mg_none_of KX hmg b_zip) (fa_cons (PySem.W.mg_none_of KX hmg b_set) fa_nil))))))))))))))))),
      cst_int KX hmg c_ENDS,
      cst_int KX hmg c_COUNTED,
      cst_int KX hmg c_MOST_WAGONS,
      cst_int KX hmg c_GREATEST,
      defAt_mk KX hmg a0 l0 c0 k0 (fun _ _ _ _ _ _ us hl => match us, hl with | [_], _ => rfl),
      defAt_mk KX hmg a1 l1 c1 k1 (fun _ _ _ _ _ _ us hl => match us, hl with | [_], _ => rfl),
      defAt_mk KX hmg a2 l2 c2 k2 (fun _ _ _ _ _ _ us hl => match us, hl with | [_, _], _ => rfl),
      defAt_mk KX hmg a3 l3 c3 k3 (fun _ _ _ _ _ _ us hl => match us, hl with | [_, _, _], _ => rfl),
      defAt_mk KX hmg a4 l4 c4 k4 (fun _ _ _ _ _ _ us hl => match us, hl with | [_], _ => rfl),
      defAt_mk KX hmg a5 l5 c5 k5 (fun _ _ _ _ _ _ us hl => match us, hl with | [_], _ => rfl),
      defAt_mk KX hmg a6 l6 c6 k6 (fun _ _ _ _ _ _ us hl => match us, hl with | [_, _], _ => rfl),
      defAt_mk KX hmg a7 l7 c7 k7 (fun _ _ _ _ _ _ us hl => match us, hl with | [_, _], _ => rfl),
      defAt_mk KX hmg a8 l8 c8 k8 (fun _ _ _ _ _ _ us hl => match us, hl with | [_, _], _ => rfl),
      defAt_mk KX hmg a9 l9 c9 k9 (fun _ _ _ _ _ _ us hl => match us, hl with | [_, _], _ => rfl),
      defAt_mk KX hmg a10 l10 c10 k10 (fun _ _ _ _ _ _ us hl => match us, hl with | [_, _], _ => rfl),
      defAt_mk KX hmg a11 l11 c11 k11 (fun _ _ _ _ _ _ us hl => match us, hl with | [_, _, _], _ => rfl),
      defAt_mk KX hmg a12 l12 c12 k12 (fun _ _ _ _ _ _ us hl => match us, hl with | [_], _ => rfl),
      defAt_mk KX hmg a13 l13 c13 k13 (fun _ _ _ _ _ _ us hl => match us, hl with | [_], _ => rfl),
      defAt_mk KX hmg a14 l14 c14 k14 (fun _ _ _ _ _ _ us hl => match us, hl with | [_], _ => rfl),
      defAt_mk KX hmg a15 l15 c15 k15 (fun _ _ _ _ _ _ us hl => match us, hl with | [_], _ => rfl),
      defAt_mk KX hmg a16 l16 c16 k16 (fun _ _ _ _ _ _ us hl => match us, hl with | [_], _ => rfl),
      defAt_mk KX hmg a17 l17 c17 k17 (fun _ _ _ _ _ _ us hl => match us, hl with | [_], _ => rfl),
      defAt_mk KX hmg a18 l18 c18 k18 (fun _ _ _ _ _ _ us hl => match us, hl with | [_], _ => rfl),
      defAt_mk KX hmg a19 l19 c19 k19 (fun _ _ _ _ _ _ us hl => match us, hl with | [_], _ => rfl)⟩ hfa
end My
open PySem PySem.W PyProof.Rows
set_option maxHeartbeats 0 in
theorem PySem.Challenge.cw_railssorted_k21_whole_counts_by_dead_end_holds : PySem.Challenge.rw_railssorted_k21_whole_counts_by_dead_end.Holds := by
  w_on; o_law; k_head; (case hw => w_witness2)
  k_fill
  refine L2.walk_ofB (l := PySem.Challenge.rw_railssorted_k21_whole_counts_by_dead_end) (n := 63) (k := 27) (x := "script") (CX := fun _ => L2.CX0) (sp := fun w => My.spF _ 1 false My.F_p_law) rfl (by decide) rfl ⟨rfl, by decide, by decide⟩ (fun w h Y => PySem.W.kIn_of Y) ?F (fun _ _ a ns hl hb _ hS => My.law_sp hS (My.law_true ns hl hb) (fun _ => rfl)) (fun _ _ _ _ _ h => h)
  case F =>
    intro w mg fa h KX hmg hfa
    refine' My.top_all KX hmg hfa ?a0 ?l0 ?c0 ?k0 ?a1 ?l1 ?c1 ?k1 ?a2 ?l2 ?c2 ?k2 ?a3 ?l3 ?c3 ?k3 ?a4 ?l4 ?c4 ?k4 ?a5 ?l5 ?c5 ?k5 ?a6 ?l6 ?c6 ?k6 ?a7 ?l7 ?c7 ?k7 ?a8 ?l8 ?c8 ?k8 ?a9 ?l9 ?c9 ?k9 ?a10 ?l10 ?c10 ?k10 ?a11 ?l11 ?c11 ?k11 ?a12 ?l12 ?c12 ?k12 ?a13 ?l13 ?c13 ?k13 ?a14 ?l14 ?c14 ?k14 ?a15 ?l15 ?c15 ?k15 ?a16 ?l16 ?c16 ?k16 ?a17 ?l17 ?c17 ?k17 ?a18 ?l18 ?c18 ?k18 ?a19 ?l19 ?c19 ?k19 ?b_len ?b_tuple ?b_list ?b_abs ?b_int ?b_str ?b_all ?b_sum ?b_max ?b_min ?b_sorted ?b_isinstance ?b_bool ?b_range ?b_enumerate ?b_zip ?b_set ?c_ENDS ?c_COUNTED ?c_MOST_WAGONS ?c_GREATEST
    (case a0 => k_is); (case l0 => k_is); (case c0 => k_is); (case k0 => k_is); (case a1 => k_is); (case l1 => k_is); (case c1 => k_is); (case k1 => k_is); (case a2 => k_is); (case l2 => k_is); (case c2 => k_is); (case k2 => k_is); (case a3 => k_is); (case l3 => k_is); (case c3 => k_is); (case k3 => k_is); (case a4 => k_is); (case l4 => k_is); (case c4 => k_is); (case k4 => k_is); (case a5 => k_is); (case l5 => k_is); (case c5 => k_is); (case k5 => k_is); (case a6 => k_is); (case l6 => k_is); (case c6 => k_is); (case k6 => k_is); (case a7 => k_is); (case l7 => k_is); (case c7 => k_is); (case k7 => k_is); (case a8 => k_is); (case l8 => k_is); (case c8 => k_is); (case k8 => k_is); (case a9 => k_is); (case l9 => k_is); (case c9 => k_is); (case k9 => k_is); (case a10 => k_is); (case l10 => k_is); (case c10 => k_is); (case k10 => k_is); (case a11 => k_is); (case l11 => k_is); (case c11 => k_is); (case k11 => k_is); (case a12 => k_is); (case l12 => k_is); (case c12 => k_is); (case k12 => k_is); (case a13 => k_is); (case l13 => k_is); (case c13 => k_is); (case k13 => k_is); (case a14 => k_is); (case l14 => k_is); (case c14 => k_is); (case k14 => k_is); (case a15 => k_is); (case l15 => k_is); (case c15 => k_is); (case k15 => k_is); (case a16 => k_is); (case l16 => k_is); (case c16 => k_is); (case k16 => k_is); (case a17 => k_is); (case l17 => k_is); (case c17 => k_is); (case k17 => k_is); (case a18 => k_is); (case l18 => k_is); (case c18 => k_is); (case k18 => k_is); (case a19 => k_is); (case l19 => k_is); (case c19 => k_is); (case k19 => k_is); (case b_len => k_is); (case b_tuple => k_is); (case b_list => k_is); (case b_abs => k_is); (case b_int => k_is); (case b_str => k_is); (case b_all => k_is); (case b_sum => k_is); (case b_max => k_is); (case b_min => k_is); (case b_sorted => k_is); (case b_isinstance => k_is); (case b_bool => k_is); (case b_range => k_is); (case b_enumerate => k_is); (case b_zip => k_is); (case b_set => k_is); (case c_ENDS => k_is); (case c_COUNTED => k_is); (case c_MOST_WAGONS => k_is); (case c_GREATEST => k_is)
